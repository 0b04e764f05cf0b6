import PyProof.Rows.All
import HandS.ForMost
import HandS.IsInst
import HandS.Style
import HandS.TupAny
import HandS.TupLe
import HandS.TupMul
import HandS.Deep
import HandS.Wide
import HandS.Walk
import HandS.Rev
import PySem.Challenge.RW_coastlit_k39_whole_stores_of_oil
set_option Elab.async false
set_option linter.all false
set_option maxRecDepth 100000
set_option maxHeartbeats 4000000
/-! Cf, part A: programs as functions of data: slots, results, the relation to the heap. -/
namespace Cf
open PySem PySem.Spec PyProof.Rows L2

/-- the same, but the kernel does not look into it -/
noncomputable def hide {α : Type} (a : α) : α := Classical.choose (⟨a, rfl⟩ : ∃ b, b = a)
theorem hide_eq {α : Type} (a : α) : hide a = a := Classical.choose_spec (⟨a, rfl⟩ : ∃ b, b = a)
/-- what a slot holds: nothing known, a datum that stands still, a list of our own (lent: by its number) -/
inductive Sl where
  | un
  | sh (d : PyData)
  | own (t : Option Nat) (ds : List PyData)
abbrev Fv := List Sl
/-- what an expression hands on: a datum that stands still, a new list, the list of slot i -/
inductive Rv where
  | sh (d : PyData)
  | fr (ds : List PyData)
  | sl (i : Nat)
inductive Res (α : Type) where
  | ok (a : α) (e : Fv)
  | exc (c : Nat) (e : Fv)
  | stuck
def Mo (α : Type) : Type := Fv → Res α
def Mo.bind {α β : Type} (m : Mo α) (k : α → Mo β) : Mo β := fun e => match m e with
  | .ok a e' => k a e'
  | .exc c e' => .exc c e'
  | .stuck => .stuck
def Mo.pure {α : Type} (a : α) : Mo α := fun e => .ok a e
instance : Monad Mo where
  pure := Mo.pure
  bind := Mo.bind
def stuckM {α : Type} : Mo α := fun _ => .stuck
def liftO {α : Type} : Option α → Mo α
  | some a => pure a
  | none => stuckM
/-- the weakest condition -/
def wpM {α : Type} (m : Mo α) (e : Fv) (Q : α → Fv → Prop) (E : Nat → Fv → Prop) : Prop := match m e with
  | .ok a e' => Q a e'
  | .exc c e' => E c e'
  | .stuck => False
section
variable {α β : Type} {m : Mo α} {k : α → Mo β} {e : Fv} {E : Nat → Fv → Prop}
theorem bind_eq (m : Mo α) (k : α → Mo β) : (m >>= k) = Mo.bind m k := rfl
theorem pure_eq (a : α) : (pure a : Mo α) = Mo.pure a := rfl
theorem wpM_bind {Q : β → Fv → Prop} : wpM (m >>= k) e Q E ↔ wpM m e (fun a e' => wpM (k a) e' Q E) E := by
  show wpM (Mo.bind m k) e Q E ↔ _
  unfold wpM Mo.bind
  cases m e <;> exact Iff.rfl
theorem wpM_pure {a : α} {Q : α → Fv → Prop} : wpM (pure a) e Q E ↔ Q a e := Iff.rfl
theorem wpM_mono {Q Q' : α → Fv → Prop} {E' : Nat → Fv → Prop} (h : wpM m e Q E) (hQ : ∀ a e', Q a e' → Q' a e') (hE : ∀ c e', E c e' → E' c e') : wpM m e Q' E' := by
  unfold wpM at *
  cases q : m e with
  | ok a e' => rw [q] at h; exact hQ _ _ h
  | exc c e' => rw [q] at h; exact hE _ _ h
  | stuck => rw [q] at h; exact h
theorem wpM_lift {o : Option α} {Q : α → Fv → Prop} (h : wpM (liftO o) e Q E) : ∃ a, o = some a ∧ Q a e := by
  cases o with
  | none => exact h.elim
  | some a => exact ⟨a, rfl, h⟩
end

/-! ### the heap -/
/-- what stands still is part of the heap -/
def Sub (G H : Hp) : Prop := ∀ b o, G b = some o → H b = some o
theorem Sub.refl {G : Hp} : Sub G G := fun _ _ h => h
theorem Sub.trans {G H J : Hp} (a : Sub G H) (b : Sub H J) : Sub G J := fun c o h => b c o (a c o h)
theorem Sub.rd {G H : Hp} (s : Sub G H) {a : Addr} {o : HO} (h : Rd G a o) : Rd H a o := by
  rcases h with h | ⟨x, h⟩
  · exact .inl (s _ _ h)
  · exact .inr ⟨x, s _ _ h⟩
theorem Sub.sqL {K : PySem.W.Frag} {G H : Hp} (s : Sub G H) {a : Addr} {xs : List V} (h : SqL K G a xs) : SqL K H a xs := h.imp s.rd id
theorem Sub.sqT {K : PySem.W.Frag} {G H : Hp} (s : Sub G H) {a : Addr} {xs : List V} (h : SqT K G a xs) : SqT K H a xs := h.imp s.rd id

mutual
/-- the value v stands for the datum d while G stands; the law's own list has a mark of its own -/
inductive Dq (K : PySem.W.Frag) (G : Hp) : V → PyData → Prop
  | non : Dq K G .non .none
  | bl (b : Bool) : Dq K G (.bl b) (.bool b)
  | int (i : Int) : Dq K G (.int i) (.int i)
  | str (x : Str) : Dq K G (.str x) (.str x)
  | lst {a : Addr} {xs : List V} {ds : List PyData} : G a = some (.lst xs) → DqAll K G xs ds → Dq K G (.ref a) (.list ds)
  | tup {a : Addr} {xs : List V} {ds : List PyData} : SqT K G a xs → DqAll K G xs ds → Dq K G (.ref a) (.tuple ds)
  | scr {a : Addr} {xs : List V} {ds : List PyData} : SqL K G a xs → DqAll K G xs ds → Dq K G (.ref a) (.dict [(.none, .list ds)])
inductive DqAll (K : PySem.W.Frag) (G : Hp) : List V → List PyData → Prop
  | nil : DqAll K G [] []
  | cons {v : V} {vs : List V} {d : PyData} {ds : List PyData} : Dq K G v d → DqAll K G vs ds → DqAll K G (v :: vs) (d :: ds)
end
theorem DqAll.length {K : PySem.W.Frag} {H : Hp} : ∀ {vs : List V} {ds : List PyData}, DqAll K H vs ds → vs.length = ds.length
  | _, _, .nil => rfl
  | _, _, .cons _ t => by simp [DqAll.length t]
theorem DqAll.get {K : PySem.W.Frag} {H : Hp} : ∀ {vs : List V} {ds : List PyData} {i : Nat} {d : PyData}, DqAll K H vs ds → ds[i]? = some d → ∃ v, vs[i]? = some v ∧ Dq K H v d
  | _, _, _, _, .nil, e => by simp at e
  | _, _, 0, _, .cons r _, e => by simp at e; subst e; exact ⟨_, rfl, r⟩
  | _, _, i + 1, d, .cons _ t, e => by
    obtain ⟨v, h1, h2⟩ := DqAll.get (i := i) (d := d) t (by simpa using e)
    exact ⟨v, by simpa using h1, h2⟩
theorem DqAll.getV {K : PySem.W.Frag} {H : Hp} : ∀ {vs : List V} {ds : List PyData} {i : Nat} {v : V}, DqAll K H vs ds → vs[i]? = some v → ∃ d, ds[i]? = some d ∧ Dq K H v d
  | _, _, _, _, .nil, e => by simp at e
  | _, _, 0, _, .cons r _, e => by simp at e; subst e; exact ⟨_, rfl, r⟩
  | _, _, i + 1, d, .cons _ t, e => by
    obtain ⟨v, h1, h2⟩ := DqAll.getV (i := i) (v := d) t (by simpa using e)
    exact ⟨v, by simpa using h1, h2⟩
theorem DqAll.append {K : PySem.W.Frag} {H : Hp} : ∀ {vs ws : List V} {ds es : List PyData}, DqAll K H vs ds → DqAll K H ws es → DqAll K H (vs ++ ws) (ds ++ es)
  | _, _, _, _, .nil, s => s
  | _, _, _, _, .cons r t, s => .cons r (DqAll.append t s)
theorem DqAll.take {K : PySem.W.Frag} {H : Hp} : ∀ {vs : List V} {ds : List PyData} (n : Nat), DqAll K H vs ds → DqAll K H (vs.take n) (ds.take n)
  | _, _, 0, _ => .nil
  | _, _, _ + 1, .nil => .nil
  | _, _, n + 1, .cons r t => .cons r (DqAll.take n t)
theorem DqAll.drop {K : PySem.W.Frag} {H : Hp} : ∀ {vs : List V} {ds : List PyData} (n : Nat), DqAll K H vs ds → DqAll K H (vs.drop n) (ds.drop n)
  | _, _, 0, r => r
  | _, _, _ + 1, .nil => .nil
  | _, _, n + 1, .cons _ t => DqAll.drop n t
theorem DqAll.set {K : PySem.W.Frag} {H : Hp} {v : V} {d : PyData} (r : Dq K H v d) : ∀ {vs : List V} {ds : List PyData} (n : Nat), DqAll K H vs ds → DqAll K H (vs.set n v) (ds.set n d)
  | _, _, _, .nil => .nil
  | _, _, 0, .cons _ t => .cons r t
  | _, _, n + 1, .cons q t => .cons q (DqAll.set r n t)
theorem DqAll.reverse {K : PySem.W.Frag} {H : Hp} : ∀ {vs : List V} {ds : List PyData}, DqAll K H vs ds → DqAll K H vs.reverse ds.reverse
  | _, _, .nil => .nil
  | _, _, .cons r t => by
    rw [List.reverse_cons, List.reverse_cons]
    exact (DqAll.reverse t).append (.cons r .nil)
theorem DqAll.dropLast {K : PySem.W.Frag} {H : Hp} {vs : List V} {ds : List PyData} (h : DqAll K H vs ds) : DqAll K H vs.dropLast ds.dropLast := by
  rw [List.dropLast_eq_take, List.dropLast_eq_take, h.length]
  exact h.take _
theorem DqAll.rep {K : PySem.W.Frag} {H : Hp} {vs : List V} {ds : List PyData} (h : DqAll K H vs ds) : ∀ k : Nat, DqAll K H (List.replicate k vs).flatten (List.replicate k ds).flatten
  | 0 => .nil
  | k + 1 => by
    rw [List.replicate_succ, List.replicate_succ, List.flatten_cons, List.flatten_cons]
    exact h.append (h.rep k)

mutual
theorem Sub.dq {K : PySem.W.Frag} {G H : Hp} (s : Sub G H) : ∀ (d : PyData) (v : V), Dq K G v d → Dq K H v d
  | .none, _, h => by cases h; exact .non
  | .bool b, _, h => by cases h; exact .bl b
  | .int i, _, h => by cases h; exact .int i
  | .str x, _, h => by cases h; exact .str x
  | .list ds, _, h => by
    cases h with
    | lst h1 h2 => exact .lst (s _ _ h1) (Sub.dqAll s ds _ h2)
  | .tuple ds, _, h => by
    cases h with
    | tup h1 h2 => exact .tup (s.sqT h1) (Sub.dqAll s ds _ h2)
  | .dict kvs, _, h => by
    cases h with
    | scr h1 h2 => exact .scr (s.sqL h1) (Sub.dqAll s _ _ h2)
theorem Sub.dqAll {K : PySem.W.Frag} {G H : Hp} (s : Sub G H) : ∀ (ds : List PyData) (vs : List V), DqAll K G vs ds → DqAll K H vs ds
  | [], _, h => by cases h; exact .nil
  | d :: ds, _, h => by
    cases h with
    | cons h1 h2 => exact .cons (Sub.dq s d _ h1) (Sub.dqAll s ds _ h2)
end
/-- a value to be read now: a list may be our own -/
def Pk (K : PySem.W.Frag) (H G : Hp) (v : V) : PyData → Prop
  | .list ds => ∃ a xs, v = .ref a ∧ H a = some (.lst xs) ∧ DqAll K G xs ds
  | d => Dq K G v d
theorem Pk.of {K : PySem.W.Frag} {H G : Hp} (s : Sub G H) {v : V} {d : PyData} (h : Dq K G v d) : Pk K H G v d := by
  cases d with
  | list ds =>
    cases h with
    | lst h1 h2 => exact ⟨_, _, rfl, s _ _ h1, h2⟩
  | _ => exact h
theorem Pk.dq {K : PySem.W.Frag} {H G : Hp} (s : Sub G H) {v : V} {d : PyData} (h : Pk K H G v d) : Dq K H v d := by
  cases d with
  | list ds =>
    obtain ⟨a, xs, rfl, h1, h2⟩ := h
    exact .lst h1 (Sub.dqAll s _ _ h2)
  | _ => exact Sub.dq s _ _ h

/-- a def's table of code objects -/
def TabOk (H : Hp) (P : Addr) : Prop := ∃ ps : Array Value, H P = some (.tbl ps) ∧ TriplesOk ps.toList

/-- a run's frame: what must stay, the lists lent, the tables, what is wanted where class c is raised -/
structure Fr where
  prot : Hp
  muts : List Addr
  tabs : List Addr
  W : Nat → Hp → Prop

def TagOk (l : List Addr) (a : Addr) : Option Nat → Prop
  | none => a ∉ l
  | some k => l[k]? = some a
def SlOk (K : PySem.W.Frag) (fr : Fr) (H G : Hp) (v : Option V) : Sl → Prop
  | .un => True
  | .sh d => ∃ x, v = some x ∧ Dq K G x d
  | .own t ds => ∃ a xs, v = some (.ref a) ∧ H a = some (.lst xs) ∧ DqAll K G xs ds ∧ G a = none ∧ fr.prot a = none ∧ TagOk fr.muts a t

structure SR (K : PySem.W.Frag) (fr : Fr) (env : Fv) (σ : L2.St) (H G : Hp) : Prop where
  sub : Sub G H
  prot : ∀ b o, fr.prot b = some o → H b = some o
  dj : ∀ b, fr.prot b ≠ none → G b = none
  tab : ∀ P ∈ fr.tabs, TabOk H P
  pt : ∀ P ∈ fr.tabs, fr.prot P = none
  lent : ∀ a ∈ fr.muts, H a ≠ none
  len : env.length = σ.length
  slots : ∀ (i : Nat) (sl : Sl), env[i]? = some sl → SlOk K fr H G (σ[i]?).join sl
  dist : ∀ (i j : Nat) (t t' : Option Nat) (ds ds' : List PyData) (a : Addr), i ≠ j → env[i]? = some (.own t ds) → env[j]? = some (.own t' ds') → σ[i]? = some (some (.ref a)) → σ[j]? ≠ some (some (.ref a))

/-- a step of the run that only makes new things -/
structure Stp (H G H' G' : Hp) : Prop where
  ext : Sub H H'
  mono : Sub G G'
  sub : Sub G' H'
  new : ∀ b, G' b ≠ none → G b ≠ none ∨ H b = none

theorem ne_none_of {α : Type} {o : Option α} {a : α} (h : o = some a) : o ≠ none := by rw [h]; simp
theorem sub_none {G H : Hp} (s : Sub G H) {b : Addr} (h : H b = none) : G b = none := by
  cases q : G b with
  | none => rfl
  | some o => rw [s _ _ q] at h; cases h

section
variable {K : PySem.W.Frag} {fr : Fr} {env : Fv} {σ : L2.St} {H G H' G' : Hp}
theorem Stp.refl (s : Sub G H) : Stp H G H G := ⟨.refl, .refl, s, fun _ h => .inl h⟩
/-- a new thing that is not to stand still -/
theorem Stp.lay (s : Sub G H) {p : Addr} {o : HO} (hp : H p = none) : Stp H G (upd H p o) G :=
  ⟨fun b x h => by rw [upd_ne (ne_of_none h hp)]; exact h, .refl, fun b x h => by rw [upd_ne (ne_of_none (s _ _ h) hp)]; exact s _ _ h, fun _ h => .inl h⟩
/-- a new thing that stands still -/
theorem Stp.fix (s : Sub G H) {p : Addr} {o : HO} (hp : H p = none) : Stp H G (upd H p o) (upd G p o) where
  ext := fun b x h => by rw [upd_ne (ne_of_none h hp)]; exact h
  mono := fun b x h => by rw [upd_ne (ne_of_none (s _ _ h) hp)]; exact h
  sub := fun b x h => by
    by_cases hb : b = p
    · subst hb; rw [upd_same] at h ⊢; exact h
    · rw [upd_ne hb] at h ⊢; exact s _ _ h
  new := fun b h => by
    by_cases hb : b = p
    · subst hb; exact .inr hp
    · rw [upd_ne hb] at h; exact .inl h
theorem Stp.trans {H1 G1 : Hp} (a : Stp H G H1 G1) (b : Stp H1 G1 H' G') : Stp H G H' G' where
  ext := a.ext.trans b.ext
  mono := a.mono.trans b.mono
  sub := b.sub
  new := fun c h => by
    rcases b.new c h with h | h
    · exact a.new c h
    · exact .inr (sub_none a.ext h)
theorem SlOk.stp {v : Option V} {sl : Sl} (s : Stp H G H' G') (h : SlOk K fr H G v sl) : SlOk K fr H' G' v sl := by
  cases sl with
  | un => trivial
  | sh d =>
    obtain ⟨x, e, h⟩ := h
    exact ⟨x, e, Sub.dq s.mono _ _ h⟩
  | own t ds =>
    obtain ⟨a, xs, e, h1, h2, h3, h4, h5⟩ := h
    refine ⟨a, xs, e, s.ext _ _ h1, Sub.dqAll s.mono _ _ h2, ?_, h4, h5⟩
    cases q : G' a with
    | none => rfl
    | some o =>
      rcases s.new a (ne_none_of q) with z | z
      · exact absurd h3 z
      · rw [h1] at z; cases z
theorem SR.stp (h : SR K fr env σ H G) (s : Stp H G H' G') : SR K fr env σ H' G' where
  sub := s.sub
  prot := fun b o e => s.ext _ _ (h.prot b o e)
  dj := fun b e => by
    cases q : G' b with
    | none => rfl
    | some o =>
      rcases s.new b (ne_none_of q) with z | z
      · exact absurd (h.dj b e) z
      · cases q2 : fr.prot b with
        | none => exact absurd q2 e
        | some o2 => rw [h.prot b o2 q2] at z; cases z
  tab := fun P hP => let ⟨ps, e, t⟩ := h.tab P hP; ⟨ps, s.ext _ _ e, t⟩
  pt := h.pt
  lent := fun a ha => by
    cases q : H a with
    | none => exact absurd q (h.lent a ha)
    | some o => exact ne_none_of (s.ext _ _ q)
  len := h.len
  slots := fun i sl e => (h.slots i sl e).stp s
  dist := h.dist
end

/-- what an expression's value is -/
def RvOk (K : PySem.W.Frag) (fr : Fr) (env : Fv) (σ : L2.St) (H G : Hp) (v : V) : Rv → Prop
  | .sh d => Dq K G v d
  | .fr ds => ∃ a xs, v = .ref a ∧ H a = some (.lst xs) ∧ DqAll K G xs ds ∧ G a = none ∧ fr.prot a = none ∧ a ∉ fr.muts ∧ ∀ (i : Nat) (t : Option Nat) (es : List PyData), env[i]? = some (.own t es) → σ[i]? ≠ some (some (.ref a))
  | .sl i => σ[i]? = some (some v)
/-- a new value of a step -/
def RvNew (K : PySem.W.Frag) (H H' G' : Hp) (v : V) : Rv → Prop
  | .sh d => Dq K G' v d
  | .fr ds => ∃ a xs, v = .ref a ∧ H' a = some (.lst xs) ∧ DqAll K G' xs ds ∧ G' a = none ∧ H a = none
  | .sl _ => False
section
variable {K : PySem.W.Frag} {fr : Fr} {env : Fv} {σ : L2.St} {H G H' G' : Hp} {v : V} {r : Rv}
theorem SR.ownAt (h : SR K fr env σ H G) {i : Nat} {t : Option Nat} {ds : List PyData} (e : env[i]? = some (.own t ds)) :
    ∃ a xs, σ[i]? = some (some (.ref a)) ∧ H a = some (.lst xs) ∧ DqAll K G xs ds ∧ G a = none ∧ fr.prot a = none ∧ TagOk fr.muts a t := by
  obtain ⟨a, xs, q, r⟩ := h.slots i _ e
  refine ⟨a, xs, ?_, r⟩
  cases z : σ[i]? with
  | none => rw [z] at q; cases q
  | some o => rw [z] at q; cases q; rfl
theorem SR.shAt (h : SR K fr env σ H G) {i : Nat} {d : PyData} (e : env[i]? = some (.sh d)) : ∃ x, σ[i]? = some (some x) ∧ Dq K G x d := by
  obtain ⟨x, q, r⟩ := h.slots i _ e
  refine ⟨x, ?_, r⟩
  cases z : σ[i]? with
  | none => rw [z] at q; cases q
  | some o => rw [z] at q; cases q; rfl
/-- a thing of the heap that was not there is none of ours -/
theorem SR.notOwn (h : SR K fr env σ H G) {a : Addr} (ha : H a = none) : ∀ (i : Nat) (t : Option Nat) (es : List PyData), env[i]? = some (.own t es) → σ[i]? ≠ some (some (.ref a)) := fun i t es e z => by
  obtain ⟨b, xs, q, r, _⟩ := h.ownAt e
  rw [q] at z
  cases z
  rw [ha] at r
  cases r
theorem RvNew.ok (h : SR K fr env σ H G) (q : RvNew K H H' G' v r) : RvOk K fr env σ H' G' v r := by
  cases r with
  | sh d => exact q
  | sl _ => exact q.elim
  | fr ds =>
    obtain ⟨a, xs, e, h1, h2, h3, h4⟩ := q
    refine ⟨a, xs, e, h1, h2, h3, ?_, fun z => h.lent a z h4, h.notOwn h4⟩
    cases z : fr.prot a with
    | none => rfl
    | some o => rw [h.prot a o z] at h4; cases h4
end
end Cf
/-! Cf, part B: expressions. -/
namespace Cf
open PySem PySem.Spec PyProof.Rows L2

/-! ### the judgements -/
def tE (K : PySem.W.Frag) (fr : Fr) (F : Mo Rv) : TE := fun σ H Q => ∃ env G, SR K fr env σ H G ∧
  wpM F env (fun r env' => ∀ H' G' v, SR K fr env' σ H' G' → Sub G G' → RvOk K fr env' σ H' G' v r → Q v H') (fun c env' => ∀ H' G', SR K fr env' σ H' G' → Sub G G' → fr.W c H')
def tT (K : PySem.W.Frag) (fr : Fr) (F : Mo Bool) : TT := fun σ H Q => ∃ env G, SR K fr env σ H G ∧
  wpM F env (fun b env' => ∀ H' G', SR K fr env' σ H' G' → Sub G G' → Q b H') (fun c env' => ∀ H' G', SR K fr env' σ H' G' → Sub G G' → fr.W c H')
def HeldOk (K : PySem.W.Frag) (σ : L2.St) (G : Hp) (v : V) : Rv → Prop
  | .sh d => Dq K G v d
  | .sl i => σ[i]? = some (some v)
  | .fr _ => False
def RvsOk (K : PySem.W.Frag) (σ : L2.St) (G : Hp) : List V → List Rv → Prop
  | [], [] => True
  | v :: vs, r :: rs => HeldOk K σ G v r ∧ RvsOk K σ G vs rs
  | _, _ => False
def tA (K : PySem.W.Frag) (fr : Fr) (F : Mo (List Rv)) : TA := fun σ H Q => ∃ env G, SR K fr env σ H G ∧
  wpM F env (fun rs env' => ∀ H' G' vs, SR K fr env' σ H' G' → Sub G G' → RvsOk K σ G' vs rs → Q vs H') (fun c env' => ∀ H' G', SR K fr env' σ H' G' → Sub G G' → fr.W c H')
/-- e runs as F says -/
def PEv (X : Cx) (fr : Fr) (e : Expr) (F : Mo Rv) : Prop := PE X e (tE X.K fr F)
def PTv (X : Cx) (fr : Fr) (e : Expr) (F : Mo Bool) : Prop := PT X e (tT X.K fr F)
def PWv (X : Cx) (fr : Fr) (e : Expr) (F : Mo Bool) : Prop := PW X e (tT X.K fr F)
def PAv (X : Cx) (fr : Fr) (es : List Expr) (F : Mo (List Rv)) : Prop := PA X es (tA X.K fr F)
theorem weakE {X : Cx} {e : Expr} {t t' : TE} (h : PE X e t) (w : ∀ σ H Q, t' σ H Q → t σ H Q) : PE X e t' := ⟨fun pins s σ H Q I q => h.run pins s σ H Q I (w σ H Q q)⟩
theorem weakT {X : Cx} {e : Expr} {t t' : TT} (h : PT X e t) (w : ∀ σ H Q, t' σ H Q → t σ H Q) : PT X e t' := ⟨fun pins s σ H Q I q => h.run pins s σ H Q I (w σ H Q q)⟩
theorem weakW {X : Cx} {e : Expr} {t t' : TT} (h : PW X e t) (w : ∀ σ H Q, t' σ H Q → t σ H Q) : PW X e t' := ⟨fun wh pins s σ H Q I q => h.run wh pins s σ H Q I (w σ H Q q)⟩
theorem weakA {X : Cx} {es : List Expr} {t t' : TA} (h : PA X es t) (w : ∀ σ H Q, t' σ H Q → t σ H Q) : PA X es t' := ⟨fun pos pins s σ H Q I q => h.run pos pins s σ H Q I (w σ H Q q)⟩

/-! ### small functions -/
/-- a new list that waits stands still meanwhile -/
@[simp] def hold : Rv → Rv
  | .fr ds => .sh (.list ds)
  | r => r
/-- read now -/
def peek (r : Rv) : Mo PyData := fun e => match r with
  | .sh d => .ok d e
  | .fr ds => .ok (.list ds) e
  | .sl i => match e[i]? with
    | some (.sh d) => .ok d e
    | some (.own _ ds) => .ok (.list ds) e
    | _ => .stuck
/-- handed on for good: it stands still from now on -/
def force (r : Rv) : Mo PyData := fun e => match r with
  | .sh d => .ok d e
  | .fr ds => .ok (.list ds) e
  | .sl i => match e[i]? with
    | some (.sh d) => .ok d e
    | some (.own none ds) => .ok (.list ds) (e.set i (.sh (.list ds)))
    | _ => .stuck
@[simp] def peeks : List Rv → Mo (List PyData)
  | [] => pure []
  | r :: rs => do
    let d ← peek r
    let ds ← peeks rs
    pure (d :: ds)
@[simp] def forces : List Rv → Mo (List PyData)
  | [] => pure []
  | r :: rs => do
    let d ← force r
    let ds ← forces rs
    pure (d :: ds)

section
variable {K : PySem.W.Frag} {fr : Fr} {env : Fv} {σ : L2.St} {H G H' G' : Hp} {v : V} {r : Rv}
theorem hold_ok (h : SR K fr env σ H G) (q : RvOk K fr env σ H G v r) : ∃ G', SR K fr env σ H G' ∧ Sub G G' ∧ (match hold r with
    | .sh d => Dq K G' v d
    | .sl i => σ[i]? = some (some v)
    | .fr _ => False) := by
  cases r with
  | sh d => exact ⟨G, h, .refl, q⟩
  | sl i => exact ⟨G, h, .refl, q⟩
  | fr ds =>
    obtain ⟨a, xs, rfl, h1, h2, h3, h4, h5, h6⟩ := q
    have sG : Sub G (upd G a (.lst xs)) := fun b o e => by rw [upd_ne (ne_of_none e h3)]; exact e
    refine ⟨upd G a (.lst xs), ⟨fun b o e => ?_, h.prot, fun b e => ?_, h.tab, h.pt, h.lent, h.len, fun i sl e => ?_, h.dist⟩, sG, ?_⟩
    · by_cases hb : b = a
      · subst hb; rw [upd_same] at e; cases e; exact h1
      · rw [upd_ne hb] at e; exact h.sub b o e
    · by_cases hb : b = a
      · subst hb; exact absurd h4 e
      · rw [upd_ne hb]; exact h.dj b e
    · have q := h.slots i sl e
      cases sl with
      | un => trivial
      | sh d => obtain ⟨x, e1, e2⟩ := q; exact ⟨x, e1, Sub.dq sG _ _ e2⟩
      | own t es =>
        obtain ⟨b, ys, e1, e2, e3, e4, e5, e6⟩ := h.ownAt e
        have hb : b ≠ a := fun z => h6 i t es e (by rw [← z]; exact e1)
        exact ⟨b, ys, by rw [e1]; rfl, e2, Sub.dqAll sG _ _ e3, by rw [upd_ne hb]; exact e4, e5, e6⟩
    · exact .lst upd_same (Sub.dqAll sG _ _ h2)
theorem peek_ok (h : SR K fr env σ H G) (q : RvOk K fr env σ H G v r) {Q : PyData → Fv → Prop} {E : Nat → Fv → Prop} (w : wpM (peek r) env Q E) : ∃ d, Pk K H G v d ∧ Q d env := by
  cases r with
  | sh d => exact ⟨d, .of h.sub q, w⟩
  | fr ds =>
    obtain ⟨a, xs, e, h1, h2, _⟩ := q
    exact ⟨.list ds, ⟨a, xs, e, h1, h2⟩, w⟩
  | sl i =>
    have q' : σ[i]? = some (some v) := q
    unfold wpM peek at w
    cases e : env[i]? with
    | none => simp [e] at w
    | some sl =>
      cases sl with
      | un => simp [e] at w
      | sh d =>
        simp only [e] at w
        obtain ⟨x, e1, e2⟩ := h.shAt e
        rw [q'] at e1; cases e1
        exact ⟨d, .of h.sub e2, w⟩
      | own t ds =>
        simp only [e] at w
        obtain ⟨a, xs, e1, e2, e3, _⟩ := h.ownAt e
        rw [q'] at e1; cases e1
        exact ⟨.list ds, ⟨a, xs, rfl, e2, e3⟩, w⟩
/-- a slot's own list stands still from now on -/
theorem freeze (h : SR K fr env σ H G) {i : Nat} {ds : List PyData} (e : env[i]? = some (.own none ds)) : ∃ G', SR K fr (env.set i (.sh (.list ds))) σ H G' ∧ Sub G G' ∧ ∀ v, σ[i]? = some (some v) → Dq K G' v (.list ds) := by
  obtain ⟨a, xs, e1, h1, h2, h3, h4, h5⟩ := h.ownAt e
  have sG : Sub G (upd G a (.lst xs)) := fun b o e => by rw [upd_ne (ne_of_none e h3)]; exact e
  have hd : Dq K (upd G a (.lst xs)) (.ref a) (.list ds) := .lst upd_same (Sub.dqAll sG _ _ h2)
  have hi : i < env.length := (List.getElem?_eq_some_iff.mp e).1
  refine ⟨upd G a (.lst xs), ⟨fun b o e => ?_, h.prot, fun b e => ?_, h.tab, h.pt, h.lent, by simpa using h.len, fun j sl ej => ?_, fun j k t t' es es' b hjk ej ek => ?_⟩, sG, fun v q => ?_⟩
  · by_cases hb : b = a
    · subst hb; rw [upd_same] at e; cases e; exact h1
    · rw [upd_ne hb] at e; exact h.sub b o e
  · by_cases hb : b = a
    · subst hb; exact absurd h4 e
    · rw [upd_ne hb]; exact h.dj b e
  · by_cases hj : j = i
    · subst hj
      rw [List.getElem?_set_self hi] at ej
      cases ej
      exact ⟨.ref a, by rw [e1]; rfl, hd⟩
    · rw [List.getElem?_set_ne (Ne.symm hj)] at ej
      have q := h.slots j sl ej
      cases sl with
      | un => trivial
      | sh d => obtain ⟨x, e1, e2⟩ := q; exact ⟨x, e1, Sub.dq sG _ _ e2⟩
      | own t es =>
        obtain ⟨b, ys, e1', e2, e3, e4, e5, e6⟩ := h.ownAt ej
        have hb : b ≠ a := fun z => h.dist i j none t ds es a (Ne.symm hj) e ej e1 (by rw [← z]; exact e1')
        exact ⟨b, ys, by rw [e1']; rfl, e2, Sub.dqAll sG _ _ e3, by rw [upd_ne hb]; exact e4, e5, e6⟩
  · have nj : j ≠ i := fun z => by subst z; rw [List.getElem?_set_self hi] at ej; cases ej
    have nk : k ≠ i := fun z => by subst z; rw [List.getElem?_set_self hi] at ek; cases ek
    rw [List.getElem?_set_ne (Ne.symm nj)] at ej
    rw [List.getElem?_set_ne (Ne.symm nk)] at ek
    exact h.dist j k t t' es es' b hjk ej ek
  · rw [e1] at q; cases q; exact hd
theorem force_ok (h : SR K fr env σ H G) (q : RvOk K fr env σ H G v r) {Q : PyData → Fv → Prop} {E : Nat → Fv → Prop} (w : wpM (force r) env Q E) :
    ∃ d env' G', SR K fr env' σ H G' ∧ Sub G G' ∧ Dq K G' v d ∧ Q d env' := by
  cases r with
  | sh d => exact ⟨d, env, G, h, .refl, q, w⟩
  | fr ds =>
    obtain ⟨G', h1, h2, h3⟩ := hold_ok h q
    exact ⟨_, env, G', h1, h2, h3, w⟩
  | sl i =>
    have q' : σ[i]? = some (some v) := q
    unfold wpM force at w
    cases e : env[i]? with
    | none => simp [e] at w
    | some sl =>
      cases sl with
      | un => simp [e] at w
      | sh d =>
        simp only [e] at w
        obtain ⟨x, e1, e2⟩ := h.shAt e
        rw [q'] at e1; cases e1
        exact ⟨d, env, G, h, .refl, e2, w⟩
      | own t ds =>
        cases t with
        | some k => simp [e] at w
        | none =>
          simp only [e] at w
          obtain ⟨G', h1, h2, h3⟩ := freeze h e
          exact ⟨_, _, G', h1, h2, h3 v q', w⟩
theorem HeldOk.ok (q : HeldOk K σ G v r) : RvOk K fr env σ H G v r := by
  cases r with
  | sh d => exact q
  | fr _ => exact q.elim
  | sl i => exact q
theorem HeldOk.mono (q : HeldOk K σ G v r) (s : Sub G G') : HeldOk K σ G' v r := by
  cases r with
  | sh d => exact Sub.dq s _ _ q
  | fr _ => exact q.elim
  | sl i => exact q
theorem hold_ok' (h : SR K fr env σ H G) (q : RvOk K fr env σ H G v r) : ∃ G', SR K fr env σ H G' ∧ Sub G G' ∧ HeldOk K σ G' v (hold r) := by
  obtain ⟨G', h1, h2, h3⟩ := hold_ok h q
  refine ⟨G', h1, h2, ?_⟩
  cases e : hold r <;> rw [e] at h3 <;> exact h3
theorem rvsOk_cons {vs : List V} {rs : List Rv} : RvsOk K σ G (v :: vs) (r :: rs) ↔ HeldOk K σ G v r ∧ RvsOk K σ G vs rs := by
  exact Iff.rfl
theorem RvsOk.mono (s : Sub G G') : ∀ {vs : List V} {rs : List Rv}, RvsOk K σ G vs rs → RvsOk K σ G' vs rs
  | [], [], _ => trivial
  | _ :: _, _ :: _, h => rvsOk_cons.mpr ⟨(rvsOk_cons.mp h).1.mono s, RvsOk.mono s (rvsOk_cons.mp h).2⟩
  | [], _ :: _, h => h.elim
  | _ :: _, [], h => h.elim
theorem RvsOk.length : ∀ {vs : List V} {rs : List Rv}, RvsOk K σ G vs rs → vs.length = rs.length
  | [], [], _ => rfl
  | _ :: _, _ :: _, h => by simp [RvsOk.length (rvsOk_cons.mp h).2]
  | [], _ :: _, h => h.elim
  | _ :: _, [], h => h.elim
def Pks (K : PySem.W.Frag) (H G : Hp) : List V → List PyData → Prop
  | [], [] => True
  | v :: vs, d :: ds => Pk K H G v d ∧ Pks K H G vs ds
  | _, _ => False
theorem peeks_ok (h : SR K fr env σ H G) : ∀ {vs : List V} {rs : List Rv}, RvsOk K σ G vs rs → ∀ {Q : List PyData → Fv → Prop} {E : Nat → Fv → Prop}, wpM (peeks rs) env Q E → ∃ ds, Pks K H G vs ds ∧ Q ds env
  | [], [], _, _, _, w => ⟨[], trivial, w⟩
  | [], _ :: _, h, _, _, _ => h.elim
  | _ :: _, [], h, _, _, _ => h.elim
  | v :: vs, r :: rs, q, Q, E, w => by
    obtain ⟨q1, q2⟩ := rvsOk_cons.mp q
    unfold peeks at w
    obtain ⟨d, h1, w1⟩ := peek_ok h (HeldOk.ok q1) (wpM_bind.mp w)
    obtain ⟨ds, h2, w2⟩ := peeks_ok h q2 (wpM_bind.mp w1)
    exact ⟨d :: ds, ⟨h1, h2⟩, w2⟩
theorem forces_ok : ∀ {vs : List V} {rs : List Rv} {env : Fv} {G : Hp} (h : SR K fr env σ H G), RvsOk K σ G vs rs → ∀ {Q : List PyData → Fv → Prop} {E : Nat → Fv → Prop}, wpM (forces rs) env Q E →
    ∃ ds env' G', SR K fr env' σ H G' ∧ Sub G G' ∧ DqAll K G' vs ds ∧ Q ds env'
  | [], [], env, G, h, _, _, _, w => ⟨[], env, G, h, .refl, .nil, w⟩
  | [], _ :: _, _, _, _, h, _, _, _ => h.elim
  | _ :: _, [], _, _, _, h, _, _, _ => h.elim
  | v :: vs, r :: rs, env, G, h, q, Q, E, w => by
    obtain ⟨q1, q2⟩ := rvsOk_cons.mp q
    unfold forces at w
    obtain ⟨d, e1, G1, h1, s1, d1, w1⟩ := force_ok h (HeldOk.ok q1) (wpM_bind.mp w)
    obtain ⟨ds, e2, G2, h2, s2, d2, w2⟩ := forces_ok h1 (q2.mono s1) (wpM_bind.mp w1)
    exact ⟨d :: ds, e2, G2, h2, s1.trans s2, .cons (Sub.dq s2 _ _ d1) d2, w2⟩
end

/-! ### composing -/
section
variable {K : PySem.W.Frag} {fr : Fr} {env : Fv} {σ : L2.St} {H G : Hp}
/-- run a part, then go on; its value waits -/
theorem tE_then {α : Type} {F : Mo Rv} {k : Rv → Mo α} {Q : VK} {Qe : α → Fv → Prop} {Ee : Nat → Fv → Prop} (h : SR K fr env σ H G) (w : wpM (F >>= k) env Qe Ee)
    (hk : ∀ r env1 H1 G1 v, SR K fr env1 σ H1 G1 → Sub G G1 → RvOk K fr env1 σ H1 G1 v r → wpM (k r) env1 Qe Ee → Q v H1)
    (he : ∀ c env1, Ee c env1 → ∀ H1 G1, SR K fr env1 σ H1 G1 → Sub G G1 → fr.W c H1) : tE K fr F σ H Q :=
  ⟨env, G, h, wpM_mono (wpM_bind.mp w) (fun r env1 w1 H1 G1 v h1 s1 q => hk r env1 H1 G1 v h1 s1 q w1) fun c env1 w1 H1 G1 h1 s1 => he c env1 w1 H1 G1 h1 s1⟩
theorem tT_then {α : Type} {F : Mo Bool} {k : Bool → Mo α} {Q : Bool → Hp → Prop} {Qe : α → Fv → Prop} {Ee : Nat → Fv → Prop} (h : SR K fr env σ H G) (w : wpM (F >>= k) env Qe Ee)
    (hk : ∀ r env1 H1 G1, SR K fr env1 σ H1 G1 → Sub G G1 → wpM (k r) env1 Qe Ee → Q r H1)
    (he : ∀ c env1, Ee c env1 → ∀ H1 G1, SR K fr env1 σ H1 G1 → Sub G G1 → fr.W c H1) : tT K fr F σ H Q :=
  ⟨env, G, h, wpM_mono (wpM_bind.mp w) (fun r env1 w1 H1 G1 h1 s1 => hk r env1 H1 G1 h1 s1 w1) fun c env1 w1 H1 G1 h1 s1 => he c env1 w1 H1 G1 h1 s1⟩
theorem tA_then {α : Type} {F : Mo (List Rv)} {k : List Rv → Mo α} {Q : List V → Hp → Prop} {Qe : α → Fv → Prop} {Ee : Nat → Fv → Prop} (h : SR K fr env σ H G) (w : wpM (F >>= k) env Qe Ee)
    (hk : ∀ rs env1 H1 G1 vs, SR K fr env1 σ H1 G1 → Sub G G1 → RvsOk K σ G1 vs rs → wpM (k rs) env1 Qe Ee → Q vs H1)
    (he : ∀ c env1, Ee c env1 → ∀ H1 G1, SR K fr env1 σ H1 G1 → Sub G G1 → fr.W c H1) : tA K fr F σ H Q :=
  ⟨env, G, h, wpM_mono (wpM_bind.mp w) (fun rs env1 w1 H1 G1 vs h1 s1 q => hk rs env1 H1 G1 vs h1 s1 q w1) fun c env1 w1 H1 G1 h1 s1 => he c env1 w1 H1 G1 h1 s1⟩
end

/-! ### names, constants -/
def readF (i : Nat) : Mo Rv := fun e => match e[i]? with
  | some (.sh d) => .ok (.sh d) e
  | some (.own _ _) => .ok (.sl i) e
  | _ => .stuck
def constF (d : PyData) : Mo Rv := pure (.sh d)
section
variable {X : Cx} {fr : Fr}
theorem tE_const {d : PyData} {v : V} (hd : Dq X.K (fun _ => none) v d) : ∀ σ H Q, tE X.K fr (constF d) σ H Q → tC v σ H Q := fun σ H Q ⟨env, G, h, w⟩ =>
  w H G v h .refl (Sub.dq (fun _ _ z => by cases z) _ _ hd)
theorem ev_int {i j pos} : PEv X fr (.Constant (.int i) j pos) (constF (.int i)) := weakE pe_int (tE_const (.int i))
theorem ev_bl {b j pos} : PEv X fr (.Constant (.bool b) j pos) (constF (.bool b)) := weakE pe_bl (tE_const (.bl b))
theorem ev_non {j pos} : PEv X fr (.Constant .none j pos) (constF .none) := weakE pe_non (tE_const .non)
theorem ev_str {x j pos} : PEv X fr (.Constant (.str x) j pos) (constF (.str x)) := weakE pe_str (tE_const (.str x))
theorem ev_glob {x : Str} {v : V} {u : Value} {pos : Pos} {d : PyData} (hg : Gl X x) (hm : X.mg x = some u) (r : RelV v u) (hd : Dq X.K (fun _ => none) v d) (hdb : (x == ("__debug__" : Str)) = false := by decide) : PEv X fr (.Name x pos) (constF d) :=
  weakE (pe_glob hg hm r hdb) (tE_const hd)
theorem ev_var (i : Nat) {x : Str} {pos : Pos} (hN : X.N[i]? = some x := by rfl) (hv : Vis X.env.scope x := by first | exact Or.inl rfl | exact Or.inr (Or.inl rfl) | exact Or.inr (Or.inr rfl)) (hd : (x == ("__debug__" : Str)) = false := by decide)
    (hcd : (x == ("__classdict__" : Str)) = false := by decide) : PEv X fr (.Name x pos) (readF i) := by
  refine weakE (pe_var hN hv hd hcd) fun σ H Q ⟨env, G, h, w⟩ => ?_
  unfold wpM readF at w
  cases e : env[i]? with
  | none => simp [e] at w
  | some sl =>
    cases sl with
    | un => simp [e] at w
    | sh d =>
      simp only [e] at w
      obtain ⟨x, e1, e2⟩ := h.shAt e
      exact ⟨x, e1, w H G x h .refl e2⟩
    | own t ds =>
      simp only [e] at w
      obtain ⟨a, xs, e1, _⟩ := h.ownAt e
      exact ⟨.ref a, e1, w H G _ h .refl e1⟩
end

/-! ### operators -/
/-- a rule of two values as a function of two data -/
def Op2 (X : Cx) (f : Value → Value → Sem Value) (g : PyData → PyData → Option Rv) : Prop :=
  ∃ r : R2, OpR X f r ∧ ∀ x y H G d1 d2 res Q, Sub G H → Pk X.K H G x d1 → Pk X.K H G y d2 → g d1 d2 = some res →
    (∀ H' G' z, Stp H G H' G' → RvNew X.K H H' G' z res → Q z H') → r x y H Q
def binF (g : PyData → PyData → Option Rv) (F1 F2 : Mo Rv) : Mo Rv := do
  let r1 ← F1
  let r2 ← F2
  let d1 ← peek (hold r1)
  let d2 ← peek r2
  liftO (g d1 d2)
theorem Op2.or {X : Cx} {f : Value → Value → Sem Value} {g g' : PyData → PyData → Option Rv} (h : Op2 X f g) (h' : Op2 X f g') : Op2 X f (fun a b => (g a b).or (g' a b)) := by
  obtain ⟨r, h1, h2⟩ := h
  obtain ⟨r', h1', h2'⟩ := h'
  refine ⟨_, h1.or h1', fun x y H G d1 d2 res Q s p1 p2 e q => ?_⟩
  simp only at e
  cases z : g d1 d2 with
  | some a => rw [z] at e; exact .inl (h2 x y H G d1 d2 res Q s p1 p2 (by rw [z]; exact e) q)
  | none => rw [z] at e; exact .inr (h2' x y H G d1 d2 res Q s p1 p2 (by simpa using e) q)
end Cf
/-! Cf, part C: operators. -/
namespace Cf
open PySem PySem.Spec PyProof.Rows L2

section
variable {K : PySem.W.Frag} {G H : Hp} {v : V}
theorem dq_int {i : Int} (h : Dq K G v (.int i)) : v = .int i := by cases h; rfl
theorem dq_bl {b : Bool} (h : Dq K G v (.bool b)) : v = .bl b := by cases h; rfl
theorem dq_str {x : Str} (h : Dq K G v (.str x)) : v = .str x := by cases h; rfl
theorem dq_non (h : Dq K G v .none) : v = .non := by cases h; rfl
theorem dq_tup {ds : List PyData} (h : Dq K G v (.tuple ds)) : ∃ a xs, v = .ref a ∧ SqT K G a xs ∧ DqAll K G xs ds := by
  cases h with
  | tup h1 h2 => exact ⟨_, _, rfl, h1, h2⟩
/-- equality's own words -/
theorem canLay_cons {d : PyData} {ds : List PyData} (c : PyData.canLayAll0 (d :: ds) = true) : d.canLay0 = true ∧ PyData.canLayAll0 ds = true := by
  simpa [PyData.canLayAll0] using c
end
mutual
theorem canLay_dp {K : PySem.W.Frag} {G : Hp} : ∀ (d : PyData), d.canLay0 = true → ∀ v, Dq K G v d → Dp K G v d
  | .none, _, _, h => by cases h; exact .non
  | .bool b, _, _, h => by cases h; exact .bl b
  | .int i, _, _, h => by cases h; exact .int i
  | .str x, _, _, h => by cases h; exact .str x
  | .list ds, c, _, h => by
    cases h with
    | lst h1 h2 => exact .lst (.inl (.inl h1)) (canLay_dps ds (by simpa [PyData.canLay0] using c) _ h2)
  | .tuple ds, c, _, h => by
    cases h with
    | tup h1 h2 => exact .tup h1 (canLay_dps ds (by simpa [PyData.canLay0] using c) _ h2)
  | .dict kvs, c, _, _ => by simp [PyData.canLay0] at c
theorem canLay_dps {K : PySem.W.Frag} {G : Hp} : ∀ (ds : List PyData), PyData.canLayAll0 ds = true → ∀ vs, DqAll K G vs ds → DpAll K G vs ds
  | [], _, _, h => by cases h; exact .nil
  | d :: ds, c, _, h => by
    cases h with
    | cons h1 h2 => exact .cons (canLay_dp d (canLay_cons c).1 _ h1) (canLay_dps ds (canLay_cons c).2 _ h2)
end

/-- the list's value: a new one -/
theorem rvFresh {K : PySem.W.Frag} {H G : Hp} {p : Addr} {xs : List V} {ds : List PyData} (s : Sub G H) (hp : H p = none) (h : DqAll K G xs ds) :
    Stp H G (upd H p (.lst xs)) G ∧ RvNew K H (upd H p (.lst xs)) G (.ref p) (.fr ds) :=
  ⟨Stp.lay s hp, p, xs, rfl, upd_same, h, sub_none s hp, hp⟩
/-- the tuple's value: a new one -/
theorem rvTup {K : PySem.W.Frag} {H G : Hp} {p : Addr} {xs : List V} {ds : List PyData} (s : Sub G H) (hp : H p = none) (h : DqAll K G xs ds) :
    Stp H G (upd H p (.tup xs)) (upd G p (.tup xs)) ∧ RvNew K H (upd H p (.tup xs)) (upd G p (.tup xs)) (.ref p) (.sh (.tuple ds)) :=
  ⟨Stp.fix s hp, Dq.tup (.inl (.inl upd_same)) (Sub.dqAll (Stp.fix s hp).mono _ _ h)⟩

theorem Op2.weak {X : Cx} {f : Value → Value → Sem Value} {g g' : PyData → PyData → Option Rv} (h : Op2 X f g') (w : ∀ a b r, g a b = some r → g' a b = some r) : Op2 X f g :=
  let ⟨r, h1, h2⟩ := h
  ⟨r, h1, fun x y H G d1 d2 res Q s p1 p2 e q => h2 x y H G d1 d2 res Q s p1 p2 (w _ _ _ e) q⟩

/-! ### + - * // % ** -/
@[simp] def addG : PyData → PyData → Option Rv
  | .int i, .int j => some (.sh (.int (i + j)))
  | .str x, .str y => if x.length + y.length ≤ sizeLine then some (.sh (.str (x ++ y))) else none
  | .tuple xs, .tuple ys => if xs.length + ys.length ≤ sizeLine then some (.sh (.tuple (xs ++ ys))) else none
  | .list xs, .list ys => if xs.length + ys.length ≤ sizeLine then some (.fr (xs ++ ys)) else none
  | _, _ => none
@[simp] def subG : PyData → PyData → Option Rv
  | .int i, .int j => some (.sh (.int (i - j)))
  | _, _ => none
def mulOk (i j : Int) : Bool := !((decide (Builtin.Int.intBits i > shortFactorBits) && decide (Builtin.Int.intBits j > shortFactorBits) && Builtin.Int.intTooBig (Builtin.Int.intBits i + Builtin.Int.intBits j)))
def mulG : PyData → PyData → Option Rv
  | .int i, .int j => if mulOk i j = true then some (.sh (.int (i * j))) else none
  | .list xs, .int k => if -(2 ^ 63) ≤ k ∧ k < 2 ^ 63 ∧ xs.length * k.toNat ≤ sizeLine then some (.fr (List.replicate k.toNat xs).flatten) else none
  | .tuple xs, .int k => if xs ≠ [] ∧ 2 ≤ k ∧ k ≤ 1000 ∧ xs.length ≤ 1000 then some (.sh (.tuple (List.replicate k.toNat xs).flatten)) else none
  | _, _ => none
def fdivG : PyData → PyData → Option Rv
  | .int i, .int j => if j ≠ 0 ∧ Builtin.divisionGoesByPylong i j = false then some (.sh (.int (i.fdiv j))) else none
  | _, _ => none
@[simp] def modG : PyData → PyData → Option Rv
  | .int i, .int j => if j ≠ 0 then some (.sh (.int (i.fmod j))) else none
  | _, _ => none
def powG : PyData → PyData → Option Rv
  | .int i, .int j => if 0 ≤ j ∧ j ≤ 1000000 ∧ i.natAbs < 2 ^ 64 then some (.sh (.int (i ^ j.toNat))) else none
  | _, _ => none
section
variable {X : Cx}
theorem op2_intI {f : Value → Value → Sem Value} {C : Int → Int → Prop} {k : Int → Int → Int} {g : PyData → PyData → Option Rv} (h : OpR X f (rI C fun i j => .int (k i j)))
    (hg : ∀ a b r, g a b = some r → ∃ i j, a = .int i ∧ b = .int j ∧ C i j ∧ r = .sh (.int (k i j))) : Op2 X f g := by
  refine ⟨_, h, fun x y H G d1 d2 res Q s p1 p2 e q => ?_⟩
  obtain ⟨i, j, rfl, rfl, c, rfl⟩ := hg _ _ _ e
  exact ⟨i, j, dq_int p1, dq_int p2, c, q H G _ (.refl s) (.int _)⟩
theorem op2_int0 {f : Value → Value → Sem Value} {k : Int → Int → V} {kd : Int → Int → PyData} {g : PyData → PyData → Option Rv} (h : OpR X f (rI0 k)) (hk : ∀ (K : PySem.W.Frag) (G : Hp) i j, Dq K G (k i j) (kd i j))
    (hg : ∀ a b r, g a b = some r → ∃ i j, a = .int i ∧ b = .int j ∧ r = .sh (kd i j)) : Op2 X f g := by
  refine ⟨_, h, fun x y H G d1 d2 res Q s p1 p2 e q => ?_⟩
  obtain ⟨i, j, rfl, rfl, rfl⟩ := hg _ _ _ e
  exact ⟨i, j, dq_int p1, dq_int p2, q H G _ (.refl s) (hk _ _ _ _)⟩
theorem op2_add : Op2 X (binaryOp .Add) addG := by
  let g1 : PyData → PyData → Option Rv := fun a b => match a, b with
    | .int i, .int j => some (.sh (.int (i + j)))
    | _, _ => none
  let g2 : PyData → PyData → Option Rv := fun a b => match a, b with
    | .str x, .str y => if x.length + y.length ≤ sizeLine then some (.sh (.str (x ++ y))) else none
    | _, _ => none
  let g3 : PyData → PyData → Option Rv := fun a b => match a, b with
    | .tuple xs, .tuple ys => if xs.length + ys.length ≤ sizeLine then some (.sh (.tuple (xs ++ ys))) else none
    | _, _ => none
  let g4 : PyData → PyData → Option Rv := fun a b => match a, b with
    | .list xs, .list ys => if xs.length + ys.length ≤ sizeLine then some (.fr (xs ++ ys)) else none
    | _, _ => none
  have h1 : Op2 X (binaryOp .Add) g1 := op2_int0 op_add (fun _ _ _ _ => .int _) fun a b r e => by
    cases a <;> cases b <;> simp_all [g1]
  have h2 : Op2 X (binaryOp .Add) g2 := ⟨_, op_add_str, fun x y H G d1 d2 res Q s p1 p2 e q => by
    cases d1 <;> cases d2 <;> simp [g2] at e
    obtain ⟨hz, rfl⟩ := e
    exact ⟨_, _, dq_str p1, dq_str p2, hz, q H G _ (.refl s) (.str _)⟩⟩
  have h3 : Op2 X (binaryOp .Add) g3 := ⟨_, op_catA, fun x y H G d1 d2 res Q s p1 p2 e q => by
    cases d1 <;> cases d2 <;> simp [g3] at e
    obtain ⟨hz, rfl⟩ := e
    obtain ⟨a, xs, rfl, t1, a1⟩ := dq_tup p1
    obtain ⟨b, ys, rfl, t2, a2⟩ := dq_tup p2
    refine ⟨a, b, xs, ys, rfl, rfl, s.sqT t1, s.sqT t2, by rw [a1.length, a2.length]; exact hz, fun z => ?_, fun _ z => ?_, fun _ _ p hp => ?_⟩
    · subst z
      cases a1
      exact q H G _ (.refl s) (.tup t2 a2)
    · subst z
      cases a2
      rw [List.append_nil] at q
      exact q H G _ (.refl s) (.tup t1 a1)
    · have := rvTup s hp (a1.append a2)
      exact q _ _ _ this.1 this.2⟩
  have h4 : Op2 X (binaryOp .Add) g4 := ⟨_, op_cat, fun x y H G d1 d2 res Q s p1 p2 e q => by
    cases d1 <;> cases d2 <;> simp [g4] at e
    obtain ⟨hz, rfl⟩ := e
    obtain ⟨a, xs, rfl, t1, a1⟩ := p1
    obtain ⟨b, ys, rfl, t2, a2⟩ := p2
    refine ⟨a, b, xs, ys, rfl, rfl, t1, t2, by rw [a1.length, a2.length]; exact hz, fun p hp => ?_⟩
    have := rvFresh s hp (a1.append a2)
    exact q _ _ _ this.1 this.2⟩
  refine ((h1.or h2).or (h3.or h4)).weak fun a b r e => ?_
  cases a <;> cases b <;> simp_all [addG, g1, g2, g3, g4]
theorem op2_sub : Op2 X (binaryOp .Sub) subG := op2_int0 op_sub (fun _ _ _ _ => .int _) fun a b r e => by
  cases a <;> cases b <;> simp_all [subG]
theorem op2_fdiv : Op2 X (binaryOp .FloorDiv) fdivG :=
  op2_intI (C := fun i j => j ≠ 0 ∧ Builtin.divisionGoesByPylong i j = false) (opI fun _ _ _ _ _ _ _ hc q => floordiv_int hc.1 q (.inl hc.2)) fun a b r e => by
    cases a <;> cases b <;> simp [fdivG] at e
    obtain ⟨hz, rfl⟩ := e
    exact ⟨_, _, rfl, rfl, hz, rfl⟩
theorem op2_mod : Op2 X (binaryOp .Mod) modG :=
  op2_intI op_modN fun a b r e => by
    cases a <;> cases b <;> simp [modG] at e
    obtain ⟨hz, rfl⟩ := e
    exact ⟨_, _, rfl, rfl, hz, rfl⟩
theorem op2_pow : Op2 X (binaryOp .Pow) powG :=
  op2_intI op_pow fun a b r e => by
    cases a <;> cases b <;> simp [powG] at e
    obtain ⟨hz, rfl⟩ := e
    exact ⟨_, _, rfl, rfl, ⟨hz.1, hz.2.1, by simpa using hz.2.2⟩, rfl⟩
theorem mulOk_ok {i j : Int} (h : mulOk i j = true) : IntMulOk i j := by
  unfold mulOk at h
  unfold IntMulOk
  intro z
  rw [z] at h
  cases h
theorem op2_mul : Op2 X (binaryOp .Mult) mulG := by
  let g1 : PyData → PyData → Option Rv := fun a b => match a, b with
    | .int i, .int j => if mulOk i j = true then some (.sh (.int (i * j))) else none
    | _, _ => none
  let g2 : PyData → PyData → Option Rv := fun a b => match a, b with
    | .list xs, .int k => if -(2 ^ 63) ≤ k ∧ k < 2 ^ 63 ∧ xs.length * k.toNat ≤ sizeLine then some (.fr (List.replicate k.toNat xs).flatten) else none
    | _, _ => none
  let g3 : PyData → PyData → Option Rv := fun a b => match a, b with
    | .tuple xs, .int k => if xs ≠ [] ∧ 2 ≤ k ∧ k ≤ 1000 ∧ xs.length ≤ 1000 then some (.sh (.tuple (List.replicate k.toNat xs).flatten)) else none
    | _, _ => none
  have h1 : Op2 X (binaryOp .Mult) g1 := op2_intI (C := fun i j => mulOk i j = true) (opI fun _ _ _ _ _ _ _ hc q => mul_int q (mulOk_ok hc)) fun a b r e => by
    cases a <;> cases b <;> simp [g1] at e
    obtain ⟨hz, rfl⟩ := e
    exact ⟨_, _, rfl, rfl, hz, rfl⟩
  have h2 : Op2 X (binaryOp .Mult) g2 := ⟨_, op_rep, fun x y H G d1 d2 res Q s p1 p2 e q => by
    cases d1 <;> cases d2 <;> simp only [g2] at e <;> try cases e
    split at e <;> cases e
    rename_i es k hz
    obtain ⟨a, xs, rfl, t1, a1⟩ := p1
    refine ⟨a, _, xs, rfl, dq_int p2, t1, hz.1, hz.2.1, by rw [a1.length]; exact hz.2.2, fun p hp => ?_⟩
    have := rvFresh s hp (a1.rep k.toNat)
    exact q _ _ _ this.1 this.2⟩
  have h3 : Op2 X (binaryOp .Mult) g3 := ⟨_, op_repT, fun x y H G d1 d2 res Q s p1 p2 e q => by
    cases d1 <;> cases d2 <;> simp only [g3] at e <;> try cases e
    split at e <;> cases e
    rename_i es k hz
    obtain ⟨a, xs, rfl, t1, a1⟩ := dq_tup p1
    refine ⟨a, _, xs, rfl, dq_int p2, s.sqT t1, fun z => ?_, hz.2.1, hz.2.2.1, by rw [a1.length]; exact hz.2.2.2, fun p hp => ?_⟩
    · subst z
      cases a1
      exact hz.1 rfl
    · have := rvTup s hp (a1.rep k.toNat)
      exact q _ _ _ this.1 this.2⟩
  refine (h1.or (h2.or h3)).weak fun a b r e => ?_
  cases a <;> cases b <;> simp_all [mulG, g1, g2, g3]
end

/-! ### comparisons -/
def eqOk (a b : PyData) : Bool := a.canLay0 && b.canLay0 && decide (min a.depth b.depth ≤ 64)
def eqG (a b : PyData) : Option Rv := if eqOk a b = true then some (.sh (.bool (PyData.eqv a b))) else none
def neG (a b : PyData) : Option Rv := if eqOk a b = true then some (.sh (.bool (!PyData.eqv a b))) else none
@[simp] def ltG : PyData → PyData → Option Rv
  | .int i, .int j => some (.sh (.bool (decide (i < j))))
  | _, _ => none
@[simp] def leG : PyData → PyData → Option Rv
  | .int i, .int j => some (.sh (.bool (decide (i ≤ j))))
  | _, _ => none
@[simp] def gtG : PyData → PyData → Option Rv
  | .int i, .int j => some (.sh (.bool (decide (j < i))))
  | _, _ => none
@[simp] def geG : PyData → PyData → Option Rv
  | .int i, .int j => some (.sh (.bool (decide (j ≤ i))))
  | _, _ => none
@[simp] def isNoneD : PyData → Bool
  | .none => true
  | _ => false
@[simp] def isG : PyData → PyData → Option Rv
  | a, .none => some (.sh (.bool (isNoneD a)))
  | .bool a, .bool b => some (.sh (.bool (decide (a = b))))
  | _, _ => none
@[simp] def isNotG : PyData → PyData → Option Rv
  | a, .none => some (.sh (.bool (!isNoneD a)))
  | .bool a, .bool b => some (.sh (.bool (!decide (a = b))))
  | _, _ => none
def inOk (a : PyData) (ds : List PyData) : Bool := a.canLay0 && PyData.canLayAll0 ds && decide (a.depth ≤ 60)
def inG : PyData → PyData → Option Rv
  | a, .list ds => if inOk a ds = true then some (.sh (.bool (ds.any fun z => PyData.eqv z a))) else none
  | a, .tuple ds => if inOk a ds = true then some (.sh (.bool (ds.any fun z => PyData.eqv z a))) else none
  | _, _ => none
def notInG : PyData → PyData → Option Rv
  | a, .list ds => if inOk a ds = true then some (.sh (.bool (!ds.any fun z => PyData.eqv z a))) else none
  | a, .tuple ds => if inOk a ds = true then some (.sh (.bool (!ds.any fun z => PyData.eqv z a))) else none
  | _, _ => none
section
variable {X : Cx}
def rRd (K : PySem.W.Frag) (ok : PyData → PyData → Bool) (k : PyData → PyData → Bool) : R2 := fun x y H Q => ∃ d e, Dp K H x d ∧ Dp K H y e ∧ ok d e = true ∧ Q (.bl (k d e)) H
theorem op2_rd {f : Value → Value → Sem Value} {ok k : PyData → PyData → Bool} (h : OpR X f (rRd X.K ok k)) (hc : ∀ a b, ok a b = true → a.canLay0 = true ∧ b.canLay0 = true) :
    Op2 X f (fun a b => if ok a b = true then some (.sh (.bool (k a b))) else none) := by
  refine ⟨_, h, fun x y H G d1 d2 res Q s p1 p2 e q => ?_⟩
  simp only at e
  split at e
  · rename_i hok
    cases e
    have c := hc _ _ hok
    exact ⟨d1, d2, canLay_dp _ c.1 _ (Pk.dq s p1), canLay_dp _ c.2 _ (Pk.dq s p2), hok, q H G _ (.refl s) (.bl _)⟩
  · cases e
theorem eqOk_c (a b : PyData) (h : eqOk a b = true) : a.canLay0 = true ∧ b.canLay0 = true := by
  unfold eqOk at h
  simp only [Bool.and_eq_true] at h
  exact h.1
theorem op2_eq (hu : X.A.units + 100 < cLine) : Op2 X (compareOp .Eq) eqG := by
  refine op2_rd (fun pins s σ H x y v u Q I rx ry h => ?_) eqOk_c
  obtain ⟨d, e, hd, he, ok, q⟩ := h
  obtain ⟨as, r1⟩ := Dp.reads I d x v hd rx
  obtain ⟨bs, r2⟩ := Dp.reads I e y u he ry
  simp only [eqOk, Bool.and_eq_true, decide_eq_true_eq] at ok
  exact SeqAt.compareEq_reads r1 r2 ok.1.1 ok.1.2 (by omega) ⟨.bl _, H, I, rfl, q⟩
theorem op2_ne (hu : X.A.units + 100 < cLine) : Op2 X (compareOp .NotEq) neG := by
  refine op2_rd (fun pins s σ H x y v u Q I rx ry h => ?_) eqOk_c
  obtain ⟨d, e, hd, he, ok, q⟩ := h
  obtain ⟨as, r1⟩ := Dp.reads I d x v hd rx
  obtain ⟨bs, r2⟩ := Dp.reads I e y u he ry
  simp only [eqOk, Bool.and_eq_true, decide_eq_true_eq] at ok
  exact SeqAt.compareNe_reads r1 r2 ok.1.1 ok.1.2 (by omega) ⟨.bl _, H, I, rfl, q⟩
theorem op2_lt : Op2 X (compareOp .Lt) ltG := op2_int0 op_lt (fun _ _ _ _ => .bl _) fun a b r e => by
  cases a <;> cases b <;> simp_all [ltG]
theorem op2_le : Op2 X (compareOp .LtE) leG := op2_int0 op_le (fun _ _ _ _ => .bl _) fun a b r e => by
  cases a <;> cases b <;> simp_all [leG]
theorem op2_gt : Op2 X (compareOp .Gt) gtG := op2_int0 op_gt (fun _ _ _ _ => .bl _) fun a b r e => by
  cases a <;> cases b <;> simp_all [gtG]
theorem op2_ge : Op2 X (compareOp .GtE) geG := op2_int0 op_ge (fun _ _ _ _ => .bl _) fun a b r e => by
  cases a <;> cases b <;> simp_all [geG]
theorem isNone_dq {K : PySem.W.Frag} {H G : Hp} {v : V} {d : PyData} (h : Pk K H G v d) : decide (v = .non) = isNoneD d := by
  cases d with
  | list ds => obtain ⟨a, xs, rfl, _⟩ := h; rfl
  | none => cases dq_non h; rfl
  | bool b => cases dq_bl h; rfl
  | int b => cases dq_int h; rfl
  | str b => cases dq_str h; rfl
  | tuple ds => obtain ⟨a, xs, rfl, _⟩ := dq_tup h; rfl
  | dict kvs =>
    cases (show Dq K G v (.dict kvs) from h)
    rfl
theorem op2_is : Op2 X (compareOp .Is) isG := by
  let g1 : PyData → PyData → Option Rv := fun a b => match b with
    | .none => some (.sh (.bool (isNoneD a)))
    | _ => none
  let g2 : PyData → PyData → Option Rv := fun a b => match a, b with
    | .bool a, .bool b => some (.sh (.bool (decide (a = b))))
    | _, _ => none
  have h1 : Op2 X (compareOp .Is) g1 := ⟨_, op_isN, fun x y H G d1 d2 res Q s p1 p2 e q => by
    cases d2 <;> simp [g1] at e
    subst e
    refine ⟨dq_non p2, ?_⟩
    rw [isNone_dq p1]
    exact q H G _ (.refl s) (.bl _)⟩
  have h2 : Op2 X (compareOp .Is) g2 := ⟨_, op_isBl, fun x y H G d1 d2 res Q s p1 p2 e q => by
    cases d1 <;> cases d2 <;> simp [g2] at e
    subst e
    exact ⟨_, _, dq_bl p1, dq_bl p2, q H G _ (.refl s) (.bl _)⟩⟩
  refine (h1.or h2).weak fun a b r e => ?_
  cases a <;> cases b <;> simp_all [isG, g1, g2]
theorem op2_isNot : Op2 X (compareOp .IsNot) isNotG := by
  let g1 : PyData → PyData → Option Rv := fun a b => match b with
    | .none => some (.sh (.bool (!isNoneD a)))
    | _ => none
  let g2 : PyData → PyData → Option Rv := fun a b => match a, b with
    | .bool a, .bool b => some (.sh (.bool (!decide (a = b))))
    | _, _ => none
  have h1 : Op2 X (compareOp .IsNot) g1 := ⟨_, op_notN, fun x y H G d1 d2 res Q s p1 p2 e q => by
    cases d2 <;> simp [g1] at e
    subst e
    refine ⟨dq_non p2, ?_⟩
    rw [isNone_dq p1]
    exact q H G _ (.refl s) (.bl _)⟩
  have h2 : Op2 X (compareOp .IsNot) g2 := ⟨_, op_notBl, fun x y H G d1 d2 res Q s p1 p2 e q => by
    cases d1 <;> cases d2 <;> simp [g2] at e
    subst e
    exact ⟨_, _, dq_bl p1, dq_bl p2, q H G _ (.refl s) (.bl _)⟩⟩
  refine (h1.or h2).weak fun a b r e => ?_
  cases a <;> cases b <;> simp_all [isNotG, g1, g2]
def rInQ (K : PySem.W.Frag) (neg : Bool) : R2 := fun x y H Q => ∃ d e ds, Dp K H x d ∧ Dp K H y e ∧ (e = .list ds ∨ e = .tuple ds) ∧ inOk d ds = true ∧ Q (.bl (if neg = true then !(ds.any fun z => PyData.eqv z d) else ds.any fun z => PyData.eqv z d)) H
theorem opR_in (hu : X.A.units + 100 < cLine) : OpR X (compareOp .In) (rInQ X.K false) := by
  intro pins s σ H x y v u Q I rx ry h
  obtain ⟨d, e, ds, hd, he, hds, ok, q⟩ := h
  obtain ⟨as, r1⟩ := Dp.reads I d x v hd rx
  obtain ⟨bs, r2⟩ := Dp.reads I e y u he ry
  simp only [inOk, Bool.and_eq_true, decide_eq_true_eq] at ok
  rcases hds with rfl | rfl
  · exact SeqAt.in_list_reads r2 r1 ok.1.2 ok.1.1 (by omega) ⟨.bl _, H, I, rfl, q⟩
  · exact SeqAt.in_tuple_reads r2 r1 ok.1.2 ok.1.1 (by omega) ⟨.bl _, H, I, rfl, q⟩
theorem opR_notIn (hu : X.A.units + 100 < cLine) : OpR X (compareOp .NotIn) (rInQ X.K true) := by
  intro pins s σ H x y v u Q I rx ry h
  obtain ⟨d, e, ds, hd, he, hds, ok, q⟩ := h
  obtain ⟨as, r1⟩ := Dp.reads I d x v hd rx
  obtain ⟨bs, r2⟩ := Dp.reads I e y u he ry
  simp only [inOk, Bool.and_eq_true, decide_eq_true_eq] at ok
  rcases hds with rfl | rfl
  · exact SeqAt.notIn_list_reads r2 r1 ok.1.2 ok.1.1 (by omega) ⟨.bl _, H, I, rfl, q⟩
  · exact SeqAt.notIn_tuple_reads r2 r1 ok.1.2 ok.1.1 (by omega) ⟨.bl _, H, I, rfl, q⟩
theorem inOk_c {a : PyData} {ds : List PyData} (h : inOk a ds = true) : a.canLay0 = true ∧ PyData.canLayAll0 ds = true := by
  simp only [inOk, Bool.and_eq_true] at h
  exact h.1
theorem op2_in (hu : X.A.units + 100 < cLine) : Op2 X (compareOp .In) inG := by
  refine ⟨_, opR_in hu, fun x y H G d1 d2 res Q s p1 p2 e q => ?_⟩
  cases d2 <;> simp only [inG] at e <;> try cases e
  all_goals
    split at e <;> cases e
    rename_i ok
    have c := inOk_c ok
    exact ⟨d1, _, _, canLay_dp _ c.1 _ (Pk.dq s p1), canLay_dp _ (by simpa [PyData.canLay0] using c.2) _ (Pk.dq s p2), by simp, ok, q H G _ (.refl s) (.bl _)⟩
theorem op2_notIn (hu : X.A.units + 100 < cLine) : Op2 X (compareOp .NotIn) notInG := by
  refine ⟨_, opR_notIn hu, fun x y H G d1 d2 res Q s p1 p2 e q => ?_⟩
  cases d2 <;> simp only [notInG] at e <;> try cases e
  all_goals
    split at e <;> cases e
    rename_i ok
    have c := inOk_c ok
    exact ⟨d1, _, _, canLay_dp _ c.1 _ (Pk.dq s p1), canLay_dp _ (by simpa [PyData.canLay0] using c.2) _ (Pk.dq s p2), by simp, ok, q H G _ (.refl s) (.bl _)⟩
end
end Cf
/-! Cf, part D: compound expressions, built-ins, methods of lists. -/
namespace Cf
open PySem PySem.Spec PyProof.Rows L2

/-! ### two operands, then a primitive -/
section
variable {X : Cx} {fr : Fr} {a b c : Expr} {Fa Fb Fc : Mo Rv} {pos : Pos}
theorem bin_reads {r : R2} {g : PyData → PyData → Option Rv} (hg : ∀ x y H G d1 d2 res Q, Sub G H → Pk X.K H G x d1 → Pk X.K H G y d2 → g d1 d2 = some res → (∀ H' G' z, Stp H G H' G' → RvNew X.K H H' G' z res → Q z H') → r x y H Q) :
    ∀ σ H Q, tE X.K fr (binF g Fa Fb) σ H Q → tOp r (tE X.K fr Fa) (tE X.K fr Fb) σ H Q := fun σ H Q ⟨env, G, h, w⟩ => by
  refine tE_then h w (fun r1 env1 H1 G1 v1 h1 s1 q1 w1 => ?_) fun c e1 E1 H1 G1 h1 s1 => E1 H1 G1 h1 s1
  obtain ⟨G1', h1', s1', q1'⟩ := hold_ok' h1 q1
  refine tE_then h1' w1 (fun r2 env2 H2 G2 v2 h2 s2 q2 w2 => ?_) fun c e1 E1 H2 G2 h2 s2 => E1 H2 G2 h2 ((s1.trans s1').trans s2)
  obtain ⟨d1, p1, w3⟩ := peek_ok h2 (HeldOk.ok (q1'.mono s2)) (wpM_bind.mp w2)
  obtain ⟨d2, p2, w4⟩ := peek_ok h2 q2 (wpM_bind.mp w3)
  obtain ⟨res, e, qf⟩ := wpM_lift w4
  exact hg v1 v2 H2 G2 d1 d2 res Q h2.sub p1 p2 e fun H' G' z st rn => qf H' G' z (h2.stp st) (((s1.trans s1').trans s2).trans st.mono) (rn.ok h2)
theorem ev_bin {op : Operator} {g : PyData → PyData → Option Rv} (ho : Op2 X (binaryOp op) g) (ha : PEv X fr a Fa) (hb : PEv X fr b Fb) : PEv X fr (.BinOp a op b pos) (binF g Fa Fb) :=
  let ⟨_, hr, hg⟩ := ho
  weakE (pe_op hr ha hb) (bin_reads hg)
theorem ev_cmp {op : CmpOp} {g : PyData → PyData → Option Rv} (ho : Op2 X (compareOp op) g) (ha : PEv X fr a Fa) (hb : PEv X fr b Fb) (hm : behindInMarks op b = false := by first | exact nomark _ | rfl) : PEv X fr (.Compare a [op] [b] pos) (binF g Fa Fb) :=
  let ⟨_, hr, hg⟩ := ho
  weakE (pe_cmpR hr ha hb hm) (bin_reads hg)
/-- a < b <= c -/
def chainF (g g' : PyData → PyData → Option Rv) (F1 F2 F3 : Mo Rv) : Mo Rv := do
  let r1 ← F1
  let r2 ← F2
  let d1 ← peek (hold r1)
  let d2 ← peek (hold r2)
  match g d1 d2 with
  | some (.sh (.bool k)) => (if k = true then (do
      let r3 ← F3
      let d2' ← peek (hold r2)
      let d3 ← peek r3
      liftO (g' d2' d3)) else pure (.sh (.bool false)) : Mo Rv)
  | _ => stuckM
theorem ev_chain {op op' : CmpOp} {g g' : PyData → PyData → Option Rv} (ho : Op2 X (compareOp op) g) (ho' : Op2 X (compareOp op') g') (ha : PEv X fr a Fa) (hb : PEv X fr b Fb) (hc : PEv X fr c Fc)
    (hm : lastMarks [op, op'] [b, c] = false := by with_unfolding_all rfl) : PEv X fr (.Compare a [op, op'] [b, c] pos) (chainF g g' Fa Fb Fc) := by
  obtain ⟨r, hr, hg⟩ := ho
  obtain ⟨r', hr', hg'⟩ := ho'
  refine weakE (pe_chain hr hr' ha hb hc hm) fun σ H Q ⟨env, G, h, w⟩ => ?_
  refine tE_then h w (fun r1 env1 H1 G1 v1 h1 s1 q1 w1 => ?_) fun c e1 E1 H1 G1 h1 s1 => E1 H1 G1 h1 s1
  obtain ⟨G1', h1', s1', q1'⟩ := hold_ok' h1 q1
  refine tE_then h1' w1 (fun r2 env2 H2 G2 v2 h2 s2 q2 w2 => ?_) fun c e1 E1 H2 G2 h2 s2 => E1 H2 G2 h2 ((s1.trans s1').trans s2)
  have sA := (s1.trans s1').trans s2
  obtain ⟨d1, p1, w3⟩ := peek_ok h2 (HeldOk.ok (q1'.mono s2)) (wpM_bind.mp w2)
  obtain ⟨G2', h2', s2', q2'⟩ := hold_ok' h2 q2
  have p1' : Pk X.K H2 G2' v1 d1 := by
    cases d1 with
    | list ds => obtain ⟨l, xs, e, k1, k2⟩ := p1; exact ⟨l, xs, e, k1, Sub.dqAll s2' _ _ k2⟩
    | _ => exact Sub.dq s2' _ _ p1
  obtain ⟨d2, p2, w4⟩ := peek_ok h2' (HeldOk.ok q2') (wpM_bind.mp w3)
  cases e : g d1 d2 with
  | none => rw [e] at w4; exact w4.elim
  | some res =>
    rw [e] at w4
    cases res with
    | fr _ => exact w4.elim
    | sl _ => exact w4.elim
    | sh d =>
      cases d with
      | bool k =>
        refine hg v1 v2 H2 G2' d1 d2 _ _ h2'.sub p1' p2 e fun H3 G3 z st rn => ?_
        have hz := dq_bl (show Dq X.K G3 z (.bool k) from rn)
        subst hz
        have h3 := h2'.stp st
        refine ⟨k, rfl, ?_⟩
        cases k with
        | false =>
          replace w4 := show wpM (if false = true then _ else _) env2 _ _ from w4
          rw [if_neg Bool.false_ne_true] at w4 ⊢
          exact w4 H3 G3 _ h3 ((sA.trans s2').trans st.mono) (.bl false)
        | true =>
          replace w4 := show wpM (if true = true then _ else _) env2 _ _ from w4
          rw [if_pos rfl] at w4 ⊢
          refine tE_then h3 w4 (fun r3 env4 H4 G4 v3 h4 s4 q4 w5 => ?_) fun c e1 E1 H4 G4 h4 s4 => E1 H4 G4 h4 (((sA.trans s2').trans st.mono).trans s4)
          obtain ⟨d2', p2', w6⟩ := peek_ok h4 (HeldOk.ok ((q2'.mono st.mono).mono s4)) (wpM_bind.mp w5)
          obtain ⟨d3, p3, w7⟩ := peek_ok h4 q4 (wpM_bind.mp w6)
          obtain ⟨res, e', qf⟩ := wpM_lift w7
          exact hg' v2 v3 H4 G4 d2' d3 res Q h4.sub p2' p3 e' fun H' G' z st' rn' => qf H' G' z (h4.stp st') ((((sA.trans s2').trans st.mono).trans s4).trans st'.mono) (rn'.ok h4)
      | _ => exact w4.elim

/-! ### bools -/
/-- the value as a bool -/
def boolF (F : Mo Rv) : Mo Bool := do
  let r ← F
  match r with
  | .sh (.bool b) => pure b
  | _ => stuckM
def ofB (F : Mo Bool) : Mo Rv := do
  let b ← F
  pure (.sh (.bool b))
def andF (F1 F2 : Mo Bool) : Mo Bool := do
  let b ← F1
  if b = true then F2 else pure false
def orF (F1 F2 : Mo Bool) : Mo Bool := do
  let b ← F1
  if b = true then pure true else F2
def notF (F : Mo Bool) : Mo Bool := do
  let b ← F
  pure (!b)
/-- a value that is a bool -/
def PBv (X : Cx) (fr : Fr) (e : Expr) (F : Mo Bool) : Prop := PEv X fr e (ofB F)
theorem wpM_boolF {α : Type} {F : Mo Rv} {k : Bool → Mo α} {env : Fv} {Q : α → Fv → Prop} {E : Nat → Fv → Prop} (w : wpM (boolF F >>= k) env Q E) : wpM (F >>= fun r => match r with
    | .sh (.bool b) => k b
    | _ => stuckM) env Q E := by
  unfold boolF at w
  rw [wpM_bind, wpM_bind] at w
  rw [wpM_bind]
  refine wpM_mono w (fun r e' h => ?_) fun _ _ h => h
  cases r with
  | sh d =>
    cases d with
    | bool b => exact h
    | _ => exact h.elim
  | _ => exact h.elim
theorem tE_bool {σ : L2.St} {H : Hp} {Q : VK} {F : Mo Bool} {env : Fv} {G : Hp} {α : Type} {k : Bool → Mo α} {Qe : α → Fv → Prop} {Ee : Nat → Fv → Prop} (h : SR X.K fr env σ H G) (w : wpM (F >>= k) env Qe Ee)
    (hk : ∀ b env1 H1 G1, SR X.K fr env1 σ H1 G1 → Sub G G1 → wpM (k b) env1 Qe Ee → Q (.bl b) H1)
    (he : ∀ c env1, Ee c env1 → ∀ H1 G1, SR X.K fr env1 σ H1 G1 → Sub G G1 → fr.W c H1) : tE X.K fr (ofB F) σ H Q := by
  refine ⟨env, G, h, ?_⟩
  unfold ofB
  rw [wpM_bind]
  rw [wpM_bind] at w
  refine wpM_mono w (fun b e' w' => ?_) fun c e' w' H' G' h' s' => he c e' w' H' G' h' s'
  show ∀ H' G' v, _
  intro H' G' v h' s' q
  have hv : v = .bl b := dq_bl (show Dq X.K G' v (.bool b) from q)
  subst hv
  exact hk b e' H' G' h' s' w'
theorem ev_toB {e : Expr} {F : Mo Rv} (h : PEv X fr e F) : PBv X fr e (boolF F) := weakE h fun σ H Q ⟨env, G, h, w⟩ => by
  refine ⟨env, G, h, ?_⟩
  unfold ofB at w
  have w' := wpM_boolF w
  rw [wpM_bind] at w'
  refine wpM_mono w' (fun r e' q => ?_) fun c e' q => q
  cases r with
  | sh d =>
    cases d with
    | bool b => exact q
    | _ => exact q.elim
  | _ => exact q.elim
theorem eb_one {op : BoolOp} {F : Mo Bool} (h : PBv X fr a F) : PBv X fr (.BoolOp op [a] pos) F := pe_one h
theorem eb_and {F1 F2 : Mo Bool} {rest : List Expr} (ha : PBv X fr a F1) (hb : PBv X fr (.BoolOp .And (b :: rest) pos) F2) : PBv X fr (.BoolOp .And (a :: b :: rest) pos) (andF F1 F2) :=
  weakE (pe_and ha hb) fun σ H Q ⟨env, G, h, w⟩ => by
    unfold ofB andF at w
    rw [wpM_bind] at w
    refine tE_bool h w (fun c env1 H1 G1 h1 s1 w1 => ⟨c, rfl, ?_⟩) fun c e1 E1 H1 G1 h1 s1 => E1 H1 G1 h1 s1
    cases c with
    | true =>
      rw [if_pos rfl] at w1 ⊢
      refine tE_bool h1 (wpM_bind.mpr w1) (fun c env2 H2 G2 h2 s2 w2 => ?_) fun c e1 E1 H2 G2 h2 s2 => E1 H2 G2 h2 (s1.trans s2)
      exact w2 H2 G2 _ h2 (s1.trans s2) (.bl c)
    | false =>
      rw [if_neg Bool.false_ne_true] at w1 ⊢
      exact w1 H1 G1 _ h1 s1 (.bl false)
theorem eb_or {F1 F2 : Mo Bool} {rest : List Expr} (ha : PBv X fr a F1) (hb : PBv X fr (.BoolOp .Or (b :: rest) pos) F2) : PBv X fr (.BoolOp .Or (a :: b :: rest) pos) (orF F1 F2) :=
  weakE (pe_or ha hb) fun σ H Q ⟨env, G, h, w⟩ => by
    unfold ofB orF at w
    rw [wpM_bind] at w
    refine tE_bool h w (fun c env1 H1 G1 h1 s1 w1 => ⟨c, rfl, ?_⟩) fun c e1 E1 H1 G1 h1 s1 => E1 H1 G1 h1 s1
    cases c with
    | true =>
      rw [if_pos rfl] at w1 ⊢
      exact w1 H1 G1 _ h1 s1 (.bl true)
    | false =>
      rw [if_neg Bool.false_ne_true] at w1 ⊢
      refine tE_bool h1 (wpM_bind.mpr w1) (fun c env2 H2 G2 h2 s2 w2 => ?_) fun c e1 E1 H2 G2 h2 s2 => E1 H2 G2 h2 (s1.trans s2)
      exact w2 H2 G2 _ h2 (s1.trans s2) (.bl c)
theorem eb_not {F : Mo Bool} (ha : PBv X fr a F) : PBv X fr (.UnaryOp .Not a pos) (notF F) :=
  weakE (pe_not ha) fun σ H Q ⟨env, G, h, w⟩ => by
    unfold ofB notF at w
    rw [wpM_bind] at w
    refine tE_bool h w (fun c env1 H1 G1 h1 s1 w1 => ⟨c, rfl, ?_⟩) fun c e1 E1 H1 G1 h1 s1 => E1 H1 G1 h1 s1
    exact w1 H1 G1 _ h1 s1 (.bl _)
theorem ev_ofB {e : Expr} {F : Mo Bool} (h : PBv X fr e F) : PEv X fr e (ofB F) := h

/-! ### tests -/
theorem et_val {e : Expr} {F : Mo Bool} (h : PBv X fr e F) (he : ∀ whole, isTrue e X.env whole = (do let v ← whole; standAt e.pos; holding [v] (truthy v)) := by intro _; rfl) : PTv X fr e F :=
  weakT (pt_val h he) fun σ H Q ⟨env, G, h, w⟩ => tE_bool h (wpM_bind.mpr (wpM_mono w (fun b e' q => (wpM_pure (a := b)).mpr q) fun _ _ q => q))
    (fun b env1 H1 G1 h1 s1 w1 => ⟨b, rfl, w1 H1 G1 h1 s1⟩) fun c e1 E1 H1 G1 h1 s1 => E1 H1 G1 h1 s1
theorem et_of {e : Expr} {F : Mo Bool} (h : PWv X fr e F) : PTv X fr e F := PW.pt h
theorem ew_and1 {F : Mo Bool} (h : PTv X fr a F) : PWv X fr (.BoolOp .And [a] pos) F := pw_and1 h
theorem ew_or1 {F : Mo Bool} (h : PTv X fr a F) : PWv X fr (.BoolOp .Or [a] pos) F := pw_or1 h
theorem ew_and {F1 F2 : Mo Bool} {rest : List Expr} (ha : PTv X fr a F1) (hb : PWv X fr (.BoolOp .And (b :: rest) pos) F2) : PWv X fr (.BoolOp .And (a :: b :: rest) pos) (andF F1 F2) :=
  weakW (pw_and ha hb) fun σ H Q ⟨env, G, h, w⟩ => by
    unfold andF at w
    refine tT_then h w (fun c env1 H1 G1 h1 s1 w1 => ?_) fun c e1 E1 H1 G1 h1 s1 => E1 H1 G1 h1 s1
    cases c with
    | true =>
      rw [if_pos rfl] at w1 ⊢
      exact ⟨env1, G1, h1, wpM_mono w1 (fun b e' q H2 G2 h2 s2 => q H2 G2 h2 (s1.trans s2)) fun c e' q H2 G2 h2 s2 => q H2 G2 h2 (s1.trans s2)⟩
    | false =>
      rw [if_neg Bool.false_ne_true] at w1 ⊢
      exact w1 H1 G1 h1 s1
theorem ew_or {F1 F2 : Mo Bool} {rest : List Expr} (ha : PTv X fr a F1) (hb : PWv X fr (.BoolOp .Or (b :: rest) pos) F2) : PWv X fr (.BoolOp .Or (a :: b :: rest) pos) (orF F1 F2) :=
  weakW (pw_or ha hb) fun σ H Q ⟨env, G, h, w⟩ => by
    unfold orF at w
    refine tT_then h w (fun c env1 H1 G1 h1 s1 w1 => ?_) fun c e1 E1 H1 G1 h1 s1 => E1 H1 G1 h1 s1
    cases c with
    | true =>
      rw [if_pos rfl] at w1 ⊢
      exact w1 H1 G1 h1 s1
    | false =>
      rw [if_neg Bool.false_ne_true] at w1 ⊢
      exact ⟨env1, G1, h1, wpM_mono w1 (fun b e' q H2 G2 h2 s2 => q H2 G2 h2 (s1.trans s2)) fun c e' q H2 G2 h2 s2 => q H2 G2 h2 (s1.trans s2)⟩
theorem et_not {F : Mo Bool} (ha : PTv X fr a F) : PTv X fr (.UnaryOp .Not a pos) (notF F) :=
  weakT (pt_not ha) fun σ H Q ⟨env, G, h, w⟩ => by
    unfold notF at w
    exact tT_then h w (fun c env1 H1 G1 h1 s1 w1 => w1 H1 G1 h1 s1) fun c e1 E1 H1 G1 h1 s1 => E1 H1 G1 h1 s1
def ifF {α : Type} (T : Mo Bool) (F1 F2 : Mo α) : Mo α := do
  let b ← T
  if b = true then F1 else F2
theorem ev_ifExp {c : Expr} {T : Mo Bool} (hc : PTv X fr c T) (ha : PEv X fr a Fa) (hb : PEv X fr b Fb) : PEv X fr (.IfExp c a b pos) (ifF T Fa Fb) :=
  weakE (pe_ifExp hc ha hb) fun σ H Q ⟨env, G, h, w⟩ => by
    unfold ifF at w
    refine tT_then h w (fun c env1 H1 G1 h1 s1 w1 => ?_) fun c e1 E1 H1 G1 h1 s1 => E1 H1 G1 h1 s1
    cases c with
    | true =>
      rw [if_pos rfl] at w1 ⊢
      exact ⟨env1, G1, h1, wpM_mono w1 (fun b e' q H2 G2 v h2 s2 => q H2 G2 v h2 (s1.trans s2)) fun c e' q H2 G2 h2 s2 => q H2 G2 h2 (s1.trans s2)⟩
    | false =>
      rw [if_neg Bool.false_ne_true] at w1 ⊢
      exact ⟨env1, G1, h1, wpM_mono w1 (fun b e' q H2 G2 v h2 s2 => q H2 G2 v h2 (s1.trans s2)) fun c e' q H2 G2 h2 s2 => q H2 G2 h2 (s1.trans s2)⟩
end

/-! ### argument lists, displays -/
def consF (F : Mo Rv) (Fs : Mo (List Rv)) : Mo (List Rv) := do
  let r ← F
  let rs ← Fs
  pure (hold r :: rs)
def nilF : Mo (List Rv) := pure []
def tupF (Fs : Mo (List Rv)) : Mo Rv := do
  let rs ← Fs
  let ds ← forces rs
  if ds.length ≤ sizeLine then pure (.sh (.tuple ds)) else stuckM
def lstF (Fs : Mo (List Rv)) : Mo Rv := do
  let rs ← Fs
  let ds ← forces rs
  if ds.length ≤ sizeLine then pure (.fr ds) else stuckM
section
variable {X : Cx} {fr : Fr} {e : Expr} {es : List Expr} {F : Mo Rv} {Fs : Mo (List Rv)} {pos : Pos}
theorem ea_nil : PAv X fr [] nilF := weakA pa_nil fun σ H Q ⟨env, G, h, w⟩ => w H G [] h .refl trivial
theorem ea_cons (he : PEv X fr e F) (hr : PAv X fr es Fs) (hs : starEach (e :: es) X.env = (false, eval e X.env) :: starEach es X.env := by rfl) : PAv X fr (e :: es) (consF F Fs) :=
  weakA (pa_cons he hr hs) fun σ H Q ⟨env, G, h, w⟩ => by
    unfold consF at w
    refine tE_then h w (fun r1 env1 H1 G1 v1 h1 s1 q1 w1 => ?_) fun c e1 E1 H1 G1 h1 s1 => E1 H1 G1 h1 s1
    obtain ⟨G1', h1', s1', q1'⟩ := hold_ok' h1 q1
    refine tA_then h1' w1 (fun rs env2 H2 G2 vs h2 s2 q2 w2 => ?_) fun c e1 E1 H2 G2 h2 s2 => E1 H2 G2 h2 ((s1.trans s1').trans s2)
    exact w2 H2 G2 _ h2 ((s1.trans s1').trans s2) (rvsOk_cons.mpr ⟨q1'.mono s2, q2⟩)
theorem ev_tup {x1 : Nat} (h : PAv X fr es Fs) : PEv X fr (.Tuple es x1 pos) (tupF Fs) :=
  weakE (pe_tup h) fun σ H Q ⟨env, G, h, w⟩ => by
    unfold tupF at w
    refine tA_then h w (fun rs env1 H1 G1 vs h1 s1 q1 w1 => ?_) fun c e1 E1 H1 G1 h1 s1 => E1 H1 G1 h1 s1
    obtain ⟨ds, env2, G2, h2, s2, d2, w2⟩ := forces_ok h1 q1 (wpM_bind.mp w1)
    split at w2
    · rename_i hz
      refine ⟨by rw [d2.length]; exact hz, fun p hp => ?_⟩
      have := rvTup h2.sub hp d2
      exact w2 _ _ _ (h2.stp this.1) ((s1.trans s2).trans this.1.mono) (this.2.ok h2)
    · exact w2.elim
theorem ev_lst (h : PAv X fr es Fs) : PEv X fr (.List es pos) (lstF Fs) :=
  weakE (pe_lst h) fun σ H Q ⟨env, G, h, w⟩ => by
    unfold lstF at w
    refine tA_then h w (fun rs env1 H1 G1 vs h1 s1 q1 w1 => ?_) fun c e1 E1 H1 G1 h1 s1 => E1 H1 G1 h1 s1
    obtain ⟨ds, env2, G2, h2, s2, d2, w2⟩ := forces_ok h1 q1 (wpM_bind.mp w1)
    split at w2
    · rename_i hz
      refine ⟨by rw [d2.length]; exact hz, fun p hp => ?_⟩
      have := rvFresh h2.sub hp d2
      exact w2 _ _ _ (h2.stp this.1) ((s1.trans s2).trans this.1.mono) (this.2.ok h2)
    · exact w2.elim
end

/-! ### items, slices, minus -/
@[simp] def itemG : PyData → PyData → Option Rv
  | .tuple ds, .int i => (atI ds i).map .sh
  | .list ds, .int i => (atI ds i).map .sh
  | .dict [(.none, .list ds)], .int i => (atI ds i).map .sh
  | .str x, .int i => if x.length ≤ sizeLine then (atI x.cps.toList i).map fun c => .sh (.str ⟨#[c]⟩) else none
  | _, _ => none
@[simp] def negG : PyData → Option Rv
  | .int i => some (.sh (.int (-i)))
  | _ => none
def unF (g : PyData → Option Rv) (F : Mo Rv) : Mo Rv := do
  let r ← F
  let d ← peek r
  liftO (g d)
theorem atI_dq {K : PySem.W.Frag} {G : Hp} {xs : List V} {ds : List PyData} {i : Int} {d : PyData} (h : DqAll K G xs ds) (e : atI ds i = some d) : ∃ v, atI xs i = some v ∧ Dq K G v d := by
  unfold atI at e ⊢
  rw [h.length]
  cases q : ixN ds.length i with
  | none => rw [q] at e; cases e
  | some j =>
    rw [q] at e
    exact h.get e
section
variable {X : Cx} {fr : Fr} {a b : Expr} {Fa Fb : Mo Rv} {pos : Pos}
theorem ev_ix (ha : PEv X fr a Fa) (hb : PEv X fr b Fb) (hs : PlainIx b := by exact fun _ _ => rfl) : PEv X fr (.Subscript a b pos) (binF itemG Fa Fb) := by
  refine weakE (pe_ix ix_seq ha hb hs) (bin_reads fun x y H G d1 d2 res Q s p1 p2 e q => ?_)
  cases d2 with
  | int i =>
    cases d1 with
    | tuple ds =>
      obtain ⟨p, xs, rfl, h1, h2⟩ := dq_tup p1
      simp only [itemG, Option.map_eq_some_iff] at e
      obtain ⟨d, e1, rfl⟩ := e
      obtain ⟨v, e2, hv⟩ := atI_dq h2 e1
      exact .inr (.inl ⟨p, xs, i, v, rfl, dq_int p2, s.sqT h1, e2, q H G v (.refl s) hv⟩)
    | list ds =>
      obtain ⟨p, xs, rfl, h1, h2⟩ := p1
      simp only [itemG, Option.map_eq_some_iff] at e
      obtain ⟨d, e1, rfl⟩ := e
      obtain ⟨v, e2, hv⟩ := atI_dq h2 e1
      exact .inl ⟨p, xs, i, v, rfl, dq_int p2, .of h1, e2, q H G v (.refl s) hv⟩
    | dict kvs =>
      cases (show Dq X.K G x (.dict kvs) from p1) with
      | scr h1 h2 =>
        simp only [itemG, Option.map_eq_some_iff] at e
        obtain ⟨d, e1, rfl⟩ := e
        obtain ⟨v, e2, hv⟩ := atI_dq h2 e1
        exact .inl ⟨_, _, i, v, rfl, dq_int p2, s.sqL h1, e2, q H G v (.refl s) hv⟩
    | str z =>
      simp only [itemG] at e
      split at e
      · rename_i hz
        simp only [Option.map_eq_some_iff] at e
        obtain ⟨c, e1, rfl⟩ := e
        exact .inr (.inr ⟨z, i, c, dq_str p1, dq_int p2, hz, e1, q H G _ (.refl s) (.str _)⟩)
      · cases e
    | _ => cases e
  | _ => cases d1 <;> simp [itemG] at e
theorem ev_neg (ha : PEv X fr a Fa) : PEv X fr (.UnaryOp .USub a pos) (unF negG Fa) :=
  weakE (pe_un un_neg ha) fun σ H Q ⟨env, G, h, w⟩ => by
    unfold unF at w
    refine tE_then h w (fun r1 env1 H1 G1 v1 h1 s1 q1 w1 => ?_) fun c e1 E1 H1 G1 h1 s1 => E1 H1 G1 h1 s1
    obtain ⟨d, p, w2⟩ := peek_ok h1 q1 (wpM_bind.mp w1)
    obtain ⟨res, e, qf⟩ := wpM_lift w2
    cases d <;> simp [negG] at e
    subst e
    exact ⟨_, dq_int p, qf H1 G1 _ h1 s1 (.int _)⟩
end
/-- a slice's part -/
@[simp] def partF : Option (Mo Rv) → Mo (Option Int)
  | none => pure none
  | some F => do
    let r ← F
    match r with
    | .sh (.int i) => pure (some i)
    | _ => stuckM
def cutD (ds : List PyData) (lo hi : Option Int) : List PyData := (ds.drop (HT.sIx ds.length 0 lo)).take (HT.sIx ds.length ds.length hi - HT.sIx ds.length 0 lo)
@[simp] def sliceG (lo hi : Option Int) : PyData → Option Rv
  | .tuple ds => some (.sh (.tuple (cutD ds lo hi)))
  | .list ds => some (.fr (cutD ds lo hi))
  | .dict [(.none, .list ds)] => some (.fr (cutD ds lo hi))
  | _ => none
def sliceF (F : Mo Rv) (lo hi : Option (Mo Rv)) : Mo Rv := do
  let r ← F
  let l ← partF lo
  let h ← partF hi
  let d ← peek (hold r)
  liftO (sliceG l h d)
theorem cut_dq {K : PySem.W.Frag} {G : Hp} {xs : List V} {ds : List PyData} (h : DqAll K G xs ds) (lo hi : Option Int) : DqAll K G (cutV xs lo hi) (cutD ds lo hi) := by
  unfold cutV cutD
  rw [h.length]
  exact (h.drop _).take _
section
variable {X : Cx} {fr : Fr} {a : Expr} {Fa : Mo Rv} {pos p2 : Pos}
def POv (X : Cx) (fr : Fr) (e : Option Expr) (F : Option (Mo Rv)) : Prop := PO X e fun σ H Q => ∃ env G, SR X.K fr env σ H G ∧
  wpM (partF F) env (fun o env' => ∀ H' G', SR X.K fr env' σ H' G' → Sub G G' → Q o H') (fun c env' => ∀ H' G', SR X.K fr env' σ H' G' → Sub G G' → fr.W c H')
theorem eo_none : POv X fr none none := ⟨fun pins s σ H Q I ⟨env, G, h, w⟩ => po_none.run pins s σ H Q I (w H G h .refl)⟩
theorem eo_some (ha : PEv X fr a Fa) : POv X fr (some a) (some Fa) := ⟨fun pins s σ H Q I ⟨env, G, h, w⟩ => (po_some ha).run pins s σ H Q I (by
  unfold partF at w
  refine tE_then h w (fun r1 env1 H1 G1 v1 h1 s1 q1 w1 => ?_) fun c e1 E1 H1 G1 h1 s1 => E1 H1 G1 h1 s1
  cases r1 with
  | sh d =>
    cases d with
    | int i => exact ⟨i, dq_int q1, w1 H1 G1 h1 s1⟩
    | _ => exact w1.elim
  | _ => exact w1.elim)⟩
theorem ev_slice {lo hi : Option Expr} {Fl Fh : Option (Mo Rv)} (ha : PEv X fr a Fa) (hl : POv X fr lo Fl) (hh : POv X fr hi Fh) : PEv X fr (.Subscript a (.Slice lo hi none p2) pos) (sliceF Fa Fl Fh) := by
  refine weakE (pe_slice (sl_tupA.or sl_list) ha hl hh) fun σ H Q ⟨env, G, h, w⟩ => ?_
  unfold sliceF at w
  refine tE_then h w (fun r1 env1 H1 G1 v1 h1 s1 q1 w1 => ?_) fun c e1 E1 H1 G1 h1 s1 => E1 H1 G1 h1 s1
  obtain ⟨G1', h1', s1', q1'⟩ := hold_ok' h1 q1
  have sA := s1.trans s1'
  refine ⟨env1, G1', h1', wpM_mono (wpM_bind.mp w1) (fun l env2 w2 H2 G2 h2 s2 => ?_) fun c e' E' H2 G2 h2 s2 => E' H2 G2 h2 (sA.trans s2)⟩
  refine ⟨env2, G2, h2, wpM_mono (wpM_bind.mp w2) (fun u env3 w3 H3 G3 h3 s3 => ?_) fun c e' E' H3 G3 h3 s3 => E' H3 G3 h3 ((sA.trans s2).trans s3)⟩
  obtain ⟨d, p, w4⟩ := peek_ok h3 (HeldOk.ok ((q1'.mono s2).mono s3)) (wpM_bind.mp w3)
  obtain ⟨res, e, qf⟩ := wpM_lift w4
  have sB := (sA.trans s2).trans s3
  have fin : ∀ H' G' z, Stp H3 G3 H' G' → RvNew X.K H3 H' G' z res → Q z H' := fun H' G' z st rn => qf H' G' z (h3.stp st) (sB.trans st.mono) (rn.ok h3)
  cases d with
  | tuple ds =>
    obtain ⟨b, xs, rfl, k1, k2⟩ := dq_tup p
    simp only [sliceG, Option.some.injEq] at e
    subst e
    refine .inl ⟨b, xs, rfl, h3.sub.sqT k1, fun hw => ?_, fun hw q hq => ?_⟩
    · have e : cutD ds l u = ds := by
        unfold cutD
        rw [← k2.length, hw.1, hw.2]
        simp [k2.length]
      rw [e] at fin
      exact fin H3 G3 _ (.refl h3.sub) (.tup k1 k2)
    · have := rvTup h3.sub hq (cut_dq k2 l u)
      exact fin _ _ _ this.1 this.2
  | list ds =>
    obtain ⟨b, xs, rfl, k1, k2⟩ := p
    simp only [sliceG, Option.some.injEq] at e
    subst e
    refine .inr ⟨b, xs, rfl, .of k1, fun q hq => ?_⟩
    have := rvFresh h3.sub hq (cut_dq k2 l u)
    exact fin _ _ _ this.1 this.2
  | dict kvs =>
    cases (show Dq X.K G3 v1 (.dict kvs) from p) with
    | scr k1 k2 =>
      simp only [sliceG, Option.some.injEq] at e
      subst e
      refine .inr ⟨_, _, rfl, h3.sub.sqL k1, fun q hq => ?_⟩
      have := rvFresh h3.sub hq (cut_dq k2 l u)
      exact fin _ _ _ this.1 this.2
  | _ => cases e
end

/-! ### calls of built-ins -/
def OpN (X : Cx) (f : Value) (g : List PyData → Option Rv) : Prop :=
  ∃ r : List V → Hp → VK → Prop, CallR X f r ∧ ∀ vs H G ds res Q, Sub G H → Pks X.K H G vs ds → g ds = some res →
    (∀ H' G' z, Stp H G H' G' → RvNew X.K H H' G' z res → Q z H') → r vs H Q
def callBF (g : List PyData → Option Rv) (Fs : Mo (List Rv)) : Mo Rv := do
  let rs ← Fs
  let ds ← peeks rs
  liftO (g ds)
section
variable {X : Cx} {fr : Fr} {e : Expr} {es : List Expr} {Fs : Mo (List Rv)} {x : Str} {p pos : Pos} {id T : String} {g : List PyData → Option Rv}
theorem callB_reads {r : List V → Hp → VK → Prop} (hg : ∀ vs H G ds res Q, Sub G H → Pks X.K H G vs ds → g ds = some res → (∀ H' G' z, Stp H G H' G' → RvNew X.K H H' G' z res → Q z H') → r vs H Q) :
    ∀ σ H Q, tE X.K fr (callBF g Fs) σ H Q → tCB r (tA X.K fr Fs) σ H Q := fun σ H Q ⟨env, G, h, w⟩ => by
  unfold callBF at w
  refine tA_then h w (fun rs env1 H1 G1 vs h1 s1 q1 w1 => ?_) fun c e1 E1 H1 G1 h1 s1 => E1 H1 G1 h1 s1
  obtain ⟨ds, p1, w2⟩ := peeks_ok h1 q1 (wpM_bind.mp w1)
  obtain ⟨res, e, qf⟩ := wpM_lift w2
  exact hg vs H1 G1 ds res Q h1.sub p1 e fun H' G' z st rn => qf H' G' z (h1.stp st) (s1.trans st.mono) (rn.ok h1)
theorem ev_callB (hc : OpN X (.builtin id) g) (hg : Gl X x) (hm : X.mg x = none) (hv : bootBuiltins x = some (.builtin id)) (ha : PAv X fr (e :: es) Fs) (hn : x ≠ "__name__" := by decide) (hdb : (x == ("__debug__" : Str)) = false := by decide)
    (he : starEach (e :: es) X.env = (false, eval e X.env) :: starEach es X.env := by rfl) (hpl : (backTo pos (starEach es X.env)).any (·.1) = false := by rfl) : PEv X fr (.Call (.Name x p) (e :: es) [] pos) (callBF g Fs) :=
  let ⟨_, hr, hq⟩ := hc
  weakE (pe_callB hr hg hm hv ha hn hdb he hpl) (callB_reads hq)
theorem ev_callTy (hc : OpN X (.type T) g) (hg : Gl X x) (hm : X.mg x = none) (hv : bootBuiltins x = some (.type T)) (ha : PAv X fr (e :: es) Fs) (hn : x ≠ "__name__" := by decide) (hdb : (x == ("__debug__" : Str)) = false := by decide)
    (he : starEach (e :: es) X.env = (false, eval e X.env) :: starEach es X.env := by rfl) (hpl : (backTo pos (starEach es X.env)).any (·.1) = false := by rfl) : PEv X fr (.Call (.Name x p) (e :: es) [] pos) (callBF g Fs) :=
  let ⟨_, hr, hq⟩ := hc
  weakE (pe_callTy hr hg hm hv ha hn hdb he hpl) (callB_reads hq)
end
end Cf
/-! Cf, part E: built-ins. -/
namespace Cf
open PySem PySem.Spec PyProof.Rows L2

@[simp] def lenG : List PyData → Option Rv
  | [.tuple ds] => some (.sh (.int ds.length))
  | [.list ds] => some (.sh (.int ds.length))
  | [.dict [(.none, .list ds)]] => some (.sh (.int ds.length))
  | [.str x] => if x.length ≤ sizeLine then some (.sh (.int x.length)) else none
  | _ => none
@[simp] def absG : List PyData → Option Rv
  | [.int i] => some (.sh (.int (i.natAbs : Int)))
  | _ => none
@[simp] def min2G : List PyData → Option Rv
  | [.int i, .int j] => some (.sh (.int (min i j)))
  | _ => none
@[simp] def max2G : List PyData → Option Rv
  | [.int i, .int j] => some (.sh (.int (max i j)))
  | _ => none
@[simp] def intG : List PyData → Option Rv
  | [.int i] => some (.sh (.int i))
  | [.bool b] => some (.sh (.int (if b then 1 else 0)))
  | _ => none
@[simp] def listG : List PyData → Option Rv
  | [.tuple ds] => some (.fr ds)
  | [.list ds] => some (.fr ds)
  | _ => none
@[simp] def tupleG : List PyData → Option Rv
  | [.tuple ds] => some (.sh (.tuple ds))
  | [.list ds] => some (.sh (.tuple ds))
  | _ => none
section
variable {K : PySem.W.Frag} {H G : Hp}
theorem pks1 {vs : List V} {d : PyData} (h : Pks K H G vs [d]) : ∃ v, vs = [v] ∧ Pk K H G v d := by
  match vs, h with
  | [v], h => exact ⟨v, rfl, h.1⟩
  | [], h => exact h.elim
  | _ :: _ :: _, h => exact h.2.elim
theorem pks2 {vs : List V} {d e : PyData} (h : Pks K H G vs [d, e]) : ∃ v u, vs = [v, u] ∧ Pk K H G v d ∧ Pk K H G u e := by
  match vs, h with
  | [v, u], h => exact ⟨v, u, rfl, h.1, h.2.1⟩
  | [], h => exact h.elim
  | [_], h => exact h.2.elim
  | _ :: _ :: _ :: _, h => exact h.2.2.elim
end
section
variable {X : Cx}
theorem opN_len : OpN X (.builtin "len") lenG := by
  refine ⟨_, call_len_seq.or call_len_str, fun vs H G ds res Q s p e q => ?_⟩
  match ds, e with
  | [.tuple ds], e =>
    cases e
    obtain ⟨v, rfl, p1⟩ := pks1 p
    obtain ⟨a, xs, rfl, h1, h2⟩ := dq_tup p1
    exact .inl ⟨a, xs, rfl, .inr (s.sqT h1), by rw [h2.length]; exact q H G _ (.refl s) (.int _)⟩
  | [.list ds], e =>
    cases e
    obtain ⟨v, rfl, p1⟩ := pks1 p
    obtain ⟨a, xs, rfl, h1, h2⟩ := p1
    exact .inl ⟨a, xs, rfl, .inl (.of h1), by rw [h2.length]; exact q H G _ (.refl s) (.int _)⟩
  | [.dict [(.none, .list ds)]], e =>
    cases e
    obtain ⟨v, rfl, p1⟩ := pks1 p
    cases (show Dq X.K G v _ from p1) with
    | scr h1 h2 => exact .inl ⟨_, _, rfl, .inl (s.sqL h1), by rw [h2.length]; exact q H G _ (.refl s) (.int _)⟩
  | [.str x], e =>
    simp only [lenG] at e
    split at e
    · rename_i hz
      cases e
      obtain ⟨v, rfl, p1⟩ := pks1 p
      exact .inr ⟨x, by rw [dq_str p1], hz, q H G _ (.refl s) (.int _)⟩
    · cases e
theorem opN_abs : OpN X (.builtin "abs") absG := by
  refine ⟨_, call_abs, fun vs H G ds res Q s p e q => ?_⟩
  match ds, e with
  | [.int i], e =>
    cases e
    obtain ⟨v, rfl, p1⟩ := pks1 p
    refine ⟨i, by rw [dq_int p1], ?_⟩
    have z : (if i < 0 then -i else i) = (i.natAbs : Int) := by split <;> omega
    rw [z]
    exact q H G _ (.refl s) (.int _)
theorem opN_min2 (hc : X.calm = true) : OpN X (.builtin "min") min2G := by
  refine ⟨_, call_min2 hc, fun vs H G ds res Q s p e q => ?_⟩
  match ds, e with
  | [.int i, .int j], e =>
    cases e
    obtain ⟨v, u, rfl, p1, p2⟩ := pks2 p
    refine ⟨i, j, by rw [dq_int p1, dq_int p2], ?_⟩
    have z : (if j < i then j else i) = min i j := by omega
    rw [z]
    exact q H G _ (.refl s) (.int _)
theorem opN_max2 (hc : X.calm = true) : OpN X (.builtin "max") max2G := by
  refine ⟨_, call_max2 hc, fun vs H G ds res Q s p e q => ?_⟩
  match ds, e with
  | [.int i, .int j], e =>
    cases e
    obtain ⟨v, u, rfl, p1, p2⟩ := pks2 p
    refine ⟨i, j, by rw [dq_int p1, dq_int p2], ?_⟩
    have z : (if j > i then j else i) = max i j := by omega
    rw [z]
    exact q H G _ (.refl s) (.int _)
theorem opN_int : OpN X (.type "int") intG := by
  refine ⟨_, call_int1, fun vs H G ds res Q s p e q => ?_⟩
  match ds, e with
  | [.int i], e =>
    cases e
    obtain ⟨v, rfl, p1⟩ := pks1 p
    exact .inl ⟨i, by rw [dq_int p1], q H G _ (.refl s) (.int _)⟩
  | [.bool b], e =>
    cases e
    obtain ⟨v, rfl, p1⟩ := pks1 p
    exact .inr ⟨b, by rw [dq_bl p1], q H G _ (.refl s) (.int _)⟩
theorem opN_list : OpN X (.type "list") listG := by
  refine ⟨_, call_list_of, fun vs H G ds res Q s p e q => ?_⟩
  match ds, e with
  | [.tuple ds], e =>
    cases e
    obtain ⟨v, rfl, p1⟩ := pks1 p
    obtain ⟨a, xs, rfl, h1, h2⟩ := dq_tup p1
    refine ⟨a, xs, rfl, .inr (s.sqT h1), fun l hl => ?_⟩
    have := rvFresh s hl h2
    exact q _ _ _ this.1 this.2
  | [.list ds], e =>
    cases e
    obtain ⟨v, rfl, p1⟩ := pks1 p
    obtain ⟨a, xs, rfl, h1, h2⟩ := p1
    refine ⟨a, xs, rfl, .inl (.of h1), fun l hl => ?_⟩
    have := rvFresh s hl h2
    exact q _ _ _ this.1 this.2
theorem opN_tuple : OpN X (.type "tuple") tupleG := by
  refine ⟨_, call_tuple_of, fun vs H G ds res Q s p e q => ?_⟩
  match ds, e with
  | [.tuple ds], e =>
    cases e
    obtain ⟨v, rfl, p1⟩ := pks1 p
    obtain ⟨a, xs, rfl, h1, h2⟩ := dq_tup p1
    exact ⟨a, xs, rfl, .inr ⟨s.sqT h1, q H G _ (.refl s) (.tup h1 h2)⟩⟩
  | [.list ds], e =>
    cases e
    obtain ⟨v, rfl, p1⟩ := pks1 p
    obtain ⟨a, xs, rfl, h1, h2⟩ := p1
    refine ⟨a, xs, rfl, .inl ⟨.of h1, fun l hl => ?_⟩⟩
    have := rvTup s hl h2
    exact q _ _ _ this.1 this.2
end

/-! ### isinstance -/
@[simp] def tyName : PyData → String
  | .none => "NoneType"
  | .bool _ => "bool"
  | .int _ => "int"
  | .str _ => "str"
  | .list _ => "list"
  | .tuple _ => "tuple"
  | .dict _ => "list"
@[simp] def isTy (T : String) (d : PyData) : Bool := tyName d == T || (T == "int" && tyName d == "bool")
theorem kit_isTy {T : String} (h : T ∈ ["int", "bool", "str", "list", "tuple"]) (d : PyData) : kitB (tyName d) T = some (isTy T d) := by
  simp only [List.mem_cons, List.not_mem_nil, or_false] at h
  rcases h with rfl | rfl | rfl | rfl | rfl <;> cases d <;> (simp only [isTy, tyName]; decide +kernel)
theorem ty_pk {K : PySem.W.Frag} {H G : Hp} {v : V} {d : PyData} (s : Sub G H) (h : Pk K H G v d) : TyX K H v (.type (tyName d)) := by
  cases d with
  | none => cases dq_non h; exact .base .non
  | bool b => cases dq_bl h; exact .base (.bl b)
  | int b => cases dq_int h; exact .base (.int b)
  | str b => cases dq_str h; exact .base (.str b)
  | list ds => obtain ⟨a, xs, rfl, h1, _⟩ := h; exact .base (.lst h1)
  | tuple ds =>
    obtain ⟨a, xs, rfl, h1, _⟩ := dq_tup h
    rcases s.sqT h1 with (h1 | ⟨o, h1⟩) | ⟨o, its, n, h1, h2, _⟩
    · exact .base (.tup h1)
    · exact .fTuple h1
    · exact .kTuple h1 h2
  | dict kvs =>
    cases (show Dq K G v (.dict kvs) from h) with
    | scr h1 h2 =>
      rcases s.sqL h1 with (h1 | ⟨o, h1⟩) | ⟨o, its, n, h1, h2, _⟩
      · exact .base (.lst h1)
      · exact .base (.frz h1)
      · exact .kList h1 h2
def isF (T : String) (F : Mo Rv) : Mo Bool := do
  let r ← F
  let d ← peek r
  pure (isTy T d)
section
variable {X : Cx} {fr : Fr} {e : Expr} {F : Mo Rv} {p pt pos : Pos} {x : Str} {T : String}
theorem eb_is (hT : T ∈ ["int", "bool", "str", "list", "tuple"]) (hg : Gl X "isinstance") (hm : X.mg "isinstance" = none) (hgT : Gl X x) (hmT : X.mg x = none) (hv : bootBuiltins x = some (.type T)) (he : PEv X fr e F)
    (hs : starEach [e, .Name x pt] X.env = (false, eval e X.env) :: starEach [.Name x pt] X.env := by rfl) (hs1 : starEach [.Name x pt] X.env = (false, eval (.Name x pt) X.env) :: starEach [] X.env := by rfl)
    (hpl : (backTo pos (starEach [.Name x pt] X.env)).any (·.1) = false := by rfl) (hn : x ≠ "__name__" := by decide) (hd : (x == ("__debug__" : Str)) = false := by decide) (hvi : bootBuiltins "isinstance" = some (.builtin "isinstance") := by decide +kernel) :
    PBv X fr (.Call (.Name "isinstance" p) [e, .Name x pt] [] pos) (isF T F) :=
  weakE (pe_callB call_isi hg hm hvi (pa_cons he (pa_cons (pe_bltn (v := .ty T) hgT hmT hv rfl hn hd) pa_nil hs1) hs) (by decide) (by decide) hs hpl) fun σ H Q ⟨env, G, h, w⟩ => by
    unfold ofB isF at w
    rw [wpM_bind, wpM_bind] at w
    refine ⟨env, G, h, wpM_mono w (fun r env1 w1 H1 G1 v h1 s1 q1 => ?_) fun c e1 E1 H1 G1 h1 s1 => E1 H1 G1 h1 s1⟩
    obtain ⟨d, p1, w2⟩ := peek_ok h1 q1 (wpM_bind.mp w1)
    exact ⟨v, .ty T, .type (tyName d), .type T, isTy T d, rfl, .ty T, ty_pk h1.sub p1, kit_ty (kit_isTy hT d), w2 H1 G1 _ h1 s1 (.bl _)⟩
end
end Cf
/-! Cf, part F: slots that change, statements. -/
namespace Cf
open PySem PySem.Spec PyProof.Rows L2

section
variable {K : PySem.W.Frag} {fr : Fr} {env : Fv} {σ : L2.St} {H G : Hp} {i : Nat}
/-- a slot takes a datum that stands still -/
theorem SR.setSh (h : SR K fr env σ H G) {v : V} {d : PyData} (q : Dq K G v d) : SR K fr (env.set i (.sh d)) (σ.set i (some v)) H G := by
  have hlen := h.len
  refine ⟨h.sub, h.prot, h.dj, h.tab, h.pt, h.lent, by simpa using h.len, fun j sl e => ?_, fun j k t t' es es' b hjk ej ek => ?_⟩
  · by_cases hj : j = i
    · subst hj
      by_cases hl : j < env.length
      · rw [List.getElem?_set_self hl] at e
        cases e
        rw [List.getElem?_set_self (by omega)]
        exact ⟨v, rfl, q⟩
      · rw [List.getElem?_eq_none (by simpa using hl)] at e; cases e
    · rw [List.getElem?_set_ne (Ne.symm hj)] at e ⊢
      exact h.slots j sl e
  · have n : ∀ (m : Nat) (t : Option Nat) (es : List PyData), (env.set i (.sh d))[m]? = some (.own t es) → m ≠ i ∧ env[m]? = some (.own t es) := fun m t es e => by
      by_cases hm : m = i
      · subst hm
        by_cases hl : m < env.length
        · rw [List.getElem?_set_self hl] at e; cases e
        · rw [List.getElem?_eq_none (by simpa using hl)] at e; cases e
      · rw [List.getElem?_set_ne (Ne.symm hm)] at e; exact ⟨hm, e⟩
    obtain ⟨n1, e1⟩ := n _ _ _ ej
    obtain ⟨n2, e2⟩ := n _ _ _ ek
    rw [List.getElem?_set_ne (Ne.symm n1), List.getElem?_set_ne (Ne.symm n2)]
    exact h.dist j k t t' es es' b hjk e1 e2
/-- a slot takes a new list -/
theorem SR.setOwn (h : SR K fr env σ H G) {v : V} {ds : List PyData} (q : RvOk K fr env σ H G v (.fr ds)) : SR K fr (env.set i (.own none ds)) (σ.set i (some v)) H G := by
  obtain ⟨a, xs, rfl, k1, k2, k3, k4, k5, k6⟩ := q
  have hlen := h.len
  have n : ∀ (m : Nat) (t : Option Nat) (es : List PyData), (env.set i (.own none ds))[m]? = some (.own t es) → m = i ∧ m < env.length ∨ m ≠ i ∧ env[m]? = some (.own t es) := fun m t es e => by
    by_cases hm : m = i
    · subst hm
      by_cases hl : m < env.length
      · exact .inl ⟨rfl, hl⟩
      · rw [List.getElem?_eq_none (by simpa using hl)] at e; cases e
    · rw [List.getElem?_set_ne (Ne.symm hm)] at e; exact .inr ⟨hm, e⟩
  refine ⟨h.sub, h.prot, h.dj, h.tab, h.pt, h.lent, by simpa using h.len, fun j sl e => ?_, fun j k t t' es es' b hjk ej ek => ?_⟩
  · by_cases hj : j = i
    · subst hj
      by_cases hl : j < env.length
      · rw [List.getElem?_set_self hl] at e
        cases e
        rw [List.getElem?_set_self (by omega)]
        exact ⟨a, xs, rfl, k1, k2, k3, k4, k5⟩
      · rw [List.getElem?_eq_none (by simpa using hl)] at e; cases e
    · rw [List.getElem?_set_ne (Ne.symm hj)] at e ⊢
      exact h.slots j sl e
  · rcases n _ _ _ ej with ⟨rfl, l1⟩ | ⟨n1, e1⟩
    · rcases n _ _ _ ek with ⟨rfl, l2⟩ | ⟨n2, e2⟩
      · exact absurd rfl hjk
      · rw [List.getElem?_set_self (by omega), List.getElem?_set_ne (Ne.symm n2)]
        intro z
        cases z
        exact k6 _ _ _ e2
    · rcases n _ _ _ ek with ⟨rfl, l2⟩ | ⟨n2, e2⟩
      · rw [List.getElem?_set_ne (Ne.symm n1), List.getElem?_set_self (by omega)]
        intro z y
        cases y
        exact k6 _ _ _ e1 z
      · rw [List.getElem?_set_ne (Ne.symm n1), List.getElem?_set_ne (Ne.symm n2)]
        exact h.dist j k t t' es es' b hjk e1 e2
/-- a slot's own list is changed -/
theorem SR.write (h : SR K fr env σ H G) {t : Option Nat} {ds ds' : List PyData} {a : Addr} {xs' : List V} (e : env[i]? = some (.own t ds)) (ha : σ[i]? = some (some (.ref a))) (q : DqAll K G xs' ds') :
    SR K fr (env.set i (.own t ds')) σ (upd H a (.lst xs')) G := by
  obtain ⟨a', xs, e1, k1, k2, k3, k4, k5⟩ := h.ownAt e
  rw [ha] at e1
  cases e1
  have hi : i < env.length := (List.getElem?_eq_some_iff.mp e).1
  have n : ∀ (m : Nat) (t1 : Option Nat) (es : List PyData), (env.set i (.own t ds'))[m]? = some (.own t1 es) → ∃ t2 es2, env[m]? = some (.own t2 es2) := fun m t1 es em => by
    by_cases hm : m = i
    · subst hm; exact ⟨_, _, e⟩
    · rw [List.getElem?_set_ne (Ne.symm hm)] at em; exact ⟨_, _, em⟩
  refine ⟨fun b o q => ?_, fun b o q => ?_, h.dj, fun P hP => ?_, h.pt, fun b hb => ?_, by simpa using h.len, fun j sl ej => ?_, fun j k t1 t2 es es' b hjk ej ek => ?_⟩
  · rw [upd_ne (ne_of_none q k3)]; exact h.sub b o q
  · rw [upd_ne (ne_of_none q k4)]; exact h.prot b o q
  · obtain ⟨ps, e2, r⟩ := h.tab P hP
    have : P ≠ a := fun z => by rw [z, k1] at e2; cases e2
    exact ⟨ps, by rw [upd_ne this]; exact e2, r⟩
  · by_cases hb' : b = a
    · rw [hb', upd_same]; simp
    · rw [upd_ne hb']; exact h.lent b hb
  · by_cases hj : j = i
    · subst hj
      rw [List.getElem?_set_self hi] at ej
      cases ej
      exact ⟨a, xs', by rw [ha]; rfl, upd_same, q, k3, k4, k5⟩
    · rw [List.getElem?_set_ne (Ne.symm hj)] at ej
      have z := h.slots j sl ej
      cases sl with
      | un => trivial
      | sh d => exact z
      | own t1 es =>
        obtain ⟨b, ys, e1, m1, m2⟩ := h.ownAt ej
        have hb : b ≠ a := fun z => h.dist i j t t1 ds es a (Ne.symm hj) e ej ha (by rw [← z]; exact e1)
        exact ⟨b, ys, by rw [e1]; rfl, by rw [upd_ne hb]; exact m1, m2⟩
  · obtain ⟨t3, es3, e3⟩ := n _ _ _ ej
    obtain ⟨t4, es4, e4⟩ := n _ _ _ ek
    exact h.dist j k t3 t4 es3 es4 b hjk e3 e4
end

/-! ### changing a list of our own -/
def getOwn (i : Nat) : Mo (List PyData) := fun e => match e[i]? with
  | some (.own _ ds) => .ok ds e
  | _ => .stuck
def putOwn (i : Nat) (ds : List PyData) : Mo Unit := fun e => match e[i]? with
  | some (.own t _) => .ok () (e.set i (.own t ds))
  | _ => .stuck
def needOwn (i : Nat) : Mo Unit := fun e => match e[i]? with
  | some (.own _ _) => .ok () e
  | _ => .stuck
/-- x.append(e) -/
def appendF (i : Nat) (F : Mo Rv) : Mo Rv := do
  needOwn i
  let r ← F
  let d ← force r
  let ds ← getOwn i
  if ds.length < sizeLine then do
    putOwn i (ds ++ [d])
    pure (.sh .none)
  else stuckM
/-- x.pop() -/
def popF (i : Nat) : Mo Rv := do
  let ds ← getOwn i
  match ds.getLast? with
  | some d => do
    putOwn i ds.dropLast
    pure (.sh d)
  | none => stuckM
section
variable {X : Cx} {fr : Fr}
theorem wpM_own {α : Type} {i : Nat} {m : List PyData → Mo α} {env : Fv} {Q : α → Fv → Prop} {E : Nat → Fv → Prop} (w : wpM (getOwn i >>= m) env Q E) : ∃ t ds, env[i]? = some (.own t ds) ∧ wpM (m ds) env Q E := by
  rw [wpM_bind] at w
  unfold wpM getOwn at w
  cases e : env[i]? with
  | none => simp [e] at w
  | some sl =>
    cases sl with
    | un => simp [e] at w
    | sh d => simp [e] at w
    | own t ds =>
      simp only [e] at w
      exact ⟨t, ds, rfl, w⟩
theorem wpM_need {α : Type} {i : Nat} {m : Mo α} {env : Fv} {Q : α → Fv → Prop} {E : Nat → Fv → Prop} (w : wpM (needOwn i >>= fun _ => m) env Q E) : ∃ t ds, env[i]? = some (.own t ds) ∧ wpM m env Q E := by
  rw [wpM_bind] at w
  unfold wpM needOwn at w
  cases e : env[i]? with
  | none => simp [e] at w
  | some sl =>
    cases sl with
    | un => simp [e] at w
    | sh d => simp [e] at w
    | own t ds =>
      simp only [e] at w
      exact ⟨t, ds, rfl, w⟩
theorem wpM_put {α : Type} {i : Nat} {es : List PyData} {m : Mo α} {env : Fv} {Q : α → Fv → Prop} {E : Nat → Fv → Prop} {t : Option Nat} {ds : List PyData} (he : env[i]? = some (.own t ds)) (w : wpM (putOwn i es >>= fun _ => m) env Q E) : wpM m (env.set i (.own t es)) Q E := by
  rw [wpM_bind] at w
  unfold wpM putOwn at w
  simp only [he] at w
  exact w
variable {o e : Expr} {i : Nat} {F : Mo Rv} {apos cpos : Pos}
theorem tE_read {env : Fv} {G H : Hp} {σ : L2.St} {Q : VK} (h : SR X.K fr env σ H G) {t : Option Nat} {ds : List PyData} (e : env[i]? = some (.own t ds))
    (q : ∀ a H1 G1 xs, SR X.K fr env σ H1 G1 → Sub G G1 → σ[i]? = some (some (.ref a)) → H1 a = some (.lst xs) → DqAll X.K G1 xs ds → Q (.ref a) H1) : tE X.K fr (readF i) σ H Q := by
  refine ⟨env, G, h, ?_⟩
  unfold wpM readF
  simp only [e]
  intro H1 G1 v h1 s1 r
  obtain ⟨a, xs, e1, k1, k2, _⟩ := h1.ownAt e
  have r' : σ[i]? = some (some v) := r
  rw [e1] at r'
  cases r'
  exact q a H1 G1 xs h1 s1 e1 k1 k2
theorem ev_append (ho : PEv X fr o (readF i)) (ha : PEv X fr e F) (hbase : attributeBase o "append" X.env (eval o X.env) = eval o X.env := by rfl)
    (hfew : ((backTo cpos (starEach [e] X.env)).all (fun x => !x.1) && (backToKw cpos (keywordEach [] X.env)).all (fun x => x.1.isSome) && decide ([e].length + ([] : List Keyword).length + (if ([] : List Keyword).isEmpty then 0 else 1) < 30)) = true := by rfl)
    (hline : (apos.endLine == cpos.line) = true := by rfl) (hs : starEach [e] X.env = (false, eval e X.env) :: starEach [] X.env := by rfl) : PEv X fr (.Call (.Attribute o "append" apos) [e] [] cpos) (appendF i F) :=
  weakE (pe_bm PySem.F.plainAttrs_list PySem.F.slot_list_append PySem.F.type_list_append mt_append ho (pa_cons ha pa_nil hs) hbase hfew hline hs rfl) fun σ H Q ⟨env, G, h, w⟩ => by
    unfold appendF at w
    obtain ⟨t, ds, e0, w1⟩ := wpM_need w
    refine tE_read h e0 fun a H1 G1 xs h1 s1 e1 k1 k2 => ⟨.inl ⟨rfl, xs, .of k1⟩, ?_⟩
    refine tE_then h1 w1 (fun r env2 H2 G2 v h2 s2 q2 w2 => ?_) fun c e1 E1 H2 G2 h2 s2 => E1 H2 G2 h2 (s1.trans s2)
    obtain ⟨d, env3, G3, h3, s3, d3, w3⟩ := force_ok h2 q2 (wpM_bind.mp w2)
    obtain ⟨t4, ds4, e4, w4⟩ := wpM_own w3
    obtain ⟨a4, xs4, z4, m1, m2, _⟩ := h3.ownAt e4
    rw [e1] at z4
    cases z4
    split at w4
    · rename_i hz
      have w5 := wpM_put e4 w4
      have h5 := h3.write e4 e1 (m2.append (.cons d3 .nil))
      exact ⟨a, xs4, v, rfl, rfl, m1, by rw [m2.length]; exact hz, w5 _ _ _ h5 ((s1.trans s2).trans s3) .non⟩
    · exact w4.elim
theorem ev_pop (ho : PEv X fr o (readF i)) (hbase : attributeBase o "pop" X.env (eval o X.env) = eval o X.env := by rfl) (hline : (apos.endLine == cpos.line) = true := by rfl) : PEv X fr (.Call (.Attribute o "pop" apos) [] [] cpos) (popF i) :=
  weakE (pe_bm0 PySem.F.plainAttrs_list PySem.F.slot_list_pop PySem.F.type_list_pop mt_pop ho hbase hline) fun σ H Q ⟨env, G, h, w⟩ => by
    unfold popF at w
    obtain ⟨t, ds, e0, w1⟩ := wpM_own w
    refine tE_read h e0 fun a H1 G1 xs h1 s1 e1 k1 k2 => ⟨.inl ⟨rfl, xs, .of k1⟩, ?_⟩
    cases z : ds.getLast? with
    | none => rw [z] at w1; exact w1.elim
    | some d =>
      rw [z] at w1
      have w2 := wpM_put e0 w1
      have zi : ds[ds.length - 1]? = some d := by rw [← List.getLast?_eq_getElem?]; exact z
      obtain ⟨v, y, hv⟩ := k2.get zi
      have hl := k2.length
      rw [← hl] at y
      exact ⟨a, xs, v, rfl, rfl, k1, y, w2 _ _ _ (h1.write e0 e1 k2.dropLast) s1 hv⟩
end

/-! ### statements -/
inductive Out where
  | nx | bk | ct
  | rt (r : Rv)
/-- what is asked behind a statement that began at G -/
def SPost (K : PySem.W.Frag) (fr : Fr) (D : Ends) (G : Hp) (o : Out) (env' : Fv) : Prop := match o with
  | .nx => ∀ σ' H' G', SR K fr env' σ' H' G' → Sub G G' → D.nx σ' H'
  | .bk => ∀ σ' H' G', SR K fr env' σ' H' G' → Sub G G' → D.bk σ' H'
  | .ct => ∀ σ' H' G', SR K fr env' σ' H' G' → Sub G G' → D.ct σ' H'
  | .rt r => ∀ σ' H' G' v, SR K fr env' σ' H' G' → Sub G G' → RvOk K fr env' σ' H' G' v r → D.rt v H'
def SExc (K : PySem.W.Frag) (fr : Fr) (G : Hp) (c : Nat) (env' : Fv) : Prop := ∀ σ' H' G', SR K fr env' σ' H' G' → Sub G G' → fr.W c H'
theorem SPost.mono {K : PySem.W.Frag} {fr : Fr} {D : Ends} {G G1 : Hp} {o : Out} {env' : Fv} (s : Sub G G1) (h : SPost K fr D G o env') : SPost K fr D G1 o env' := by
  cases o with
  | rt r => exact fun σ' H' G' v h1 s1 => h σ' H' G' v h1 (s.trans s1)
  | _ => exact fun σ' H' G' h1 s1 => h σ' H' G' h1 (s.trans s1)
theorem SExc.mono {K : PySem.W.Frag} {fr : Fr} {G G1 : Hp} {c : Nat} {env' : Fv} (s : Sub G G1) (h : SExc K fr G c env') : SExc K fr G1 c env' := fun σ' H' G' h1 s1 => h σ' H' G' h1 (s.trans s1)
def tS (K : PySem.W.Frag) (fr : Fr) (F : Mo Out) : TS := fun D σ H => ∃ env G, SR K fr env σ H G ∧ wpM F env (SPost K fr D G) (SExc K fr G)
theorem tS_of {K : PySem.W.Frag} {fr : Fr} {F : Mo Out} {D : Ends} {σ : L2.St} {H G G1 : Hp} {env : Fv} (h : SR K fr env σ H G1) (s : Sub G G1) (w : wpM F env (SPost K fr D G) (SExc K fr G)) : tS K fr F D σ H :=
  ⟨env, G1, h, wpM_mono w (fun _ _ q => q.mono s) fun _ _ q => q.mono s⟩
def PSv (X : Cx) (fr : Fr) (st : Stmt) (F : Mo Out) : Prop := PS X st (tS X.K fr F)
def PBs (X : Cx) (fr : Fr) (st : List Stmt) (F : Mo Out) : Prop := PSs X st (tS X.K fr F)
theorem weakS {X : Cx} {st : Stmt} {t t' : TS} (h : PS X st t) (w : ∀ D σ H, t' D σ H → t D σ H) : PS X st t' := ⟨fun pins s σ H D I q => h.run pins s σ H D I (w D σ H q)⟩
theorem weakB {X : Cx} {st : List Stmt} {t t' : TS} (h : PSs X st t) (w : ∀ D σ H, t' D σ H → t D σ H) : PSs X st t' := ⟨fun pins s σ H D I q => h.run pins s σ H D I (w D σ H q)⟩
def skipF : Mo Out := pure .nx
def seqF (F1 F2 : Mo Out) : Mo Out := do
  match ← F1 with
  | .nx => F2
  | o => pure o
/-- the slot takes the value -/
def storeF (i : Nat) (r : Rv) : Mo Unit := fun e => match r with
  | .sh d => .ok () (e.set i (.sh d))
  | .fr ds => .ok () (e.set i (.own none ds))
  | .sl j => match e[j]? with
    | some (.sh d) => .ok () (e.set i (.sh d))
    | some (.own none ds) => .ok () ((e.set j (.sh (.list ds))).set i (.sh (.list ds)))
    | _ => .stuck
def setF (i : Nat) (F : Mo Rv) : Mo Out := do
  let r ← F
  storeF i r
  pure .nx
def dropF (F : Mo Rv) : Mo Out := do
  let _ ← F
  pure .nx
def retF (F : Mo Rv) : Mo Out := do
  let r ← F
  pure (.rt r)
section
variable {X : Cx} {fr : Fr} {st : Stmt} {rest : List Stmt} {e : Expr} {F : Mo Rv} {pos : Pos}
theorem store_ok3 {K : PySem.W.Frag} {env : Fv} {σ : L2.St} {H G : Hp} {v : V} {r : Rv} {i : Nat} (h : SR K fr env σ H G) (q : RvOk K fr env σ H G v r) {Q : Unit → Fv → Prop} {E : Nat → Fv → Prop} (w : wpM (storeF i r) env Q E) :
    ∃ env' G', SR K fr env' (σ.set i (some v)) H G' ∧ Sub G G' ∧ Q () env' := by
  cases r with
  | sh d => exact ⟨_, G, h.setSh q, .refl, w⟩
  | fr ds => exact ⟨_, G, h.setOwn q, .refl, w⟩
  | sl j =>
    unfold wpM storeF at w
    have q' : σ[j]? = some (some v) := q
    cases e : env[j]? with
    | none => simp [e] at w
    | some sl =>
      cases sl with
      | un => simp [e] at w
      | sh d =>
        simp only [e] at w
        obtain ⟨x, e1, e2⟩ := h.shAt e
        rw [q'] at e1
        cases e1
        exact ⟨_, G, h.setSh e2, .refl, w⟩
      | own t ds =>
        cases t with
        | some k => simp [e] at w
        | none =>
          simp only [e] at w
          obtain ⟨G', h1, s1, k1⟩ := freeze h e
          exact ⟨_, G', h1.setSh (k1 v q'), s1, w⟩
theorem es_nil : PBs X fr [] skipF := weakB pss_nil fun D σ H ⟨env, G, h, w⟩ => w σ H G h .refl
theorem es_pass : PSv X fr (.Pass pos) skipF := weakS ps_pass fun D σ H ⟨env, G, h, w⟩ => w σ H G h .refl
theorem es_break : PSv X fr (.Break pos) (pure .bk) := weakS ps_break fun D σ H ⟨env, G, h, w⟩ => w σ H G h .refl
theorem es_continue : PSv X fr (.Continue pos) (pure .ct) := weakS ps_continue fun D σ H ⟨env, G, h, w⟩ => w σ H G h .refl
theorem es_one {F1 : Mo Out} (h1 : PSv X fr st F1) : PBs X fr [st] F1 := pss_one h1
theorem es_cons {F1 F2 : Mo Out} (h1 : PSv X fr st F1) (h2 : PBs X fr rest F2) : PBs X fr (st :: rest) (seqF F1 F2) :=
  weakB (pss_cons h1 h2) fun D σ H ⟨env, G, h, w⟩ => by
    unfold seqF at w
    refine ⟨env, G, h, wpM_mono (wpM_bind.mp w) (fun o env' w' => ?_) fun c env' w' => w'⟩
    cases o with
    | nx => exact fun σ' H' G' h' s' => tS_of h' s' w'
    | bk => exact w'
    | ct => exact w'
    | rt r => exact w'
theorem es_drop (he : PEv X fr e F) (hs : swapsWith e none pos.line X.env = pure false := by rfl) : PSv X fr (.Expr e pos) (dropF F) :=
  weakS (ps_expr he hs) fun D σ H ⟨env, G, h, w⟩ => by
    unfold dropF at w
    exact tE_then h w (fun r env1 H1 G1 v h1 s1 q1 w1 => w1 σ H1 G1 h1 s1) fun c e1 E1 H1 G1 h1 s1 => E1 σ H1 G1 h1 s1
theorem es_ret (he : PEv X fr e F) : PSv X fr (.Return (some e) pos) (retF F) :=
  weakS (ps_ret he) fun D σ H ⟨env, G, h, w⟩ => by
    unfold retF at w
    exact tE_then h w (fun r env1 H1 G1 v h1 s1 q1 w1 => w1 σ H1 G1 v h1 s1 q1) fun c e1 E1 H1 G1 h1 s1 => E1 σ H1 G1 h1 s1
theorem es_if {c : Expr} {a b : List Stmt} {T : Mo Bool} {F1 F2 : Mo Out} (hc : PTv X fr c T) (ha : PBs X fr a F1) (hb : PBs X fr b F2) : PSv X fr (.If c a b pos) (ifF T F1 F2) :=
  weakS (ps_if hc ha hb) fun D σ H ⟨env, G, h, w⟩ => by
    unfold ifF at w
    refine tT_then h w (fun c env1 H1 G1 h1 s1 w1 => ?_) fun c e1 E1 H1 G1 h1 s1 => E1 σ H1 G1 h1 s1
    cases c with
    | true => rw [if_pos rfl] at w1 ⊢; exact tS_of h1 s1 w1
    | false => rw [if_neg Bool.false_ne_true] at w1 ⊢; exact tS_of h1 s1 w1
theorem es_set {i : Nat} {x : Str} {pos' : Pos} (hN : X.N.Nodup) (hi : X.N[i]? = some x) (hx : Loc X.env.scope x) (he : PEv X fr e F) (hs : swapsWith e (some (.Name x pos')) pos.line X.env = pure false := by rfl) (hf : X.fn x = true ∨ X.env.scope.names.lookup x = some .local := by first | exact .inl rfl | exact .inr rfl | assumption) :
    PSv X fr (.Assign [.Name x pos'] e pos) (setF i F) :=
  weakS (ps_set hN hi hx he hs hf) fun D σ H ⟨env, G, h, w⟩ => by
    unfold setF at w
    refine tE_then h w (fun r env1 H1 G1 v h1 s1 q1 w1 => ?_) fun c e1 E1 H1 G1 h1 s1 => E1 σ H1 G1 h1 s1
    obtain ⟨env2, G2, h2, s2, w2⟩ := store_ok3 h1 q1 (wpM_bind.mp w1)
    exact w2 _ H1 G2 h2 (s1.trans s2)
/-- x op= e, on numbers and texts -/
def augF (i : Nat) (g : PyData → PyData → Option Rv) (F : Mo Rv) : Mo Out := do
  let r ← readF i
  let r2 ← F
  let d1 ← peek r
  let d2 ← peek r2
  let res ← liftO (g d1 d2)
  storeF i res
  pure .nx
theorem es_aug {i : Nat} {x : Str} {op : Operator} {g : PyData → PyData → Option Rv} {pos' : Pos} (hN : X.N.Nodup) (hi : X.N[i]? = some x) (hx : Loc X.env.scope x) (he : PEv X fr e F) (ho : Op2 X (inplaceOp op) g) (hf : X.fn x = true ∨ X.env.scope.names.lookup x = some .local := by first | exact .inl rfl | exact .inr rfl | assumption) :
    PSv X fr (.AugAssign (.Name x pos') op e pos) (augF i g F) := by
  obtain ⟨r, hr, hg⟩ := ho
  refine weakS (ps_aug hN hi hx he (fun pins s σ H x y v u Q I rx ry h => hr pins s σ H x y v u Q I rx ry h) hf) fun D σ H ⟨env, G, h, w⟩ => ?_
  unfold augF at w
  rw [wpM_bind] at w
  have rd : ∃ v r1, σ[i]? = some (some v) ∧ HeldOk X.K σ G v r1 ∧ wpM (F >>= fun r2 => peek r1 >>= fun d1 => peek r2 >>= fun d2 => liftO (g d1 d2) >>= fun res => storeF i res >>= fun _ => pure Out.nx) env (SPost X.K fr D G) (SExc X.K fr G) := by
    unfold wpM readF at w
    cases e0 : env[i]? with
    | none => simp [e0] at w
    | some sl =>
      cases sl with
      | un => simp [e0] at w
      | sh d =>
        simp only [e0] at w
        obtain ⟨v, z1, z2⟩ := h.shAt e0
        exact ⟨v, .sh d, z1, z2, w⟩
      | own t ds =>
        simp only [e0] at w
        obtain ⟨a, xs, z1, _⟩ := h.ownAt e0
        exact ⟨_, .sl i, z1, z1, w⟩
  obtain ⟨v, r1, z1, z2, w1⟩ := rd
  refine ⟨v, z1, ?_⟩
  refine tE_then h w1 (fun r2 env2 H2 G2 v2 h2 s2 q2 w2 => ?_) fun c e1 E1 H1 G1 h1 s1 => E1 σ H1 G1 h1 s1
  obtain ⟨d1, p1, w3⟩ := peek_ok h2 (HeldOk.ok (z2.mono s2)) (wpM_bind.mp w2)
  obtain ⟨d2, p2, w4⟩ := peek_ok h2 q2 (wpM_bind.mp w3)
  obtain ⟨res, e, w5⟩ := wpM_lift (wpM_bind.mp w4)
  refine hg v v2 H2 G2 d1 d2 res _ h2.sub p1 p2 e fun H' G' z st rn => ?_
  obtain ⟨env6, G6, h6, s6, w6⟩ := store_ok3 (h2.stp st) (rn.ok h2) (wpM_bind.mp w5)
  exact w6 _ H' G6 h6 ((s2.trans st.mono).trans s6)
@[simp] def iaddG : PyData → PyData → Option Rv
  | .int i, .int j => some (.sh (.int (i + j)))
  | _, _ => none
theorem op2_iadd : Op2 X (inplaceOp .Add) iaddG := op2_int0 iop_add (fun _ _ _ _ => .int _) fun a b r e => by
  cases a <;> cases b <;> simp_all [iaddG]
theorem op2_isub : Op2 X (inplaceOp .Sub) subG := op2_int0 iop_sub (fun _ _ _ _ => .int _) fun a b r e => by
  cases a <;> cases b <;> simp_all [subG]
end
end Cf
/-! Cf, part G: targets, loops. -/
namespace Cf
open PySem PySem.Spec PyProof.Rows L2

/-! ### targets -/
/-- only the slots of ws differ -/
def Off (ws : List Nat) (σ σ' : L2.St) : Prop := σ'.length = σ.length ∧ ∀ i : Nat, i ∉ ws → σ'[i]? = σ[i]?
theorem Off.refl {ws : List Nat} {σ : L2.St} : Off ws σ σ := ⟨rfl, fun _ _ => rfl⟩
theorem Off.trans {ws ws' : List Nat} {σ σ1 σ2 : L2.St} (a : Off ws σ σ1) (b : Off ws' σ1 σ2) : Off (ws ++ ws') σ σ2 :=
  ⟨b.1.trans a.1, fun i hi => (b.2 i fun z => hi (List.mem_append_right _ z)).trans (a.2 i fun z => hi (List.mem_append_left _ z))⟩
def tG (K : PySem.W.Frag) (fr : Fr) (ws : List Nat) (T : PyData → Mo Unit) : TG := fun v σ H Q => ∃ env G d, SR K fr env σ H G ∧ Dq K G v d ∧
  wpM (T d) env (fun _ env' => ∀ σ' G', Off ws σ σ' → SR K fr env' σ' H G' → Sub G G' → Q σ' H) (fun _ _ => False)
def PGv (X : Cx) (fr : Fr) (tg : Expr) (ws : List Nat) (T : PyData → Mo Unit) : Prop := PG X tg (tG X.K fr ws T)
def tGs (K : PySem.W.Frag) (fr : Fr) (ws : List Nat) (T : List PyData → Mo Unit) : TGs := fun vs σ H Q => ∃ env G ds, SR K fr env σ H G ∧ DqAll K G vs ds ∧
  wpM (T ds) env (fun _ env' => ∀ σ' G', Off ws σ σ' → SR K fr env' σ' H G' → Sub G G' → Q σ' H) (fun _ _ => False)
def PGsv (X : Cx) (fr : Fr) (tgs : List Expr) (ws : List Nat) (T : List PyData → Mo Unit) : Prop := PGs X tgs (tGs X.K fr ws T)
theorem weakG {X : Cx} {e : Expr} {t t' : TG} (h : PG X e t) (w : ∀ v σ H Q, t' v σ H Q → t v σ H Q) : PG X e t' := ⟨fun pins s σ H v u Q I r q => h.run pins s σ H v u Q I r (w v σ H Q q)⟩
theorem weakGs {X : Cx} {e : List Expr} {t t' : TGs} (h : PGs X e t) (w : ∀ v σ H Q, t' v σ H Q → t v σ H Q) : PGs X e t' := ⟨fun pins s σ H v u Q I r q => h.run pins s σ H v u Q I r (w v σ H Q q)⟩
def toSlot (i : Nat) (d : PyData) : Mo Unit := storeF i (.sh d)
def toNil (ds : List PyData) : Mo Unit := match ds with
  | [] => pure ()
  | _ => stuckM
def toCons (T : PyData → Mo Unit) (Ts : List PyData → Mo Unit) (ds : List PyData) : Mo Unit := match ds with
  | d :: r => do
    T d
    Ts r
  | [] => stuckM
def toTup (n : Nat) (Ts : List PyData → Mo Unit) (d : PyData) : Mo Unit := match d with
  | .tuple ds => if ds.length = n then Ts ds else stuckM
  | _ => stuckM
section
variable {X : Cx} {fr : Fr} {pos : Pos}
theorem eg_name {i : Nat} {x : Str} (hN : X.N.Nodup) (hi : X.N[i]? = some x) (hx : Loc X.env.scope x) (hf : X.fn x = true ∨ X.env.scope.names.lookup x = some .local := by first | exact .inl rfl | exact .inr rfl | assumption) : PGv X fr (.Name x pos) [i] (toSlot i) :=
  weakG (pg_name hN hi hx hf) fun v σ H Q ⟨env, G, d, h, q, w⟩ => w _ G ⟨by simp, fun j hj => List.getElem?_set_ne (fun z => hj (by simp [z]))⟩ (h.setSh q) .refl
theorem egs_nil : PGsv X fr [] [] toNil := weakGs pgs_nil fun vs σ H Q ⟨env, G, ds, h, q, w⟩ => by
  cases q with
  | nil => exact ⟨rfl, w σ G .refl h .refl⟩
  | cons _ _ => exact w.elim
theorem egs_cons {e : Expr} {es : List Expr} {ws ws' : List Nat} {T : PyData → Mo Unit} {Ts : List PyData → Mo Unit} (h1 : PGv X fr e ws T) (h2 : PGsv X fr es ws' Ts)
    (hs : (assignEach (e :: es) X.env).map (·.2) = assign e X.env :: (assignEach es X.env).map (·.2) := by rfl) : PGsv X fr (e :: es) (ws ++ ws') (toCons T Ts) :=
  weakGs (pgs_cons h1 h2 hs) fun vs σ H Q ⟨env, G, ds, h, q, w⟩ => by
    cases q with
    | nil => exact w.elim
    | cons q1 q2 =>
      refine ⟨_, _, rfl, env, G, _, h, q1, wpM_mono (wpM_bind.mp w) (fun _ env1 w1 σ1 G1 o1 h1 s1 => ?_) fun _ _ z => z⟩
      exact ⟨env1, G1, _, h1, Sub.dqAll s1 _ _ q2, wpM_mono w1 (fun _ env2 w2 σ2 G2 o2 h2 s2 => w2 σ2 G2 (o1.trans o2) h2 (s1.trans s2)) fun _ _ z => z⟩
theorem eg_tup {es : List Expr} {k : Nat} {ws : List Nat} {Ts : List PyData → Mo Unit} {n : Nat} (hc : X.calm = true) (h : PGsv X fr es ws Ts)
    (hn : (assignEach es X.env).length = n := by rfl) (hst : (assignEach es X.env).findIdx? (·.1) = none := by rfl) : PGv X fr (.Tuple es k pos) ws (toTup n Ts) :=
  weakG (pg_tup hc h hn hst) fun v σ H Q ⟨env, G, d, h, q, w⟩ => by
    cases d <;> try exact w.elim
    unfold toTup at w
    simp only at w
    split at w
    · rename_i hz
      obtain ⟨a, xs, rfl, k1, k2⟩ := dq_tup q
      exact ⟨a, xs, rfl, h.sub.sqT k1, by rw [k2.length]; exact hz, env, G, _, h, k2, w⟩
    · exact w.elim
end

/-! ### target = value -/
/-- a store, which raises nothing, then k -/
def thenU {α : Type} (T : Mo Unit) (k : Mo α) : Mo α := fun e => match T e with
  | .ok _ e' => k e'
  | .exc _ _ => .stuck
  | .stuck => .stuck
def setT (T : PyData → Mo Unit) (F : Mo Rv) : Mo Out := do
  let r ← F
  let d ← force r
  thenU (T d) (pure .nx)
theorem wpM_T {T : Mo Unit} {α : Type} {k : Mo α} {env : Fv} {Q : α → Fv → Prop} {E : Nat → Fv → Prop} (w : wpM (thenU T k) env Q E) : wpM T env (fun _ env' => wpM k env' Q E) (fun _ _ => False) := by
  unfold wpM thenU at w
  unfold wpM
  cases q : (T env : Res Unit) <;> simp only [q] at w ⊢
  exact w
section
variable {X : Cx} {fr : Fr} {tg e : Expr} {F : Mo Rv} {T : PyData → Mo Unit} {ws : List Nat} {pos : Pos}
theorem es_asg (he : PEv X fr e F) (hg : PGv X fr tg ws T) (hs : swapsWithSole [tg] e pos.line X.env = pure false := by rfl) (hw : swappedStores [tg] e X.env = pure none := by rfl)
    (h1 : (assignEach [tg] X.env).map (·.2) = [assign tg X.env] := by rfl) : PSv X fr (.Assign [tg] e pos) (setT T F) :=
  weakS (ps_asg he hg hs hw h1) fun D σ H ⟨env, G, h, w⟩ => by
    unfold setT at w
    refine tE_then h w (fun r env1 H1 G1 v h1 s1 q1 w1 => ?_) fun c e1 E1 H1 G1 h1 s1 => E1 σ H1 G1 h1 s1
    obtain ⟨d, env2, G2, h2, s2, d2, w2⟩ := force_ok h1 q1 (wpM_bind.mp w1)
    refine ⟨env2, G2, d, h2, d2, wpM_mono (wpM_T (k := pure Out.nx) w2) (fun _ env3 w3 σ3 G3 _ h3 s3 => ?_) fun _ _ z => z⟩
    exact w3 σ3 H1 G3 h3 ((s1.trans s2).trans s3)
end

/-! ### what a loop walks -/
structure ItOk (K : PySem.W.Frag) (J : It) (G0 : Hp) (ds : List PyData) : Prop where
  go : ∀ i H G, Sub G0 G → Sub G H → i < ds.length → J.go i H
  stop : ∀ H G, Sub G0 G → Sub G H → J.stop ds.length H
  yld : ∀ i H G x H', Sub G0 G → Sub G H → i < ds.length → J.yld i H x H' → ∃ G' d, ds[i]? = some d ∧ Stp H G H' G' ∧ Dq K G' x d
def tI (K : PySem.W.Frag) (fr : Fr) (I : Mo (List PyData)) : TI := fun σ H R => ∃ env G, SR K fr env σ H G ∧
  wpM I env (fun ds env' => ∀ H' G' J, SR K fr env' σ H' G' → Sub G G' → ItOk K J G' ds → R J H') (fun c env' => ∀ H' G', SR K fr env' σ H' G' → Sub G G' → fr.W c H')
def PIv (X : Cx) (fr : Fr) (tg iter : Expr) (I : Mo (List PyData)) : Prop := PI X tg iter (tI X.K fr I)
theorem weakI {X : Cx} {tg e : Expr} {t t' : TI} (h : PI X tg e t) (w : ∀ σ H R, t' σ H R → t σ H R) : PI X tg e t' := ⟨fun pins s σ H R I q => h.run pins s σ H R I (w σ H R q)⟩
/-- the items of a list or tuple -/
@[simp] def itemsG : PyData → Option (List PyData)
  | .list ds => some ds
  | .tuple ds => some ds
  | .dict [(.none, .list ds)] => some ds
  | _ => none
def seqI (F : Mo Rv) : Mo (List PyData) := do
  let r ← F
  let d ← force r
  liftO (itemsG d)
def rangeD (lo : Int) (n : Nat) : List PyData := (List.range n).map fun (i : Nat) => .int (lo + i)
/-- a bound that range can take -/
noncomputable def rangeOk (j : Int) : Bool := hide (decide (-(2 ^ 62) ≤ j ∧ j < 2 ^ 62))
theorem rangeOk_iff {j : Int} : rangeOk j = true ↔ -(2 ^ 62) ≤ j ∧ j < 2 ^ 62 := by
  unfold rangeOk
  rw [hide_eq, decide_eq_true_eq]
noncomputable def range1I (Fs : Mo (List Rv)) : Mo (List PyData) := do
  let rs ← Fs
  match rs with
  | [.sh (.int j)] => if rangeOk j = true then pure (rangeD 0 j.toNat) else stuckM
  | _ => stuckM
noncomputable def range2I (Fs : Mo (List Rv)) : Mo (List PyData) := do
  let rs ← Fs
  match rs with
  | [.sh (.int i), .sh (.int j)] => if rangeOk i = true ∧ rangeOk j = true then pure (rangeD i (j - i).toNat) else stuckM
  | _ => stuckM
section
variable {X : Cx} {fr : Fr} {tg : Expr}
theorem itOk_list {K : PySem.W.Frag} {G : Hp} {a : Addr} {xs : List V} {ds : List PyData} (h : SqL K G a xs) (q : DqAll K G xs ds) : ItOk K (Itl K a) G ds := by
  have hl := q.length
  refine ⟨fun i H G1 s1 s2 hi => ?_, fun H G1 s1 s2 => ⟨xs, s2.sqL (s1.sqL h), by omega⟩, fun i H G1 x H' s1 s2 hi y => ?_⟩
  · exact ⟨xs, xs[i], s2.sqL (s1.sqL h), by simp⟩
  · obtain ⟨rfl, y⟩ := y
    obtain ⟨d, e1, e2⟩ := q.getV (y xs (s2.sqL (s1.sqL h)))
    exact ⟨G1, d, e1, .refl s2, Sub.dq s1 _ _ e2⟩
theorem itOk_tup {K : PySem.W.Frag} {G : Hp} {a : Addr} {xs : List V} {ds : List PyData} (h : SqT K G a xs) (q : DqAll K G xs ds) : ItOk K (Itt K a) G ds := by
  have hl := q.length
  refine ⟨fun i H G1 s1 s2 hi => ?_, fun H G1 s1 s2 => ⟨xs, s2.sqT (s1.sqT h), by omega⟩, fun i H G1 x H' s1 s2 hi y => ?_⟩
  · exact ⟨xs, xs[i], s2.sqT (s1.sqT h), by simp⟩
  · obtain ⟨rfl, y⟩ := y
    obtain ⟨d, e1, e2⟩ := q.getV (y xs (s2.sqT (s1.sqT h)))
    exact ⟨G1, d, e1, .refl s2, Sub.dq s1 _ _ e2⟩
theorem itOk_range {K : PySem.W.Frag} {G : Hp} {lo : Int} {n : Nat} : ItOk K (Itr lo n) G (rangeD lo n) := by
  have hl : (rangeD lo n).length = n := by simp [rangeD]
  refine ⟨fun i H G1 s1 s2 hi => ?_, fun H G1 s1 s2 => ?_, fun i H G1 x H' s1 s2 hi y => ?_⟩
  · show i < n; omega
  · show n ≤ (rangeD lo n).length; omega
  · obtain ⟨rfl, rfl⟩ := y
    rw [hl] at hi
    exact ⟨G1, .int (lo + i), by simp [rangeD, hi], .refl s2, .int _⟩
/-- a list or a tuple, whichever comes -/
theorem ei_seq {l : Expr} {F : Mo Rv} (hl : PEv X fr l F) : PIv X fr tg l (seqI F) := by
  refine ⟨fun pins s σ H R I ⟨env, G, h, w⟩ => ?_⟩
  unfold seqI at w
  have hE : tE X.K fr F σ H fun v H1 => ∃ a, v = .ref a ∧ (((∃ xs, SqL X.K H1 a xs) ∧ R (Itl X.K a) H1) ∨ ((∃ xs, SqT X.K H1 a xs) ∧ R (Itt X.K a) H1)) := by
    refine tE_then h w (fun r env1 H1 G1 v h1 s1 q1 w1 => ?_) fun c e1 E1 H1 G1 h1 s1 => E1 H1 G1 h1 s1
    obtain ⟨d, env2, G2, h2, s2, d2, w2⟩ := force_ok h1 q1 (wpM_bind.mp w1)
    obtain ⟨ds, e, w3⟩ := wpM_lift w2
    cases d2 with
    | lst k1 k2 => cases e; exact ⟨_, rfl, .inl ⟨⟨_, .of (h2.sub _ _ k1)⟩, w3 H1 G2 _ h2 (s1.trans s2) (itOk_list (.of k1) k2)⟩⟩
    | tup k1 k2 => cases e; exact ⟨_, rfl, .inr ⟨⟨_, h2.sub.sqT k1⟩, w3 H1 G2 _ h2 (s1.trans s2) (itOk_tup k1 k2)⟩⟩
    | scr k1 k2 => cases e; exact ⟨_, rfl, .inl ⟨⟨_, h2.sub.sqL k1⟩, w3 H1 G2 _ h2 (s1.trans s2) (itOk_list k1 k2)⟩⟩
    | _ => cases e
  refine thn (hl.run pins s σ H _ I hE) fun u s1 ⟨v, H1, I1, r1, a, e, alt⟩ => ?_
  subst e
  cases r1
  have new : ∀ b ∈ [s1.heap.objs.size], FpOk X pins H1 b := fun b hb => by
    rw [List.mem_singleton.mp hb]
    exact I1.fpOk (Nat.le_refl _) (I1.hok.fresh (Nat.le_refl _))
  rcases alt with ⟨⟨xs, hq⟩, q⟩ | ⟨⟨xs, hq⟩, q⟩
  · obtain ⟨its, _, pl, _⟩ := I1.list hq
    exact wpAny_pyIter_list pl.isList ⟨_, _, _, _, H1, rfl, I1.kept (t' := s1.toks) fun b o z => Heap.get?_push_of_some _ z, turn_list a _, ⟨_, Heap.get?_push_size _ rfl, rfl, rfl⟩, new, q⟩
  · obtain ⟨its, _, pl, _⟩ := I1.tuple hq
    exact wpAny_pyIter_tuple (show s1.heap.IsTuple a its.toArray from pl) ⟨_, _, _, _, H1, rfl, I1.kept (t' := s1.toks) fun b o z => Heap.get?_push_of_some _ z, turn_tuple a _, ⟨_, Heap.get?_push_size _ rfl, rfl, rfl⟩, new, q⟩
theorem ei_range1 {a : Expr} {Fs : Mo (List Rv)} {p pos : Pos} (hg : Gl X "range") (hm : X.mg "range" = none) (ha : PAv X fr [a] Fs) (hs : starEach [a] X.env = [(false, eval a X.env)] := by rfl) : PIv X fr tg (.Call (.Name "range" p) [a] [] pos) (range1I Fs) :=
  weakI (pi_range1 hg hm ha hs) fun σ H R ⟨env, G, h, w⟩ => by
    unfold range1I at w
    refine tA_then h w (fun rs env1 H1 G1 vs h1 s1 q1 w1 => ?_) fun c e1 E1 H1 G1 h1 s1 => E1 H1 G1 h1 s1
    split at w1
    · rename_i j
      split at w1
      · rename_i hz
        replace hz := rangeOk_iff.mp hz
        match vs, q1 with
        | [v], q1 =>
          have e := dq_int (show Dq X.K G1 v (.int j) from q1.1)
          subst e
          exact ⟨j, rfl, hz.1, hz.2, w1 H1 G1 _ h1 s1 itOk_range⟩
        | _ :: _ :: _, q1 => exact q1.2.elim
      · exact w1.elim
    · exact w1.elim
theorem ei_range2 {a b : Expr} {Fs : Mo (List Rv)} {p pos : Pos} (hg : Gl X "range") (hm : X.mg "range" = none) (ha : PAv X fr [a, b] Fs) (hs : starEach [a, b] X.env = [(false, eval a X.env), (false, eval b X.env)] := by rfl) (hs2 : starEach [b] X.env = [(false, eval b X.env)] := by rfl) :
    PIv X fr tg (.Call (.Name "range" p) [a, b] [] pos) (range2I Fs) :=
  weakI (pi_range2 hg hm ha hs hs2) fun σ H R ⟨env, G, h, w⟩ => by
    unfold range2I at w
    refine tA_then h w (fun rs env1 H1 G1 vs h1 s1 q1 w1 => ?_) fun c e1 E1 H1 G1 h1 s1 => E1 H1 G1 h1 s1
    split at w1
    · rename_i i j
      split at w1
      · rename_i hz
        replace hz := And.intro (rangeOk_iff.mp hz.1).1 (And.intro (rangeOk_iff.mp hz.1).2 (rangeOk_iff.mp hz.2))
        match vs, q1 with
        | [v, u], q1 =>
          have e := dq_int (show Dq X.K G1 v (.int i) from q1.1)
          have e' := dq_int (show Dq X.K G1 u (.int j) from q1.2.1)
          subst e e'
          exact ⟨i, j, rfl, hz, w1 H1 G1 _ h1 s1 itOk_range⟩
        | [_], q1 => exact q1.2.elim
        | _ :: _ :: _ :: _, q1 => exact q1.2.2.elim
      · exact w1.elim
    · exact w1.elim
end

/-! ### for, while -/
def loopF (T : PyData → Mo Unit) (B : Mo Out) : List PyData → Mo Out
  | [] => pure .nx
  | d :: ds => thenU (T d) do
    match ← B with
    | .nx => loopF T B ds
    | .ct => loopF T B ds
    | .bk => pure .nx
    | .rt r => pure (.rt r)
def forF (I : Mo (List PyData)) (T : PyData → Mo Unit) (B : Mo Out) : Mo Out := do
  let ds ← I
  loopF T B ds
section
variable {X : Cx} {fr : Fr} {tg iter : Expr} {body : List Stmt} {I : Mo (List PyData)} {T : PyData → Mo Unit} {B : Mo Out} {ws : List Nat} {pos : Pos}
theorem es_for (hp : PassesOwn (model X.prog X.w) X.A X.env X.xe) (hc : X.calm = true) (hi : PIv X fr tg iter I) (hg : PGv X fr tg ws T) (hb : PBs X fr body B)
    (hs : ∀ x, foldedSetIterable iter X.env x = pure x := by intro _; rfl) : PSv X fr (.For tg iter body [] pos) (forF I T B) :=
  weakS (ps_for hp hc hi hg hb hs) fun D σ H ⟨env, G, h, w⟩ => by
    unfold forF at w
    refine ⟨env, G, h, wpM_mono (wpM_bind.mp w) (fun ds env1 w1 H1 G1 J h1 s1 io => ?_) fun c e1 E1 H1 G1 h1 s1 => E1 σ H1 G1 h1 s1⟩
    refine ⟨fun i m σ H => ∃ env' G', SR X.K fr env' σ H G' ∧ Sub G1 G' ∧ m = ds.length - i ∧ i ≤ ds.length ∧ wpM (loopF T B (ds.drop i)) env' (SPost X.K fr D G') (SExc X.K fr G'), ⟨ds.length, env1, G1, h1, .refl, by omega, by omega, wpM_mono w1 (fun _ _ q => q.mono s1) fun _ _ q => q.mono s1⟩, ?_⟩
    rintro i m σ2 H2 ⟨env2, G2, h2, s2, rfl, hi2, w2⟩
    by_cases hlt : i < ds.length
    · have hd : ds.drop i = ds[i] :: ds.drop (i + 1) := by rw [List.drop_eq_getElem_cons hlt]
      rw [hd] at w2
      unfold loopF at w2
      refine .inr ⟨io.go i H2 G2 s2 h2.sub hlt, fun σ3 H3 => ∃ env' G', SR X.K fr env' σ3 H3 G' ∧ Sub G1 G' ∧ wpM (loopF T B (ds.drop (i + 1))) env' (SPost X.K fr D G') (SExc X.K fr G'), ?_, fun x H' y => ?_⟩
      · rintro σ3 H3 ⟨env3, G3, h3, s3, w3⟩
        exact ⟨ds.length - (i + 1), by omega, env3, G3, h3, s3, rfl, by omega, w3⟩
      · obtain ⟨G3, d, e3, st, q3⟩ := io.yld i H2 G2 x H' s2 h2.sub hlt y
        rw [List.getElem?_eq_getElem hlt] at e3
        cases e3
        refine ⟨env2, G3, _, h2.stp st, q3, wpM_mono (wpM_T w2) (fun _ env4 w4 σ4 G4 _ h4 s4 => ?_) fun _ _ z => z⟩
        have s24 := st.mono.trans s4
        refine ⟨env4, G4, h4, wpM_mono (wpM_bind.mp w4) (fun o env5 w5 => ?_) fun c env5 w5 σ5 H5 G5 h5 s5 => w5 σ5 H5 G5 h5 (s24.trans s5)⟩
        have again : wpM (loopF T B (ds.drop (i + 1))) env5 (SPost X.K fr D G2) (SExc X.K fr G2) → ∀ σ' H' G', SR X.K fr env5 σ' H' G' → Sub G4 G' →
            ∃ env' G', SR X.K fr env' σ' H' G' ∧ Sub G1 G' ∧ wpM (loopF T B (ds.drop (i + 1))) env' (SPost X.K fr D G') (SExc X.K fr G') := fun w6 σ' H' G' h6 s6 =>
          ⟨env5, G', h6, s2.trans (s24.trans s6), wpM_mono w6 (fun _ _ q => q.mono (s24.trans s6)) fun _ _ q => q.mono (s24.trans s6)⟩
        cases o with
        | nx => exact again w5
        | ct => exact again w5
        | bk => exact fun σ' H' G' h6 s6 => w5 σ' H' G' h6 (s24.trans s6)
        | rt r => exact fun σ' H' G' v h6 s6 q6 => w5 σ' H' G' v h6 (s24.trans s6) q6
    · have e : i = ds.length := by omega
      subst e
      rw [List.drop_length] at w2
      exact .inl ⟨io.stop H2 G2 s2 h2.sub, w2 σ2 H2 G2 h2 .refl⟩
/-- at most n turns -/
def whileN (C : Mo Bool) (B : Mo Out) : Nat → Mo Out
  | 0 => stuckM
  | n + 1 => do
    let b ← C
    if b = true then
      match ← B with
      | .nx => whileN C B n
      | .ct => whileN C B n
      | .bk => pure .nx
      | .rt r => pure (.rt r)
    else pure .nx
theorem es_while {c : Expr} {C : Mo Bool} (n : Nat) (hp : PassesOwn (model X.prog X.w) X.A X.env X.xe) (hc : PTv X fr c C) (hb : PBs X fr body B) : PSv X fr (.While c body [] pos) (whileN C B n) :=
  weakS (ps_while hp hc hb) fun D σ H ⟨env, G, h, w⟩ => by
    refine ⟨fun m σ H => ∃ env' G', SR X.K fr env' σ H G' ∧ wpM (whileN C B m) env' (SPost X.K fr D G') (SExc X.K fr G'), ⟨n, env, G, h, w⟩, ?_⟩
    rintro m σ2 H2 ⟨env2, G2, h2, w2⟩
    cases m with
    | zero => exact w2.elim
    | succ m =>
      unfold whileN at w2
      refine tT_then h2 w2 (fun b env3 H3 G3 h3 s3 w3 => ?_) fun c e1 E1 H1 G1 h1 s1 => E1 σ2 H1 G1 h1 s1
      cases b with
      | false =>
        rw [if_neg Bool.false_ne_true] at w3 ⊢
        exact w3 σ2 H3 G3 h3 s3
      | true =>
        rw [if_pos rfl] at w3 ⊢
        refine ⟨fun σ4 H4 => ∃ env' G', SR X.K fr env' σ4 H4 G' ∧ wpM (whileN C B m) env' (SPost X.K fr D G') (SExc X.K fr G'), fun σ4 H4 q => ⟨m, Nat.lt_succ_self m, q⟩, ?_⟩
        refine ⟨env3, G3, h3, wpM_mono (wpM_bind.mp w3) (fun o env5 w5 => ?_) fun c env5 w5 σ5 H5 G5 h5 s5 => w5 σ5 H5 G5 h5 (s3.trans s5)⟩
        have again : wpM (whileN C B m) env5 (SPost X.K fr D G2) (SExc X.K fr G2) → ∀ σ' H' G', SR X.K fr env5 σ' H' G' → Sub G3 G' →
            ∃ env' G', SR X.K fr env' σ' H' G' ∧ wpM (whileN C B m) env' (SPost X.K fr D G') (SExc X.K fr G') := fun w6 σ' H' G' h6 s6 =>
          ⟨env5, G', h6, wpM_mono w6 (fun _ _ q => q.mono (s3.trans s6)) fun _ _ q => q.mono (s3.trans s6)⟩
        cases o with
        | nx => exact again w5
        | ct => exact again w5
        | bk => exact fun σ' H' G' h6 s6 => w5 σ' H' G' h6 (s3.trans s6)
        | rt r => exact fun σ' H' G' v h6 s6 q6 => w5 σ' H' G' v h6 (s3.trans s6) q6
end
end Cf
/-! Cf, part H: defs and calls. -/
namespace Cf
open PySem PySem.Spec PyProof.Rows L2

/-- what a def's run comes to -/
inductive FnR where
  | ok (r : Rv)
  | exc (c : Nat)
  | stuck
/-- .. of a def whose first parameter is a list that it may change -/
inductive FnL where
  | ok (r : Rv) (out : List PyData)
  | stuck
/-- the value handed back -/
@[simp] def retV (r : Rv) (e : Fv) : Option Rv := match r with
  | .sh d => some (.sh d)
  | .fr ds => some (.fr ds)
  | .sl i => match e[i]? with
    | some (.sh d) => some (.sh d)
    | some (.own none ds) => some (.fr ds)
    | _ => none
@[simp] def outV (o : Out) (e : Fv) : Option Rv := match o with
  | .rt r => retV r e
  | .nx => some (.sh .none)
  | _ => none
@[simp] def env0 (n : Nat) (sls : List Sl) : Fv := sls ++ List.replicate (n - sls.length) .un
@[simp] def finF : Res Out → FnR
  | .ok o e => match outV o e with
    | some r => .ok r
    | none => .stuck
  | .exc c _ => .exc c
  | .stuck => .stuck
@[simp] def finL : Res Out → FnL
  | .ok o e => match outV o e, (e[0]? : Option Sl) with
    | some r, some (.own (some 0) out) => .ok r out
    | _, _ => .stuck
  | _ => .stuck
def runF (n : Nat) (B : Mo Out) (ds : List PyData) : FnR := finF (B (env0 n (ds.map .sh)))
def runL (n : Nat) (B : Mo Out) (es : List PyData) (ds : List PyData) : FnL := finL (B (env0 n (.own (some 0) es :: ds.map .sh)))

/-- what was private of the callers is as it was -/
def Kept (tabs : List Addr) (ex : Addr → Prop) (H G H' G' : Hp) : Prop := ∀ b o, H b = some o → G b = none → b ∉ tabs → ¬ ex b → H' b = some o ∧ G' b = none
def RetOk (K : PySem.W.Frag) (H H' G' : Hp) (v : V) : Rv → Prop := RvNew K H H' G' v
def Tabs (tabs : List Addr) (H : Hp) : Prop := ∀ P ∈ tabs, TabOk H P
def sp0 (K : PySem.W.Frag) (tabs : List Addr) (n : Nat) (g : List PyData → FnR) : Sp := fun vs H Q _ => ∃ G ds, Sub G H ∧ Tabs tabs H ∧ ds.length = n ∧ DqAll K G vs ds ∧
  ∃ r, g ds = .ok r ∧ ∀ H' G' v, Sub G G' → Sub G' H' → Tabs tabs H' → Kept tabs (fun _ => False) H G H' G' → RetOk K H H' G' v r → Q v H'
def spL (K : PySem.W.Frag) (tabs : List Addr) (n : Nat) (g : List PyData → List PyData → FnL) : Sp := fun vs H Q _ => ∃ G m us xs es ds, vs = .ref m :: us ∧ Sub G H ∧ Tabs tabs H ∧ ds.length + 1 = n ∧
  H m = some (.lst xs) ∧ G m = none ∧ DqAll K G xs es ∧ DqAll K G us ds ∧
  ∃ r out, g es ds = .ok r out ∧ ∀ H' G' v ys, Sub G G' → Sub G' H' → Tabs tabs H' → Kept tabs (fun b => b = m) H G H' G' → H' m = some (.lst ys) → G' m = none → DqAll K G' ys out → RetOk K H H' G' v r → Q v H'

section
variable {K : PySem.W.Frag} {fr : Fr} {env : Fv} {σ : L2.St} {H G : Hp}
theorem retV_ok {H0 : Hp} {v : V} {r r' : Rv} (h : SR K fr env σ H G) (q : RvOk K fr env σ H G v r) (e : retV r env = some r') (new : ∀ a xs, H a = some (.lst xs) → G a = none → fr.prot a = none → a ∉ fr.muts → H0 a = none) : RetOk K H0 H G v r' := by
  cases r with
  | sh d => cases e; exact q
  | fr ds =>
    cases e
    obtain ⟨a, xs, rfl, k1, k2, k3, k4, k5, _⟩ := q
    exact ⟨a, xs, rfl, k1, k2, k3, new a xs k1 k3 k4 k5⟩
  | sl i =>
    unfold retV at e
    have q' : σ[i]? = some (some v) := q
    cases z : env[i]? with
    | none => simp [z] at e
    | some sl =>
      cases sl with
      | un => simp [z] at e
      | sh d =>
        simp only [z, Option.some.injEq] at e
        subst e
        obtain ⟨x, e1, e2⟩ := h.shAt z
        rw [q'] at e1
        cases e1
        exact e2
      | own t ds =>
        cases t with
        | some k => simp [z] at e
        | none =>
          simp only [z, Option.some.injEq] at e
          subst e
          obtain ⟨a, xs, e1, k1, k2, k3, k4, k5⟩ := h.ownAt z
          rw [q'] at e1
          cases e1
          exact ⟨a, xs, rfl, k1, k2, k3, new a xs k1 k3 k4 k5⟩
end

/-! ### a def's body keeps its promise -/
theorem start_get {N : List Str} {vs : List V} {i : Nat} (h : vs.length ≤ N.length) : (L2.start N vs)[i]? = if i < vs.length then (vs[i]?).map some else if i < N.length then some none else none := by
  unfold L2.start
  by_cases h1 : i < vs.length
  · rw [if_pos h1, List.getElem?_append_left (by simpa using h1), List.getElem?_map]
  · rw [if_neg h1, List.getElem?_append_right (by simp; omega)]
    simp only [List.length_map, List.getElem?_replicate]
    by_cases h2 : i < N.length
    · rw [if_pos h2, if_pos (by omega)]
    · rw [if_neg h2, if_neg (by omega)]
theorem env0_get {n : Nat} {sls : List Sl} {i : Nat} (h : sls.length ≤ n) : (env0 n sls)[i]? = if i < sls.length then sls[i]? else if i < n then some .un else none := by
  unfold env0
  by_cases h1 : i < sls.length
  · rw [if_pos h1, List.getElem?_append_left h1]
  · rw [if_neg h1, List.getElem?_append_right (by omega)]
    simp only [List.getElem?_replicate]
    by_cases h2 : i < n
    · rw [if_pos h2, if_pos (by omega)]
    · rw [if_neg h2, if_neg (by omega)]
def privOf (tabs : List Addr) (ex : Addr → Prop) [DecidablePred ex] (H G : Hp) : Hp := fun b => if G b = none ∧ b ∉ tabs ∧ ¬ ex b then H b else none
section
variable {P : Program} {w : World} {K : PySem.W.Frag} {mg : Str → Option Value} {base : Heap} {tabs : List Addr}
theorem privOf_some {ex : Addr → Prop} [DecidablePred ex] {H G : Hp} {b : Addr} {o : HO} (h : privOf tabs ex H G b = some o) : H b = some o ∧ G b = none := by
  unfold privOf at h
  split at h
  · rename_i z; exact ⟨h, z.1⟩
  · cases h
theorem privOf_none {ex : Addr → Prop} [DecidablePred ex] {H G : Hp} {b : Addr} (h : privOf tabs ex H G b = none) (h2 : G b = none) (h3 : b ∉ tabs) (h4 : ¬ ex b) : H b = none := by
  unfold privOf at h
  rwa [if_pos ⟨h2, h3, h4⟩] at h
theorem sr_start {N : List Str} {vs : List V} {ds : List PyData} {H G : Hp} {W : Nat → Hp → Prop} (s : Sub G H) (ht : Tabs tabs H) (q : DqAll K G vs ds) (hn : ds.length ≤ N.length) :
    SR K ⟨privOf tabs (fun _ => False) H G, [], tabs, W⟩ (env0 N.length (ds.map .sh)) (L2.start N vs) H G := by
  have hl := q.length
  have e0 : ∀ (i : Nat) (sl : Sl), (env0 N.length (ds.map Sl.sh))[i]? = some sl → sl = .un ∨ ∃ d, sl = .sh d ∧ ds[i]? = some d := fun i sl e => by
    rw [env0_get (by simpa using hn)] at e
    by_cases h1 : i < ds.length
    · rw [if_pos (by simpa using h1), List.getElem?_map, List.getElem?_eq_getElem h1] at e
      cases e
      exact .inr ⟨_, rfl, List.getElem?_eq_getElem h1⟩
    · rw [if_neg (by simpa using h1)] at e
      split at e <;> cases e
      exact .inl rfl
  refine ⟨s, fun b o e => (privOf_some (tabs := tabs) (ex := fun _ => False) (G := G) e).1, fun b e => ?_, ht, fun P hP => by show privOf tabs (fun _ => False) H G P = none; unfold privOf; rw [if_neg (fun z => z.2.1 hP)], fun a ha => absurd ha (by simp), ?_, fun i sl e => ?_, fun i j t t' es es' a _ ei => ?_⟩
  · cases z : privOf tabs (fun _ => False) H G b with
    | none => exact absurd z e
    | some o => exact (privOf_some (ex := fun _ => False) z).2
  · unfold env0 L2.start
    simp only [List.length_append, List.length_map, List.length_replicate]
    omega
  · rcases e0 i sl e with rfl | ⟨d, rfl, hd⟩
    · trivial
    · obtain ⟨v, e1, e2⟩ := q.get hd
      have hi : i < vs.length := (List.getElem?_eq_some_iff.mp e1).1
      exact ⟨v, by rw [start_get (by omega), if_pos hi, e1]; rfl, e2⟩
  · rcases e0 i _ ei with z | ⟨d, z, _⟩ <;> cases z
theorem sr_startL {N : List Str} {m : Addr} {us : List V} {xs : List V} {es ds : List PyData} {H G : Hp} {W : Nat → Hp → Prop} (s : Sub G H) (ht : Tabs tabs H) (hm : H m = some (.lst xs)) (gm : G m = none) (q1 : DqAll K G xs es) (q : DqAll K G us ds) (hn : ds.length + 1 ≤ N.length) :
    SR K ⟨privOf tabs (fun b => b = m) H G, [m], tabs, W⟩ (env0 N.length (.own (some 0) es :: ds.map .sh)) (L2.start N (.ref m :: us)) H G := by
  have hl := q.length
  have e0 : ∀ (i : Nat) (sl : Sl), (env0 N.length (.own (some 0) es :: ds.map Sl.sh))[i]? = some sl → sl = .un ∨ (i = 0 ∧ sl = .own (some 0) es) ∨ ∃ j d, i = j + 1 ∧ sl = .sh d ∧ ds[j]? = some d := fun i sl e => by
    rw [env0_get (by simpa using hn)] at e
    by_cases h1 : i < ds.length + 1
    · rw [if_pos (by simpa using h1)] at e
      cases i with
      | zero => cases e; exact .inr (.inl ⟨rfl, rfl⟩)
      | succ j =>
        rw [List.getElem?_cons_succ, List.getElem?_map, List.getElem?_eq_getElem (by omega)] at e
        cases e
        exact .inr (.inr ⟨j, _, rfl, rfl, List.getElem?_eq_getElem (by omega)⟩)
    · rw [if_neg (by simpa using h1)] at e
      split at e <;> cases e
      exact .inl rfl
  refine ⟨s, fun b o e => (privOf_some (tabs := tabs) (ex := fun b => b = m) (G := G) e).1, fun b e => ?_, ht, fun P hP => by show privOf tabs (fun b => b = m) H G P = none; unfold privOf; rw [if_neg (fun z => z.2.1 hP)], fun a ha => ?_, ?_, fun i sl e => ?_, fun i j t t' es1 es' a hij ei ej => ?_⟩
  · cases z : privOf tabs (fun b => b = m) H G b with
    | none => exact absurd z e
    | some o => exact (privOf_some (ex := fun b => b = m) z).2
  · rw [List.mem_singleton.mp ha, hm]; simp
  · unfold env0 L2.start
    simp only [List.length_append, List.length_map, List.length_replicate, List.length_cons]
    omega
  · rcases e0 i sl e with rfl | ⟨rfl, rfl⟩ | ⟨j, d, rfl, rfl, hd⟩
    · trivial
    · refine ⟨m, xs, by rw [start_get (by simp; omega), if_pos (by simp)]; rfl, hm, q1, gm, ?_, rfl⟩
      show privOf tabs (fun b => b = m) H G m = none
      unfold privOf
      rw [if_neg (fun z => z.2.2 rfl)]
    · obtain ⟨v, e1, e2⟩ := q.get hd
      have hi : j < us.length := (List.getElem?_eq_some_iff.mp e1).1
      exact ⟨v, by rw [start_get (by simp; omega), if_pos (by simpa using hi), List.getElem?_cons_succ, e1]; rfl, e2⟩
  · rcases e0 i _ ei with z | ⟨rfl, _⟩ | ⟨_, d, _, z, _⟩
    · cases z
    · rcases e0 j _ ej with z | ⟨rfl, _⟩ | ⟨_, d, _, z, _⟩
      · cases z
      · exact absurd rfl hij
      · cases z
    · cases z
/-- a def without a list that it may change -/
theorem fn0 {x qual : Str} {st : Stmt} {f : Addr} {fd : FuncData} {N ps : List Str} {k : Nat} {B : Mo Out} (F : Fun K x qual st f fd) (S : FnScope N ps (defScope st)) (hp : ps.length ≤ N.length)
    (hbody : ∀ (cdv : Value) (A : Around) (outer : List Env) (s : Shared) (H : Hp) (E : XK) (p : Hp), Room k (A.deeper (envOfC qual (defScope st) s.heap.objs.size f cdv)) →
      PBs (cxOf CX0 P w K mg base N qual (defScope st) f cdv A outer s H E).nox ⟨p, [], tabs, fun _ _ => False⟩ (defBody st) B) : FnOk P w K mg base CX0 (k + 1) f fd ps (sp0 K tabs ps.length (runF N.length B)) := by
  refine F.ok S (fun vs H Q E ⟨G, ds, _, _, h1, h2, _⟩ => h2.length.trans h1) (fun cdv A outer s H vs Q E hr h => ?_)
  obtain ⟨G, ds, h1, h2, h3, h4, r, h5, h6⟩ := h
  refine ⟨_, hbody cdv A outer s H E _ hr, _, G, sr_start (W := fun _ _ => False) h1 h2 h4 (by omega), ?_⟩
  have new : ∀ {H' G' : Hp}, Sub G G' → (∀ P ∈ tabs, TabOk H' P) → ∀ a xs, H' a = some (.lst xs) → G' a = none → privOf tabs (fun _ => False) H G a = none → a ∉ ([] : List Addr) → H a = none := fun sG tb a xs k1 k2 k3 _ => by
    refine privOf_none k3 (sub_none sG k2) (fun z => ?_) id
    obtain ⟨ps', e, _⟩ := tb a z
    rw [e] at k1
    cases k1
  have kept : ∀ {env' : Fv} {σ' : L2.St} {H' G' : Hp}, SR K ⟨privOf tabs (fun _ => False) H G, [], tabs, fun _ _ => False⟩ env' σ' H' G' → Kept tabs (fun _ => False) H G H' G' := fun h b o e1 e2 e3 e4 => by
    have e5 : privOf tabs (fun _ => False) H G b = some o := by
      unfold privOf
      rw [if_pos ⟨e2, e3, id⟩]
      exact e1
    exact ⟨h.prot b o e5, h.dj b (ne_none_of e5)⟩
  unfold runF at h5
  unfold wpM
  cases z : (B (env0 N.length (ds.map .sh)) : Res Out) with
  | stuck => rw [z] at h5; cases h5
  | exc c e => rw [z] at h5; cases h5
  | ok o e =>
    rw [z] at h5
    unfold finF at h5
    cases o with
    | nx =>
      cases h5
      exact fun σ' H' G' h s => h6 H' G' .non s h.sub h.tab (kept h) .non
    | rt r1 =>
      have h7 : outV (.rt r1) e = some r := by
        cases y : outV (.rt r1) e with
        | none => simp only [y] at h5; cases h5
        | some r2 => simp only [y] at h5; cases h5; rfl
      exact fun σ' H' G' v h s q => h6 H' G' v s h.sub h.tab (kept h) (retV_ok h q h7 (new s h.tab))
    | bk => cases h5
    | ct => cases h5
/-- a def whose first parameter is a list that it may change -/
theorem fnL {x qual : Str} {st : Stmt} {f : Addr} {fd : FuncData} {N ps : List Str} {k : Nat} {B : Mo Out} (F : Fun K x qual st f fd) (S : FnScope N ps (defScope st)) (hp : ps.length ≤ N.length)
    (hbody : ∀ (cdv : Value) (A : Around) (outer : List Env) (s : Shared) (H : Hp) (E : XK) (p : Hp) (m : Addr), Room k (A.deeper (envOfC qual (defScope st) s.heap.objs.size f cdv)) →
      PBs (cxOf CX0 P w K mg base N qual (defScope st) f cdv A outer s H E).nox ⟨p, [m], tabs, fun _ _ => False⟩ (defBody st) B) : FnOk P w K mg base CX0 (k + 1) f fd ps (spL K tabs ps.length (runL N.length B)) := by
  refine F.ok S (fun vs H Q E ⟨G, m, us, xs, es, ds, e, _, _, h1, _, _, _, h2, _⟩ => by rw [e, ← h1, ← h2.length]; rfl) (fun cdv A outer s H vs Q E hr h => ?_)
  obtain ⟨G, m, us, xs, es, ds, rfl, h1, h2, h3, hm, gm, k1, h4, r, out, h5, h6⟩ := h
  refine ⟨_, hbody cdv A outer s H E _ m hr, _, G, sr_startL (W := fun _ _ => False) h1 h2 hm gm k1 h4 (by omega), ?_⟩
  have new : ∀ {H' G' : Hp}, Sub G G' → (∀ P ∈ tabs, TabOk H' P) → ∀ a xs, H' a = some (.lst xs) → G' a = none → privOf tabs (fun b => b = m) H G a = none → a ∉ [m] → H a = none := fun sG tb a xs k1 k2 k3 k4 => by
    refine privOf_none k3 (sub_none sG k2) (fun z => ?_) fun z => k4 (by simp [z])
    obtain ⟨ps', e, _⟩ := tb a z
    rw [e] at k1
    cases k1
  have kept : ∀ {env' : Fv} {σ' : L2.St} {H' G' : Hp}, SR K ⟨privOf tabs (fun b => b = m) H G, [m], tabs, fun _ _ => False⟩ env' σ' H' G' → Kept tabs (fun b => b = m) H G H' G' := fun h b o e1 e2 e3 e4 => by
    have e5 : privOf tabs (fun b => b = m) H G b = some o := by
      unfold privOf
      rw [if_pos ⟨e2, e3, e4⟩]
      exact e1
    exact ⟨h.prot b o e5, h.dj b (ne_none_of e5)⟩
  have lentOut : ∀ {e : Fv} {σ' : L2.St} {H' G' : Hp} {os : List PyData}, SR K ⟨privOf tabs (fun b => b = m) H G, [m], tabs, fun _ _ => False⟩ e σ' H' G' → e[0]? = some (.own (some 0) os) → ∃ ys, H' m = some (.lst ys) ∧ G' m = none ∧ DqAll K G' ys os := fun h e0 => by
    obtain ⟨a, ys, _, z1, z2, z3, _, z4⟩ := h.ownAt e0
    have z4' : [m][0]? = some a := z4
    cases z4'
    exact ⟨ys, z1, z3, z2⟩
  unfold runL at h5
  unfold wpM
  cases z : (B (env0 N.length (.own (some 0) es :: ds.map .sh)) : Res Out) with
  | stuck => rw [z] at h5; cases h5
  | exc c e => rw [z] at h5; cases h5
  | ok o e =>
    rw [z] at h5
    unfold finL at h5
    cases y : outV o e with
    | none => simp only [y] at h5; cases h5
    | some r2 =>
      simp only [y] at h5
      split at h5
      · rename_i r3 os e1 e0
        cases e1
        cases h5
        cases o with
        | nx =>
          cases y
          intro σ' H' G' h s
          obtain ⟨ys, q1, q2, q3⟩ := lentOut h e0
          exact h6 H' G' .non ys s h.sub h.tab (kept h) q1 q2 q3 .non
        | rt r1 =>
          intro σ' H' G' v h s q
          obtain ⟨ys, q1, q2, q3⟩ := lentOut h e0
          exact h6 H' G' v ys s h.sub h.tab (kept h) q1 q2 q3 (retV_ok h q y (new s h.tab))
        | bk => cases y
        | ct => cases y
      · cases h5
end
end Cf
/-! Cf, part I: calls of the program's own defs. -/
namespace Cf
open PySem PySem.Spec PyProof.Rows L2

/-! ### data without lists -/
mutual
def noList : PyData → Bool
  | .list _ => false
  | .tuple ds => noLists ds
  | .dict _ => false
  | _ => true
def noLists : List PyData → Bool
  | [] => true
  | d :: ds => noList d && noLists ds
end
def freeRv : Rv → Bool
  | .sh d => noList d
  | .fr ds => noLists ds
  | .sl _ => false
/-- G without the addresses of A -/
def drop (G : Hp) (A : Addr → Bool) : Hp := fun b => if A b = true then none else G b
def lay (G H : Hp) (A : Addr → Bool) : Hp := fun b => if A b = true then H b else G b
mutual
theorem noList_drop {K : PySem.W.Frag} {G : Hp} {A : Addr → Bool} (hA : ∀ b, A b = true → ∀ xs, Rd G b (.tup xs) → False) : ∀ (d : PyData), noList d = true → ∀ v, Dq K G v d → Dq K (drop G A) v d
  | .none, _, _, h => by cases h; exact .non
  | .bool b, _, _, h => by cases h; exact .bl b
  | .int i, _, _, h => by cases h; exact .int i
  | .str x, _, _, h => by cases h; exact .str x
  | .list ds, c, _, _ => by simp [noList] at c
  | .dict ds, c, _, _ => by simp [noList] at c
  | .tuple ds, c, _, h => by
    cases h with
    | @tup a xs _ h1 h2 =>
      refine .tup ?_ (noLists_drop hA ds (by simpa [noList] using c) _ h2)
      rcases h1 with h1 | h1
      · have : ¬ A a = true := fun z => hA a z xs h1
        rcases h1 with h1 | ⟨o, h1⟩
        · exact .inl (.inl (by unfold drop; rw [if_neg this]; exact h1))
        · exact .inl (.inr ⟨o, by unfold drop; rw [if_neg this]; exact h1⟩)
      · exact .inr h1
theorem noLists_drop {K : PySem.W.Frag} {G : Hp} {A : Addr → Bool} (hA : ∀ b, A b = true → ∀ xs, Rd G b (.tup xs) → False) : ∀ (ds : List PyData), noLists ds = true → ∀ vs, DqAll K G vs ds → DqAll K (drop G A) vs ds
  | [], _, _, h => by cases h; exact .nil
  | d :: ds, c, _, h => by
    simp only [noLists, Bool.and_eq_true] at c
    cases h with
    | cons h1 h2 => exact .cons (noList_drop hA d c.1 _ h1) (noLists_drop hA ds c.2 _ h2)
end

/-! ### a call; lists of ours that are handed over stand still from then on -/
def endF (o : FnR) : Mo Rv := match o with
  | .ok r => pure r
  | .exc _ => stuckM
  | .stuck => stuckM
def callF (n : Nat) (g : List PyData → FnR) (Fs : Mo (List Rv)) : Mo Rv := do
  let rs ← Fs
  let ds ← forces rs
  if ds.length = n then endF (g ds) else stuckM
section
variable {K : PySem.W.Frag} {fr : Fr} {env : Fv} {σ : L2.St} {H G H' G' : Hp}
/-- the relation behind a call that kept what was private -/
theorem SR.kept (h : SR K fr env σ H G) (s : Sub G G') (s' : Sub G' H') (t : Tabs fr.tabs H') (k : Kept fr.tabs (fun _ => False) H G H' G') : SR K fr env σ H' G' where
  sub := s'
  prot := fun b o e => (k b o (h.prot b o e) (h.dj b (ne_none_of e)) (fun z => by rw [h.pt b z] at e; cases e) id).1
  dj := fun b e => by
    cases q : fr.prot b with
    | none => exact absurd q e
    | some o => exact (k b o (h.prot b o q) (h.dj b e) (fun z => by rw [h.pt b z] at q; cases q) id).2
  tab := t
  pt := h.pt
  lent := fun a ha z => by
    cases q : H a with
    | none => exact h.lent a ha q
    | some o =>
      cases q2 : G a with
      | some o2 => rw [s' _ _ (s _ _ q2)] at z; cases z
      | none =>
        by_cases hT : a ∈ fr.tabs
        · obtain ⟨ps, e, _⟩ := t a hT
          rw [e] at z
          cases z
        · rw [(k a o q q2 hT id).1] at z
          cases z
  len := h.len
  slots := fun i sl e => by
    cases sl with
    | un => trivial
    | sh d =>
      obtain ⟨x, e1, e2⟩ := h.slots i _ e
      exact ⟨x, e1, Sub.dq s _ _ e2⟩
    | own t' ds =>
      obtain ⟨a, xs, e1, k1, k2, k3, k4, k5⟩ := h.slots i _ e
      have nt : a ∉ fr.tabs := fun z => by
        obtain ⟨ps, e, _⟩ := h.tab a z
        rw [e] at k1
        cases k1
      obtain ⟨m1, m2⟩ := k a _ k1 k3 nt id
      exact ⟨a, xs, e1, m1, Sub.dqAll s _ _ k2, m2, k4, k5⟩
  dist := h.dist
theorem RetOk.ok {v : V} {r : Rv} (h : SR K fr env σ H G) (q : RetOk K H H' G' v r) : RvOk K fr env σ H' G' v r := RvNew.ok h q
end
section
variable {X : Cx} {fr : Fr} {e : Expr} {es : List Expr} {Fs : Mo (List Rv)} {x : Str} {p pos : Pos} {k n : Nat} {f : Addr} {fd : FuncData} {ps : List Str} {g : List PyData → FnR}
theorem ev_call (F : FnOk X.prog X.w X.K X.mg X.base CX0 k f fd ps (sp0 X.K fr.tabs n g)) (hr : Room k X.A) (hg : Gl X x) (hm : X.mg x = some (.ref f)) (hk : PySem.W.keepIn X.K (.ref f) = true) (hb : Binds X.K fd ps [])
    (ha : PAv X fr (e :: es) Fs) (hdb : (x == ("__debug__" : Str)) = false := by decide) (he : starEach (e :: es) X.env = (false, eval e X.env) :: starEach es X.env := by rfl) (hpl : (backTo pos (starEach es X.env)).any (·.1) = false := by rfl) :
    PEv X fr (.Call (.Name x p) (e :: es) [] pos) (callF n g Fs) :=
  weakE (pe_call F hr hg hm hk hb .nil (pass0) ha hdb he hpl) fun σ H Q ⟨env, G, h, w⟩ => by
    unfold callF at w
    refine tA_then h w (fun rs env1 H1 G1 vs h1 s1 q1 w1 => ?_) fun c e1 E1 H1 G1 h1 s1 => E1 H1 G1 h1 s1
    obtain ⟨ds, env2, G2, h2, s2, d2, w2⟩ := forces_ok h1 q1 (wpM_bind.mp w1)
    rw [List.append_nil]
    split at w2
    · rename_i len
      cases z : g ds with
      | exc c => rw [z] at w2; exact w2.elim
      | stuck => rw [z] at w2; exact w2.elim
      | ok r =>
        rw [z] at w2
        exact ⟨G2, ds, h2.sub, h2.tab, len, d2, r, z, fun H' G' v sG sH t k q => w2 H' G' v (h2.kept sG sH t k) ((s1.trans s2).trans sG) (q.ok h2)⟩
    · exact w2.elim
end

/-! ### a call that lends a list -/
def callL (n : Nat) (g : List PyData → List PyData → FnL) (j : Nat) (Fs : Mo (List Rv)) : Mo Rv := do
  needOwn j
  let rs ← Fs
  let ds ← forces rs
  let es ← getOwn j
  if ds.length + 1 = n then
    match g es ds with
    | .ok r out => do
      putOwn j out
      pure r
    | .stuck => stuckM
  else stuckM
section
variable {K : PySem.W.Frag} {fr : Fr} {env : Fv} {σ : L2.St} {H G H' G' : Hp}
theorem SR.keptL (h : SR K fr env σ H G) {j : Nat} {t0 : Option Nat} {es out : List PyData} {m : Addr} {ys : List V} (ej : env[j]? = some (.own t0 es)) (em : σ[j]? = some (some (.ref m)))
    (s : Sub G G') (s' : Sub G' H') (t : Tabs fr.tabs H') (k : Kept fr.tabs (fun b => b = m) H G H' G') (hm : H' m = some (.lst ys)) (gm : G' m = none) (q : DqAll K G' ys out) : SR K fr (env.set j (.own t0 out)) σ H' G' := by
  obtain ⟨m', xs0, z1, z2, z3, z4, z5, z6⟩ := h.ownAt ej
  rw [em] at z1
  cases z1
  have hj : j < env.length := (List.getElem?_eq_some_iff.mp ej).1
  have nm : ∀ b o, fr.prot b = some o → b ≠ m := fun b o e z => by rw [z, z5] at e; cases e
  have n : ∀ (i : Nat) (t1 : Option Nat) (es1 : List PyData), (env.set j (.own t0 out))[i]? = some (.own t1 es1) → ∃ t2 es2, env[i]? = some (.own t2 es2) := fun i t1 es1 e => by
    by_cases hi : i = j
    · subst hi; exact ⟨_, _, ej⟩
    · rw [List.getElem?_set_ne (Ne.symm hi)] at e; exact ⟨_, _, e⟩
  refine ⟨s', fun b o e => (k b o (h.prot b o e) (h.dj b (ne_none_of e)) (fun z => by rw [h.pt b z] at e; cases e) (nm b o e)).1, fun b e => ?_, t, h.pt, fun a ha z => ?_, by simpa using h.len, fun i sl e => ?_, fun i i2 t1 t2 es1 es2 b hii e1 e2 => ?_⟩
  · cases q : fr.prot b with
    | none => exact absurd q e
    | some o => exact (k b o (h.prot b o q) (h.dj b e) (fun z => by rw [h.pt b z] at q; cases q) (nm b o q)).2
  · cases q : H a with
    | none => exact h.lent a ha q
    | some o =>
      cases q2 : G a with
      | some o2 => rw [s' _ _ (s _ _ q2)] at z; cases z
      | none =>
        by_cases hT : a ∈ fr.tabs
        · obtain ⟨ps, e, _⟩ := t a hT
          rw [e] at z
          cases z
        · by_cases ham : a = m
          · rw [ham, hm] at z; cases z
          · rw [(k a o q q2 hT ham).1] at z
            cases z
  · by_cases hi : i = j
    · subst hi
      rw [List.getElem?_set_self hj] at e
      cases e
      exact ⟨m, ys, by rw [em]; rfl, hm, q, gm, z5, z6⟩
    · rw [List.getElem?_set_ne (Ne.symm hi)] at e
      cases sl with
      | un => trivial
      | sh d =>
        obtain ⟨x, e1, e2⟩ := h.slots i _ e
        exact ⟨x, e1, Sub.dq s _ _ e2⟩
      | own t' ds =>
        obtain ⟨a, xs, e1, k1, k2, k3, k4, k5⟩ := h.ownAt e
        have nt : a ∉ fr.tabs := fun z => by
          obtain ⟨ps, e, _⟩ := h.tab a z
          rw [e] at k1
          cases k1
        have na : a ≠ m := fun z => h.dist j i t0 t' es ds m (Ne.symm hi) ej e em (by rw [← z]; exact e1)
        obtain ⟨m1, m2⟩ := k a _ k1 k3 nt na
        exact ⟨a, xs, by rw [e1]; rfl, m1, Sub.dqAll s _ _ k2, m2, k4, k5⟩
  · obtain ⟨t3, es3, e3⟩ := n _ _ _ e1
    obtain ⟨t4, es4, e4⟩ := n _ _ _ e2
    exact h.dist i i2 t3 t4 es3 es4 b hii e3 e4
end
section
variable {X : Cx} {fr : Fr} {e : Expr} {es : List Expr} {Fs : Mo (List Rv)} {x : Str} {p pos : Pos} {k n j : Nat} {f : Addr} {fd : FuncData} {ps : List Str} {g : List PyData → List PyData → FnL}
theorem ev_callL (F : FnOk X.prog X.w X.K X.mg X.base CX0 k f fd ps (spL X.K fr.tabs n g)) (hr : Room k X.A) (hg : Gl X x) (hm : X.mg x = some (.ref f)) (hk : PySem.W.keepIn X.K (.ref f) = true) (hb : Binds X.K fd ps [])
    (h0 : PEv X fr e (readF j)) (ha : PAv X fr es Fs) (hdb : (x == ("__debug__" : Str)) = false := by decide) (he : starEach (e :: es) X.env = (false, eval e X.env) :: starEach es X.env := by rfl) (hpl : (backTo pos (starEach es X.env)).any (·.1) = false := by rfl) :
    PEv X fr (.Call (.Name x p) (e :: es) [] pos) (callL n g j Fs) :=
  weakE (pe_call F hr hg hm hk hb .nil (pass0) (pa_cons h0 ha he) hdb he hpl) fun σ H Q ⟨env, G, h, w⟩ => by
    unfold callL at w
    obtain ⟨t0, es0, e0, w0⟩ := wpM_need w
    refine tE_read h e0 fun m H0 G0 xs0 h0 s0 em _ _ => ?_
    refine tA_then h0 w0 (fun rs env1 H1 G1 vs h1 s1 q1 w1 => ?_) fun c e1 E1 H1 G1 h1 s1 => E1 H1 G1 h1 (s0.trans s1)
    obtain ⟨ds, env2, G2, h2, s2, d2, w2⟩ := forces_ok h1 q1 (wpM_bind.mp w1)
    obtain ⟨t3, es3, e3, w3⟩ := wpM_own w2
    obtain ⟨m', xs3, z1, z2, z3, z4, z5, z6⟩ := h2.ownAt e3
    rw [em] at z1
    cases z1
    rw [List.append_nil]
    split at w3
    · rename_i len
      cases z : g es3 ds with
      | stuck => rw [z] at w3; exact w3.elim
      | ok r out =>
        rw [z] at w3
        have w4 := wpM_put e3 w3
        exact ⟨G2, m, vs, xs3, es3, ds, rfl, h2.sub, h2.tab, len, z2, z4, z3, d2, r, out, z, fun H' G' v ys sG sH t k hm gm qo q => by
          have h4 := h2.keptL e3 em sG sH t k hm gm qo
          refine w4 H' G' v h4 (((s0.trans s1).trans s2).trans sG) ?_
          cases r with
          | sh d => exact q
          | sl _ => exact q.elim
          | fr ds' =>
            obtain ⟨a, xs, e5, k1, k2, k3, k4⟩ := q
            refine ⟨a, xs, e5, k1, k2, k3, ?_, fun z => h2.lent a z k4, fun i t es' ei => ?_⟩
            · cases z : fr.prot a with
              | none => rfl
              | some o => rw [h2.prot a o z] at k4; cases k4
            · by_cases hi : i = j
              · rw [hi, em]
                intro z
                cases z
                rw [z2] at k4
                cases k4
              · rw [List.getElem?_set_ne (Ne.symm hi)] at ei
                exact h2.notOwn k4 i t es' ei⟩
    · exact w3.elim
end

/-! ### a call that only reads our lists; what it hands back holds none -/
def callB (n : Nat) (g : List PyData → FnR) (Fs : Mo (List Rv)) : Mo Rv := do
  let rs ← Fs
  let ds ← peeks rs
  if ds.length = n then
    match g ds with
    | .ok r => if freeRv r = true then pure r else stuckM
    | _ => stuckM
  else stuckM
/-- the addresses of our own lists -/
noncomputable def ownA (env : Fv) (σ : L2.St) : Addr → Bool := fun b => @decide (∃ (i : Nat) (t : Option Nat) (ds : List PyData), env[i]? = some (.own t ds) ∧ σ[i]? = some (some (.ref b))) (Classical.propDecidable _)
section
variable {K : PySem.W.Frag} {fr : Fr} {env : Fv} {σ : L2.St} {H G H' G' : Hp}
theorem ownA_iff {b : Addr} : ownA env σ b = true ↔ ∃ (i : Nat) (t : Option Nat) (ds : List PyData), env[i]? = some (.own t ds) ∧ σ[i]? = some (some (.ref b)) := by
  unfold ownA
  exact @decide_eq_true_iff _ (Classical.propDecidable _)
theorem SR.ownA_at (h : SR K fr env σ H G) {b : Addr} (hb : ownA env σ b = true) : (∃ xs, H b = some (.lst xs)) ∧ G b = none ∧ fr.prot b = none := by
  obtain ⟨i, t, ds, e1, e2⟩ := ownA_iff.mp hb
  obtain ⟨a, xs, z1, z2, z3, z4, z5, _⟩ := h.ownAt e1
  rw [e2] at z1
  cases z1
  exact ⟨⟨xs, z2⟩, z4, z5⟩
theorem SR.laySub (h : SR K fr env σ H G) : Sub (lay G H (ownA env σ)) H := fun b o e => by
  unfold lay at e
  split at e
  · exact e
  · exact h.sub b o e
theorem SR.subLay (h : SR K fr env σ H G) : Sub G (lay G H (ownA env σ)) := fun b o e => by
  unfold lay
  rw [if_neg (fun z => by rw [(h.ownA_at z).2.1] at e; cases e)]
  exact e
theorem peeks_lay (h : SR K fr env σ H G) : ∀ {vs : List V} {rs : List Rv}, RvsOk K σ G vs rs → ∀ {Q : List PyData → Fv → Prop} {E : Nat → Fv → Prop}, wpM (peeks rs) env Q E → ∃ ds, DqAll K (lay G H (ownA env σ)) vs ds ∧ Q ds env
  | [], [], _, _, _, w => ⟨[], .nil, w⟩
  | [], _ :: _, h, _, _, _ => h.elim
  | _ :: _, [], h, _, _, _ => h.elim
  | v :: vs, r :: rs, q, Q, E, w => by
    obtain ⟨q1, q2⟩ := rvsOk_cons.mp q
    unfold peeks at w
    have one : ∃ d, Dq K (lay G H (ownA env σ)) v d ∧ wpM (peeks rs >>= fun ds => pure (d :: ds)) env Q E := by
      have w' := wpM_bind.mp w
      cases r with
      | sh d => exact ⟨d, Sub.dq h.subLay _ _ q1, w'⟩
      | fr ds => exact q1.elim
      | sl i =>
        have q1' : σ[i]? = some (some v) := q1
        unfold wpM peek at w'
        cases e : env[i]? with
        | none => simp [e] at w'
        | some sl =>
          cases sl with
          | un => simp [e] at w'
          | sh d =>
            simp only [e] at w'
            obtain ⟨x, e1, e2⟩ := h.shAt e
            rw [q1'] at e1; cases e1
            exact ⟨d, Sub.dq h.subLay _ _ e2, w'⟩
          | own t ds =>
            simp only [e] at w'
            obtain ⟨a, xs, e1, e2, e3, _⟩ := h.ownAt e
            rw [q1'] at e1; cases e1
            refine ⟨.list ds, .lst ?_ (Sub.dqAll h.subLay _ _ e3), w'⟩
            unfold lay
            rw [if_pos (ownA_iff.mpr ⟨i, t, ds, e, q1'⟩)]
            exact e2
    obtain ⟨d, h1, w1⟩ := one
    obtain ⟨ds, h2, w2⟩ := peeks_lay h q2 (wpM_bind.mp w1)
    exact ⟨d :: ds, .cons h1 h2, w2⟩
theorem SR.keptB (h : SR K fr env σ H G) (s : Sub (lay G H (ownA env σ)) G') (s' : Sub G' H') (t : Tabs fr.tabs H') (k : Kept fr.tabs (fun _ => False) H (lay G H (ownA env σ)) H' G') :
    SR K fr env σ H' (drop G' (ownA env σ)) ∧ Sub G (drop G' (ownA env σ)) := by
  have sG : Sub G (drop G' (ownA env σ)) := fun b o e => by
    unfold drop
    rw [if_neg (fun z => by rw [(h.ownA_at z).2.1] at e; cases e)]
    exact s b o (h.subLay b o e)
  have nl : ∀ b o, fr.prot b = some o → lay G H (ownA env σ) b = none := fun b o e => by
    unfold lay
    rw [if_neg (fun z => by rw [(h.ownA_at z).2.2] at e; cases e)]
    exact h.dj b (ne_none_of e)
  refine ⟨⟨fun b o e => ?_, fun b o e => (k b o (h.prot b o e) (nl b o e) (fun z => by rw [h.pt b z] at e; cases e) id).1, fun b e => ?_, t, h.pt, fun a ha z => ?_, h.len, fun i sl e => ?_, h.dist⟩, sG⟩
  · unfold drop at e
    split at e
    · cases e
    · exact s' b o e
  · cases q : fr.prot b with
    | none => exact absurd q e
    | some o =>
      unfold drop
      split
      · rfl
      · exact (k b o (h.prot b o q) (nl b o q) (fun z => by rw [h.pt b z] at q; cases q) id).2
  · cases q : H a with
    | none => exact h.lent a ha q
    | some o =>
      cases q2 : lay G H (ownA env σ) a with
      | some o2 => rw [s' _ _ (s _ _ q2)] at z; cases z
      | none =>
        by_cases hT : a ∈ fr.tabs
        · obtain ⟨ps, e, _⟩ := t a hT
          rw [e] at z
          cases z
        · rw [(k a o q q2 hT id).1] at z
          cases z
  · cases sl with
    | un => trivial
    | sh d =>
      obtain ⟨x, e1, e2⟩ := h.slots i _ e
      exact ⟨x, e1, Sub.dq sG _ _ e2⟩
    | own t' ds =>
      obtain ⟨a, xs, e1, k1, k2, k3, k4, k5⟩ := h.ownAt e
      have ha : ownA env σ a = true := ownA_iff.mpr ⟨i, t', ds, e, e1⟩
      have hl : lay G H (ownA env σ) a = some (.lst xs) := by unfold lay; rw [if_pos ha]; exact k1
      exact ⟨a, xs, by rw [e1]; rfl, s' _ _ (s _ _ hl), Sub.dqAll sG _ _ k2, by unfold drop; rw [if_pos ha], k4, k5⟩
theorem keptB_val (h : SR K fr env σ H G) (s : Sub (lay G H (ownA env σ)) G') {v : V} {r : Rv} (hf : freeRv r = true) (q : RetOk K H H' G' v r) : RvOk K fr env σ H' (drop G' (ownA env σ)) v r := by
  have hA : ∀ b, ownA env σ b = true → ∀ xs, Rd G' b (.tup xs) → False := fun b hb xs z => by
    obtain ⟨⟨ys, e⟩, _⟩ := h.ownA_at hb
    have hl : lay G H (ownA env σ) b = some (.lst ys) := by unfold lay; rw [if_pos hb]; exact e
    have e2 := s _ _ hl
    rcases z with z | ⟨o, z⟩
    · rw [e2] at z; cases z
    · rw [e2] at z; cases z
  cases r with
  | sh d => exact noList_drop hA d hf _ q
  | sl _ => exact q.elim
  | fr ds =>
    obtain ⟨a, xs, e, k1, k2, k3, k4⟩ := q
    refine ⟨a, xs, e, k1, noLists_drop hA ds hf _ k2, ?_, ?_, fun z => h.lent a z k4, h.notOwn k4⟩
    · unfold drop
      split
      · rfl
      · exact k3
    · cases z : fr.prot a with
      | none => rfl
      | some o => rw [h.prot a o z] at k4; cases k4
end
section
variable {X : Cx} {fr : Fr} {e : Expr} {es : List Expr} {Fs : Mo (List Rv)} {x : Str} {p pos : Pos} {k n : Nat} {f : Addr} {fd : FuncData} {ps : List Str} {g : List PyData → FnR}
theorem ev_callBw (F : FnOk X.prog X.w X.K X.mg X.base CX0 k f fd ps (sp0 X.K fr.tabs n g)) (hr : Room k X.A) (hg : Gl X x) (hm : X.mg x = some (.ref f)) (hk : PySem.W.keepIn X.K (.ref f) = true) (hb : Binds X.K fd ps [])
    (ha : PAv X fr (e :: es) Fs) (hdb : (x == ("__debug__" : Str)) = false := by decide) (he : starEach (e :: es) X.env = (false, eval e X.env) :: starEach es X.env := by rfl) (hpl : (backTo pos (starEach es X.env)).any (·.1) = false := by rfl) :
    PEv X fr (.Call (.Name x p) (e :: es) [] pos) (callB n g Fs) :=
  weakE (pe_call F hr hg hm hk hb .nil (pass0) ha hdb he hpl) fun σ H Q ⟨env, G, h, w⟩ => by
    unfold callB at w
    refine tA_then h w (fun rs env1 H1 G1 vs h1 s1 q1 w1 => ?_) fun c e1 E1 H1 G1 h1 s1 => E1 H1 G1 h1 s1
    obtain ⟨ds, d2, w2⟩ := peeks_lay h1 q1 (wpM_bind.mp w1)
    rw [List.append_nil]
    split at w2
    · rename_i len
      cases z : g ds with
      | exc c => rw [z] at w2; exact w2.elim
      | stuck => rw [z] at w2; exact w2.elim
      | ok r =>
        rw [z] at w2
        simp only at w2
        split at w2
        · rename_i hf
          exact ⟨_, ds, h1.laySub, h1.tab, len, d2, r, z, fun H' G' v sG sH t k q => by
            obtain ⟨h3, s3⟩ := h1.keptB sG sH t k
            exact w2 H' _ v h3 (s1.trans s3) (keptB_val h1 sG hf q)⟩
        · exact w2.elim
    · exact w2.elim
end
end Cf
/-! Cf, part J: comprehensions. -/
namespace Cf
open PySem PySem.Spec PyProof.Rows L2

def wipeE : List Nat → Fv → Fv
  | [], e => e
  | v :: vs, e => (wipeE vs e).set v .un
def restE (e : Fv) : List Nat → Fv → Fv
  | [], e' => e'
  | v :: vs, e' => (restE e vs e').set v ((e[v]?).getD .un)
def noOwn (vs : List Nat) (e : Fv) : Bool := vs.all fun v => match e[v]? with
  | some (.own _ _) => false
  | _ => true
theorem wipeE_length : ∀ (vs : List Nat) (e : Fv), (wipeE vs e).length = e.length
  | [], e => rfl
  | v :: vs, e => by unfold wipeE; rw [List.length_set, wipeE_length vs e]
theorem restE_length (e : Fv) : ∀ (vs : List Nat) (e' : Fv), (restE e vs e').length = e'.length
  | [], _ => rfl
  | v :: vs, e' => by unfold restE; rw [List.length_set, restE_length e vs e']
theorem wipeE_out {i : Nat} : ∀ {vs : List Nat} {e : Fv}, i ∉ vs → (wipeE vs e)[i]? = e[i]?
  | [], _, _ => rfl
  | v :: vs, e, h => by
    unfold wipeE
    rw [List.getElem?_set_ne (fun z => h (by simp [z]))]
    exact wipeE_out fun z => h (List.mem_cons_of_mem _ z)
theorem wipeE_in {i : Nat} : ∀ {vs : List Nat} {e : Fv}, i ∈ vs → i < e.length → (wipeE vs e)[i]? = some .un
  | v :: vs, e, h, hl => by
    unfold wipeE
    by_cases hv : v = i
    · subst hv
      rw [List.getElem?_set_self (by rw [wipeE_length]; exact hl)]
    · rw [List.getElem?_set_ne hv]
      exact wipeE_in ((List.mem_cons.mp h).resolve_left fun z => hv z.symm) hl
theorem restE_out {e : Fv} {i : Nat} : ∀ {vs : List Nat} {e' : Fv}, i ∉ vs → (restE e vs e')[i]? = e'[i]?
  | [], _, _ => rfl
  | v :: vs, e', h => by
    unfold restE
    rw [List.getElem?_set_ne (fun z => h (by simp [z]))]
    exact restE_out fun z => h (List.mem_cons_of_mem _ z)
theorem restE_in {e : Fv} {i : Nat} : ∀ {vs : List Nat} {e' : Fv}, i ∈ vs → i < e'.length → (restE e vs e')[i]? = some ((e[i]?).getD .un)
  | v :: vs, e', h, hl => by
    unfold restE
    by_cases hv : v = i
    · subst hv
      rw [List.getElem?_set_self (by rw [restE_length]; exact hl)]
    · rw [List.getElem?_set_ne hv]
      exact restE_in ((List.mem_cons.mp h).resolve_left fun z => hv z.symm) hl
theorem wipe_at {σ : L2.St} {i : Nat} {vs : List Nat} (h : i ∉ vs) : (wipe σ vs)[i]? = σ[i]? := wipe_out h

theorem wipe_in {σ : L2.St} {i : Nat} : ∀ {vs : List Nat}, i ∈ vs → i < σ.length → (L2.wipe σ vs)[i]? = some none
  | v :: vs, h, hl => by
    unfold L2.wipe
    by_cases hv : v = i
    · subst hv
      rw [List.getElem?_set_self (by rw [wipe_length]; exact hl)]
    · rw [List.getElem?_set_ne hv]
      exact wipe_in ((List.mem_cons.mp h).resolve_left fun z => hv z.symm) hl
theorem wipe_off {σ σ' : L2.St} {vs ws : List Nat} (h : Off ws (L2.wipe σ vs) σ') (s : ∀ i ∈ ws, i ∈ vs) : L2.wipe σ' vs = L2.wipe σ vs := by
  have hl : σ'.length = σ.length := by have := h.1; rw [wipe_length] at this; exact this
  refine List.ext_getElem? fun i => ?_
  by_cases hi : i ∈ vs
  · by_cases hlt : i < σ.length
    · rw [wipe_in hi hlt, wipe_in hi (by omega)]
    · rw [List.getElem?_eq_none (by rw [wipe_length]; omega), List.getElem?_eq_none (by rw [wipe_length]; omega)]
  · rw [wipe_at hi, h.2 i (fun z => hi (s i z))]
theorem restE_own {vs : List Nat} {env env' : Fv} (no : noOwn vs env = true) {i : Nat} {t : Option Nat} {es : List PyData} (e : (restE env vs env')[i]? = some (.own t es)) : i ∉ vs ∧ (wipeE vs env')[i]? = some (.own t es) := by
  have hi : i ∉ vs := fun hi => by
    have hlt : i < env'.length := by
      have := (List.getElem?_eq_some_iff.mp e).1
      rw [restE_length] at this
      exact this
    rw [restE_in hi hlt] at e
    have q := List.all_eq_true.mp no i hi
    cases z : env[i]? with
    | none => rw [z] at e; cases e
    | some sl =>
      rw [z] at e q
      cases e
      cases q
  rw [restE_out hi] at e
  exact ⟨hi, by rw [wipeE_out hi]; exact e⟩
section
variable {K : PySem.W.Frag} {fr : Fr} {env env' : Fv} {σ : L2.St} {H G H' G' : Hp}
/-- the slots of vs forgotten -/
theorem SR.wipe (h : SR K fr env σ H G) (vs : List Nat) : SR K fr (wipeE vs env) (L2.wipe σ vs) H G := by
  have n : ∀ (i : Nat) (sl : Sl), (wipeE vs env)[i]? = some sl → sl = .un ∨ (i ∉ vs ∧ env[i]? = some sl) := fun i sl e => by
    by_cases hi : i ∈ vs
    · by_cases hl : i < env.length
      · rw [wipeE_in hi hl] at e; cases e; exact .inl rfl
      · rw [List.getElem?_eq_none (by rw [wipeE_length]; omega)] at e; cases e
    · rw [wipeE_out hi] at e; exact .inr ⟨hi, e⟩
  refine ⟨h.sub, h.prot, h.dj, h.tab, h.pt, h.lent, by rw [wipeE_length, wipe_length]; exact h.len, fun i sl e => ?_, fun i j t t' es es' a hij ei ej => ?_⟩
  · rcases n i sl e with rfl | ⟨hi, e⟩
    · trivial
    · rw [wipe_at hi]; exact h.slots i sl e
  · rcases n i _ ei with z | ⟨hi, ei⟩
    · cases z
    · rcases n j _ ej with z | ⟨hj, ej⟩
      · cases z
      · rw [wipe_at hi, wipe_at hj]; exact h.dist i j t t' es es' a hij ei ej
/-- behind a block: the slots of vs as they were -/
theorem SR.rest {vs : List Nat} (h : SR K fr env σ H G) (h' : SR K fr (wipeE vs env') (L2.wipe σ vs) H' G') (s : Sub G G') (no : noOwn vs env = true) : SR K fr (restE env vs env') σ H' G' := by
  have hl : env'.length = σ.length := by have := h'.len; rw [wipeE_length, wipe_length] at this; exact this
  have hl2 := h.len
  have n : ∀ (i : Nat) (sl : Sl), (restE env vs env')[i]? = some sl → (i ∈ vs ∧ (sl = .un ∨ ∃ d, sl = .sh d ∧ env[i]? = some (.sh d))) ∨ (i ∉ vs ∧ (wipeE vs env')[i]? = some sl) := fun i sl e => by
    by_cases hi : i ∈ vs
    · by_cases hlt : i < env'.length
      · rw [restE_in hi hlt] at e
        cases e
        have q := List.all_eq_true.mp no i hi
        cases z : env[i]? with
        | none => exact .inl ⟨hi, .inl rfl⟩
        | some sl =>
          cases sl with
          | un => exact .inl ⟨hi, .inl rfl⟩
          | sh d => exact .inl ⟨hi, .inr ⟨d, rfl, rfl⟩⟩
          | own t ds => rw [z] at q; cases q
      · rw [List.getElem?_eq_none (by rw [restE_length]; omega)] at e; cases e
    · rw [restE_out hi] at e
      exact .inr ⟨hi, by rw [wipeE_out hi]; exact e⟩
  refine ⟨h'.sub, h'.prot, h'.dj, h'.tab, h'.pt, h'.lent, by rw [restE_length]; exact hl, fun i sl e => ?_, fun i j t t' es es' a hij ei ej => ?_⟩
  · rcases n i sl e with ⟨_, rfl | ⟨d, rfl, e2⟩⟩ | ⟨hi, e2⟩
    · trivial
    · obtain ⟨x, e3, e4⟩ := h.slots i _ e2
      exact ⟨x, e3, Sub.dq s _ _ e4⟩
    · have q := h'.slots i sl e2
      rw [wipe_at hi] at q
      exact q
  · rcases n i _ ei with ⟨_, z | ⟨d, z, _⟩⟩ | ⟨hi, e2⟩
    · cases z
    · cases z
    · rcases n j _ ej with ⟨_, z | ⟨d, z, _⟩⟩ | ⟨hj, e3⟩
      · cases z
      · cases z
      · have q := h'.dist i j t t' es es' a hij e2 e3
        rw [wipe_at hi, wipe_at hj] at q
        exact q
/-- a thing of our own that no slot holds is to stay -/
theorem SR.guard (h : SR K fr env σ H G) {D : Addr} {o : HO} (e : H D = some o) (g : G D = none) (nt : D ∉ fr.tabs) (no : ∀ (i : Nat) (t : Option Nat) (es : List PyData), env[i]? = some (.own t es) → σ[i]? ≠ some (some (.ref D))) (W : Nat → Hp → Prop) : SR K ⟨upd fr.prot D o, fr.muts, fr.tabs, W⟩ env σ H G := by
  refine ⟨h.sub, fun b x q => ?_, fun b q => ?_, h.tab, fun P hP => ?_, h.lent, h.len, fun i sl q => ?_, h.dist⟩
  · have q' : upd fr.prot D o b = some x := q
    by_cases hb : b = D
    · rw [hb, upd_same] at q'; cases q'; rw [hb]; exact e
    · rw [upd_ne hb] at q'; exact h.prot b x q'
  · have q' : upd fr.prot D o b ≠ none := q
    by_cases hb : b = D
    · rw [hb]; exact g
    · rw [upd_ne hb] at q'; exact h.dj b q'
  · show upd fr.prot D o P = none
    rw [upd_ne (fun z => nt (by rw [← z]; exact hP))]
    exact h.pt P hP
  · have z := h.slots i sl q
    cases sl with
    | un => trivial
    | sh d => exact z
    | own t es =>
      obtain ⟨a, xs, e1, k1, k2, k3, k4, k5⟩ := h.ownAt q
      refine ⟨a, xs, by rw [e1]; rfl, k1, k2, k3, ?_, k5⟩
      show upd fr.prot D o a = none
      rw [upd_ne (fun z => no i t es q (by rw [← z]; exact e1))]
      exact k4
theorem SR.unguard {D : Addr} {o : HO} {W : Nat → Hp → Prop} (hD : fr.prot D = none) (h : SR K ⟨upd fr.prot D o, fr.muts, fr.tabs, W⟩ env σ H G) : SR K fr env σ H G ∧ H D = some o ∧ G D = none ∧ ∀ (i : Nat) (t : Option Nat) (es : List PyData), env[i]? = some (.own t es) → σ[i]? ≠ some (some (.ref D)) := by
  have at_ : ∀ b, b ≠ D → upd fr.prot D o b = fr.prot b := fun b hb => upd_ne hb
  refine ⟨⟨h.sub, fun b x q => ?_, fun b q => ?_, h.tab, fun P hP => ?_, h.lent, h.len, fun i sl q => ?_, h.dist⟩, h.prot D o upd_same, h.dj D (by show upd fr.prot D o D ≠ none; rw [upd_same]; simp), fun i t es q z => ?_⟩
  · refine h.prot b x ?_
    show upd fr.prot D o b = some x
    rw [at_ b (fun z => by rw [z, hD] at q; cases q)]
    exact q
  · refine h.dj b ?_
    show upd fr.prot D o b ≠ none
    rw [at_ b (fun z => q (by rw [z]; exact hD))]
    exact q
  · have q : upd fr.prot D o P = none := h.pt P hP
    by_cases hb : P = D
    · rw [hb]; exact hD
    · rw [at_ P hb] at q; exact q
  · have z := h.slots i sl q
    cases sl with
    | un => trivial
    | sh d => exact z
    | own t es =>
      obtain ⟨a, xs, e1, k1, k2, k3, k4, k5⟩ := h.ownAt q
      have k4' : upd fr.prot D o a = none := k4
      have na : a ≠ D := fun y => by rw [y, upd_same] at k4'; cases k4'
      rw [at_ a na] at k4'
      exact ⟨a, xs, by rw [e1]; rfl, k1, k2, k3, k4', k5⟩
  · obtain ⟨a, xs, e1, k1, k2, k3, k4, k5⟩ := h.ownAt q
    rw [e1] at z
    cases z
    have k4' : upd fr.prot D o D = none := k4
    rw [upd_same] at k4'
    cases k4'
/-- such a thing is changed -/
theorem SR.poke (h : SR K fr env σ H G) {D : Addr} {o o' : HO} (e : H D = some o) (hD : fr.prot D = none) (g : G D = none) (nt : D ∉ fr.tabs) (no : ∀ (i : Nat) (t : Option Nat) (es : List PyData), env[i]? = some (.own t es) → σ[i]? ≠ some (some (.ref D))) : SR K fr env σ (upd H D o') G := by
  refine ⟨fun b x q => ?_, fun b x q => ?_, h.dj, fun P hP => ?_, h.pt, fun a ha => ?_, h.len, fun i sl q => ?_, h.dist⟩
  · rw [upd_ne (ne_of_none q g)]; exact h.sub b x q
  · rw [upd_ne (ne_of_none q hD)]; exact h.prot b x q
  · obtain ⟨ps, e2, r⟩ := h.tab P hP
    exact ⟨ps, by rw [upd_ne (fun z => nt (by rw [← z]; exact hP))]; exact e2, r⟩
  · by_cases hb : a = D
    · rw [hb, upd_same]; simp
    · rw [upd_ne hb]; exact h.lent a ha
  · have z := h.slots i sl q
    cases sl with
    | un => trivial
    | sh d => exact z
    | own t es =>
      obtain ⟨a, xs, e1, k1, k2⟩ := h.ownAt q
      exact ⟨a, xs, by rw [e1]; rfl, by rw [upd_ne (fun z => no i t es q (by rw [← z]; exact e1))]; exact k1, k2⟩
end

/-! ### [e for x in xs if t] -/
def lcLoop (vs : List Nat) (T : PyData → Mo Unit) (C : Mo Bool) (F : Mo Rv) : List PyData → List PyData → Mo (List PyData)
  | [], acc => pure acc
  | d :: ds, acc => fun e => (thenU (T d) do
      let b ← C
      if b = true then do
        let r ← F
        let x ← force r
        if acc.length < sizeLine then lcLoop vs T C F ds (acc ++ [x]) else stuckM
      else lcLoop vs T C F ds acc) (wipeE vs e)
def block {α : Type} (vs : List Nat) (m : Mo α) : Mo α := fun e => if noOwn vs e = true then
    match m e with
    | .ok a e' => .ok a (restE e vs e')
    | .exc _ _ => .stuck
    | .stuck => .stuck
  else .stuck
def lcF (vs : List Nat) (I : Mo (List PyData)) (T : PyData → Mo Unit) (C : Mo Bool) (F : Mo Rv) : Mo Rv := do
  let ds ← I
  let acc ← block vs (lcLoop vs T C F ds [])
  pure (.fr acc)
theorem wpM_block {α β : Type} {vs : List Nat} {m : Mo α} {k : α → Mo β} {env : Fv} {Q : β → Fv → Prop} {E : Nat → Fv → Prop} (w : wpM (block vs m >>= k) env Q E) : noOwn vs env = true ∧ wpM m env (fun a e' => wpM (k a) (restE env vs e') Q E) (fun _ _ => False) := by
  rw [wpM_bind] at w
  unfold wpM block at w
  by_cases h : noOwn vs env = true
  · rw [if_pos h] at w
    refine ⟨h, ?_⟩
    unfold wpM
    cases z : (m env : Res α) <;> simp only [z] at w ⊢
    exact w
  · rw [if_neg h] at w
    exact w.elim
def PTsv (X : Cx) (fr : Fr) (ifs : List Expr) (C : Mo Bool) : Prop := PTs X ifs (tT X.K fr C)
def yesF : Mo Bool := pure true
section
variable {X : Cx} {fr : Fr} {c : Expr} {C : Mo Bool}
theorem ets_nil : PTsv X fr [] yesF := ⟨fun pins s σ H Q I ⟨env, G, h, w⟩ => pts_nil.run pins s σ H Q I (w H G h .refl)⟩
theorem ets_one (h : PTv X fr c C) : PTsv X fr [c] C := pts_one h
end
abbrev Fr.in (fr : Fr) (p : Hp) : Fr := ⟨p, fr.muts, fr.tabs, fun _ _ => False⟩
section
variable {X : Cx} {fr : Fr} {elt tg iter : Expr} {ifs : List Expr} {scope : Scope} {own : List (Str × Nat)} {pos : Pos} {I : Mo (List PyData)} {T : PyData → Mo Unit} {C : Mo Bool} {F : Mo Rv} {ws : List Nat}
theorem lc_reads (hws : ∀ i ∈ ws, i ∈ own.map (·.2)) : ∀ σ H Q, tE X.K fr (lcF (own.map (·.2)) I T C F) σ H Q → tLc (tI X.K fr I) (fun v σ H Q => ∃ p, tG X.K (fr.in p) ws T v σ H Q) (fun σ H Q => ∃ p, tT X.K (fr.in p) C σ H Q) (fun σ H Q => ∃ p, tE X.K (fr.in p) F σ H Q) (own.map (·.2)) σ H Q := fun σ H Q ⟨env, G, h, w⟩ => by
  unfold lcF at w
  generalize own.map (·.2) = vs at hws w ⊢
  refine ⟨env, G, h, wpM_mono (wpM_bind.mp w) (fun ds env1 w1 H1 G1 J h1 s1 io => ?_) fun c e1 E1 => E1⟩
  obtain ⟨no, w2⟩ := wpM_block w1
  intro D hD
  have pD : fr.prot D = none := by
    cases z : fr.prot D with
    | none => rfl
    | some o => rw [h1.prot D o z] at hD; cases hD
  have nT : D ∉ fr.tabs := fun z => by
    obtain ⟨ps, e, _⟩ := h1.tab D z
    rw [hD] at e
    cases e
  have stD := Stp.lay (o := .lst []) h1.sub hD
  have hw := (h1.stp stD).wipe vs
  refine ⟨fun i m H' => ∃ env' G' acc accV, SR X.K fr (wipeE vs env') (wipe σ vs) H' G' ∧ Sub G1 G' ∧ H' D = some (.lst accV) ∧ DqAll X.K G' accV acc ∧ G' D = none ∧
      (∀ (i : Nat) (t : Option Nat) (es : List PyData), (wipeE vs env')[i]? = some (.own t es) → (wipe σ vs)[i]? ≠ some (some (.ref D))) ∧ m = ds.length - i ∧ i ≤ ds.length ∧
      wpM (lcLoop vs T C F (ds.drop i) acc) env' (fun acc e' => ∀ H' G' v, SR X.K fr (restE env1 vs e') σ H' G' → Sub G1 G' → RvOk X.K fr (restE env1 vs e') σ H' G' v (.fr acc) → Q v H') (fun _ _ => False),
    ⟨ds.length, env1, G1, [], [], hw, .refl, upd_same, .nil, sub_none h1.sub hD, (h1.wipe vs).notOwn hD, by omega, by omega, wpM_mono w2 (fun acc e' q H' G' v h' s' r => q H' G' v h' (s1.trans s') r) fun _ _ z => z⟩, ?_⟩
  rintro i m H2 ⟨env2, G2, acc, accV, h2, s2, hA, qA, gA, nA, rfl, hi2, w3⟩
  by_cases hlt : i < ds.length
  · have hd : ds.drop i = ds[i] :: ds.drop (i + 1) := by rw [List.drop_eq_getElem_cons hlt]
    rw [hd] at w3
    unfold lcLoop at w3
    refine .inr ⟨io.go i H2 G2 s2 h2.sub hlt, fun H3 => ∃ env' G' acc accV, SR X.K fr (wipeE vs env') (wipe σ vs) H3 G' ∧ Sub G1 G' ∧ H3 D = some (.lst accV) ∧ DqAll X.K G' accV acc ∧ G' D = none ∧
      (∀ (i : Nat) (t : Option Nat) (es : List PyData), (wipeE vs env')[i]? = some (.own t es) → (wipe σ vs)[i]? ≠ some (some (.ref D))) ∧
      wpM (lcLoop vs T C F (ds.drop (i + 1)) acc) env' (fun acc e' => ∀ H' G' v, SR X.K fr (restE env1 vs e') σ H' G' → Sub G1 G' → RvOk X.K fr (restE env1 vs e') σ H' G' v (.fr acc) → Q v H') (fun _ _ => False), ?_, fun x H' y => ?_⟩
    · rintro H3 ⟨env', G', acc', accV', a1, a2, a3, a4, a5, a6, a7⟩
      exact ⟨ds.length - (i + 1), by omega, env', G', acc', accV', a1, a2, a3, a4, a5, a6, rfl, by omega, a7⟩
    · obtain ⟨G3, d, e3, st, q3⟩ := io.yld i H2 G2 x H' s2 h2.sub hlt y
      rw [List.getElem?_eq_getElem hlt] at e3
      cases e3
      have h3 := h2.stp st
      have gA3 : G3 D = none := by
        cases z : G3 D with
        | none => rfl
        | some o =>
          rcases st.new D (ne_none_of z) with q | q
          · exact absurd gA q
          · rw [hA] at q; cases q
      have h3g := h3.guard (st.ext _ _ hA) gA3 nT nA (fun _ _ => False)
      refine ⟨_, wipeE vs env2, G3, _, h3g, q3, wpM_mono (wpM_T (w3 : wpM (thenU _ _) (wipeE vs env2) _ _)) (fun _ env4 w4 σ4 G4 o4 h4 s4 => ?_) fun _ _ z => z⟩
      have e4 := wipe_off o4 hws
      refine ⟨e4, upd fr.prot D (.lst accV), env4, G4, h4, wpM_mono (wpM_bind.mp w4) (fun b env5 w5 H5 G5 h5 s5 => ?_) fun _ _ z => z.elim⟩
      have back : ∀ {env6 : Fv} {H6 G6 : Hp}, SR X.K (fr.in (upd fr.prot D (.lst accV))) env6 σ4 H6 G6 → SR X.K fr (wipeE vs env6) (wipe σ vs) H6 G6 ∧ H6 D = some (.lst accV) ∧ G6 D = none ∧ ∀ (i : Nat) (t : Option Nat) (es : List PyData), (wipeE vs env6)[i]? = some (.own t es) → (wipe σ vs)[i]? ≠ some (some (.ref D)) := fun h6 => by
        have h7 := h6.wipe vs
        rw [e4] at h7
        exact SR.unguard pD h7
      cases b with
      | false =>
        rw [if_neg Bool.false_ne_true] at w5
        refine iteF ?_
        obtain ⟨b1, b2, b3, b4⟩ := back h5
        have s25 := (st.mono.trans s4).trans s5
        exact ⟨env5, G5, acc, accV, b1, s2.trans s25, b2, Sub.dqAll s25 _ _ qA, b3, b4, w5⟩
      | true =>
        rw [if_pos rfl] at w5
        refine iteT ?_
        refine ⟨upd fr.prot D (.lst accV), env5, G5, h5, wpM_mono (wpM_bind.mp w5) (fun r env6 w6 H6 G6 v h6 s6 q6 => ?_) fun _ _ z => z.elim⟩
        obtain ⟨x6, env7, G7, h7, s7, d7, w7⟩ := force_ok h6 q6 (wpM_bind.mp w6)
        split at w7
        · rename_i hz
          obtain ⟨b1, b2, b3, b4⟩ := back h7
          have s27 := (((st.mono.trans s4).trans s5).trans s6).trans s7
          have qA7 := Sub.dqAll s27 _ _ qA
          exact ⟨accV, b2, by rw [qA.length]; exact hz, env7, G7, _, _, b1.poke b2 pD b3 nT b4, s2.trans s27, upd_same, qA7.append (.cons d7 .nil), b3, b4, w7⟩
        · exact w7.elim
  · have e : i = ds.length := by omega
    subst e
    rw [List.drop_length] at w3
    refine .inl ⟨io.stop H2 G2 s2 h2.sub, ?_⟩
    have h5 := h1.rest h2 s2 no
    exact w3 H2 G2 (.ref D) h5 s2 ⟨D, accV, rfl, hA, qA, gA, pD, fun z => h1.lent D z hD, fun i t es e1 e2 => by
      obtain ⟨hi, e3⟩ := restE_own no e1
      exact nA i t es e3 (by rw [wipe_at hi]; exact e2)⟩
/-- in the block of a comprehension -/
abbrev InBlk (X : Cx) (fr : Fr) (scope : Scope) (J : Cx → Fr → Prop) : Prop := ∀ (p : Hp) (s : Shared) (H : Hp) (C : Addr) (cl : List (Str × Addr)) (fp : List Addr), J (X.blk s H scope (compEnvC scope cl C X.env) fp) (fr.in p)
theorem ev_lc (hws : ∀ i ∈ ws, i ∈ own.map (·.2)) (hc : X.calm = true) (hN : X.N.Nodup) (hi : PIv X fr tg iter I) (ok : BlkOk X.N X.env.scope scope own) (hg : InBlk X fr scope fun X fr => PGv X fr tg ws T)
    (ht : InBlk X fr scope fun X fr => PTsv X fr ifs C) (he : InBlk X fr scope fun X fr => PEv X fr elt F) (hs : ∀ x, foldedSetIterable iter X.env x = pure x := by intro _; rfl) :
    PEv X fr (.ListComp elt [⟨tg, iter, ifs, 0⟩] scope pos) (lcF (own.map (·.2)) I T C F) :=
  weakE (pe_lc hc hN hi ok (fun s H C cl fp => ⟨fun pins s' σ H' v u Q I r ⟨p, q⟩ => (hg p s H C cl fp).run pins s' σ H' v u Q I r q⟩)
    (fun s H C cl fp => ⟨fun pins s' σ H' Q I ⟨p, q⟩ => (ht p s H C cl fp).run pins s' σ H' Q I q⟩)
    (fun s H C cl fp => ⟨fun pins s' σ H' Q I ⟨p, q⟩ => (he p s H C cl fp).run pins s' σ H' Q I q⟩) hs) (lc_reads hws)
theorem es_setLc {i : Nat} {y : Str} {py spos : Pos} (hws : ∀ i ∈ ws, i ∈ own.map (·.2)) (hc : X.calm = true) (hN : X.N.Nodup) (hy : X.N[i]? = some y) (hyl : X.env.scope.names.lookup y = some .local)
    (hsw : swapsWith (.ListComp elt [⟨tg, iter, ifs, 0⟩] scope pos) (some (.Name y py)) spos.line X.env = pure true) (hi : PIv X fr tg iter I) (ok : BlkOk X.N X.env.scope scope own) (hg : InBlk X fr scope fun X fr => PGv X fr tg ws T)
    (ht : InBlk X fr scope fun X fr => PTsv X fr ifs C) (he : InBlk X fr scope fun X fr => PEv X fr elt F) (hs : ∀ x, foldedSetIterable iter X.env x = pure x := by intro _; rfl) :
    PSv X fr (.Assign [.Name y py] (.ListComp elt [⟨tg, iter, ifs, 0⟩] scope pos) spos) (setF i (lcF (own.map (·.2)) I T C F)) :=
  weakS (ps_setLc (g := fun v σ H Q => ∃ p, tG X.K (fr.in p) ws T v σ H Q) (tt := fun σ H Q => ∃ p, tT X.K (fr.in p) C σ H Q) (te := fun σ H Q => ∃ p, tE X.K (fr.in p) F σ H Q) hc hN hy hyl hsw hi ok (fun s H C cl fp => ⟨fun pins s' σ H' v u Q I r ⟨p, q⟩ => (hg p s H C cl fp).run pins s' σ H' v u Q I r q⟩)
    (fun s H C cl fp => ⟨fun pins s' σ H' Q I ⟨p, q⟩ => (ht p s H C cl fp).run pins s' σ H' Q I q⟩)
    (fun s H C cl fp => ⟨fun pins s' σ H' Q I ⟨p, q⟩ => (he p s H C cl fp).run pins s' σ H' Q I q⟩) hs) fun D σ H ⟨env, G, h, w⟩ => by
    refine lc_reads hws σ H _ ?_
    unfold setF at w
    refine tE_then h w (fun r env1 H1 G1 v h1 s1 q1 w1 => ?_) fun c e1 E1 H1 G1 h1 s1 => E1 σ H1 G1 h1 s1
    obtain ⟨env2, G2, h2, s2, w2⟩ := store_ok3 h1 q1 (wpM_bind.mp w1)
    exact w2 _ H1 G2 h2 (s1.trans s2)
end
end Cf
/-! Cf, part K: list(reversed(x)), items stored, several targets. -/
namespace Cf
open PySem PySem.Spec PyProof.Rows L2 RT

section
variable {prog : Program} {w : World} {A : Around} {E : Value → Shared → Prop} {s : Shared}
theorem extend_rev {R : Result → Shared → Prop} {it l S : Addr} {items : Array Value} {res : Value} {c₀ : Nat} (hh : A.handled = none) (hit : s.heap.IsRevIter it l ((items.size : Int) - 1)) (hl : s.heap.IsList l items) (hne : l ≠ it) (hn : items.size ≤ sizeLine) (hSl : S ≠ l)
    (hS : s.heap.get? S = some { cls := .type "list", data := .seq #[] c₀ })
    (hR : ∀ s' acc' c', Moved [S, it] (fun a b => b = a) s s' → s'.heap.get? S = some { cls := .type "list", dict := none, data := .seq acc' c', slots := #[] } → ItemsOf (fun i v => items[items.size - 1 - i]? = some v) acc' items.size → R (.ok (.ret res)) s') :
    wpAny (model prog w) A.in1 (Builtin.List.listExtendWith (.ref S) (.ref it) res)
      (fun fin s' => match fin with | .done f => R (.ok f) s' | .again c' => c'.quiet = true ∧ codeAny (model prog w) A c' R s') (fun e s' => R (.error e) s') s := by
  have W := (Walks.listRev (prog := prog) (w := w) (A := A.in1) hh it l hne items).toS
  have hSi : S ≠ it := fun z => by
    obtain ⟨o, ho, hc, _⟩ := hit
    rw [z, ho] at hS
    cases hS
    exact absurd (show Value.type "list" = Value.type "list_reverseiterator" from hc) (by decide)
  have hSf : S ∉ [it, l] := by simp [hSi, hSl]
  unfold Builtin.List.listExtendWith
  refine wpAny_bind (wpAny_typeOf (Heap.IsRevIter.typeIs hit) ?_)
  have hsame : Builtin.List.listSameRef (.ref S) (.ref it) = false := by simp [Builtin.List.listSameRef, hSi]
  rw [if_neg (by rw [hsame]; decide)]
  refine wpAny_bind (wpAny_pyIter_revIter hit (wpAny_bind (wpAny_holding ?_)))
  unfold Builtin.List.listLengthHint
  refine wpAny_bind (wpAny_specialOf (Heap.IsRevIter.typeIs hit) nolen_lri ?_)
  show wpAny _ A.in1 (specialOf (Value.ref it) (Str.ofString "__length_hint__") >>= _) _ _ _
  refine wpAny_bind (wpAny_specialOf (Heap.IsRevIter.typeIs hit) hint_lri ?_)
  generalize hid : ("list_reverseiterator.__length_hint__" : String) = id0
  wp_delta
  rw [show splitId id0 = some ("list_reverseiterator", "__length_hint__") from by subst hid; decide +kernel]
  subst hid
  refine wpAny_bind (wpAny_isInstance (b := true) (Heap.IsRevIter.typeIs hit) (by rw [isSubtype_type]; kernel_rfl) (wpAny_pure ?_))
  rw [if_neg (by decide)]
  have e0 : ((items.size : Nat) : Int) - 1 - ((0 : Nat) : Int) = (items.size : Int) - 1 := by omega
  exact wpAny_pure ⟨plainId_quiet F.plain_extend_loop _, codeAny_extend_loopS W hn _ hSf _ items.size 0 _ _ _ rfl (Nat.zero_le _) ⟨Nat.zero_le _, by rw [e0]; exact hit, hl⟩ hS (ItemsOf.nil _) fun s' acc' c' hm hS' hacc => hR s' acc' c' hm hS' hacc⟩
theorem call_listRev {it l : Addr} {items : Array Value} {Q : Value → Shared → Prop} (hh : A.handled = none) (hit : s.heap.IsRevIter it l ((items.size : Int) - 1)) (hl : s.heap.IsList l items) (hne : l ≠ it) (hn : items.size ≤ sizeLine)
    (hQ : ∀ (h' : Heap) (tk : Nat) (acc : Array Value) (c : Nat), (∀ b o, b ≠ it → s.heap.get? b = some o → h'.get? b = some o) → h'.get? s.heap.objs.size = some { cls := .type "list", dict := none, data := .seq acc c, slots := #[] } →
      ItemsOf (fun i v => items[items.size - 1 - i]? = some v) acc items.size → Q (.ref s.heap.objs.size) { s with heap := h', toks := tk }) :
    wpAny (model prog w) A (call (.type "list") [.ref it]) Q E s := by
  have lt_it : it < s.heap.objs.size := let ⟨_, e, _⟩ := hit; Heap.lt_size e
  have lt_l : l < s.heap.objs.size := let ⟨_, e, _⟩ := hl; Heap.lt_size e
  refine callType_codes (Q₁ := fun obj s₁ => obj = .ref s.heap.objs.size ∧ s₁ = { s with heap := s.heap.push { cls := .type "list", data := .seq #[] } }) F.called_list (F.typeCall_list_1 _) F.entry_list_init
    (code_list_new _ ⟨rfl, rfl⟩) fun obj s₁ h₁ => ?_
  obtain ⟨rfl, rfl⟩ := h₁
  have hS : (s.heap.push { cls := .type "list", data := .seq #[] }).get? s.heap.objs.size = some { cls := .type "list", data := .seq #[] } := Heap.get?_push_size _ rfl
  refine ⟨⟨_, hS, rfl⟩, F.args_list_init_2 _ _, ?_⟩
  show wpAny _ A.in1.in1 (do let old ← Builtin.List.listItems (.ref s.heap.objs.size); Builtin.List.listUpdate (.ref s.heap.objs.size) (fun _ => #[]); letGo old.toList.reverse; Builtin.List.listExtendWith (.ref s.heap.objs.size) (.ref it) .none) _ _ _
  refine wpAny_bind ?_
  unfold Builtin.List.listItems
  refine wpAny_bind (wpAny_seqItems hS rfl (wpAny_pure ?_))
  show wpAny _ A.in1.in1 (updateSeq s.heap.objs.size (fun _ => #[]) >>= fun _ => letGo (#[] : Array Value).toList.reverse >>= fun _ => Builtin.List.listExtendWith (.ref s.heap.objs.size) (.ref it) .none) _ _ _
  refine wpAny_bind (wpAny_updateSeq hS rfl ?_)
  have hS₂ := Heap.get?_update_self (Obj.mapSeq (fun _ => (#[] : Array Value))) hS rfl
  have oth : ∀ b o, b ≠ s.heap.objs.size → s.heap.get? b = some o → ((s.heap.push { cls := .type "list", data := .seq #[] }).update s.heap.objs.size (Obj.mapSeq (fun _ => (#[] : Array Value)))).get? b = some o :=
    fun b o hb e => (Heap.get?_update_other _ _ (Ne.symm hb)).trans (Heap.get?_push_of_some _ e)
  refine wpAny_bind (wpAny_letGo ?_)
  refine extend_rev (A := A.in1) hh (hit.at fun o e => oth it o (Nat.ne_of_lt lt_it) e) (let ⟨o, e, r⟩ := hl; ⟨o, oth l o (Nat.ne_of_lt lt_l) e, r⟩) hne hn (Nat.ne_of_gt lt_l) hS₂ fun s' acc' c' hm hS' hacc => ⟨rfl, ?_⟩
  rw [Moved.eq_with hm]
  refine hQ s'.heap s'.toks acc' c' (fun b o hb e => ?_) hS' hacc
  have nb : b ≠ s.heap.objs.size := Nat.ne_of_lt (Heap.lt_size e)
  exact hm.heap b o (by simp [nb, hb]) (oth b o nb e)
end
/-- list(reversed(x)) -/
def revL (F : Mo Rv) : Mo Rv := do
  let r ← F
  let d ← peek r
  match d with
  | .list ds => pure (.fr ds.reverse)
  | _ => stuckM
section
variable {X : Cx} {fr : Fr} {e : Expr} {F : Mo Rv} {p p2 pos pos2 : Pos}
theorem pe_listRev {te : TE} (hc : X.calm = true) (hg : Gl X "list") (hm : X.mg "list" = none) (hg2 : Gl X "reversed") (hm2 : X.mg "reversed" = none) (he : PE X e te)
    (hs : starEach [e] X.env = (false, eval e X.env) :: starEach [] X.env := by rfl)
    (hs2 : starEach [.Call (.Name "reversed" p2) [e] [] pos2] X.env = (false, eval (.Call (.Name "reversed" p2) [e] [] pos2) X.env) :: starEach [] X.env := by rfl) :
    PE X (.Call (.Name "list" p) [.Call (.Name "reversed" p2) [e] [] pos2] [] pos) (fun σ H Q => te σ H fun v H1 => ∃ a xs, v = .ref a ∧ SqL X.K H1 a xs ∧ ∀ q, H1 q = none → Q (.ref q) (upd H1 q (.lst xs.reverse))) := by
  refine ⟨fun pins s σ H Q I h => ?_⟩
  refine Call_ (ld_blt I hg hm boot_list (PyProof.Rows.callWith_type1 (args_cons (Call_ (ld_blt I hg2 hm2 PyProof.Rows.boot_reversed (PyProof.Rows.callWith_type1 (args_cons (thn (he.run pins s σ H _ I h) fun u s1 ⟨v, H1, I1, r1, q1⟩ => args_nil ?_) hs) hs rfl))) hs2) hs2 rfl))
  obtain ⟨a, xs, ev, hq, q⟩ := q1
  subst ev
  obtain rfl : u = Value.ref a := r1
  obtain ⟨its, rv, pl, hz⟩ := I1.list hq
  refine call_reversed_list pl.isList (args_nil ?_)
  have kp : ∀ b o, s1.heap.get? b = some o → (s1.heap.push (revObj a ((its.toArray.size : Int) - 1))).get? b = some o := fun b o e => Heap.get?_push_of_some _ e
  have I2 : Inv X pins σ H1 { s1 with heap := s1.heap.push (revObj a ((its.toArray.size : Int) - 1)) } := I1.kept (t' := s1.toks) kp
  obtain ⟨f0, f1, f2, f3, f4, f5⟩ := I1.fpOk (H' := H1) (b := s1.heap.objs.size) (Nat.le_refl _) (I1.hok.fresh (Nat.le_refl _))
  have hl := pl.isList
  have hne : a ≠ s1.heap.objs.size := by
    obtain ⟨ol, hol, _⟩ := id hl
    exact Nat.ne_of_lt (Heap.lt_size hol)
  have hn : its.toArray.size ≤ sizeLine := by rw [List.size_toArray, ← rv.length]; exact hz
  have hsz : (s1.heap.push (revObj a ((its.toArray.size : Int) - 1))).objs.size = s1.heap.objs.size + 1 := Heap.size_push ..
  refine call_listRev (s := { s1 with heap := s1.heap.push (revObj a ((its.toArray.size : Int) - 1)) }) (I1.ok.hd hc) ⟨_, Heap.get?_push_size _ rfl, rfl, rfl⟩ (hl.push _) hne hn fun h' tk acc c hk hS hi => ?_
  have kp3 : ∀ b o, s1.heap.get? b = some o → h'.get? b = some o := fun b o z => hk b o (Nat.ne_of_lt (Heap.lt_size z)) (kp b o z)
  have I3 : Inv X pins σ (upd H1 (s1.heap.push (revObj a ((its.toArray.size : Int) - 1))).objs.size (.lst xs.reverse)) { s1 with heap := h', toks := tk } :=
    I1.laid (t' := tk) kp3 (by rw [hsz]; omega) (show ObjOk X.prog X.w _ h' _ (.lst xs.reverse) from ⟨by rw [List.length_reverse]; exact hz, acc.toList, c, vals_rev rv hi, by rw [Array.toArray_toList]; exact hS⟩)
  exact ⟨.ref (s1.heap.push (revObj a ((its.toArray.size : Int) - 1))).objs.size, _, I3, rfl, q _ (I2.hok.fresh (Nat.le_refl _))⟩
theorem ev_listRev (hc : X.calm = true) (hg : Gl X "list") (hm : X.mg "list" = none) (hg2 : Gl X "reversed") (hm2 : X.mg "reversed" = none) (he : PEv X fr e F)
    (hs : starEach [e] X.env = (false, eval e X.env) :: starEach [] X.env := by rfl)
    (hs2 : starEach [.Call (.Name "reversed" p2) [e] [] pos2] X.env = (false, eval (.Call (.Name "reversed" p2) [e] [] pos2) X.env) :: starEach [] X.env := by rfl) :
    PEv X fr (.Call (.Name "list" p) [.Call (.Name "reversed" p2) [e] [] pos2] [] pos) (revL F) :=
  weakE (pe_listRev hc hg hm hg2 hm2 he hs hs2) fun σ H Q ⟨env, G, h, w⟩ => by
    unfold revL at w
    refine tE_then h w (fun r env1 H1 G1 v h1 s1 q1 w1 => ?_) fun c e1 E1 H1 G1 h1 s1 => E1 H1 G1 h1 s1
    obtain ⟨d, p, w2⟩ := peek_ok h1 q1 (wpM_bind.mp w1)
    cases d with
    | list ds =>
      obtain ⟨a, xs, rfl, k1, k2⟩ := p
      refine ⟨a, xs, rfl, .of k1, fun q hq => ?_⟩
      have := rvFresh h1.sub hq k2.reverse
      exact w2 _ _ _ (h1.stp this.1) (s1.trans this.1.mono) (this.2.ok h1)
    | _ => exact w2.elim
end

/-! ### x[i] = e -/
def setItemF (i : Nat) (Fi : Mo Rv) (F : Mo Rv) : Mo Out := do
  let r ← F
  let d ← force r
  needOwn i
  let rj ← Fi
  let dj ← peek rj
  let ds ← getOwn i
  match dj with
  | .int k => match ixN ds.length k with
    | some j => do
      putOwn i (ds.set j d)
      pure .nx
    | none => stuckM
  | _ => stuckM
section
variable {X : Cx} {fr : Fr} {o ix e : Expr} {i : Nat} {F Fi : Mo Rv} {pos tpos : Pos}
theorem es_setItem (ho : PEv X fr o (readF i)) (hi : PEv X fr ix Fi) (he : PEv X fr e F)
    (ha : ∀ v, assign (.Subscript o ix tpos) X.env v = (do
      let ov ← holding [v] (eval o X.env)
      let iv ← holding [v, ov] (eval ix X.env)
      standAt tpos
      holding [v, ov, iv] (setItem ov iv v)
      release [v, ov, iv] []) := by intro _; rfl)
    (hs : swapsWithSole [.Subscript o ix tpos] e pos.line X.env = pure false := by rfl) (hw : swappedStores [.Subscript o ix tpos] e X.env = pure none := by rfl)
    (h1 : (assignEach [.Subscript o ix tpos] X.env).map (·.2) = [assign (.Subscript o ix tpos) X.env] := by rfl) : PSv X fr (.Assign [.Subscript o ix tpos] e pos) (setItemF i Fi F) :=
  weakS (ps_asg he (pg_sub ho hi set_list ha) hs hw h1) fun D σ H ⟨env, G, h, w⟩ => by
    unfold setItemF at w
    refine tE_then h w (fun r env1 H1 G1 v h1 s1 q1 w1 => ?_) fun c e1 E1 H1 G1 h1 s1 => E1 σ H1 G1 h1 s1
    obtain ⟨d, env2, G2, h2, s2, d2, w2⟩ := force_ok h1 q1 (wpM_bind.mp w1)
    obtain ⟨t3, ds3, e3, w3⟩ := wpM_need w2
    refine tE_read h2 e3 fun a H4 G4 xs4 h4 s4 z4 _ _ => ?_
    refine tE_then h4 w3 (fun rj env5 H5 G5 vj h5 s5 q5 w5 => ?_) fun c e1 E1 H5 G5 h5 s5 => E1 σ H5 G5 h5 (((s1.trans s2).trans s4).trans s5)
    obtain ⟨dj, p5, w6⟩ := peek_ok h5 q5 (wpM_bind.mp w5)
    obtain ⟨t7, ds7, e7, w7⟩ := wpM_own w6
    obtain ⟨a', xs7, y1, y2, y3, _⟩ := h5.ownAt e7
    rw [z4] at y1
    cases y1
    cases dj with
    | int k =>
      simp only at w7
      cases z : ixN ds7.length k with
      | none => rw [z] at w7; exact w7.elim
      | some j =>
        rw [z] at w7
        have w8 := wpM_put e7 w7
        have hd := Sub.dq (s4.trans s5) _ _ d2
        refine ⟨a, xs7, k, j, rfl, dq_int p5, y2, by rw [y3.length]; exact z, ?_⟩
        exact w8 σ _ G5 (h5.write e7 z4 (y3.set hd j)) (((s1.trans s2).trans s4).trans s5)
    | _ => exact w7.elim
end

/-! ### a, b = x, y -/
/-- a list of values; new lists wait as they are -/
def consU (F : Mo Rv) (Fs : Mo (List Rv)) : Mo (List Rv) := do
  let r ← F
  let rs ← Fs
  pure (r :: rs)
/-- the values, each new list guarded from the others -/
def RvsU (K : PySem.W.Frag) (fr : Fr) (env : Fv) (σ : L2.St) (H G : Hp) : List V → List Rv → Prop
  | [], [] => True
  | v :: vs, r :: rs => RvOk K fr env σ H G v r ∧ RvsU K fr env σ H G vs rs ∧ ∀ ds a, r = .fr ds → v = .ref a → ∀ v' r', (v', r') ∈ vs.zip rs → ∀ ds', r' = .fr ds' → v' ≠ .ref a
  | _, _ => False
def tU (K : PySem.W.Frag) (fr : Fr) (F : Mo (List Rv)) : TA := fun σ H Q => ∃ env G, SR K fr env σ H G ∧
  wpM F env (fun rs env' => ∀ H' G' vs, SR K fr env' σ H' G' → Sub G G' → RvsU K fr env' σ H' G' vs rs → Q vs H') (fun c env' => ∀ H' G', SR K fr env' σ H' G' → Sub G G' → fr.W c H')
def PUv (X : Cx) (fr : Fr) (es : List Expr) (F : Mo (List Rv)) : Prop := ∀ p : Hp, PA X es (tU X.K ⟨p, fr.muts, fr.tabs, fr.W⟩ F)
section
variable {X : Cx} {fr : Fr} {e : Expr} {es : List Expr} {F : Mo Rv} {Fs : Mo (List Rv)}
theorem eu_nil : PUv X fr [] nilF := fun p => weakA pa_nil fun σ H Q ⟨env, G, h, w⟩ => w H G [] h .refl trivial
theorem RvsU.weaken {K : PySem.W.Frag} {fr : Fr} {env : Fv} {σ : L2.St} {H G : Hp} {D : Addr} {o : HO} (hD : fr.prot D = none) : ∀ {vs : List V} {rs : List Rv}, RvsU K ⟨upd fr.prot D o, fr.muts, fr.tabs, fr.W⟩ env σ H G vs rs →
    RvsU K fr env σ H G vs rs ∧ ∀ v' r', (v', r') ∈ vs.zip rs → ∀ ds', r' = .fr ds' → v' ≠ .ref D
  | [], [], _ => ⟨trivial, fun _ _ z => by simp at z⟩
  | [], _ :: _, h => h.elim
  | _ :: _, [], h => h.elim
  | v :: vs, r :: rs, ⟨h1, h2, h3⟩ => by
    obtain ⟨k1, k2⟩ := RvsU.weaken hD h2
    have one : RvOk K fr env σ H G v r ∧ ∀ ds', r = .fr ds' → v ≠ .ref D := by
      cases r with
      | sh d => exact ⟨h1, fun _ z => by cases z⟩
      | sl i => exact ⟨h1, fun _ z => by cases z⟩
      | fr ds =>
        obtain ⟨a, xs, e, m1, m2, m3, m4, m5⟩ := h1
        have m4' : upd fr.prot D o a = none := m4
        have na : a ≠ D := fun z => by rw [z, upd_same] at m4'; cases m4'
        rw [upd_ne na] at m4'
        exact ⟨⟨a, xs, e, m1, m2, m3, m4', m5⟩, fun _ _ z => na (by rw [e] at z; cases z; rfl)⟩
    refine ⟨⟨one.1, k1, h3⟩, fun v' r' z ds' e' => ?_⟩
    rw [List.zip_cons_cons, List.mem_cons] at z
    rcases z with z | z
    · cases z; exact one.2 ds' e'
    · exact k2 v' r' z ds' e'
theorem eu_cons (he : ∀ p : Hp, PEv X ⟨p, fr.muts, fr.tabs, fr.W⟩ e F) (hr : PUv X fr es Fs) (hs : starEach (e :: es) X.env = (false, eval e X.env) :: starEach es X.env := by rfl) : PUv X fr (e :: es) (consU F Fs) := fun p => by
  refine weakA (pa_cons (t := fun σ H Q => ∃ p', tU X.K ⟨p', fr.muts, fr.tabs, fr.W⟩ Fs σ H Q) (he p) ⟨fun pos pins s σ H Q I ⟨p', q⟩ => (hr p').run pos pins s σ H Q I q⟩ hs) fun σ H Q ⟨env, G, h, w⟩ => ?_
  unfold consU at w
  refine tE_then h w (fun r env1 H1 G1 v h1 s1 q1 w1 => ?_) fun c e1 E1 H1 G1 h1 s1 => E1 H1 G1 h1 s1
  cases r with
  | sh d =>
    refine ⟨p, env1, G1, h1, wpM_mono (wpM_bind.mp w1) (fun rs env2 w2 H2 G2 vs h2 s2 q2 => ?_) fun c e' E' H2 G2 h2 s2 => E' H2 G2 h2 (s1.trans s2)⟩
    exact w2 H2 G2 _ h2 (s1.trans s2) ⟨Sub.dq s2 _ _ q1, q2, fun _ _ z => by cases z⟩
  | sl i =>
    refine ⟨p, env1, G1, h1, wpM_mono (wpM_bind.mp w1) (fun rs env2 w2 H2 G2 vs h2 s2 q2 => ?_) fun c e' E' H2 G2 h2 s2 => E' H2 G2 h2 (s1.trans s2)⟩
    exact w2 H2 G2 _ h2 (s1.trans s2) ⟨q1, q2, fun _ _ z => by cases z⟩
  | fr ds =>
    obtain ⟨a, xs, rfl, k1, k2, k3, k4, k5, k6⟩ := q1
    have nt : a ∉ fr.tabs := fun z => by
      obtain ⟨ps, e, _⟩ := h1.tab a z
      rw [e] at k1
      cases k1
    refine ⟨upd p a (.lst xs), env1, G1, SR.guard (fr := ⟨p, fr.muts, fr.tabs, fr.W⟩) h1 k1 k3 nt k6 fr.W, wpM_mono (wpM_bind.mp w1) (fun rs env2 w2 H2 G2 vs h2 s2 q2 => ?_) fun c e' E' H2 G2 h2 s2 => ?_⟩
    · obtain ⟨b1, b2, b3, b4⟩ := SR.unguard (fr := ⟨p, fr.muts, fr.tabs, fr.W⟩) (W := fr.W) k4 h2
      obtain ⟨c1, c2⟩ := RvsU.weaken (fr := ⟨p, fr.muts, fr.tabs, fr.W⟩) k4 q2
      exact w2 H2 G2 _ b1 (s1.trans s2) ⟨⟨a, xs, rfl, b2, Sub.dqAll s2 _ _ k2, b3, k4, k5, b4⟩, c1, fun ds' a' z z' v' r' m => by
        cases z
        cases z'
        exact c2 v' r' m⟩
    · exact E' H2 G2 (SR.unguard (fr := ⟨p, fr.muts, fr.tabs, fr.W⟩) (W := fr.W) k4 h2).1 (s1.trans s2)
end
end Cf
/-! Cf, part L: several targets at once; the end of a law. -/
namespace Cf
open PySem PySem.Spec PyProof.Rows L2

def settle1 (r : Rv) : Mo Rv := match r with
  | .sl i => do
    let d ← force (.sl i)
    pure (.sh d)
  | r => pure r
@[simp] def settle : List Rv → Mo (List Rv)
  | [] => pure []
  | r :: rs => do
    let x ← settle1 r
    let xs ← settle rs
    pure (x :: xs)
@[simp] def storeAll : List Nat → List Rv → Mo Unit
  | [], [] => pure ()
  | i :: is, r :: rs => do
    storeF i r
    storeAll is rs
  | _, _ => stuckM
def parF (is : List Nat) (Fs : Mo (List Rv)) : Mo Out := do
  let rs ← Fs
  let rs ← settle rs
  storeAll is rs
  pure .nx
def setAll (σ : L2.St) : List Nat → List V → L2.St
  | i :: is, v :: vs => setAll (σ.set i (some v)) is vs
  | _, _ => σ
def isSl : Rv → Bool
  | .sl _ => true
  | _ => false
section
variable {K : PySem.W.Frag} {fr : Fr} {H : Hp}
/-- values that wait, behind a step that freezes -/
theorem RvsU.frz {env env' : Fv} {σ : L2.St} {G G' : Hp} (s : Sub G G') (hf : ∀ a xs, H a = some (.lst xs) → G a = none → (∀ (i : Nat) (t : Option Nat) (es : List PyData), env[i]? = some (.own t es) → σ[i]? ≠ some (some (.ref a))) → G' a = none)
    (ho : ∀ (i : Nat) (t : Option Nat) (es : List PyData), env'[i]? = some (.own t es) → ∃ t' es', env[i]? = some (.own t' es')) : ∀ {vs : List V} {rs : List Rv}, RvsU K fr env σ H G vs rs → RvsU K fr env' σ H G' vs rs
  | [], [], _ => trivial
  | [], _ :: _, h => h.elim
  | _ :: _, [], h => h.elim
  | v :: vs, r :: rs, ⟨h1, h2, h3⟩ => by
    refine ⟨?_, RvsU.frz s hf ho h2, h3⟩
    cases r with
    | sh d => exact Sub.dq s _ _ h1
    | sl i => exact h1
    | fr ds =>
      obtain ⟨a, xs, e, m1, m2, m3, m4, m5, m6⟩ := h1
      exact ⟨a, xs, e, m1, Sub.dqAll s _ _ m2, hf a xs m1 m3 m6, m4, m5, fun i t es z => let ⟨t', es', z'⟩ := ho i t es z; m6 i t' es' z'⟩
theorem freeze2 {env : Fv} {σ : L2.St} {G : Hp} (h : SR K fr env σ H G) {i : Nat} {ds : List PyData} (e : env[i]? = some (.own none ds)) : ∃ G', SR K fr (env.set i (.sh (.list ds))) σ H G' ∧ Sub G G' ∧ (∀ v, σ[i]? = some (some v) → Dq K G' v (.list ds)) ∧
    (∀ a xs, H a = some (.lst xs) → G a = none → (∀ (i : Nat) (t : Option Nat) (es : List PyData), env[i]? = some (.own t es) → σ[i]? ≠ some (some (.ref a))) → G' a = none) ∧
    (∀ (j : Nat) (t : Option Nat) (es : List PyData), (env.set i (.sh (.list ds)))[j]? = some (.own t es) → ∃ t' es', env[j]? = some (.own t' es')) := by
  obtain ⟨a, xs, e1, h1, h2, h3, h4, h5⟩ := h.ownAt e
  have sG : Sub G (upd G a (.lst xs)) := fun b o e => by rw [upd_ne (ne_of_none e h3)]; exact e
  obtain ⟨G', k1, k2, k3⟩ := freeze h e
  have hi : i < env.length := (List.getElem?_eq_some_iff.mp e).1
  have hd : Dq K (upd G a (.lst xs)) (.ref a) (.list ds) := .lst upd_same (Sub.dqAll sG _ _ h2)
  have ho : ∀ (j : Nat) (t : Option Nat) (es : List PyData), (env.set i (.sh (.list ds)))[j]? = some (.own t es) → j ≠ i ∧ env[j]? = some (.own t es) := fun j t es z => by
    by_cases hj : j = i
    · subst hj; rw [List.getElem?_set_self hi] at z; cases z
    · rw [List.getElem?_set_ne (Ne.symm hj)] at z; exact ⟨hj, z⟩
  refine ⟨upd G a (.lst xs), ⟨fun b o q => ?_, h.prot, fun b q => ?_, h.tab, h.pt, h.lent, by simpa using h.len, fun j sl ej => ?_, k1.dist⟩, sG, fun v q => by rw [e1] at q; cases q; exact hd, fun b ys z1 z2 z3 => ?_, fun j t es z => ⟨t, es, (ho j t es z).2⟩⟩
  · by_cases hb : b = a
    · subst hb; rw [upd_same] at q; cases q; exact h1
    · rw [upd_ne hb] at q; exact h.sub b o q
  · by_cases hb : b = a
    · subst hb; exact absurd h4 q
    · rw [upd_ne hb]; exact h.dj b q
  · by_cases hj : j = i
    · subst hj
      rw [List.getElem?_set_self hi] at ej
      cases ej
      exact ⟨.ref a, by rw [e1]; rfl, hd⟩
    · rw [List.getElem?_set_ne (Ne.symm hj)] at ej
      have q := h.slots j sl ej
      cases sl with
      | un => trivial
      | sh d => obtain ⟨x, e1, e2⟩ := q; exact ⟨x, e1, Sub.dq sG _ _ e2⟩
      | own t es =>
        obtain ⟨b, ys, e1', e2, e3, e4, e5, e6⟩ := h.ownAt ej
        have hb : b ≠ a := fun z => h.dist i j none t ds es a (Ne.symm hj) e ej e1 (by rw [← z]; exact e1')
        exact ⟨b, ys, by rw [e1']; rfl, e2, Sub.dqAll sG _ _ e3, by rw [upd_ne hb]; exact e4, e5, e6⟩
  · have nb : b ≠ a := fun z => z3 i none ds e (by rw [z]; exact e1)
    rw [upd_ne nb]
    exact z2
theorem settle_ok : ∀ {vs : List V} {rs : List Rv} {env : Fv} {σ : L2.St} {G : Hp} (h : SR K fr env σ H G), RvsU K fr env σ H G vs rs → ∀ {Q : List Rv → Fv → Prop} {E : Nat → Fv → Prop}, wpM (settle rs) env Q E →
    ∃ rs' env' G', SR K fr env' σ H G' ∧ Sub G G' ∧ RvsU K fr env' σ H G' vs rs' ∧ rs'.all (fun r => !isSl r) = true ∧
      (∀ a xs, H a = some (.lst xs) → G a = none → (∀ (i : Nat) (t : Option Nat) (es : List PyData), env[i]? = some (.own t es) → σ[i]? ≠ some (some (.ref a))) → G' a = none) ∧
      (∀ (j : Nat) (t : Option Nat) (es : List PyData), env'[j]? = some (.own t es) → ∃ t' es', env[j]? = some (.own t' es')) ∧
      (∀ v' r', (v', r') ∈ vs.zip rs' → ∀ ds', r' = .fr ds' → (v', r') ∈ vs.zip rs) ∧ Q rs' env'
  | [], [], env, σ, G, h, _, Q, E, w => ⟨[], env, G, h, .refl, trivial, rfl, fun _ _ _ z _ => z, fun j t es z => ⟨t, es, z⟩, fun _ _ z => by simp at z, w⟩
  | [], _ :: _, _, _, _, _, h, _, _, _ => h.elim
  | _ :: _, [], _, _, _, _, h, _, _, _ => h.elim
  | v :: vs, r :: rs, env, σ, G, h, ⟨h1, h2, h3⟩, Q, E, w => by
    unfold settle at w
    have w1 := wpM_bind.mp w
    cases r with
    | sl i =>
      unfold settle1 at w1
      simp only at w1
      have w2 := wpM_bind.mp w1
      have q' : σ[i]? = some (some v) := h1
      have alt : ∃ d env1 G1, SR K fr env1 σ H G1 ∧ Sub G G1 ∧ Dq K G1 v d ∧ (∀ a xs, H a = some (.lst xs) → G a = none → (∀ (i : Nat) (t : Option Nat) (es : List PyData), env[i]? = some (.own t es) → σ[i]? ≠ some (some (.ref a))) → G1 a = none) ∧
          (∀ (j : Nat) (t : Option Nat) (es : List PyData), env1[j]? = some (.own t es) → ∃ t' es', env[j]? = some (.own t' es')) ∧ wpM (settle rs >>= fun xs => pure (.sh d :: xs)) env1 Q E := by
        unfold wpM force at w2
        cases e : env[i]? with
        | none => simp [e] at w2
        | some sl =>
          cases sl with
          | un => simp [e] at w2
          | sh d =>
            simp only [e] at w2
            obtain ⟨x, e1, e2⟩ := h.shAt e
            rw [q'] at e1
            cases e1
            exact ⟨d, env, G, h, .refl, e2, fun _ _ _ z _ => z, fun j t es z => ⟨t, es, z⟩, w2⟩
          | own t ds =>
            cases t with
            | some k => simp [e] at w2
            | none =>
              simp only [e] at w2
              obtain ⟨G1, k1, k2, k3, k4, k5⟩ := freeze2 h e
              exact ⟨.list ds, _, G1, k1, k2, k3 v q', k4, k5, w2⟩
      obtain ⟨d, env1, G1, k1, k2, k3, k4, k5, w3⟩ := alt
      obtain ⟨rs', env2, G2, m1, m2, m3, m4, m5, m6, m7, m8⟩ := settle_ok k1 (RvsU.frz k2 k4 k5 h2) (wpM_bind.mp w3)
      refine ⟨.sh d :: rs', env2, G2, m1, k2.trans m2, ⟨Sub.dq m2 _ _ k3, m3, fun _ _ z => by cases z⟩, by rw [List.all_cons, m4]; rfl, fun a xs z1 z2 z3 => m5 a xs z1 (k4 a xs z1 z2 z3) fun j t es z => let ⟨t', es', z'⟩ := k5 j t es z; z3 j t' es' z', fun j t es z => let ⟨t', es', z'⟩ := m6 j t es z; k5 j t' es' z', fun v' r' z ds' e' => ?_, m8⟩
      rw [List.zip_cons_cons, List.mem_cons] at z ⊢
      rcases z with z | z
      · cases z; cases e'
      · exact .inr (m7 v' r' z ds' e')
    | sh d =>
      have w2 : wpM (settle rs >>= fun xs => pure (.sh d :: xs)) env Q E := w1
      obtain ⟨rs', env2, G2, m1, m2, m3, m4, m5, m6, m7, m8⟩ := settle_ok h h2 (wpM_bind.mp w2)
      refine ⟨.sh d :: rs', env2, G2, m1, m2, ⟨Sub.dq m2 _ _ h1, m3, fun _ _ z => by cases z⟩, by rw [List.all_cons, m4]; rfl, m5, m6, fun v' r' z ds' e' => ?_, m8⟩
      rw [List.zip_cons_cons, List.mem_cons] at z ⊢
      rcases z with z | z
      · cases z; cases e'
      · exact .inr (m7 v' r' z ds' e')
    | fr ds =>
      have w2 : wpM (settle rs >>= fun xs => pure (.fr ds :: xs)) env Q E := w1
      obtain ⟨rs', env2, G2, m1, m2, m3, m4, m5, m6, m7, m8⟩ := settle_ok h h2 (wpM_bind.mp w2)
      obtain ⟨a, xs, e, n1, n2, n3, n4, n5, n6⟩ := h1
      refine ⟨.fr ds :: rs', env2, G2, m1, m2, ⟨⟨a, xs, e, n1, Sub.dqAll m2 _ _ n2, m5 a xs n1 n3 n6, n4, n5, fun j t es z => let ⟨t', es', z'⟩ := m6 j t es z; n6 j t' es' z'⟩, m3, fun ds0 a0 z1 z2 v' r' z ds' e' => h3 ds0 a0 z1 z2 v' r' (m7 v' r' z ds' e') ds' e'⟩, by rw [List.all_cons, m4]; rfl, m5, m6, fun v' r' z ds' e' => ?_, m8⟩
      rw [List.zip_cons_cons, List.mem_cons] at z ⊢
      rcases z with z | z
      · exact .inl z
      · exact .inr (m7 v' r' z ds' e')
theorem RvsU.stored {env : Fv} {σ : L2.St} {G : Hp} {i : Nat} {v : V} {r : Rv} {sl : Sl} (hsl : ∀ t es, sl = .own t es → r = .fr es) : ∀ {vs : List V} {rs : List Rv}, RvsU K fr env σ H G vs rs → rs.all (fun r => !isSl r) = true →
    (∀ ds a, r = .fr ds → v = .ref a → ∀ v' r', (v', r') ∈ vs.zip rs → ∀ ds', r' = .fr ds' → v' ≠ .ref a) → RvsU K fr (env.set i sl) (σ.set i (some v)) H G vs rs
  | [], [], _, _, _ => trivial
  | [], _ :: _, h, _, _ => h.elim
  | _ :: _, [], h, _, _ => h.elim
  | u :: vs, x :: rs, ⟨h1, h2, h3⟩, c, d => by
    simp only [List.all_cons, Bool.and_eq_true] at c
    refine ⟨?_, RvsU.stored hsl h2 c.2 fun ds a e1 e2 v' r' z => d ds a e1 e2 v' r' (by rw [List.zip_cons_cons]; exact List.mem_cons_of_mem _ z), h3⟩
    cases x with
    | sh y => exact h1
    | sl j => simp [isSl] at c
    | fr ds =>
      obtain ⟨a, xs, e, n1, n2, n3, n4, n5, n6⟩ := h1
      refine ⟨a, xs, e, n1, n2, n3, n4, n5, fun j t es z => ?_⟩
      by_cases hj : j = i
      · subst hj
        by_cases hl : j < env.length
        · rw [List.getElem?_set_self hl] at z
          cases z
          have hr := hsl t es rfl
          by_cases hs : j < σ.length
          · rw [List.getElem?_set_self hs]
            intro q
            cases q
            exact d es a hr rfl u (.fr ds) (by rw [List.zip_cons_cons]; exact List.mem_cons_self) ds rfl e
          · rw [List.getElem?_eq_none (by simpa using hs)]
            simp
        · rw [List.getElem?_eq_none (by simpa using hl)] at z
          cases z
      · rw [List.getElem?_set_ne (Ne.symm hj)] at z ⊢
        exact n6 j t es z
theorem stores_ok : ∀ {is : List Nat} {vs : List V} {rs : List Rv} {env : Fv} {σ : L2.St} {G : Hp} (h : SR K fr env σ H G), RvsU K fr env σ H G vs rs → rs.all (fun r => !isSl r) = true → ∀ {Q : Unit → Fv → Prop} {E : Nat → Fv → Prop}, wpM (storeAll is rs) env Q E →
    ∃ env', SR K fr env' (setAll σ is vs) H G ∧ is.length = vs.length ∧ Q () env'
  | [], [], [], env, σ, G, h, _, _, Q, E, w => ⟨env, h, rfl, w⟩
  | [], _ :: _, [], _, _, _, _, h, _, _, _, _ => h.elim
  | _ :: _, [], [], _, _, _, _, _, _, _, _, w => w.elim
  | _ :: _, _ :: _, [], _, _, _, _, h, _, _, _, _ => h.elim
  | [], _, _ :: _, _, _, _, _, _, _, _, _, w => w.elim
  | _ :: _, [], _ :: _, _, _, _, _, h, _, _, _, _ => h.elim
  | i :: is, v :: vs, r :: rs, env, σ, G, h, ⟨h1, h2, h3⟩, c, Q, E, w => by
    unfold storeAll at w
    simp only [List.all_cons, Bool.and_eq_true] at c
    have w1 := wpM_bind.mp w
    cases r with
    | sl j => simp [isSl] at c
    | sh d =>
      obtain ⟨env', k1, k2, k3⟩ := stores_ok (is := is) (h.setSh (i := i) h1) (RvsU.stored (r := .sh d) (fun t es z => by cases z) h2 c.2 h3) c.2 w1
      exact ⟨env', k1, by simp [k2], k3⟩
    | fr ds =>
      obtain ⟨env', k1, k2, k3⟩ := stores_ok (is := is) (h.setOwn (i := i) h1) (RvsU.stored (r := .fr ds) (fun t es z => by cases z; rfl) h2 c.2 h3) c.2 w1
      exact ⟨env', k1, by simp [k2], k3⟩
end
section
variable {X : Cx} {fr : Fr} {Fs : Mo (List Rv)} {pos : Pos}
theorem par_core {is : List Nat} {D : Ends} {σ : L2.St} {H : Hp} {env : Fv} {G : Hp} (h : SR X.K fr env σ H G) (w : wpM (parF is Fs) env (SPost X.K fr D G) (SExc X.K fr G)) :
    tU X.K fr Fs σ H fun vs H1 => is.length = vs.length ∧ ∃ env2 G2, SR X.K fr env2 (setAll σ is vs) H1 G2 ∧ ∀ H' G', SR X.K fr env2 (setAll σ is vs) H' G' → Sub G2 G' → D.nx (setAll σ is vs) H' := by
  unfold parF at w
  refine ⟨env, G, h, wpM_mono (wpM_bind.mp w) (fun rs env1 w1 H1 G1 vs h1 s1 q1 => ?_) fun c e1 E1 H1 G1 h1 s1 => E1 σ H1 G1 h1 s1⟩
  obtain ⟨rs', env2, G2, k1, k2, k3, k4, _, _, _, w2⟩ := settle_ok h1 q1 (wpM_bind.mp w1)
  obtain ⟨env3, m1, m2, w3⟩ := stores_ok k1 k3 k4 (wpM_bind.mp w2)
  exact ⟨m2, env3, G2, m1, fun H' G' h' s' => w3 _ H' G' h' ((s1.trans k2).trans s')⟩
/-- a, b = x, y with two plain local names -/
theorem es_par2 {i j : Nat} {x y : Str} {a b : Expr} {px py pt : Pos} {kt k2 pt2} (hc : X.calm = true) (hN : X.N.Nodup) (hi : X.N[i]? = some x) (hj : X.N[j]? = some y) (hij : i ≠ j)
    (hx : X.env.scope.names.lookup x = some .local) (hy : X.env.scope.names.lookup y = some .local) (ha : PUv X fr [a, b] Fs)
    (hw : swappedStores [.Tuple [.Name x px, .Name y py] kt pt] (.Tuple [a, b] k2 pt2) X.env = pure (some [x, y]) := by rfl)
    (hs : swapsWithSole [.Tuple [.Name x px, .Name y py] kt pt] (.Tuple [a, b] k2 pt2) pos.line X.env = pure false := by rfl) :
    PSv X fr (.Assign [.Tuple [.Name x px, .Name y py] kt pt] (.Tuple [a, b] k2 pt2) pos) (parF [i, j] Fs) :=
  weakS (ps_par hc hN hi hj hij hx hy (ha fr.prot) hw hs) fun D σ H ⟨env, G, h, w⟩ => by
    obtain ⟨env1, G1, h1, w1⟩ := par_core (X := X) h w
    refine ⟨env1, G1, h1, wpM_mono w1 (fun rs env2 w2 H2 G2 vs h2 s2 q2 => ?_) fun _ _ z => z⟩
    obtain ⟨z, env3, G3, h3, k⟩ := w2 H2 G2 vs h2 s2 q2
    match vs, z with
    | [v, u], _ => exact ⟨v, u, rfl, k H2 G3 h3 .refl⟩
theorem es_par3 {i j l : Nat} {x y z : Str} {a b c : Expr} {px py pz pt : Pos} {kt k2 pt2} (hc : X.calm = true) (hN : X.N.Nodup) (hi : X.N[i]? = some x) (hj : X.N[j]? = some y) (hl : X.N[l]? = some z) (hij : i ≠ j) (hil : i ≠ l) (hjl : j ≠ l)
    (hx : X.env.scope.names.lookup x = some .local) (hy : X.env.scope.names.lookup y = some .local) (hz : X.env.scope.names.lookup z = some .local) (ha : PUv X fr [a, b, c] Fs)
    (hw : swappedStores [.Tuple [.Name x px, .Name y py, .Name z pz] kt pt] (.Tuple [a, b, c] k2 pt2) X.env = pure (some [x, y, z]) := by rfl)
    (hs : swapsWithSole [.Tuple [.Name x px, .Name y py, .Name z pz] kt pt] (.Tuple [a, b, c] k2 pt2) pos.line X.env = pure false := by rfl) :
    PSv X fr (.Assign [.Tuple [.Name x px, .Name y py, .Name z pz] kt pt] (.Tuple [a, b, c] k2 pt2) pos) (parF [i, j, l] Fs) :=
  weakS (ps_par3 hc hN hi hj hl hij hil hjl hx hy hz (ha fr.prot) hw hs) fun D σ H ⟨env, G, h, w⟩ => by
    obtain ⟨env1, G1, h1, w1⟩ := par_core (X := X) h w
    refine ⟨env1, G1, h1, wpM_mono w1 (fun rs env2 w2 H2 G2 vs h2 s2 q2 => ?_) fun _ _ z => z⟩
    obtain ⟨z, env3, G3, h3, k⟩ := w2 H2 G2 vs h2 s2 q2
    match vs, z with
    | [v, u, t], _ => exact ⟨v, u, t, rfl, k H2 G3 h3 .refl⟩
def tgsOf : List Nat → TGs
  | [] => gNil
  | i :: is => gCons (gName i) (tgsOf is)
theorem tgsOf_all : ∀ {is : List Nat} {vs : List V} {σ : L2.St} {H : Hp} {Q : L2.St → Hp → Prop}, is.length = vs.length → Q (setAll σ is vs) H → tgsOf is vs σ H Q
  | [], [], _, _, _, _, q => ⟨rfl, q⟩
  | i :: is, v :: vs, σ, H, Q, l, q => ⟨v, vs, rfl, tgsOf_all (is := is) (by simpa using l) q⟩
/-- .. with names of any kind: the tuple is made and taken apart -/
theorem es_parN {is : List Nat} {tgs es : List Expr} {kt k2 : Nat} {pt pt2 : Pos} {n : Nat} (hc : X.calm = true) (ha : PUv X fr es Fs) (hg : PGs X tgs (tgsOf is)) (hl : is.length = n)
    (hn : (assignEach tgs X.env).length = n := by rfl) (hst : (assignEach tgs X.env).findIdx? (·.1) = none := by rfl)
    (hs : swapsWithSole [.Tuple tgs kt pt] (.Tuple es k2 pt2) pos.line X.env = pure false := by rfl) (hw : swappedStores [.Tuple tgs kt pt] (.Tuple es k2 pt2) X.env = pure none := by rfl)
    (h1 : (assignEach [.Tuple tgs kt pt] X.env).map (·.2) = [assign (.Tuple tgs kt pt) X.env] := by rfl) (hz : n ≤ sizeLine := by decide) : PSv X fr (.Assign [.Tuple tgs kt pt] (.Tuple es k2 pt2) pos) (parF is Fs) :=
  weakS (ps_asg (pe_tup (ha fr.prot)) (pg_tup hc hg hn hst) hs hw h1) fun D σ H ⟨env, G, h, w⟩ => by
    obtain ⟨env1, G1, h1, w1⟩ := par_core (X := X) h w
    refine ⟨env1, G1, h1, wpM_mono w1 (fun rs env2 w2 H2 G2 vs h2 s2 q2 => ?_) fun _ _ z => z⟩
    obtain ⟨z, env3, G3, h3, k⟩ := w2 H2 G2 vs h2 s2 q2
    refine ⟨by rw [← z, hl]; exact hz, fun p hp => ⟨p, vs, rfl, .of upd_same, by rw [← z, hl], tgsOf_all z ?_⟩⟩
    have st := Stp.lay (o := .tup vs) h3.sub hp
    exact k _ G3 (h3.stp st) .refl
end
end Cf
/-! Cf, part M: tests, the end of a law. -/
namespace Cf
open PySem PySem.Spec PyProof.Rows L2

theorem hu100 {k : Nat} {A : Around} (hr : Room k A) : A.units + 100 < cLine := by
  have := hr.un
  omega
@[simp] def truthD : PyData → Option Bool
  | .none => some false
  | .bool b => some b
  | .int i => some (i != 0)
  | .str x => if x.length ≤ sizeLine then some ((x.length : Int) != 0) else none
  | .list ds => some (!ds.isEmpty)
  | .tuple ds => some (!ds.isEmpty)
  | .dict _ => none
def truthF (F : Mo Rv) : Mo Bool := do
  let r ← F
  let d ← peek r
  liftO (truthD d)
theorem empty_dq {K : PySem.W.Frag} {G : Hp} {xs : List V} {ds : List PyData} (h : DqAll K G xs ds) : xs.isEmpty = ds.isEmpty := by
  cases h <;> rfl
section
variable {X : Cx} {fr : Fr} {a b c : Expr} {Fa Fb Fc : Mo Rv} {pos : Pos}
theorem tT_bool {F : Mo Rv} {σ : L2.St} {H : Hp} {Q : Bool → Hp → Prop} (h : tT X.K fr (boolF F) σ H Q) : tE X.K fr F σ H fun x H' => ∃ k, x = .bl k ∧ Q k H' := by
  obtain ⟨env, G, h, w⟩ := h
  have w' := wpM_boolF (k := fun b => pure b) (wpM_bind.mpr (wpM_mono w (fun b e' q => (wpM_pure (a := b)).mpr q) fun _ _ q => q))
  refine tE_then h w' (fun r env1 H1 G1 v h1 s1 q1 w1 => ?_) fun c e1 E1 H1 G1 h1 s1 => E1 H1 G1 h1 s1
  cases r with
  | sh d =>
    cases d with
    | bool k => exact ⟨k, dq_bl q1, w1 H1 G1 h1 s1⟩
    | _ => exact w1.elim
  | _ => exact w1.elim
theorem et_cmp {op : CmpOp} {g : PyData → PyData → Option Rv} (ho : Op2 X (compareOp op) g) (ha : PEv X fr a Fa) (hb : PEv X fr b Fb) (hm : behindInMarks op b = false := by first | exact nomark _ | rfl) : PTv X fr (.Compare a [op] [b] pos) (boolF (binF g Fa Fb)) :=
  let ⟨_, hr, hg⟩ := ho
  weakT (pt_cmpR hr ha hb hm) fun σ H Q h => bin_reads hg σ H _ (tT_bool h)
theorem et_chain {op op' : CmpOp} {g g' : PyData → PyData → Option Rv} (ho : Op2 X (compareOp op) g) (ho' : Op2 X (compareOp op') g') (ha : PEv X fr a Fa) (hb : PEv X fr b Fb) (hc : PEv X fr c Fc)
    (hm : lastMarks [op, op'] [b, c] = false := by with_unfolding_all rfl)
    (he : ∀ whole, isTrue (.Compare a [op, op'] [b, c] pos) X.env whole = (do let v ← whole; standAt pos; holding [v] (truthy v)) := by intro _; rfl) : PTv X fr (.Compare a [op, op'] [b, c] pos) (boolF (chainF g g' Fa Fb Fc)) :=
  et_val (ev_toB (ev_chain ho ho' ha hb hc hm)) he
theorem et_truth {e : Expr} {F : Mo Rv} (h : PEv X fr e F) (he : ∀ whole, isTrue e X.env whole = (do let v ← whole; standAt e.pos; holding [v] (truthy v)) := by intro _; rfl) : PTv X fr e (truthF F) :=
  weakT (pt_truth h he) fun σ H Q ⟨env, G, h, w⟩ => by
    unfold truthF at w
    refine tE_then h w (fun r env1 H1 G1 v h1 s1 q1 w1 => ?_) fun c e1 E1 H1 G1 h1 s1 => E1 H1 G1 h1 s1
    obtain ⟨d, p, w2⟩ := peek_ok h1 q1 (wpM_bind.mp w1)
    obtain ⟨k, e, qf⟩ := wpM_lift w2
    refine ⟨k, ?_, qf H1 G1 h1 s1⟩
    cases d with
    | none => cases e; cases dq_non p; rfl
    | bool b => cases e; cases dq_bl p; rfl
    | int i => cases e; cases dq_int p; rfl
    | str x =>
      simp only [truthD] at e
      split at e <;> cases e
      cases dq_str p
      exact ⟨by assumption, rfl⟩
    | list ds =>
      cases e
      obtain ⟨a, xs, rfl, k1, k2⟩ := p
      exact .inl ⟨xs, .of k1, by rw [empty_dq k2]⟩
    | tuple ds =>
      cases e
      obtain ⟨a, xs, rfl, k1, k2⟩ := dq_tup p
      exact .inr (.inl ⟨xs, h1.sub.sqT k1, by rw [empty_dq k2]⟩)
    | dict _ => cases e
end

theorem ev_globI {X : Cx} {fr : Fr} {x : Str} {pos : Pos} {i : Int} (hg : Gl X x) (hm : ∃ t, X.mg x = some (.int i t)) (hdb : (x == ("__debug__" : Str)) = false := by decide) : PEv X fr (.Name x pos) (constF (.int i)) :=
  let ⟨t, h⟩ := hm
  ev_glob (v := .int i) hg h ⟨t, rfl⟩ (.int i) hdb
/-- a def that is never come to -/
theorem fn_stuck {P : Program} {w : World} {K : PySem.W.Frag} {mg : Str → Option Value} {base : Heap} {tabs : List Addr} {k n : Nat} {f : Addr} {fd : FuncData} {ps : List Str} {g : List PyData → FnR} (h : ∀ ds, g ds = .stuck) : FnOk P w K mg base CX0 k f fd ps (sp0 K tabs n g) :=
  ⟨fun vs H Q E ⟨G, ds, _, _, _, _, r, e, _⟩ => (by rw [h] at e; cases e), fun A outer s H args us vs Q E _ _ _ _ ⟨G, ds, _, _, _, _, r, e, _⟩ => (by rw [h] at e; cases e)⟩
theorem bt_len : bootBuiltins "len" = some (.builtin "len") := by decide +kernel
theorem bt_abs : bootBuiltins "abs" = some (.builtin "abs") := by decide +kernel
theorem bt_min : bootBuiltins "min" = some (.builtin "min") := by decide +kernel
theorem bt_max : bootBuiltins "max" = some (.builtin "max") := by decide +kernel
theorem bt_sum : bootBuiltins "sum" = some (.builtin "sum") := by decide +kernel
theorem bt_sorted : bootBuiltins "sorted" = some (.builtin "sorted") := by decide +kernel
theorem bt_all : bootBuiltins "all" = some (.builtin "all") := by decide +kernel
theorem bt_any : bootBuiltins "any" = some (.builtin "any") := by decide +kernel
theorem bt_int : bootBuiltins "int" = some (.type "int") := by decide +kernel
theorem bt_bool : bootBuiltins "bool" = some (.type "bool") := by decide +kernel
theorem bt_str : bootBuiltins "str" = some (.type "str") := by decide +kernel
theorem bt_list : bootBuiltins "list" = some (.type "list") := by decide +kernel
theorem bt_tuple : bootBuiltins "tuple" = some (.type "tuple") := by decide +kernel

/-! ### the law itself -/
/-- the law's own list -/
def scrD (ns : List Int) : PyData := .dict [(.none, .list (ns.map .int))]
theorem dq_ints {K : PySem.W.Frag} {G : Hp} : ∀ ns : List Int, DqAll K G (ns.map V.int) (ns.map PyData.int)
  | [] => .nil
  | n :: ns => .cons (.int n) (dq_ints ns)
def noTbl (H : Hp) : Hp := fun b => match H b with
  | some (.tbl _) => none
  | x => x
theorem noTbl_sub (H : Hp) : Sub (noTbl H) H := fun b o e => by
  unfold noTbl at e
  split at e
  · cases e
  · exact e
theorem law_sp {K : PySem.W.Frag} {tabs : List Addr} {g : List PyData → FnR} {ns : List Int} {H : Hp} {a : Addr} {E : XK} (hg : g [scrD ns] = .ok (.sh (.bool true))) (hS : SqL K H a (ns.map V.int)) (hT : ∀ P ∈ tabs, H P = some (.tbl #[])) :
    sp0 K tabs 1 g [.ref a] H (fun v _ => v = .bl true) E := by
  have hS' : SqL K (noTbl H) a (ns.map V.int) := by
    rcases hS with (h | ⟨o, h⟩) | h
    · exact .inl (.inl (by unfold noTbl; rw [h]))
    · exact .inl (.inr ⟨o, by unfold noTbl; rw [h]⟩)
    · exact .inr h
  exact ⟨noTbl H, [scrD ns], noTbl_sub H, fun P hP => ⟨#[], hT P hP, trivial⟩, rfl, .cons (.scr hS' (dq_ints ns)) .nil, _, hg, fun H' G' v _ _ _ _ q => dq_bl q⟩
/-! ### hidden parts -/
section
variable {X : Cx} {fr : Fr} {P : Program} {w : World} {K : PySem.W.Frag} {mg : Str → Option Value} {base : Heap} {k : Nat} {fa : Addr} {fd : FuncData} {ps : List Str} {tabs : List Addr} {n : Nat}
theorem hid_b {st : List Stmt} {F : Mo Out} (h : PBs X fr st F) : PBs X fr st (hide F) := by
  rw [hide_eq]
  exact h
theorem hid_s {st : Stmt} {F : Mo Out} (h : PSv X fr st F) : PSv X fr st (hide F) := by
  rw [hide_eq]
  exact h
theorem hid_e {e : Expr} {F : Mo Rv} (h : PEv X fr e F) : PEv X fr e (hide F) := by
  rw [hide_eq]
  exact h
theorem hid_set {st : Stmt} {i : Nat} {F : Mo Rv} (h : PSv X fr st (setF i F)) : PSv X fr st (setF i (hide F)) := by
  rw [hide_eq]
  exact h
theorem hid_f {g : List PyData → FnR} (h : FnOk P w K mg base CX0 k fa fd ps (sp0 K tabs n g)) : FnOk P w K mg base CX0 k fa fd ps (sp0 K tabs n (hide g)) := by
  rw [hide_eq]
  exact h
theorem hid_l {g : List PyData → List PyData → FnL} (h : FnOk P w K mg base CX0 k fa fd ps (spL K tabs n g)) : FnOk P w K mg base CX0 k fa fd ps (spL K tabs n (hide g)) := by
  rw [hide_eq]
  exact h
end
end Cf
/-! Cf, part N: how the functions of data are reckoned. -/
namespace Cf
open PySem PySem.Spec PyProof.Rows L2

section
variable {α β : Type}
@[simp ↓] theorem bind_app (m : Mo α) (k : α → Mo β) (e : Fv) : (m >>= k) e = match m e with
    | .ok a e' => k a e'
    | .exc c e' => .exc c e'
    | .stuck => .stuck := Eq.trans rfl rfl
@[simp ↓] theorem pure_app (a : α) (e : Fv) : (pure a : Mo α) e = .ok a e := Eq.trans rfl rfl
@[simp] theorem stuck_app (e : Fv) : (stuckM : Mo α) e = .stuck := Eq.trans rfl rfl
@[simp] theorem lift_some (a : α) (e : Fv) : (liftO (some a) : Mo α) e = .ok a e := Eq.trans rfl rfl
@[simp] theorem lift_none (e : Fv) : (liftO none : Mo α) e = .stuck := Eq.trans rfl rfl
@[simp ↓] theorem ite_app (c : Prop) [Decidable c] (a b : Mo α) (e : Fv) : (if c then a else b) e = if c then a e else b e := by
  split <;> rfl
@[simp ↓] theorem peek_app (r : Rv) (e : Fv) : peek r e = (fun e => match r with
  | .sh d => .ok d e
  | .fr ds => .ok (.list ds) e
  | .sl i => match e[i]? with
    | some (.sh d) => .ok d e
    | some (.own _ ds) => .ok (.list ds) e
    | _ => .stuck : Mo PyData) e := Eq.trans rfl rfl
@[simp ↓] theorem force_app (r : Rv) (e : Fv) : force r e = (fun e => match r with
  | .sh d => .ok d e
  | .fr ds => .ok (.list ds) e
  | .sl i => match e[i]? with
    | some (.sh d) => .ok d e
    | some (.own none ds) => .ok (.list ds) (e.set i (.sh (.list ds)))
    | _ => .stuck : Mo PyData) e := Eq.trans rfl rfl
@[simp ↓] theorem readF_app (i : Nat) (e : Fv) : readF i e = (fun e => match e[i]? with
  | some (.sh d) => .ok (.sh d) e
  | some (.own _ _) => .ok (.sl i) e
  | _ => .stuck : Mo Rv) e := Eq.trans rfl rfl
@[simp ↓] theorem constF_app (d : PyData) (e : Fv) : constF d e = (pure (.sh d) : Mo Rv) e := Eq.trans rfl rfl
@[simp ↓] theorem binF_app (g : PyData → PyData → Option Rv) (F1 F2 : Mo Rv) (e : Fv) : binF g F1 F2 e = (do
  let r1 ← F1
  let r2 ← F2
  let d1 ← peek (hold r1)
  let d2 ← peek r2
  liftO (g d1 d2) : Mo Rv) e := Eq.trans rfl rfl
@[simp ↓] theorem chainF_app (g g' : PyData → PyData → Option Rv) (F1 F2 F3 : Mo Rv) (e : Fv) : chainF g g' F1 F2 F3 e = (do
  let r1 ← F1
  let r2 ← F2
  let d1 ← peek (hold r1)
  let d2 ← peek (hold r2)
  match g d1 d2 with
  | some (.sh (.bool k)) => (if k = true then (do
      let r3 ← F3
      let d2' ← peek (hold r2)
      let d3 ← peek r3
      liftO (g' d2' d3)) else pure (.sh (.bool false)) : Mo Rv)
  | _ => stuckM : Mo Rv) e := Eq.trans rfl rfl
@[simp ↓] theorem boolF_app (F : Mo Rv) (e : Fv) : boolF F e = (do
  let r ← F
  match r with
  | .sh (.bool b) => pure b
  | _ => stuckM : Mo Bool) e := Eq.trans rfl rfl
@[simp ↓] theorem ofB_app (F : Mo Bool) (e : Fv) : ofB F e = (do
  let b ← F
  pure (.sh (.bool b)) : Mo Rv) e := Eq.trans rfl rfl
@[simp ↓] theorem andF_app (F1 F2 : Mo Bool) (e : Fv) : andF F1 F2 e = (do
  let b ← F1
  if b = true then F2 else pure false : Mo Bool) e := Eq.trans rfl rfl
@[simp ↓] theorem orF_app (F1 F2 : Mo Bool) (e : Fv) : orF F1 F2 e = (do
  let b ← F1
  if b = true then pure true else F2 : Mo Bool) e := Eq.trans rfl rfl
@[simp ↓] theorem notF_app (F : Mo Bool) (e : Fv) : notF F e = (do
  let b ← F
  pure (!b) : Mo Bool) e := Eq.trans rfl rfl
@[simp ↓] theorem ifF_app {α : Type} (T : Mo Bool) (F1 F2 : Mo α) (e : Fv) : ifF T F1 F2 e = (do
  let b ← T
  if b = true then F1 else F2 : Mo α) e := Eq.trans rfl rfl
@[simp ↓] theorem consF_app (F : Mo Rv) (Fs : Mo (List Rv)) (e : Fv) : consF F Fs e = (do
  let r ← F
  let rs ← Fs
  pure (hold r :: rs) : Mo (List Rv)) e := Eq.trans rfl rfl
@[simp ↓] theorem nilF_app (e : Fv) : nilF  e = (pure [] : Mo (List Rv)) e := Eq.trans rfl rfl
@[simp ↓] theorem tupF_app (Fs : Mo (List Rv)) (e : Fv) : tupF Fs e = (do
  let rs ← Fs
  let ds ← forces rs
  if ds.length ≤ sizeLine then pure (.sh (.tuple ds)) else stuckM : Mo Rv) e := Eq.trans rfl rfl
@[simp ↓] theorem lstF_app (Fs : Mo (List Rv)) (e : Fv) : lstF Fs e = (do
  let rs ← Fs
  let ds ← forces rs
  if ds.length ≤ sizeLine then pure (.fr ds) else stuckM : Mo Rv) e := Eq.trans rfl rfl
@[simp ↓] theorem unF_app (g : PyData → Option Rv) (F : Mo Rv) (e : Fv) : unF g F e = (do
  let r ← F
  let d ← peek r
  liftO (g d) : Mo Rv) e := Eq.trans rfl rfl
@[simp ↓] theorem sliceF_app (F : Mo Rv) (lo hi : Option (Mo Rv)) (e : Fv) : sliceF F lo hi e = (do
  let r ← F
  let l ← partF lo
  let h ← partF hi
  let d ← peek (hold r)
  liftO (sliceG l h d) : Mo Rv) e := Eq.trans rfl rfl
@[simp ↓] theorem callBF_app (g : List PyData → Option Rv) (Fs : Mo (List Rv)) (e : Fv) : callBF g Fs e = (do
  let rs ← Fs
  let ds ← peeks rs
  liftO (g ds) : Mo Rv) e := Eq.trans rfl rfl
@[simp ↓] theorem isF_app (T : String) (F : Mo Rv) (e : Fv) : isF T F e = (do
  let r ← F
  let d ← peek r
  pure (isTy T d) : Mo Bool) e := Eq.trans rfl rfl
@[simp ↓] theorem getOwn_app (i : Nat) (e : Fv) : getOwn i e = (fun e => match e[i]? with
  | some (.own _ ds) => .ok ds e
  | _ => .stuck : Mo (List PyData)) e := Eq.trans rfl rfl
@[simp ↓] theorem putOwn_app (i : Nat) (ds : List PyData) (e : Fv) : putOwn i ds e = (fun e => match e[i]? with
  | some (.own t _) => .ok () (e.set i (.own t ds))
  | _ => .stuck : Mo Unit) e := Eq.trans rfl rfl
@[simp ↓] theorem needOwn_app (i : Nat) (e : Fv) : needOwn i e = (fun e => match e[i]? with
  | some (.own _ _) => .ok () e
  | _ => .stuck : Mo Unit) e := Eq.trans rfl rfl
@[simp ↓] theorem appendF_app (i : Nat) (F : Mo Rv) (e : Fv) : appendF i F e = (do
  needOwn i
  let r ← F
  let d ← force r
  let ds ← getOwn i
  if ds.length < sizeLine then do
    putOwn i (ds ++ [d])
    pure (.sh .none)
  else stuckM : Mo Rv) e := Eq.trans rfl rfl
@[simp ↓] theorem popF_app (i : Nat) (e : Fv) : popF i e = (do
  let ds ← getOwn i
  match ds.getLast? with
  | some d => do
    putOwn i ds.dropLast
    pure (.sh d)
  | none => stuckM : Mo Rv) e := Eq.trans rfl rfl
@[simp ↓] theorem skipF_app (e : Fv) : skipF  e = (pure .nx : Mo Out) e := Eq.trans rfl rfl
@[simp ↓] theorem seqF_app (F1 F2 : Mo Out) (e : Fv) : seqF F1 F2 e = (do
  match ← F1 with
  | .nx => F2
  | o => pure o : Mo Out) e := Eq.trans rfl rfl
@[simp ↓] theorem storeF_app (i : Nat) (r : Rv) (e : Fv) : storeF i r e = (fun e => match r with
  | .sh d => .ok () (e.set i (.sh d))
  | .fr ds => .ok () (e.set i (.own none ds))
  | .sl j => match e[j]? with
    | some (.sh d) => .ok () (e.set i (.sh d))
    | some (.own none ds) => .ok () ((e.set j (.sh (.list ds))).set i (.sh (.list ds)))
    | _ => .stuck : Mo Unit) e := Eq.trans rfl rfl
@[simp ↓] theorem setF_app (i : Nat) (F : Mo Rv) (e : Fv) : setF i F e = (do
  let r ← F
  storeF i r
  pure .nx : Mo Out) e := Eq.trans rfl rfl
@[simp ↓] theorem dropF_app (F : Mo Rv) (e : Fv) : dropF F e = (do
  let _ ← F
  pure .nx : Mo Out) e := Eq.trans rfl rfl
@[simp ↓] theorem retF_app (F : Mo Rv) (e : Fv) : retF F e = (do
  let r ← F
  pure (.rt r) : Mo Out) e := Eq.trans rfl rfl
@[simp ↓] theorem augF_app (i : Nat) (g : PyData → PyData → Option Rv) (F : Mo Rv) (e : Fv) : augF i g F e = (do
  let r ← readF i
  let r2 ← F
  let d1 ← peek r
  let d2 ← peek r2
  let res ← liftO (g d1 d2)
  storeF i res
  pure .nx : Mo Out) e := Eq.trans rfl rfl
@[simp ↓] theorem toSlot_app (i : Nat) (d : PyData) (e : Fv) : toSlot i d e = (storeF i (.sh d) : Mo Unit) e := Eq.trans rfl rfl
@[simp ↓] theorem toNil_app (ds : List PyData) (e : Fv) : toNil ds e = (match ds with
  | [] => pure ()
  | _ => stuckM : Mo Unit) e := Eq.trans rfl rfl
@[simp ↓] theorem toCons_app (T : PyData → Mo Unit) (Ts : List PyData → Mo Unit) (ds : List PyData) (e : Fv) : toCons T Ts ds e = (match ds with
  | d :: r => do
    T d
    Ts r
  | [] => stuckM : Mo Unit) e := Eq.trans rfl rfl
@[simp ↓] theorem toTup_app (n : Nat) (Ts : List PyData → Mo Unit) (d : PyData) (e : Fv) : toTup n Ts d e = (match d with
  | .tuple ds => if ds.length = n then Ts ds else stuckM
  | _ => stuckM : Mo Unit) e := Eq.trans rfl rfl
@[simp ↓] theorem thenU_app {α : Type} (T : Mo Unit) (k : Mo α) (e : Fv) : thenU T k e = (fun e => match T e with
  | .ok _ e' => k e'
  | .exc _ _ => .stuck
  | .stuck => .stuck : Mo α) e := Eq.trans rfl rfl
@[simp ↓] theorem setT_app (T : PyData → Mo Unit) (F : Mo Rv) (e : Fv) : setT T F e = (do
  let r ← F
  let d ← force r
  thenU (T d) (pure .nx) : Mo Out) e := Eq.trans rfl rfl
@[simp ↓] theorem seqI_app (F : Mo Rv) (e : Fv) : seqI F e = (do
  let r ← F
  let d ← force r
  liftO (itemsG d) : Mo (List PyData)) e := Eq.trans rfl rfl
@[simp ↓] theorem forF_app (I : Mo (List PyData)) (T : PyData → Mo Unit) (B : Mo Out) (e : Fv) : forF I T B e = (do
  let ds ← I
  loopF T B ds : Mo Out) e := Eq.trans rfl rfl
@[simp ↓] theorem endF_app (o : FnR) (e : Fv) : endF o e = (match o with
  | .ok r => pure r
  | .exc _ => stuckM
  | .stuck => stuckM : Mo Rv) e := Eq.trans rfl rfl
@[simp ↓] theorem callF_app (n : Nat) (g : List PyData → FnR) (Fs : Mo (List Rv)) (e : Fv) : callF n g Fs e = (do
  let rs ← Fs
  let ds ← forces rs
  if ds.length = n then endF (g ds) else stuckM : Mo Rv) e := Eq.trans rfl rfl
@[simp ↓] theorem callL_app (n : Nat) (g : List PyData → List PyData → FnL) (j : Nat) (Fs : Mo (List Rv)) (e : Fv) : callL n g j Fs e = (do
  needOwn j
  let rs ← Fs
  let ds ← forces rs
  let es ← getOwn j
  if ds.length + 1 = n then
    match g es ds with
    | .ok r out => do
      putOwn j out
      pure r
    | .stuck => stuckM
  else stuckM : Mo Rv) e := Eq.trans rfl rfl
@[simp ↓] theorem callB_app (n : Nat) (g : List PyData → FnR) (Fs : Mo (List Rv)) (e : Fv) : callB n g Fs e = (do
  let rs ← Fs
  let ds ← peeks rs
  if ds.length = n then
    match g ds with
    | .ok r => if freeRv r = true then pure r else stuckM
    | _ => stuckM
  else stuckM : Mo Rv) e := Eq.trans rfl rfl
@[simp ↓] theorem yesF_app (e : Fv) : yesF  e = (pure true : Mo Bool) e := Eq.trans rfl rfl
@[simp ↓] theorem revL_app (F : Mo Rv) (e : Fv) : revL F e = (do
  let r ← F
  let d ← peek r
  match d with
  | .list ds => pure (.fr ds.reverse)
  | _ => stuckM : Mo Rv) e := Eq.trans rfl rfl
@[simp ↓] theorem setItemF_app (i : Nat) (Fi : Mo Rv) (F : Mo Rv) (e : Fv) : setItemF i Fi F e = (do
  let r ← F
  let d ← force r
  needOwn i
  let rj ← Fi
  let dj ← peek rj
  let ds ← getOwn i
  match dj with
  | .int k => match ixN ds.length k with
    | some j => do
      putOwn i (ds.set j d)
      pure .nx
    | none => stuckM
  | _ => stuckM : Mo Out) e := Eq.trans rfl rfl
@[simp ↓] theorem consU_app (F : Mo Rv) (Fs : Mo (List Rv)) (e : Fv) : consU F Fs e = (do
  let r ← F
  let rs ← Fs
  pure (r :: rs) : Mo (List Rv)) e := Eq.trans rfl rfl
@[simp ↓] theorem settle1_app (r : Rv) (e : Fv) : settle1 r e = (match r with
  | .sl i => do
    let d ← force (.sl i)
    pure (.sh d)
  | r => pure r : Mo Rv) e := Eq.trans rfl rfl
@[simp ↓] theorem parF_app (is : List Nat) (Fs : Mo (List Rv)) (e : Fv) : parF is Fs e = (do
  let rs ← Fs
  let rs ← settle rs
  storeAll is rs
  pure .nx : Mo Out) e := Eq.trans rfl rfl
@[simp ↓] theorem truthF_app (F : Mo Rv) (e : Fv) : truthF F e = (do
  let r ← F
  let d ← peek r
  liftO (truthD d) : Mo Bool) e := Eq.trans rfl rfl
@[simp] theorem szl0 : (0 < sizeLine) = True := by simp [sizeLine]
@[simp] theorem sz1 : (1 ≤ sizeLine) = True := by simp [sizeLine]
@[simp] theorem szl1 : (1 < sizeLine) = True := by simp [sizeLine]
@[simp] theorem sz2 : (2 ≤ sizeLine) = True := by simp [sizeLine]
@[simp] theorem szl2 : (2 < sizeLine) = True := by simp [sizeLine]
@[simp] theorem sz3 : (3 ≤ sizeLine) = True := by simp [sizeLine]
@[simp] theorem szl3 : (3 < sizeLine) = True := by simp [sizeLine]
@[simp] theorem sz4 : (4 ≤ sizeLine) = True := by simp [sizeLine]
@[simp] theorem szl4 : (4 < sizeLine) = True := by simp [sizeLine]
@[simp] theorem sz5 : (5 ≤ sizeLine) = True := by simp [sizeLine]
@[simp] theorem szl5 : (5 < sizeLine) = True := by simp [sizeLine]
@[simp] theorem sz6 : (6 ≤ sizeLine) = True := by simp [sizeLine]
@[simp] theorem szl6 : (6 < sizeLine) = True := by simp [sizeLine]
@[simp] theorem sz7 : (7 ≤ sizeLine) = True := by simp [sizeLine]
@[simp] theorem szl7 : (7 < sizeLine) = True := by simp [sizeLine]
@[simp] theorem sz8 : (8 ≤ sizeLine) = True := by simp [sizeLine]
@[simp] theorem szl8 : (8 < sizeLine) = True := by simp [sizeLine]
@[simp] theorem sz9 : (9 ≤ sizeLine) = True := by simp [sizeLine]
@[simp] theorem szl9 : (9 < sizeLine) = True := by simp [sizeLine]
@[simp] theorem sz10 : (10 ≤ sizeLine) = True := by simp [sizeLine]
@[simp] theorem szl10 : (10 < sizeLine) = True := by simp [sizeLine]
@[simp] theorem sz11 : (11 ≤ sizeLine) = True := by simp [sizeLine]
@[simp] theorem szl11 : (11 < sizeLine) = True := by simp [sizeLine]
@[simp] theorem sz12 : (12 ≤ sizeLine) = True := by simp [sizeLine]
@[simp] theorem szl12 : (12 < sizeLine) = True := by simp [sizeLine]
@[simp] theorem sz13 : (13 ≤ sizeLine) = True := by simp [sizeLine]
@[simp] theorem szl13 : (13 < sizeLine) = True := by simp [sizeLine]
@[simp] theorem sz14 : (14 ≤ sizeLine) = True := by simp [sizeLine]
@[simp] theorem szl14 : (14 < sizeLine) = True := by simp [sizeLine]
@[simp] theorem sz15 : (15 ≤ sizeLine) = True := by simp [sizeLine]
@[simp] theorem szl15 : (15 < sizeLine) = True := by simp [sizeLine]
@[simp] theorem sz16 : (16 ≤ sizeLine) = True := by simp [sizeLine]
@[simp] theorem szl16 : (16 < sizeLine) = True := by simp [sizeLine]
@[simp] theorem sz17 : (17 ≤ sizeLine) = True := by simp [sizeLine]
@[simp] theorem szl17 : (17 < sizeLine) = True := by simp [sizeLine]
@[simp] theorem sz18 : (18 ≤ sizeLine) = True := by simp [sizeLine]
@[simp] theorem szl18 : (18 < sizeLine) = True := by simp [sizeLine]
@[simp] theorem sz19 : (19 ≤ sizeLine) = True := by simp [sizeLine]
@[simp] theorem szl19 : (19 < sizeLine) = True := by simp [sizeLine]
@[simp] theorem sz20 : (20 ≤ sizeLine) = True := by simp [sizeLine]
@[simp] theorem szl20 : (20 < sizeLine) = True := by simp [sizeLine]
@[simp] theorem sz21 : (21 ≤ sizeLine) = True := by simp [sizeLine]
@[simp] theorem szl21 : (21 < sizeLine) = True := by simp [sizeLine]
@[simp] theorem sz22 : (22 ≤ sizeLine) = True := by simp [sizeLine]
@[simp] theorem szl22 : (22 < sizeLine) = True := by simp [sizeLine]
@[simp] theorem sz23 : (23 ≤ sizeLine) = True := by simp [sizeLine]
@[simp] theorem szl23 : (23 < sizeLine) = True := by simp [sizeLine]
@[simp] theorem sz24 : (24 ≤ sizeLine) = True := by simp [sizeLine]
@[simp] theorem szl24 : (24 < sizeLine) = True := by simp [sizeLine]
@[simp] theorem sz25 : (25 ≤ sizeLine) = True := by simp [sizeLine]
@[simp] theorem szl25 : (25 < sizeLine) = True := by simp [sizeLine]
@[simp] theorem sz26 : (26 ≤ sizeLine) = True := by simp [sizeLine]
@[simp] theorem szl26 : (26 < sizeLine) = True := by simp [sizeLine]
@[simp] theorem sz27 : (27 ≤ sizeLine) = True := by simp [sizeLine]
@[simp] theorem szl27 : (27 < sizeLine) = True := by simp [sizeLine]
@[simp] theorem sz28 : (28 ≤ sizeLine) = True := by simp [sizeLine]
@[simp] theorem szl28 : (28 < sizeLine) = True := by simp [sizeLine]
@[simp] theorem sz29 : (29 ≤ sizeLine) = True := by simp [sizeLine]
@[simp] theorem szl29 : (29 < sizeLine) = True := by simp [sizeLine]
@[simp] theorem sz30 : (30 ≤ sizeLine) = True := by simp [sizeLine]
@[simp] theorem szl30 : (30 < sizeLine) = True := by simp [sizeLine]
@[simp] theorem sz31 : (31 ≤ sizeLine) = True := by simp [sizeLine]
@[simp] theorem szl31 : (31 < sizeLine) = True := by simp [sizeLine]
@[simp] theorem sz32 : (32 ≤ sizeLine) = True := by simp [sizeLine]
@[simp] theorem szl32 : (32 < sizeLine) = True := by simp [sizeLine]
theorem wpM_ok {m : Mo α} {e e' : Fv} {a : α} {Q : α → Fv → Prop} {E : Nat → Fv → Prop} (h : m e = .ok a e') (q : Q a e') : wpM m e Q E := by
  unfold wpM
  rw [h]
  exact q
theorem ok_of_wp {m : Mo α} {e e' : Fv} {a : α} (h : wpM m e (fun b f => b = a ∧ f = e') (fun _ _ => False)) : m e = .ok a e' := by
  unfold wpM at h
  cases q : (m e : Res α) with
  | ok b f => rw [q] at h; obtain ⟨rfl, rfl⟩ := h; rfl
  | exc c f => rw [q] at h; exact h.elim
  | stuck => rw [q] at h; exact h.elim
end
end Cf
/-! Cf, part O: reckoning with the functions of data. -/
namespace Cf
open PySem PySem.Spec PyProof.Rows L2

theorem seq_nx {F1 F2 : Mo Out} {e e' : Fv} (h : F1 e = .ok .nx e') : seqF F1 F2 e = F2 e' := by
  simp [h]
theorem seq_rt {F1 F2 : Mo Out} {e e' : Fv} {r : Rv} (h : F1 e = .ok (.rt r) e') : seqF F1 F2 e = .ok (.rt r) e' := by
  simp [h]
/-- ints -/
def I (n : Int) : PyData := .int n
theorem mulOk_left {i j : Int} (h : i.natAbs < 2 ^ 64) : mulOk i j = true := by
  have : Builtin.Int.intBits i ≤ shortFactorBits := by
    unfold Builtin.Int.intBits shortFactorBits
    split
    · omega
    · have : i.natAbs.log2 < 64 := by
        rename_i z
        have : i.natAbs ≠ 0 := by simpa using z
        exact (Nat.log2_lt this).mpr h
      omega
  simp [mulOk, Nat.not_lt.mpr this]
theorem mulOk_right {i j : Int} (h : j.natAbs < 2 ^ 64) : mulOk i j = true := by
  have : Builtin.Int.intBits j ≤ shortFactorBits := by
    unfold Builtin.Int.intBits shortFactorBits
    split
    · omega
    · have : j.natAbs.log2 < 64 := by
        rename_i z
        have : j.natAbs ≠ 0 := by simpa using z
        exact (Nat.log2_lt this).mpr h
      omega
  simp [mulOk, Nat.not_lt.mpr this]
theorem mulG_left {i j : Int} (h : i.natAbs < 2 ^ 64) : mulG (.int i) (.int j) = some (.sh (.int (i * j))) := by
  simp [mulG, mulOk_left h]
theorem mulG_right {i j : Int} (h : j.natAbs < 2 ^ 64) : mulG (.int i) (.int j) = some (.sh (.int (i * j))) := by
  simp [mulG, mulOk_right h]
theorem fdivG_small {i j : Int} (h0 : j ≠ 0) (h : j.natAbs < 1073741824) : fdivG (.int i) (.int j) = some (.sh (.int (i.fdiv j))) := by
  simp [fdivG, h0, PyProof.noPylong_small h]

/-! ### equality -/
theorem canLayAll_iff : ∀ {ds : List PyData}, PyData.canLayAll0 ds = true ↔ ∀ d ∈ ds, d.canLay0 = true
  | [] => by simp [PyData.canLayAll0]
  | d :: ds => by simp [PyData.canLayAll0, canLayAll_iff (ds := ds)]
theorem depthAll_le : ∀ {ds : List PyData} {n : Nat}, PyData.depthAll ds ≤ n ↔ ∀ d ∈ ds, d.depth ≤ n
  | [], n => by simp [PyData.depthAll]
  | d :: ds, n => by simp [PyData.depthAll, depthAll_le (ds := ds), Nat.max_le]
theorem eqvAll_eq : ∀ {xs ys : List PyData}, (∀ x ∈ xs, ∀ y ∈ ys, PyData.eqv x y = true ↔ x = y) → (PyData.eqvAll xs ys = true ↔ xs = ys)
  | [], [], _ => by simp [PyData.eqvAll]
  | [], _ :: _, _ => by simp [PyData.eqvAll]
  | _ :: _, [], _ => by simp [PyData.eqvAll]
  | x :: xs, y :: ys, h => by
    simp only [PyData.eqvAll, Bool.and_eq_true, List.cons.injEq]
    rw [h x (by simp) y (by simp), eqvAll_eq fun a ha b hb => h a (by simp [ha]) b (by simp [hb])]
theorem eqv_int {i j : Int} : PyData.eqv (.int i) (.int j) = decide (i = j) := by
  simp [PyData.eqv]
  rfl
/-- data of ints: no bool, no text, no table; at most n levels -/
inductive Plain : Nat → PyData → Prop
  | int {n : Nat} (i : Int) : Plain n (.int i)
  | non {n : Nat} : Plain n .none
  | tup {n : Nat} {ds : List PyData} : (∀ d ∈ ds, Plain n d) → Plain (n + 1) (.tuple ds)
  | lst {n : Nat} {ds : List PyData} : (∀ d ∈ ds, Plain n d) → Plain (n + 1) (.list ds)
theorem Plain.lay : ∀ {n : Nat} {d : PyData}, Plain n d → d.canLay0 = true
  | _, _, .int _ => rfl
  | _, _, .non => rfl
  | _, _, .tup h => by
    simp only [PyData.canLay0]
    exact canLayAll_iff.mpr fun d hd => (h d hd).lay
  | _, _, .lst h => by
    simp only [PyData.canLay0]
    exact canLayAll_iff.mpr fun d hd => (h d hd).lay
theorem Plain.dep : ∀ {n : Nat} {d : PyData}, Plain n d → d.depth ≤ n
  | _, _, .int _ => Nat.zero_le _
  | _, _, .non => Nat.zero_le _
  | _, _, .tup h => by
    simp only [PyData.depth]
    exact Nat.succ_le_succ (depthAll_le.mpr fun d hd => (h d hd).dep)
  | _, _, .lst h => by
    simp only [PyData.depth]
    exact Nat.succ_le_succ (depthAll_le.mpr fun d hd => (h d hd).dep)
theorem Plain.eqv : ∀ {n m : Nat} {a b : PyData}, Plain n a → Plain m b → (PyData.eqv a b = true ↔ a = b)
  | _, _, _, _, .int i, .int j => by simp [eqv_int]
  | _, _, _, _, .int i, .non => by simp [PyData.eqv]
  | _, _, _, _, .int i, .tup _ => by simp [PyData.eqv]
  | _, _, _, _, .int i, .lst _ => by simp [PyData.eqv]
  | _, _, _, _, .non, .int i => by simp [PyData.eqv]
  | _, _, _, _, .non, .non => by simp [PyData.eqv]
  | _, _, _, _, .non, .tup _ => by simp [PyData.eqv]
  | _, _, _, _, .non, .lst _ => by simp [PyData.eqv]
  | _, _, _, _, .tup h, .int i => by simp [PyData.eqv]
  | _, _, _, _, .tup h, .non => by simp [PyData.eqv]
  | _, _, _, _, .tup h, .tup k => by
    simp only [PyData.eqv, PyData.tuple.injEq]
    exact eqvAll_eq fun x hx y hy => (h x hx).eqv (k y hy)
  | _, _, _, _, .tup h, .lst _ => by simp [PyData.eqv]
  | _, _, _, _, .lst h, .int i => by simp [PyData.eqv]
  | _, _, _, _, .lst h, .non => by simp [PyData.eqv]
  | _, _, _, _, .lst h, .tup _ => by simp [PyData.eqv]
  | _, _, _, _, .lst h, .lst k => by
    simp only [PyData.eqv, PyData.list.injEq]
    exact eqvAll_eq fun x hx y hy => (h x hx).eqv (k y hy)
noncomputable instance decEq : DecidableEq PyData := fun a b => Classical.propDecidable _
theorem eqG_plain {n m : Nat} {a b : PyData} (ha : Plain n a) (hb : Plain m b) (h : min n m ≤ 64) : eqG a b = some (.sh (.bool (decide (a = b)))) := by
  have h1 := ha.dep
  have h2 := hb.dep
  have e : PyData.eqv a b = decide (a = b) := by
    by_cases z : a = b
    · rw [(ha.eqv hb).mpr z, decide_eq_true z]
    · rw [decide_eq_false z]
      exact Bool.eq_false_iff.mpr fun y => z ((ha.eqv hb).mp y)
  unfold eqG eqOk
  rw [ha.lay, hb.lay, e]
  simp
  omega
theorem neG_plain {n m : Nat} {a b : PyData} (ha : Plain n a) (hb : Plain m b) (h : min n m ≤ 64) : neG a b = some (.sh (.bool (!decide (a = b)))) := by
  have e := eqG_plain ha hb h
  unfold eqG at e
  unfold neG
  split at e
  · rename_i c
    rw [if_pos c]
    have := Option.some.inj e
    simp only [Rv.sh.injEq, PyData.bool.injEq] at this
    rw [this]
  · cases e
theorem eqG_int {i j : Int} : eqG (.int i) (.int j) = some (.sh (.bool (decide (i = j)))) := by
  rw [eqG_plain (.int (n := 0) i) (.int (n := 0) j) (by decide)]
  simp
theorem neG_int {i j : Int} : neG (.int i) (.int j) = some (.sh (.bool (!decide (i = j)))) := by
  rw [neG_plain (.int (n := 0) i) (.int (n := 0) j) (by decide)]
  simp
theorem eqG_bool {a b : Bool} : eqG (.bool a) (.bool b) = some (.sh (.bool (a == b))) := by
  simp [eqG, eqOk, PyData.canLay0, PyData.depth, PyData.eqv]
theorem neG_bool {a b : Bool} : neG (.bool a) (.bool b) = some (.sh (.bool (a != b))) := by
  simp [neG, eqOk, PyData.canLay0, PyData.depth, PyData.eqv, bne]
theorem eqG_nil {ds : List PyData} (h : ∀ d ∈ ds, d.canLay0 = true) : eqG (.list ds) (.list []) = some (.sh (.bool ds.isEmpty)) := by
  unfold eqG eqOk
  have : PyData.canLay0 (.list ds) = true := by simpa only [PyData.canLay0] using canLayAll_iff.mpr h
  rw [this]
  have e : PyData.eqv (.list ds) (.list []) = ds.isEmpty := by
    cases ds <;> simp [PyData.eqv, PyData.eqvAll]
  rw [e]
  simp [PyData.canLay0, PyData.canLayAll0, PyData.depth, PyData.depthAll]
theorem eqG_nil0 : eqG (.list []) (.list []) = some (.sh (.bool true)) := eqG_nil (by simp)
theorem in_any {n : Nat} {a : PyData} {ds : List PyData} (ha : Plain n a) (hn : n ≤ 60) (h : ∀ d ∈ ds, Plain 60 d) : inOk a ds = true ∧ (ds.any fun z => PyData.eqv z a) = decide (a ∈ ds) := by
  constructor
  · have := ha.dep
    simp [inOk, ha.lay, canLayAll_iff.mpr fun d hd => (h d hd).lay]
    omega
  · rw [Bool.eq_iff_iff]
    simp only [List.any_eq_true, decide_eq_true_eq]
    constructor
    · rintro ⟨x, hx, e⟩
      rw [← ((h x hx).eqv ha).mp e]
      exact hx
    · exact fun hx => ⟨a, hx, ((h a hx).eqv ha).mpr rfl⟩
section
variable {n : Nat} {a : PyData} {ds : List PyData} (ha : Plain n a) (hn : n ≤ 60) (h : ∀ d ∈ ds, Plain 60 d)
include ha hn h
theorem inG_tup : inG a (.tuple ds) = some (.sh (.bool (decide (a ∈ ds)))) := by
  simp [inG, (in_any ha hn h).1, (in_any ha hn h).2]
theorem inG_lst : inG a (.list ds) = some (.sh (.bool (decide (a ∈ ds)))) := by
  simp [inG, (in_any ha hn h).1, (in_any ha hn h).2]
theorem notInG_tup : notInG a (.tuple ds) = some (.sh (.bool (!decide (a ∈ ds)))) := by
  simp [notInG, (in_any ha hn h).1, (in_any ha hn h).2]
theorem notInG_lst : notInG a (.list ds) = some (.sh (.bool (!decide (a ∈ ds)))) := by
  simp [notInG, (in_any ha hn h).1, (in_any ha hn h).2]
end

/-! ### items -/
theorem atI_nat {α : Type} {xs : List α} {i : Int} (h0 : 0 ≤ i) (h : i < xs.length) : atI xs i = xs[i.toNat]? := by
  simp [atI, ixN, h0, h]
theorem atI_cons {α : Type} {x : α} {xs : List α} : atI (x :: xs) 0 = some x := by
  rw [atI_nat (by omega) (by simp only [List.length_cons]; omega)]
  rfl
theorem atI_map {α β : Type} {f : α → β} {xs : List α} {i : Int} : atI (xs.map f) i = (atI xs i).map f := by
  unfold atI
  rw [List.length_map]
  cases ixN xs.length i <;> simp

/-! ### ranges (the bound is a big number: the kernel must not reckon with it) -/
theorem range1_ok {Fs : Mo (List Rv)} {e e' : Fv} {j : Int} (h : Fs e = .ok [.sh (.int j)] e') (h0 : -(2 ^ 62) ≤ j) (h1 : j < 2 ^ 62) : range1I Fs e = .ok (rangeD 0 j.toNat) e' := by
  unfold range1I
  rw [bind_app, h]
  show (if _ then _ else _ : Mo _) e' = _
  rw [if_pos (rangeOk_iff.mpr ⟨h0, h1⟩)]
  rfl
theorem range2_ok {Fs : Mo (List Rv)} {e e' : Fv} {i j : Int} (h : Fs e = .ok [.sh (.int i), .sh (.int j)] e') (g0 : -(2 ^ 62) ≤ i) (g1 : i < 2 ^ 62) (h0 : -(2 ^ 62) ≤ j) (h1 : j < 2 ^ 62) : range2I Fs e = .ok (rangeD i (j - i).toNat) e' := by
  unfold range2I
  rw [bind_app, h]
  show (if _ then _ else _ : Mo _) e' = _
  rw [if_pos ⟨rangeOk_iff.mpr ⟨g0, g1⟩, rangeOk_iff.mpr ⟨h0, h1⟩⟩]
  rfl
theorem for_ok {Io : Mo (List PyData)} {T : PyData → Mo Unit} {B : Mo Out} {ds : List PyData} {e e' : Fv} (h : Io e = .ok ds e') : forF Io T B e = loopF T B ds e' := by
  simp [h]

/-! ### comprehensions that change nothing -/
theorem lcLoop_one {v : Nat} {C : Mo Bool} {F : Mo Rv} {e : Fv} (hv : v < e.length) {p : PyData → Bool} {g : PyData → PyData} :
    ∀ (ds acc : List PyData) (e' : Fv), e'.set v .un = e.set v .un → acc.length + ds.length ≤ sizeLine →
    (∀ d ∈ ds, C (e.set v (.sh d)) = .ok (p d) (e.set v (.sh d))) →
    (∀ d ∈ ds, p d = true → (F >>= force) (e.set v (.sh d)) = .ok (g d) (e.set v (.sh d))) →
    ∃ e'', e''.set v .un = e.set v .un ∧ lcLoop [v] (toSlot v) C F ds acc e' = .ok (acc ++ (ds.filter p).map g) e''
  | [], acc, e', he, _, _, _ => ⟨e', he, by simp [lcLoop]⟩
  | d :: ds, acc, e', he, hl, hC, hF => by
    have e1 : (e.set v Sl.un).set v (.sh d) = e.set v (.sh d) := by rw [List.set_set]
    unfold lcLoop
    simp only [wipeE, he, thenU, toSlot, storeF, e1, bind_app, hC d (by simp)]
    have hl' : acc.length + (ds.length + 1) ≤ sizeLine := by simpa using hl
    by_cases hp : p d = true
    · have f := hF d (by simp) hp
      simp only [hp, if_true]
      rw [bind_app] at f
      rw [bind_app]
      cases z : (F (e.set v (.sh d)) : Res Rv) with
      | exc c e2 => rw [z] at f; simp at f
      | stuck => rw [z] at f; simp at f
      | ok r e2 =>
        rw [z] at f
        simp only [f, bind_app] at f ⊢
        rw [if_pos (by omega)]
        obtain ⟨e'', h1, h2⟩ := lcLoop_one hv ds (acc ++ [g d]) (e.set v (.sh d)) (by rw [List.set_set]) (by simp; omega) (fun x hx => hC x (by simp [hx])) (fun x hx => hF x (by simp [hx]))
        exact ⟨e'', h1, by rw [h2]; simp [hp]⟩
    · simp only [hp, if_false]
      obtain ⟨e'', h1, h2⟩ := lcLoop_one hv ds acc (e.set v (.sh d)) (by rw [List.set_set]) (by omega) (fun x hx => hC x (by simp [hx])) (fun x hx => hF x (by simp [hx]))
      exact ⟨e'', h1, by simp [h2, hp]⟩
theorem lc_one {v : Nat} {Io : Mo (List PyData)} {C : Mo Bool} {F : Mo Rv} {e0 e : Fv} {ds : List PyData} (p : PyData → Bool) (g : PyData → PyData) (hI : Io e0 = .ok ds e) (hv : v < e.length) (no : noOwn [v] e = true) (hl : ds.length ≤ sizeLine)
    (hC : ∀ d ∈ ds, C (e.set v (.sh d)) = .ok (p d) (e.set v (.sh d)))
    (hF : ∀ d ∈ ds, p d = true → (F >>= force) (e.set v (.sh d)) = .ok (g d) (e.set v (.sh d))) : lcF [v] Io (toSlot v) C F e0 = .ok (.fr ((ds.filter p).map g)) e := by
  obtain ⟨e'', h1, h2⟩ := lcLoop_one hv ds [] e rfl (by simpa using hl) hC hF
  have hb : restE e [v] e'' = e := by
    simp only [restE]
    have : ∀ x, e''.set v x = e.set v x := fun x => by
      have := congrArg (fun l : Fv => l.set v x) h1
      simpa [List.set_set] using this
    rw [this, List.getElem?_eq_getElem hv]
    simp
  unfold lcF
  simp only [bind_app, hI]
  unfold block
  rw [if_pos no, h2]
  simp only [hb, pure_app, List.nil_append]
end Cf
/-! Cf, part P: loops; the helpers that every law has. -/
namespace Cf
open PySem PySem.Spec PyProof.Rows L2

@[simp] theorem loop_nil {T : PyData → Mo Unit} {B : Mo Out} {e : Fv} : loopF T B [] e = .ok .nx e := rfl
theorem loop_cons {T : PyData → Mo Unit} {B : Mo Out} {d : PyData} {ds : List PyData} {e : Fv} : loopF T B (d :: ds) e = match thenU (T d) B e with
    | .ok .nx e' => loopF T B ds e'
    | .ok .ct e' => loopF T B ds e'
    | .ok .bk e' => .ok .nx e'
    | .ok (.rt r) e' => .ok (.rt r) e'
    | .exc c e' => .exc c e'
    | .stuck => .stuck := by
  show thenU (T d) _ e = _
  simp only [thenU]
  cases (T d e : Res Unit) with
  | exc c e' => rfl
  | stuck => rfl
  | ok u e' =>
    simp only [bind_app]
    cases (B e' : Res Out) with
    | exc c e' => rfl
    | stuck => rfl
    | ok o e2 => cases o <;> rfl
/-- a loop that goes to its end, with what holds after k turns -/
theorem loop_inv {T : PyData → Mo Unit} {B : Mo Out} {J : Nat → Fv → Prop} : ∀ {ds : List PyData} {k : Nat} {e : Fv},
    (∀ d ∈ ds, ∀ j e, j < k + ds.length → J j e → ∃ e', (thenU (T d) B e = .ok .nx e' ∨ thenU (T d) B e = .ok .ct e') ∧ J (j + 1) e') → J k e → ∃ e', loopF T B ds e = .ok .nx e' ∧ J (k + ds.length) e'
  | [], k, e, _, h => ⟨e, rfl, h⟩
  | d :: ds, k, e, hs, h => by
    obtain ⟨e1, h1, h2⟩ := hs d (by simp) k e (by simp) h
    obtain ⟨e2, h3, h4⟩ := loop_inv (ds := ds) (k := k + 1) (fun x hx j e hj => hs x (by simp [hx]) j e (by simp at hj ⊢; omega)) h2
    refine ⟨e2, ?_, by rw [List.length_cons, show k + (ds.length + 1) = k + 1 + ds.length by omega]; exact h4⟩
    rw [loop_cons]
    rcases h1 with h1 | h1 <;> rw [h1] <;> exact h3
theorem rangeD_length {lo : Int} {n : Nat} : (rangeD lo n).length = n := by simp [rangeD]
theorem mem_rangeD {lo : Int} {n : Nat} {d : PyData} : d ∈ rangeD lo n ↔ ∃ k : Nat, k < n ∧ d = .int (lo + k) := by
  simp only [rangeD, List.mem_map, List.mem_range]
  exact ⟨fun ⟨k, h, e⟩ => ⟨k, h, e.symm⟩, fun ⟨k, h, e⟩ => ⟨k, h, e.symm⟩⟩
theorem rangeD_succ {lo : Int} {n : Nat} : rangeD lo (n + 1) = .int lo :: rangeD (lo + 1) n := by
  unfold rangeD
  rw [List.range_succ_eq_map, List.map_cons, List.map_map]
  congr 1
  · simp
  · exact List.map_congr_left fun k _ => by
      simp
      omega
theorem rangeD_zero {lo : Int} : rangeD lo 0 = [] := rfl
theorem rangeD_concat {lo : Int} {n : Nat} : rangeD lo (n + 1) = rangeD lo n ++ [.int (lo + n)] := by
  unfold rangeD
  rw [List.range_succ, List.map_append]
  rfl

/-! ### draws -/
noncomputable section
abbrev drawsL1 : Mo Out := ifF (boolF (binF gtG (readF 3) (constF (.int 0)))) (seqF (dropF (appendF 1 (binF modG (callBF intG (consF (readF 3) (nilF))) (constF (.int 997)))))
    (setF 3 (binF fdivG (readF 3) (constF (.int 997))))) (skipF)
def drawsF1 : Mo Out := forF (range1I (consF (constF (.int 60)) (nilF))) (toSlot 5) drawsL1
def drawsL2g (pw : Mo Rv) (F : Mo Out) : Mo Out :=
  seqF (setF 3 (callBF absG (consF (readF 2) (nilF))))
    (seqF (ifF (boolF (binF ltG (readF 3) pw)) (seqF (setF 4 (binF modG (callBF intG (consF (binF addG (binF mulG (readF 3) (constF (.int 48271))) (constF (.int 11))) (nilF))) (constF (.int 2147483647))))
    (seqF (dropF (appendF 1 (binF modG (callBF intG (consF (binF addG (binF mulG (readF 4) (constF (.int 69621))) (readF 3)) (nilF))) (constF (.int 2147483629)))))
    (seqF (dropF (appendF 1 (binF modG (callBF intG (consF (binF addG (readF 4) (binF fdivG (readF 3) (constF (.int 7)))) (nilF))) (constF (.int 1000003)))))
    (setF 3 (constF (.int 0)))))) (skipF))
    F)
abbrev drawsL2 : Mo Out := drawsL2g (binF powG (constF (.int 10)) (constF (.int 18))) drawsF1
abbrev drawsL3 : Mo Out :=
  seqF (setF 6 (binF modG (callBF intG (consF (binF addG (binF mulG (readF 6) (constF (.int 48271))) (constF (.int 69621))) (nilF))) (constF (.int 2147483647))))
    (dropF (appendF 1 (binF fdivG (readF 6) (constF (.int 5)))))
def drawsB : Mo Out :=
  seqF (setF 1 (lstF (nilF)))
    (seqF (forF (seqI (readF 0)) (toSlot 2) drawsL2)
    (seqF (setF 6 (constF (.int 1)))
    (seqF (ifF (boolF (binF gtG (callBF lenG (consF (readF 0) (nilF))) (constF (.int 0)))) (setF 6 (binF addG (constF (.int 1)) (callBF absG (consF (binF itemG (readF 0) (constF (.int 0))) (nilF))))) (skipF))
    (seqF (forF (range1I (consF (constF (.int 900)) (nilF))) (toSlot 5) drawsL3)
    (retF (revL (readF 1)))))))
def takeB : Mo Out :=
  seqF (ifF (boolF (binF eqG (callBF lenG (consF (readF 0) (nilF))) (constF (.int 0)))) (retF (constF (.int 0))) (skipF))
    (retF (binF modG (callBF intG (consF (popF 0) (nilF))) (readF 1)))
def saysB : Mo Out :=
  retF (ofB (andF (isF "bool" (readF 0)) (boolF (binF eqG (readF 0) (readF 1)))))
def alikeQ (self : List PyData → FnR) : Mo Rv := lcF [2] (range1I (consF (callBF lenG (consF (readF 1) (nilF))) (nilF))) (toSlot 2) (notF (truthF (callF 2 self (consF (binF itemG (readF 0) (readF 2)) (consF (binF itemG (readF 1) (readF 2)) (nilF)))))) (readF 2)
def alikeG (Q : Mo Rv) : Mo Out :=
  seqF (ifF (orF (isF "list" (readF 1)) (isF "tuple" (readF 1))) (seqF (ifF (orF (boolF (binF neG (ofB (isF "list" (readF 0))) (ofB (isF "list" (readF 1))))) (boolF (binF neG (ofB (isF "tuple" (readF 0))) (ofB (isF "tuple" (readF 1)))))) (retF (constF (.bool false))) (skipF))
    (retF (ofB (andF (boolF (binF eqG (callBF lenG (consF (readF 0) (nilF))) (callBF lenG (consF (readF 1) (nilF))))) (boolF (binF eqG Q (lstF (nilF)))))))) (skipF))
    (seqF (ifF (boolF (binF isG (readF 1) (constF .none))) (retF (binF isG (readF 0) (constF .none))) (skipF))
    (seqF (ifF (orF (isF "bool" (readF 1)) (isF "bool" (readF 0))) (retF (ofB (andF (isF "bool" (readF 0)) (andF (isF "bool" (readF 1)) (boolF (binF eqG (readF 0) (readF 1))))))) (skipF))
    (seqF (ifF (isF "int" (readF 1)) (retF (ofB (andF (isF "int" (readF 0)) (boolF (binF eqG (readF 0) (readF 1)))))) (skipF))
    (retF (ofB (andF (isF "str" (readF 0)) (boolF (binF eqG (readF 0) (readF 1)))))))))
def alikeB (self : List PyData → FnR) : Mo Out := alikeG (alikeQ self)
def alikeF : Nat → List PyData → FnR
  | 0 => fun _ => .stuck
  | n + 1 => runF 3 (alikeB (alikeF n))

def iL (ns : List Int) : List PyData := ns.map .int
theorem iL_length {ns : List Int} : (iL ns).length = ns.length := List.length_map _
theorem pow18 : powG (.int 10) (.int 18) = some (.sh (.int 1000000000000000000)) := by
  show (if (0 : Int) ≤ 18 ∧ (18 : Int) ≤ 1000000 ∧ (10 : Int).natAbs < 2 ^ 64 then some (Rv.sh (.int (10 ^ (18 : Int).toNat))) else none) = _
  rw [if_pos ⟨by decide, by decide, by decide⟩]
  have : (10 : Int) ^ (18 : Int).toNat = 1000000000000000000 := by decide
  rw [this]
theorem pow18F : binF powG (constF (.int 10)) (constF (.int 18)) = constF (.int 1000000000000000000) := by
  funext e
  simp [pow18]
theorem draws1 {s d2 d3 d4 d5 d6 : Sl} {x : Int} {ms : List Int} (h : ms.length < 2 ^ 20) (hd : d3 = .sh (.int x)) :
    ∃ (ms' : List Int) (y : Int) (e5 : Sl), (drawsF1 [s, .own none (iL ms), d2, d3, d4, d5, d6] : Res Out) = .ok .nx [s, .own none (iL ms'), d2, .sh (.int y), d4, e5, d6] ∧ ms'.length ≤ ms.length + 60 := by
  subst hd
  obtain ⟨e', h1, ms', y, e5, rfl, h2⟩ := loop_inv (T := toSlot 5) (B := drawsL1) (J := fun j e => ∃ (ms' : List Int) (y : Int) (e5 : Sl), e = [s, .own none (iL ms'), d2, .sh (.int y), d4, e5, d6] ∧ ms'.length ≤ ms.length + j) (ds := rangeD 0 60) (k := 0)
    (e := [s, .own none (iL ms), d2, .sh (.int x), d4, d5, d6]) (fun d _ j e hj ⟨ms', y, e5, he, hl⟩ => by
      subst he
      rw [rangeD_length] at hj
      by_cases hy : 0 < y
      · refine ⟨[s, .own none (iL (ms' ++ [y.fmod 997])), d2, .sh (.int (y.fdiv 997)), d4, .sh d, d6], .inl ?_, _, _, _, rfl, by simp; omega⟩
        have : ms'.length < sizeLine := by
          unfold sizeLine
          omega
        simp [drawsL1, hy, this, fdivG_small, iL]
      · refine ⟨[s, .own none (iL ms'), d2, .sh (.int y), d4, .sh d, d6], .inl ?_, _, _, _, rfl, by omega⟩
        simp [drawsL1, hy]) ⟨ms, x, d5, rfl, by omega⟩
  refine ⟨ms', y, e5, ?_, by rw [rangeD_length] at h2; omega⟩
  unfold drawsF1
  generalize hz : drawsL1 = z at h1 ⊢
  exact (for_ok (range1_ok (j := 60) (e' := [s, .own none (iL ms), d2, .sh (.int x), d4, d5, d6]) (by simp) (by omega) (by omega))).trans h1
theorem step_a (F : Mo Out) (pw : Mo Rv) (m : Int) (hp : ∀ e, pw e = .ok (.sh (.int m)) e) {s d2 d3 d4 d5 d6 : Sl} {c : Int} {ms : List Int} (l1 : ms.length < sizeLine) (l2 : ms.length + 1 < sizeLine) (hc : (c.natAbs : Int) < m) : thenU (toSlot 2 (.int c)) (drawsL2g pw F) [s, .own none (iL ms), d2, d3, d4, d5, d6] = F [s, .own none (iL (ms ++ [((((c.natAbs : Int) * 48271 + 11).fmod 2147483647) * 69621 + c.natAbs).fmod 2147483629, ((((c.natAbs : Int) * 48271 + 11).fmod 2147483647) + (c.natAbs : Int).fdiv 7).fmod 1000003])), .sh (.int c), .sh (.int 0), .sh (.int (((c.natAbs : Int) * 48271 + 11).fmod 2147483647)), d5, d6] := by
  simp [drawsL2g, hp, hc, mulG_right, fdivG_small, l1, l2, iL]
theorem step_b (F : Mo Out) (pw : Mo Rv) (m : Int) (hp : ∀ e, pw e = .ok (.sh (.int m)) e) {s d2 d3 d4 d5 d6 : Sl} {c : Int} {ms : List Int} (hc : ¬ (c.natAbs : Int) < m) : thenU (toSlot 2 (.int c)) (drawsL2g pw F) [s, .own none (iL ms), d2, d3, d4, d5, d6] = F [s, .own none (iL ms), .sh (.int c), .sh (.int (c.natAbs : Int)), d4, d5, d6] := by
  simp [drawsL2g, hp, hc]
theorem draws2 {s d2 d3 d4 d5 d6 : Sl} {c : Int} {ms : List Int} (h : ms.length < 2 ^ 19) :
    ∃ (ms' : List Int) (e3 e4 e5 : Sl), (thenU (toSlot 2 (.int c)) drawsL2 [s, .own none (iL ms), d2, d3, d4, d5, d6] : Res Out) = .ok .nx [s, .own none (iL ms'), .sh (.int c), e3, e4, e5, d6] ∧ ms'.length ≤ ms.length + 62 := by
  have l1 : ms.length < sizeLine := by unfold sizeLine; omega
  have l2 : ms.length + 1 < sizeLine := by unfold sizeLine; omega
  by_cases hc : (c.natAbs : Int) < 1000000000000000000
  · obtain ⟨ms', y, e5, h1, h2⟩ := draws1 (s := s) (d2 := .sh (.int c)) (d4 := .sh (.int (((c.natAbs : Int) * 48271 + 11).fmod 2147483647))) (d5 := d5) (d6 := d6) (x := 0)
      (ms := ms ++ [((((c.natAbs : Int) * 48271 + 11).fmod 2147483647) * 69621 + c.natAbs).fmod 2147483629, ((((c.natAbs : Int) * 48271 + 11).fmod 2147483647) + (c.natAbs : Int).fdiv 7).fmod 1000003]) (by simp; omega) rfl
    refine ⟨ms', .sh (.int y), .sh (.int (((c.natAbs : Int) * 48271 + 11).fmod 2147483647)), e5, ?_, by simp at h2; omega⟩
    rw [← h1]
    exact step_a _ _ 1000000000000000000 (fun e => by rw [pow18F]; rfl) l1 l2 hc
  · obtain ⟨ms', y, e5, h1, h2⟩ := draws1 (s := s) (d2 := .sh (.int c)) (d3 := .sh (.int (c.natAbs : Int))) (d4 := d4) (d5 := d5) (d6 := d6) (ms := ms) (by omega) rfl
    refine ⟨ms', .sh (.int y), d4, e5, ?_, by omega⟩
    rw [← h1]
    exact step_b _ _ 1000000000000000000 (fun e => by rw [pow18F]; rfl) hc
theorem draws3 {s d2 d3 d4 d5 : Sl} {x : Int} {d : PyData} {ms : List Int} (h : ms.length < 2 ^ 20) :
    ∃ (ms' : List Int) (y : Int), (thenU (toSlot 5 d) drawsL3 [s, .own none (iL ms), d2, d3, d4, d5, .sh (.int x)] : Res Out) = .ok .nx [s, .own none (iL ms'), d2, d3, d4, .sh d, .sh (.int y)] ∧ ms'.length ≤ ms.length + 1 := by
  have l1 : ms.length < sizeLine := by unfold sizeLine; omega
  refine ⟨ms ++ [((x * 48271 + 69621).fmod 2147483647).fdiv 5], (x * 48271 + 69621).fmod 2147483647, ?_, by simp⟩
  simp [mulG_right, fdivG_small, l1, iL]
theorem draws_ok (ns : List Int) (hl : ns.length ≤ 63) : ∃ ms : List Int, ms.length < 2 ^ 20 ∧ runF 7 drawsB [scrD ns] = .ok (.fr (iL ms)) := by
  obtain ⟨e1, h1, ms1, d2, d3, d4, d5, rfl, l1⟩ := loop_inv (T := toSlot 2) (B := drawsL2) (ds := iL ns) (k := 0)
    (J := fun j e => ∃ (ms : List Int) (d2 d3 d4 d5 : Sl), e = [.sh (scrD ns), .own none (iL ms), d2, d3, d4, d5, .un] ∧ ms.length ≤ j * 62) (e := [.sh (scrD ns), .own none (iL []), .un, .un, .un, .un, .un])
    (fun d hd j e hj ⟨ms, d2, d3, d4, d5, he, hm⟩ => by
      subst he
      obtain ⟨c, -, rfl⟩ := List.mem_map.mp hd
      rw [iL_length] at hj
      obtain ⟨ms', e3, e4, e5, g1, g2⟩ := draws2 (s := .sh (scrD ns)) (d2 := d2) (d3 := d3) (d4 := d4) (d5 := d5) (d6 := .un) (c := c) (ms := ms) (by omega)
      exact ⟨_, .inl g1, ms', _, _, _, _, rfl, by omega⟩) ⟨[], .un, .un, .un, .un, rfl, by simp⟩
  rw [iL_length] at l1
  have hd : ∃ x : Int, (ifF (boolF (binF gtG (callBF lenG (consF (readF 0) (nilF))) (constF (.int 0)))) (setF 6 (binF addG (constF (.int 1)) (callBF absG (consF (binF itemG (readF 0) (constF (.int 0))) (nilF))))) (skipF) : Mo Out)
      [.sh (scrD ns), .own none (iL ms1), d2, d3, d4, d5, .sh (.int 1)] = .ok .nx [.sh (scrD ns), .own none (iL ms1), d2, d3, d4, d5, .sh (.int x)] := by
    cases ns with
    | nil => exact ⟨1, by simp [scrD]⟩
    | cons n ns => exact ⟨1 + n.natAbs, by simp [scrD, atI_cons]⟩
  obtain ⟨x, hx⟩ := hd
  obtain ⟨e2, h2, ms2, y, d7, rfl, l2⟩ := loop_inv (T := toSlot 5) (B := drawsL3) (ds := rangeD 0 900) (k := 0)
    (J := fun j e => ∃ (ms : List Int) (y : Int) (d7 : Sl), e = [.sh (scrD ns), .own none (iL ms), d2, d3, d4, d7, .sh (.int y)] ∧ ms.length ≤ ms1.length + j) (e := [.sh (scrD ns), .own none (iL ms1), d2, d3, d4, d5, .sh (.int x)])
    (fun d hd j e hj ⟨ms, y, d7, he, hm⟩ => by
      subst he
      rw [rangeD_length] at hj
      obtain ⟨ms', z, g1, g2⟩ := draws3 (s := .sh (scrD ns)) (d2 := d2) (d3 := d3) (d4 := d4) (d5 := d7) (x := y) (d := d) (ms := ms) (by omega)
      exact ⟨_, .inl g1, ms', _, _, rfl, by omega⟩) ⟨ms1, x, d5, rfl, by omega⟩
  rw [rangeD_length] at l2
  refine ⟨ms2.reverse, by rw [List.length_reverse]; omega, ?_⟩
  have s1 : (setF 1 (lstF nilF) : Mo Out) (env0 7 ([scrD ns].map .sh)) = .ok .nx [.sh (scrD ns), .own none (iL []), .un, .un, .un, .un, .un] := by simp [iL]
  have s2 : (forF (seqI (readF 0)) (toSlot 2) drawsL2 : Mo Out) [.sh (scrD ns), .own none (iL []), .un, .un, .un, .un, .un] = .ok .nx [.sh (scrD ns), .own none (iL ms1), d2, d3, d4, d5, .un] := by
    rw [← h1]
    rfl
  have s3 : (setF 6 (constF (.int 1)) : Mo Out) [.sh (scrD ns), .own none (iL ms1), d2, d3, d4, d5, .un] = .ok .nx [.sh (scrD ns), .own none (iL ms1), d2, d3, d4, d5, .sh (.int 1)] := by simp
  have s5 : (forF (range1I (consF (constF (.int 900)) (nilF))) (toSlot 5) drawsL3 : Mo Out) [.sh (scrD ns), .own none (iL ms1), d2, d3, d4, d5, .sh (.int x)] = .ok .nx [.sh (scrD ns), .own none (iL ms2), d2, d3, d4, d7, .sh (.int y)] :=
    (for_ok (range1_ok (j := 900) (e' := [.sh (scrD ns), .own none (iL ms1), d2, d3, d4, d5, .sh (.int x)]) (by simp) (by omega) (by omega))).trans h2
  unfold runF drawsB
  rw [seq_nx s1, seq_nx s2, seq_nx s3, seq_nx hx, seq_nx s5]
  simp [iL]
theorem take_ok (ms : List Int) (b : Int) (hb : b ≠ 0) : ∃ (r : Int) (ms' : List Int), runL 2 takeB (iL ms) [.int b] = .ok (.sh (.int r)) (iL ms') ∧ (0 < b → 0 ≤ r ∧ r < b) := by
  cases hm : ms.getLast? with
  | none =>
    have : ms = [] := List.getLast?_eq_none_iff.mp hm
    subst this
    exact ⟨0, [], by simp [runL, takeB, iL, eqG_int], fun h => ⟨by omega, h⟩⟩
  | some x =>
    refine ⟨x.fmod b, ms.dropLast, ?_, fun h => ⟨Int.fmod_nonneg_of_pos _ h, Int.fmod_lt_of_pos _ h⟩⟩
    have hne : ms ≠ [] := fun z => by rw [z] at hm; cases hm
    simp [runL, takeB, iL, eqG_int, hne, hm, hb]
/-- a draw within a bound -/
theorem take_ex (ms : List Int) (b : Int) (hb : 0 < b) : ∃ (r : Int) (ms' : List Int), runL 2 takeB (iL ms) [.int b] = .ok (.sh (.int r)) (iL ms') ∧ 0 ≤ r ∧ r < b := by
  obtain ⟨r, ms', h, k⟩ := take_ok ms b (by omega)
  exact ⟨r, ms', h, k hb⟩
theorem says_ok (a b : Bool) : runF 2 saysB [.bool a, .bool b] = .ok (.sh (.bool (a == b))) := by
  simp [runF, saysB, eqG_bool]
/-- data that _law_alike can go through: no table; n levels -/
inductive Deepn : Nat → PyData → Prop
  | int {n : Nat} (i : Int) : Deepn (n + 1) (.int i)
  | bool {n : Nat} (b : Bool) : Deepn (n + 1) (.bool b)
  | str {n : Nat} (x : Str) (h : PyData.strOk x = true) : Deepn (n + 1) (.str x)
  | non {n : Nat} : Deepn (n + 1) .none
  | tup {n : Nat} {ds : List PyData} : ds.length < 2 ^ 24 → (∀ d ∈ ds, Deepn n d) → Deepn (n + 1) (.tuple ds)
  | lst {n : Nat} {ds : List PyData} : ds.length < 2 ^ 24 → (∀ d ∈ ds, Deepn n d) → Deepn (n + 1) (.list ds)
theorem alike_t {ds : List PyData} (Q : Mo Rv) (hq : Q [.sh (.tuple ds), .sh (.tuple ds), .un] = .ok (.fr []) [.sh (.tuple ds), .sh (.tuple ds), .un]) : runF 3 (alikeG Q) [.tuple ds, .tuple ds] = .ok (.sh (.bool true)) := by
  simp [runF, alikeG, neG_bool, hq, eqG_int, eqG_nil0]
theorem alike_l {ds : List PyData} (Q : Mo Rv) (hq : Q [.sh (.list ds), .sh (.list ds), .un] = .ok (.fr []) [.sh (.list ds), .sh (.list ds), .un]) : runF 3 (alikeG Q) [.list ds, .list ds] = .ok (.sh (.bool true)) := by
  simp [runF, alikeG, neG_bool, hq, eqG_int, eqG_nil0]
theorem alike_list {f : List PyData → FnR} {n : Nat} {w : List PyData → PyData} (hw : w = .tuple ∨ w = .list) {ds : List PyData} (hl : ds.length < 2 ^ 24) (h : ∀ d ∈ ds, f [d, d] = .ok (.sh (.bool true))) : runF 3 (alikeB f) [w ds, w ds] = .ok (.sh (.bool true)) := by
  have hq : alikeQ f [.sh (w ds), .sh (w ds), .un] = .ok (.fr []) [.sh (w ds), .sh (w ds), .un] := by
    have := lc_one (v := 2) (Io := range1I (consF (callBF lenG (consF (readF 1) (nilF))) (nilF))) (C := notF (truthF (callF 2 f (consF (binF itemG (readF 0) (readF 2)) (consF (binF itemG (readF 1) (readF 2)) (nilF)))))) (F := readF 2)
      (e := [.sh (w ds), .sh (w ds), .un]) (ds := rangeD 0 ds.length) (fun _ => false) id (by
        have := range1_ok (Fs := consF (callBF lenG (consF (readF 1) (nilF))) (nilF)) (e := [.sh (w ds), .sh (w ds), .un]) (e' := [.sh (w ds), .sh (w ds), .un]) (j := ds.length) (by rcases hw with rfl | rfl <;> simp) (by omega) (by omega)
        rw [this]
        rfl) (by simp) rfl (by rw [rangeD_length]; unfold sizeLine; omega)
      (fun d hd => by
        obtain ⟨k, hk, rfl⟩ := mem_rangeD.mp hd
        have e : atI ds (0 + (k : Int)) = some ds[k] := by
          rw [atI_nat (by omega) (by omega)]
          simp [List.getElem?_eq_getElem hk]
        rcases hw with rfl | rfl <;> simp [e, h ds[k] (List.getElem_mem hk)]
        · simp at e
          simp [e, h ds[k] (List.getElem_mem hk)]
        · simp at e
          simp [e, h ds[k] (List.getElem_mem hk)]) (fun _ _ z => by cases z)
    rw [List.filter_eq_nil_iff.mpr (by simp)] at this
    exact this
  rcases hw with rfl | rfl
  · exact alike_t _ hq
  · exact alike_l _ hq
theorem alike_refl : ∀ (n : Nat) (d : PyData), Deepn n d → alikeF n [d, d] = .ok (.sh (.bool true))
  | _, _, .int i => by simp [alikeF, runF, alikeB, alikeG, eqG_int]
  | _, _, .bool b => by simp [alikeF, runF, alikeB, alikeG, eqG_bool]
  | _, _, .str x h => by simp [alikeF, runF, alikeB, alikeG, eqG, eqOk, PyData.canLay0, PyData.depth, PyData.eqv, h]
  | _, _, .non => by simp [alikeF, runF, alikeB, alikeG]
  | n + 1, _, .tup hl h => alike_list (n := n) (.inl rfl) hl fun d hd => alike_refl n d (h d hd)
  | n + 1, _, .lst hl h => alike_list (n := n) (.inr rfl) hl fun d hd => alike_refl n d (h d hd)
end
end Cf
/-! K39: each def as a function of data (printed by gen.py) -/
namespace Lw
open PySem PySem.Spec PyProof.Rows L2 Cf
def topS (i : Nat) : Stmt := PySem.Challenge.pw_coastlit_k39_whole_stores_of_oil.main.body.getD i (.Pass ⟨0, 0, 0, 0⟩)
abbrev s_is_number : Stmt := topS 1
abbrev N_is_number : List Str := ["value", "least", "most"]
theorem sc_is_number : FnScope N_is_number ["value", "least", "most"] (defScope s_is_number) := ⟨rfl, rfl, rfl, by decide +kernel, rfl, by decide +kernel, by decide +kernel⟩
noncomputable def B_is_number : Mo Out :=
  retF (ofB (andF (isF "int" (readF 0)) (andF (notF (isF "bool" (readF 0))) (boolF (chainF leG leG (readF 1) (readF 0) (readF 2))))))
noncomputable def f_is_number : List PyData → FnR := hide (runF 3 B_is_number)
theorem f_is_number_eq : f_is_number = runF 3 B_is_number := by unfold f_is_number; rw [hide_eq]
abbrev s_is_store : Stmt := topS 4
abbrev N_is_store : List Str := ["value"]
theorem sc_is_store : FnScope N_is_store ["value"] (defScope s_is_store) := ⟨rfl, rfl, rfl, by decide +kernel, rfl, by decide +kernel, by decide +kernel⟩
noncomputable def B_is_store : Mo Out :=
  seqF (ifF (orF (notF (isF "tuple" (readF 0))) (orF (boolF (binF neG (callBF lenG (consF (readF 0) (nilF))) (constF (.int 3)))) (notF (truthF (callF 3 f_is_number (consF (binF itemG (readF 0) (constF (.int 0))) (consF (constF (.int 1)) (consF (constF (.int 100)) (nilF))))))))) (retF (constF (.bool false))) (skipF))
    (retF (ofB (andF (boolF (callF 3 f_is_number (consF (binF itemG (readF 0) (constF (.int 1))) (consF (constF (.int 1)) (consF (binF itemG (readF 0) (constF (.int 0))) (nilF)))))) (boolF (callF 3 f_is_number (consF (binF itemG (readF 0) (constF (.int 2))) (consF (constF (.int 0)) (consF (binF itemG (readF 0) (constF (.int 0))) (nilF)))))))))
noncomputable def f_is_store : List PyData → FnR := hide (runF 1 B_is_store)
theorem f_is_store_eq : f_is_store = runF 1 B_is_store := by unfold f_is_store; rw [hide_eq]
abbrev s_store_reach : Stmt := topS 5
abbrev N_store_reach : List Str := ["store"]
theorem sc_store_reach : FnScope N_store_reach ["store"] (defScope s_store_reach) := ⟨rfl, rfl, rfl, by decide +kernel, rfl, by decide +kernel, by decide +kernel⟩
noncomputable def B_store_reach : Mo Out :=
  retF (binF fdivG (binF itemG (readF 0) (constF (.int 0))) (binF itemG (readF 0) (constF (.int 1))))
noncomputable def f_store_reach : List PyData → FnR := hide (runF 1 B_store_reach)
theorem f_store_reach_eq : f_store_reach = runF 1 B_store_reach := by unfold f_store_reach; rw [hide_eq]
abbrev s_dry_night : Stmt := topS 6
abbrev N_dry_night : List Str := ["store", "days", "n", "full", "use", "there", "night"]
theorem sc_dry_night : FnScope N_dry_night ["store", "days", "n"] (defScope s_dry_night) := ⟨rfl, rfl, rfl, by decide +kernel, rfl, by decide +kernel, by decide +kernel⟩
noncomputable def L_dry_night_1 : Mo Out := hide <|
  seqF (ifF (boolF (binF inG (readF 6) (readF 1))) (setF 5 (readF 3)) (skipF))
    (seqF (ifF (boolF (binF ltG (readF 5) (readF 4))) (retF (readF 6)) (skipF))
    (augF 5 subG (readF 4)))
theorem L_dry_night_1_app (e : Fv) : L_dry_night_1 e = (seqF (ifF (boolF (binF inG (readF 6) (readF 1))) (setF 5 (readF 3)) (skipF))
    (seqF (ifF (boolF (binF ltG (readF 5) (readF 4))) (retF (readF 6)) (skipF))
    (augF 5 subG (readF 4)))) e := by unfold L_dry_night_1; rw [hide_eq]
noncomputable def B_dry_night : Mo Out :=
  seqF (setT (toTup 3 (toCons (toSlot 3) (toCons (toSlot 4) (toCons (toSlot 5) (toNil))))) (readF 0))
    (seqF (forF (range1I (consF (readF 2) (nilF))) (toSlot 6) (L_dry_night_1))
    (retF (constF .none)))
noncomputable def f_dry_night : List PyData → FnR := hide (runF 7 B_dry_night)
theorem f_dry_night_eq : f_dry_night = runF 7 B_dry_night := by unfold f_dry_night; rw [hide_eq]
abbrev s_is_kept : Stmt := topS 7
abbrev N_is_kept : List Str := ["store", "days", "n"]
theorem sc_is_kept : FnScope N_is_kept ["store", "days", "n"] (defScope s_is_kept) := ⟨rfl, rfl, rfl, by decide +kernel, rfl, by decide +kernel, by decide +kernel⟩
noncomputable def B_is_kept : Mo Out :=
  retF (binF isG (callF 3 f_dry_night (consF (readF 0) (consF (readF 1) (consF (readF 2) (nilF))))) (constF .none))
noncomputable def f_is_kept : List PyData → FnR := hide (runF 3 B_is_kept)
theorem f_is_kept_eq : f_is_kept = runF 3 B_is_kept := by unfold f_is_kept; rw [hide_eq]
abbrev s_least_visits : Stmt := topS 8
abbrev N_least_visits : List Str := ["store", "n", "left"]
theorem sc_least_visits : FnScope N_least_visits ["store", "n"] (defScope s_least_visits) := ⟨rfl, rfl, rfl, by decide +kernel, rfl, by decide +kernel, by decide +kernel⟩
noncomputable def B_least_visits : Mo Out :=
  seqF (setF 2 (binF subG (readF 1) (binF fdivG (binF itemG (readF 0) (constF (.int 2))) (binF itemG (readF 0) (constF (.int 1))))))
    (retF (ifF (boolF (binF leG (readF 2) (constF (.int 0)))) (constF (.int 0)) (unF negG (binF fdivG (unF negG (readF 2)) (callF 1 f_store_reach (consF (readF 0) (nilF)))))))
noncomputable def f_least_visits : List PyData → FnR := hide (runF 3 B_least_visits)
theorem f_least_visits_eq : f_least_visits = runF 3 B_least_visits := by unfold f_least_visits; rw [hide_eq]
abbrev s__law_draws : Stmt := topS 10
abbrev N__law_draws : List Str := ["script", "draws", "cell", "number", "first", "k", "seed"]
theorem sc__law_draws : FnScope N__law_draws ["script"] (defScope s__law_draws) := ⟨rfl, rfl, rfl, by decide +kernel, rfl, by decide +kernel, by decide +kernel⟩
noncomputable def L__law_draws_1 : Mo Out := hide <|
  ifF (boolF (binF gtG (readF 3) (constF (.int 0)))) (seqF (dropF (appendF 1 (binF modG (callBF intG (consF (readF 3) (nilF))) (constF (.int 997)))))
    (setF 3 (binF fdivG (readF 3) (constF (.int 997))))) (skipF)
theorem L__law_draws_1_app (e : Fv) : L__law_draws_1 e = (ifF (boolF (binF gtG (readF 3) (constF (.int 0)))) (seqF (dropF (appendF 1 (binF modG (callBF intG (consF (readF 3) (nilF))) (constF (.int 997)))))
    (setF 3 (binF fdivG (readF 3) (constF (.int 997))))) (skipF)) e := by unfold L__law_draws_1; rw [hide_eq]
noncomputable def L__law_draws_2 : Mo Out := hide <|
  seqF (setF 3 (callBF absG (consF (readF 2) (nilF))))
    (seqF (ifF (boolF (binF ltG (readF 3) (binF powG (constF (.int 10)) (constF (.int 18))))) (seqF (setF 4 (binF modG (callBF intG (consF (binF addG (binF mulG (readF 3) (constF (.int 48271))) (constF (.int 11))) (nilF))) (constF (.int 2147483647))))
    (seqF (dropF (appendF 1 (binF modG (callBF intG (consF (binF addG (binF mulG (readF 4) (constF (.int 69621))) (readF 3)) (nilF))) (constF (.int 2147483629)))))
    (seqF (dropF (appendF 1 (binF modG (callBF intG (consF (binF addG (readF 4) (binF fdivG (readF 3) (constF (.int 7)))) (nilF))) (constF (.int 1000003)))))
    (setF 3 (constF (.int 0)))))) (skipF))
    (forF (range1I (consF (constF (.int 60)) (nilF))) (toSlot 5) (L__law_draws_1)))
theorem L__law_draws_2_app (e : Fv) : L__law_draws_2 e = (seqF (setF 3 (callBF absG (consF (readF 2) (nilF))))
    (seqF (ifF (boolF (binF ltG (readF 3) (binF powG (constF (.int 10)) (constF (.int 18))))) (seqF (setF 4 (binF modG (callBF intG (consF (binF addG (binF mulG (readF 3) (constF (.int 48271))) (constF (.int 11))) (nilF))) (constF (.int 2147483647))))
    (seqF (dropF (appendF 1 (binF modG (callBF intG (consF (binF addG (binF mulG (readF 4) (constF (.int 69621))) (readF 3)) (nilF))) (constF (.int 2147483629)))))
    (seqF (dropF (appendF 1 (binF modG (callBF intG (consF (binF addG (readF 4) (binF fdivG (readF 3) (constF (.int 7)))) (nilF))) (constF (.int 1000003)))))
    (setF 3 (constF (.int 0)))))) (skipF))
    (forF (range1I (consF (constF (.int 60)) (nilF))) (toSlot 5) (L__law_draws_1)))) e := by unfold L__law_draws_2; rw [hide_eq]
noncomputable def L__law_draws_3 : Mo Out := hide <|
  seqF (setF 6 (binF modG (callBF intG (consF (binF addG (binF mulG (readF 6) (constF (.int 48271))) (constF (.int 69621))) (nilF))) (constF (.int 2147483647))))
    (dropF (appendF 1 (binF fdivG (readF 6) (constF (.int 5)))))
theorem L__law_draws_3_app (e : Fv) : L__law_draws_3 e = (seqF (setF 6 (binF modG (callBF intG (consF (binF addG (binF mulG (readF 6) (constF (.int 48271))) (constF (.int 69621))) (nilF))) (constF (.int 2147483647))))
    (dropF (appendF 1 (binF fdivG (readF 6) (constF (.int 5)))))) e := by unfold L__law_draws_3; rw [hide_eq]
noncomputable def B__law_draws : Mo Out :=
  seqF (setF 1 (lstF (nilF)))
    (seqF (forF (seqI (readF 0)) (toSlot 2) (L__law_draws_2))
    (seqF (setF 6 (constF (.int 1)))
    (seqF (ifF (boolF (binF gtG (callBF lenG (consF (readF 0) (nilF))) (constF (.int 0)))) (setF 6 (binF addG (constF (.int 1)) (callBF absG (consF (binF itemG (readF 0) (constF (.int 0))) (nilF))))) (skipF))
    (seqF (forF (range1I (consF (constF (.int 900)) (nilF))) (toSlot 5) (L__law_draws_3))
    (retF (revL (readF 1)))))))
noncomputable def f__law_draws : List PyData → FnR := hide (runF 7 B__law_draws)
theorem f__law_draws_eq : f__law_draws = runF 7 B__law_draws := by unfold f__law_draws; rw [hide_eq]
abbrev s__law_take : Stmt := topS 11
abbrev N__law_take : List Str := ["draws", "bound"]
theorem sc__law_take : FnScope N__law_take ["draws", "bound"] (defScope s__law_take) := ⟨rfl, rfl, rfl, by decide +kernel, rfl, by decide +kernel, by decide +kernel⟩
noncomputable def B__law_take : Mo Out :=
  seqF (ifF (boolF (binF eqG (callBF lenG (consF (readF 0) (nilF))) (constF (.int 0)))) (retF (constF (.int 0))) (skipF))
    (retF (binF modG (callBF intG (consF (popF 0) (nilF))) (readF 1)))
noncomputable def f__law_take : List PyData → List PyData → FnL := hide (runL 2 B__law_take)
theorem f__law_take_eq : f__law_take = runL 2 B__law_take := by unfold f__law_take; rw [hide_eq]
abbrev s__law_says : Stmt := topS 12
abbrev N__law_says : List Str := ["told", "due"]
theorem sc__law_says : FnScope N__law_says ["told", "due"] (defScope s__law_says) := ⟨rfl, rfl, rfl, by decide +kernel, rfl, by decide +kernel, by decide +kernel⟩
noncomputable def B__law_says : Mo Out :=
  retF (ofB (andF (isF "bool" (readF 0)) (boolF (binF eqG (readF 0) (readF 1)))))
noncomputable def f__law_says : List PyData → FnR := hide (runF 2 B__law_says)
theorem f__law_says_eq : f__law_says = runF 2 B__law_says := by unfold f__law_says; rw [hide_eq]
abbrev s__law_alike : Stmt := topS 13
abbrev N__law_alike : List Str := ["found", "due", "k"]
theorem sc__law_alike : FnScope N__law_alike ["found", "due"] (defScope s__law_alike) := ⟨rfl, rfl, rfl, by decide +kernel, rfl, by decide +kernel, by decide +kernel⟩
noncomputable def Q__law_alike_1 (self : List PyData → FnR) : Mo Rv := hide <|
  lcF [2] (range1I (consF (callBF lenG (consF (readF 1) (nilF))) (nilF))) (toSlot 2) (notF (truthF (callF 2 self (consF (binF itemG (readF 0) (readF 2)) (consF (binF itemG (readF 1) (readF 2)) (nilF)))))) (readF 2)
theorem Q__law_alike_1_app (self : List PyData → FnR) (e : Fv) : Q__law_alike_1 self e = (lcF [2] (range1I (consF (callBF lenG (consF (readF 1) (nilF))) (nilF))) (toSlot 2) (notF (truthF (callF 2 self (consF (binF itemG (readF 0) (readF 2)) (consF (binF itemG (readF 1) (readF 2)) (nilF)))))) (readF 2)) e := by unfold Q__law_alike_1; rw [hide_eq]
noncomputable def B__law_alike (self : List PyData → FnR) : Mo Out :=
  seqF (ifF (orF (isF "list" (readF 1)) (isF "tuple" (readF 1))) (seqF (ifF (orF (boolF (binF neG (ofB (isF "list" (readF 0))) (ofB (isF "list" (readF 1))))) (boolF (binF neG (ofB (isF "tuple" (readF 0))) (ofB (isF "tuple" (readF 1)))))) (retF (constF (.bool false))) (skipF))
    (retF (ofB (andF (boolF (binF eqG (callBF lenG (consF (readF 0) (nilF))) (callBF lenG (consF (readF 1) (nilF))))) (boolF (binF eqG (Q__law_alike_1 self) (lstF (nilF)))))))) (skipF))
    (seqF (ifF (boolF (binF isG (readF 1) (constF .none))) (retF (binF isG (readF 0) (constF .none))) (skipF))
    (seqF (ifF (orF (isF "bool" (readF 1)) (isF "bool" (readF 0))) (retF (ofB (andF (isF "bool" (readF 0)) (andF (isF "bool" (readF 1)) (boolF (binF eqG (readF 0) (readF 1))))))) (skipF))
    (seqF (ifF (isF "int" (readF 1)) (retF (ofB (andF (isF "int" (readF 0)) (boolF (binF eqG (readF 0) (readF 1)))))) (skipF))
    (retF (ofB (andF (isF "str" (readF 0)) (boolF (binF eqG (readF 0) (readF 1)))))))))
noncomputable def f__law_alike : Nat → List PyData → FnR
  | 0 => fun _ => .stuck
  | n + 1 => hide (runF 3 (B__law_alike (f__law_alike n)))
theorem f__law_alike_eq (n : Nat) : f__law_alike (n + 1) = runF 3 (B__law_alike (f__law_alike n)) := by rw [f__law_alike, hide_eq]
abbrev s__law_store : Stmt := topS 14
abbrev N__law_store : List Str := ["draws", "use", "full"]
theorem sc__law_store : FnScope N__law_store ["draws"] (defScope s__law_store) := ⟨rfl, rfl, rfl, by decide +kernel, rfl, by decide +kernel, by decide +kernel⟩
noncomputable def B__law_store : Mo Out :=
  seqF (setF 1 (binF addG (constF (.int 1)) (callL 2 f__law_take 0 (consF (binF itemG (lstF (consF (constF (.int 2)) (consF (constF (.int 9)) (nilF)))) (callL 2 f__law_take 0 (consF (constF (.int 2)) (nilF)))) (nilF)))))
    (seqF (setF 2 (callBF min2G (consF (constF (.int 100)) (consF (binF addG (binF mulG (readF 1) (binF addG (constF (.int 1)) (callL 2 f__law_take 0 (consF (constF (.int 5)) (nilF))))) (callL 2 f__law_take 0 (consF (readF 1) (nilF)))) (nilF)))))
    (retF (tupF (consF (readF 2) (consF (readF 1) (consF (callL 2 f__law_take 0 (consF (binF addG (readF 2) (constF (.int 1))) (nilF))) (nilF)))))))
noncomputable def f__law_store : List PyData → List PyData → FnL := hide (runL 3 B__law_store)
theorem f__law_store_eq : f__law_store = runL 3 B__law_store := by unfold f__law_store; rw [hide_eq]
abbrev s__law_dry : Stmt := topS 15
abbrev N__law_dry : List Str := ["store", "days", "n", "full", "use", "there", "night"]
theorem sc__law_dry : FnScope N__law_dry ["store", "days", "n"] (defScope s__law_dry) := ⟨rfl, rfl, rfl, by decide +kernel, rfl, by decide +kernel, by decide +kernel⟩
noncomputable def L__law_dry_1 : Mo Out := hide <|
  seqF (setF 5 (ifF (boolF (binF inG (readF 6) (readF 1))) (readF 3) (readF 5)))
    (seqF (ifF (boolF (binF ltG (readF 5) (readF 4))) (retF (readF 6)) (skipF))
    (setF 5 (binF subG (readF 5) (readF 4))))
theorem L__law_dry_1_app (e : Fv) : L__law_dry_1 e = (seqF (setF 5 (ifF (boolF (binF inG (readF 6) (readF 1))) (readF 3) (readF 5)))
    (seqF (ifF (boolF (binF ltG (readF 5) (readF 4))) (retF (readF 6)) (skipF))
    (setF 5 (binF subG (readF 5) (readF 4))))) e := by unfold L__law_dry_1; rw [hide_eq]
noncomputable def B__law_dry : Mo Out :=
  seqF (setT (toTup 3 (toCons (toSlot 3) (toCons (toSlot 4) (toCons (toSlot 5) (toNil))))) (readF 0))
    (seqF (forF (range1I (consF (readF 2) (nilF))) (toSlot 6) (L__law_dry_1))
    (retF (constF .none)))
noncomputable def f__law_dry : List PyData → FnR := hide (runF 7 B__law_dry)
theorem f__law_dry_eq : f__law_dry = runF 7 B__law_dry := by unfold f__law_dry; rw [hide_eq]
abbrev s__law_sets : Stmt := topS 16
abbrev N__law_sets : List Str := ["many", "found", "k", "row"]
theorem sc__law_sets : FnScope N__law_sets ["many"] (defScope s__law_sets) := ⟨rfl, rfl, rfl, by decide +kernel, rfl, by decide +kernel, by decide +kernel⟩
noncomputable def Q__law_sets_1 : Mo Rv := hide <|
  lcF [3] (seqI (readF 1)) (toSlot 3) (yesF) (binF addG (readF 3) (tupF (consF (readF 2) (nilF))))
theorem Q__law_sets_1_app (e : Fv) : Q__law_sets_1 e = (lcF [3] (seqI (readF 1)) (toSlot 3) (yesF) (binF addG (readF 3) (tupF (consF (readF 2) (nilF))))) e := by unfold Q__law_sets_1; rw [hide_eq]
noncomputable def L__law_sets_1 : Mo Out := hide <|
  setF 1 (binF addG (readF 1) (Q__law_sets_1))
theorem L__law_sets_1_app (e : Fv) : L__law_sets_1 e = (setF 1 (binF addG (readF 1) (Q__law_sets_1))) e := by unfold L__law_sets_1; rw [hide_eq]
noncomputable def B__law_sets : Mo Out :=
  seqF (setF 1 (lstF (consF (tupF (nilF)) (nilF))))
    (seqF (forF (range1I (consF (readF 0) (nilF))) (toSlot 2) (L__law_sets_1))
    (retF (readF 1)))
noncomputable def f__law_sets : List PyData → FnR := hide (runF 4 B__law_sets)
theorem f__law_sets_eq : f__law_sets = runF 4 B__law_sets := by unfold f__law_sets; rw [hide_eq]
abbrev s_law : Stmt := topS 17
abbrev N_law : List Str := ["script", "draws", "store", "n", "full", "use", "now", "reach", "fewest", "days", "dry", "ends", "good", "long", "left", "odd", "k", "value"]
theorem sc_law : FnScope N_law ["script"] (defScope s_law) := ⟨rfl, rfl, rfl, by decide +kernel, rfl, by decide +kernel, by decide +kernel⟩
noncomputable def Q_law_1 : Mo Rv := hide <|
  lcF [16] (range2I (consF (constF (.int 1)) (consF (binF addG (readF 4) (constF (.int 1))) (nilF)))) (toSlot 16) (boolF (binF leG (binF mulG (readF 16) (readF 5)) (readF 4))) (readF 16)
theorem Q_law_1_app (e : Fv) : Q_law_1 e = (lcF [16] (range2I (consF (constF (.int 1)) (consF (binF addG (readF 4) (constF (.int 1))) (nilF)))) (toSlot 16) (boolF (binF leG (binF mulG (readF 16) (readF 5)) (readF 4))) (readF 16)) e := by unfold Q_law_1; rw [hide_eq]
noncomputable def Q_law_2 : Mo Rv := hide <|
  lcF [16] (range2I (consF (constF (.int 1)) (consF (callBF lenG (consF (readF 11) (nilF))) (nilF)))) (toSlot 16) (boolF (binF gtG (binF subG (binF itemG (readF 11) (readF 16)) (binF itemG (readF 11) (binF subG (readF 16) (constF (.int 1))))) (readF 7))) (readF 16)
theorem Q_law_2_app (e : Fv) : Q_law_2 e = (lcF [16] (range2I (consF (constF (.int 1)) (consF (callBF lenG (consF (readF 11) (nilF))) (nilF)))) (toSlot 16) (boolF (binF gtG (binF subG (binF itemG (readF 11) (readF 16)) (binF itemG (readF 11) (binF subG (readF 16) (constF (.int 1))))) (readF 7))) (readF 16)) e := by unfold Q_law_2; rw [hide_eq]
noncomputable def L_law_1 : Mo Out := hide <|
  seqF (setF 10 (callF 3 f__law_dry (consF (readF 2) (consF (readF 9) (consF (readF 3) (nilF))))))
    (seqF (ifF (orF (notF (truthF (callF 2 (f__law_alike 12) (consF (callF 3 f_dry_night (consF (readF 2) (consF (readF 9) (consF (readF 3) (nilF))))) (consF (readF 10) (nilF)))))) (notF (truthF (callF 2 f__law_says (consF (callF 3 f_is_kept (consF (readF 2) (consF (readF 9) (consF (readF 3) (nilF))))) (consF (binF isG (readF 10) (constF .none)) (nilF))))))) (retF (constF (.bool false))) (skipF))
    (seqF (setF 11 (binF addG (callBF listG (consF (readF 9) (nilF))) (lstF (consF (readF 3) (nilF)))))
    (seqF (setF 12 (ifF (boolF (binF neG (readF 9) (tupF (nilF)))) (binF leG (binF itemG (readF 11) (constF (.int 0))) (binF fdivG (readF 6) (readF 5))) (binF geG (binF fdivG (readF 6) (readF 5)) (readF 3))))
    (seqF (setF 12 (ofB (andF (boolF (readF 12)) (boolF (binF eqG (Q_law_2) (lstF (nilF)))))))
    (seqF (ifF (boolF (binF neG (readF 12) (binF isG (readF 10) (constF .none)))) (retF (constF (.bool false))) (skipF))
    (ifF (boolF (binF isG (readF 10) (constF .none))) (setF 8 (ifF (boolF (binF isG (readF 8) (constF .none))) (callBF lenG (consF (readF 9) (nilF))) (callBF min2G (consF (readF 8) (consF (callBF lenG (consF (readF 9) (nilF))) (nilF)))))) (skipF)))))))
theorem L_law_1_app (e : Fv) : L_law_1 e = (seqF (setF 10 (callF 3 f__law_dry (consF (readF 2) (consF (readF 9) (consF (readF 3) (nilF))))))
    (seqF (ifF (orF (notF (truthF (callF 2 (f__law_alike 12) (consF (callF 3 f_dry_night (consF (readF 2) (consF (readF 9) (consF (readF 3) (nilF))))) (consF (readF 10) (nilF)))))) (notF (truthF (callF 2 f__law_says (consF (callF 3 f_is_kept (consF (readF 2) (consF (readF 9) (consF (readF 3) (nilF))))) (consF (binF isG (readF 10) (constF .none)) (nilF))))))) (retF (constF (.bool false))) (skipF))
    (seqF (setF 11 (binF addG (callBF listG (consF (readF 9) (nilF))) (lstF (consF (readF 3) (nilF)))))
    (seqF (setF 12 (ifF (boolF (binF neG (readF 9) (tupF (nilF)))) (binF leG (binF itemG (readF 11) (constF (.int 0))) (binF fdivG (readF 6) (readF 5))) (binF geG (binF fdivG (readF 6) (readF 5)) (readF 3))))
    (seqF (setF 12 (ofB (andF (boolF (readF 12)) (boolF (binF eqG (Q_law_2) (lstF (nilF)))))))
    (seqF (ifF (boolF (binF neG (readF 12) (binF isG (readF 10) (constF .none)))) (retF (constF (.bool false))) (skipF))
    (ifF (boolF (binF isG (readF 10) (constF .none))) (setF 8 (ifF (boolF (binF isG (readF 8) (constF .none))) (callBF lenG (consF (readF 9) (nilF))) (callBF min2G (consF (readF 8) (consF (callBF lenG (consF (readF 9) (nilF))) (nilF)))))) (skipF)))))))) e := by unfold L_law_1; rw [hide_eq]
noncomputable def Q_law_3 : Mo Rv := hide <|
  lcF [17] (seqI (readF 15)) (toSlot 17) (boolF (binF isNotG (callF 1 f_is_store (consF (readF 17) (nilF))) (constF (.bool false)))) (readF 17)
theorem Q_law_3_app (e : Fv) : Q_law_3 e = (lcF [17] (seqI (readF 15)) (toSlot 17) (boolF (binF isNotG (callF 1 f_is_store (consF (readF 17) (nilF))) (constF (.bool false)))) (readF 17)) e := by unfold Q_law_3; rw [hide_eq]
noncomputable def S_law_1 : Mo Out := hide <|
  setF 1 (callF 1 f__law_draws (consF (readF 0) (nilF)))
theorem S_law_1_app (e : Fv) : S_law_1 e = (setF 1 (callF 1 f__law_draws (consF (readF 0) (nilF)))) e := by unfold S_law_1; rw [hide_eq]
noncomputable def S_law_2 : Mo Out := hide <|
  parF [2, 3] (consU (callL 1 f__law_store 1 (nilF)) (consU (binF addG (constF (.int 1)) (callL 2 f__law_take 1 (consF (constF (.int 8)) (nilF)))) (nilF)))
theorem S_law_2_app (e : Fv) : S_law_2 e = (parF [2, 3] (consU (callL 1 f__law_store 1 (nilF)) (consU (binF addG (constF (.int 1)) (callL 2 f__law_take 1 (consF (constF (.int 8)) (nilF)))) (nilF)))) e := by unfold S_law_2; rw [hide_eq]
noncomputable def S_law_3 : Mo Out := hide <|
  setT (toTup 3 (toCons (toSlot 4) (toCons (toSlot 5) (toCons (toSlot 6) (toNil))))) (readF 2)
theorem S_law_3_app (e : Fv) : S_law_3 e = (setT (toTup 3 (toCons (toSlot 4) (toCons (toSlot 5) (toCons (toSlot 6) (toNil))))) (readF 2)) e := by unfold S_law_3; rw [hide_eq]
noncomputable def S_law_4 : Mo Out := hide <|
  setF 7 (callBF lenG (consF (Q_law_1) (nilF)))
theorem S_law_4_app (e : Fv) : S_law_4 e = (setF 7 (callBF lenG (consF (Q_law_1) (nilF)))) e := by unfold S_law_4; rw [hide_eq]
noncomputable def S_law_5 : Mo Out := hide <|
  ifF (orF (notF (truthF (callF 2 f__law_says (consF (callF 1 f_is_store (consF (readF 2) (nilF))) (consF (constF (.bool true)) (nilF)))))) (notF (truthF (callF 2 (f__law_alike 12) (consF (callF 1 f_store_reach (consF (readF 2) (nilF))) (consF (readF 7) (nilF))))))) (retF (constF (.bool false))) (skipF)
theorem S_law_5_app (e : Fv) : S_law_5 e = (ifF (orF (notF (truthF (callF 2 f__law_says (consF (callF 1 f_is_store (consF (readF 2) (nilF))) (consF (constF (.bool true)) (nilF)))))) (notF (truthF (callF 2 (f__law_alike 12) (consF (callF 1 f_store_reach (consF (readF 2) (nilF))) (consF (readF 7) (nilF))))))) (retF (constF (.bool false))) (skipF)) e := by unfold S_law_5; rw [hide_eq]
noncomputable def S_law_6 : Mo Out := hide <|
  setF 8 (constF .none)
theorem S_law_6_app (e : Fv) : S_law_6 e = (setF 8 (constF .none)) e := by unfold S_law_6; rw [hide_eq]
noncomputable def S_law_7 : Mo Out := hide <|
  forF (seqI (callF 1 f__law_sets (consF (readF 3) (nilF)))) (toSlot 9) (L_law_1)
theorem S_law_7_app (e : Fv) : S_law_7 e = (forF (seqI (callF 1 f__law_sets (consF (readF 3) (nilF)))) (toSlot 9) (L_law_1)) e := by unfold S_law_7; rw [hide_eq]
noncomputable def S_law_8 : Mo Out := hide <|
  ifF (notF (truthF (callF 2 (f__law_alike 12) (consF (callF 2 f_least_visits (consF (readF 2) (consF (readF 3) (nilF)))) (consF (readF 8) (nilF)))))) (retF (constF (.bool false))) (skipF)
theorem S_law_8_app (e : Fv) : S_law_8 e = (ifF (notF (truthF (callF 2 (f__law_alike 12) (consF (callF 2 f_least_visits (consF (readF 2) (consF (readF 3) (nilF)))) (consF (readF 8) (nilF)))))) (retF (constF (.bool false))) (skipF)) e := by unfold S_law_8; rw [hide_eq]
noncomputable def S_law_9 : Mo Out := hide <|
  setF 13 (binF addG (constF (.int 10)) (callL 2 f__law_take 1 (consF (constF (.int 30)) (nilF))))
theorem S_law_9_app (e : Fv) : S_law_9 e = (setF 13 (binF addG (constF (.int 10)) (callL 2 f__law_take 1 (consF (constF (.int 30)) (nilF))))) e := by unfold S_law_9; rw [hide_eq]
noncomputable def S_law_10 : Mo Out := hide <|
  setF 14 (callBF max2G (consF (constF (.int 0)) (consF (binF subG (readF 13) (binF fdivG (readF 6) (readF 5))) (nilF))))
theorem S_law_10_app (e : Fv) : S_law_10 e = (setF 14 (callBF max2G (consF (constF (.int 0)) (consF (binF subG (readF 13) (binF fdivG (readF 6) (readF 5))) (nilF))))) e := by unfold S_law_10; rw [hide_eq]
noncomputable def S_law_11 : Mo Out := hide <|
  ifF (orF (notF (truthF (callF 2 (f__law_alike 12) (consF (callF 2 f_least_visits (consF (readF 2) (consF (readF 13) (nilF)))) (consF (binF fdivG (binF subG (binF addG (readF 14) (readF 7)) (constF (.int 1))) (readF 7)) (nilF)))))) (orF (boolF (binF isNotG (callF 3 f_dry_night (consF (readF 2) (consF (tupF (nilF)) (consF (binF fdivG (readF 6) (readF 5)) (nilF))))) (constF .none))) (notF (truthF (callF 2 (f__law_alike 12) (consF (callF 3 f_dry_night (consF (readF 2) (consF (tupF (nilF)) (consF (binF addG (binF fdivG (readF 6) (readF 5)) (constF (.int 1))) (nilF))))) (consF (binF fdivG (readF 6) (readF 5)) (nilF)))))))) (retF (constF (.bool false))) (skipF)
theorem S_law_11_app (e : Fv) : S_law_11 e = (ifF (orF (notF (truthF (callF 2 (f__law_alike 12) (consF (callF 2 f_least_visits (consF (readF 2) (consF (readF 13) (nilF)))) (consF (binF fdivG (binF subG (binF addG (readF 14) (readF 7)) (constF (.int 1))) (readF 7)) (nilF)))))) (orF (boolF (binF isNotG (callF 3 f_dry_night (consF (readF 2) (consF (tupF (nilF)) (consF (binF fdivG (readF 6) (readF 5)) (nilF))))) (constF .none))) (notF (truthF (callF 2 (f__law_alike 12) (consF (callF 3 f_dry_night (consF (readF 2) (consF (tupF (nilF)) (consF (binF addG (binF fdivG (readF 6) (readF 5)) (constF (.int 1))) (nilF))))) (consF (binF fdivG (readF 6) (readF 5)) (nilF)))))))) (retF (constF (.bool false))) (skipF)) e := by unfold S_law_11; rw [hide_eq]
noncomputable def S_law_12 : Mo Out := hide <|
  setF 15 (lstF (consF (constF .none) (consF (callBF listG (consF (readF 2) (nilF))) (consF (sliceF (readF 2) none (some (constF (.int 2)))) (consF (binF addG (readF 2) (tupF (consF (constF (.int 0)) (nilF)))) (consF (tupF (consF (constF (.int 0)) (consF (constF (.int 1)) (consF (constF (.int 0)) (nilF))))) (consF (tupF (consF (constF (.int 101)) (consF (readF 5) (consF (constF (.int 0)) (nilF))))) (consF (tupF (consF (readF 4) (consF (constF (.int 0)) (consF (constF (.int 0)) (nilF))))) (consF (tupF (consF (readF 4) (consF (binF addG (readF 4) (constF (.int 1))) (consF (constF (.int 0)) (nilF))))) (consF (tupF (consF (readF 4) (consF (readF 5) (consF (unF negG (constF (.int 1))) (nilF))))) (consF (tupF (consF (readF 4) (consF (readF 5) (consF (binF addG (readF 4) (constF (.int 1))) (nilF))))) (consF (tupF (consF (constF (.bool true)) (consF (constF (.int 1)) (consF (constF (.int 0)) (nilF))))) (consF (tupF (consF (readF 4) (consF (readF 5) (consF (constF .none) (nilF))))) (consF (tupF (consF (readF 4) (consF (constF (.bool true)) (consF (constF (.int 0)) (nilF))))) (nilF)))))))))))))))
theorem S_law_12_app (e : Fv) : S_law_12 e = (setF 15 (lstF (consF (constF .none) (consF (callBF listG (consF (readF 2) (nilF))) (consF (sliceF (readF 2) none (some (constF (.int 2)))) (consF (binF addG (readF 2) (tupF (consF (constF (.int 0)) (nilF)))) (consF (tupF (consF (constF (.int 0)) (consF (constF (.int 1)) (consF (constF (.int 0)) (nilF))))) (consF (tupF (consF (constF (.int 101)) (consF (readF 5) (consF (constF (.int 0)) (nilF))))) (consF (tupF (consF (readF 4) (consF (constF (.int 0)) (consF (constF (.int 0)) (nilF))))) (consF (tupF (consF (readF 4) (consF (binF addG (readF 4) (constF (.int 1))) (consF (constF (.int 0)) (nilF))))) (consF (tupF (consF (readF 4) (consF (readF 5) (consF (unF negG (constF (.int 1))) (nilF))))) (consF (tupF (consF (readF 4) (consF (readF 5) (consF (binF addG (readF 4) (constF (.int 1))) (nilF))))) (consF (tupF (consF (constF (.bool true)) (consF (constF (.int 1)) (consF (constF (.int 0)) (nilF))))) (consF (tupF (consF (readF 4) (consF (readF 5) (consF (constF .none) (nilF))))) (consF (tupF (consF (readF 4) (consF (constF (.bool true)) (consF (constF (.int 0)) (nilF))))) (nilF)))))))))))))))) e := by unfold S_law_12; rw [hide_eq]
noncomputable def S_law_13 : Mo Out := hide <|
  retF (binF eqG (Q_law_3) (lstF (nilF)))
theorem S_law_13_app (e : Fv) : S_law_13 e = (retF (binF eqG (Q_law_3) (lstF (nilF)))) e := by unfold S_law_13; rw [hide_eq]
noncomputable def B_law : Mo Out :=
  seqF (S_law_1)
    (seqF (S_law_2)
    (seqF (S_law_3)
    (seqF (S_law_4)
    (seqF (S_law_5)
    (seqF (S_law_6)
    (seqF (S_law_7)
    (seqF (S_law_8)
    (seqF (S_law_9)
    (seqF (S_law_10)
    (seqF (S_law_11)
    (seqF (S_law_12)
    (S_law_13))))))))))))
noncomputable def f_law : List PyData → FnR := hide (runF 18 B_law)
theorem f_law_eq : f_law = runF 18 B_law := by unfold f_law; rw [hide_eq]
/-- what stands behind the top -/
structure Tx (K : PySem.W.Frag) (mg : Str → Option Value) (fa : Nat → Addr) (fd : Nat → FuncData) : Prop where
  F_is_number : Fun K "is_number" "is_number" s_is_number (fa 1) (fd 1)
  b_is_number : Binds K (fd 1) ["value", "least", "most"] []
  g_is_number : mg "is_number" = some (.ref (fa 1))
  F_is_store : Fun K "is_store" "is_store" s_is_store (fa 4) (fd 4)
  b_is_store : Binds K (fd 4) ["value"] []
  g_is_store : mg "is_store" = some (.ref (fa 4))
  F_store_reach : Fun K "store_reach" "store_reach" s_store_reach (fa 5) (fd 5)
  b_store_reach : Binds K (fd 5) ["store"] []
  g_store_reach : mg "store_reach" = some (.ref (fa 5))
  F_dry_night : Fun K "dry_night" "dry_night" s_dry_night (fa 6) (fd 6)
  b_dry_night : Binds K (fd 6) ["store", "days", "n"] []
  g_dry_night : mg "dry_night" = some (.ref (fa 6))
  F_is_kept : Fun K "is_kept" "is_kept" s_is_kept (fa 7) (fd 7)
  b_is_kept : Binds K (fd 7) ["store", "days", "n"] []
  g_is_kept : mg "is_kept" = some (.ref (fa 7))
  F_least_visits : Fun K "least_visits" "least_visits" s_least_visits (fa 8) (fd 8)
  b_least_visits : Binds K (fd 8) ["store", "n"] []
  g_least_visits : mg "least_visits" = some (.ref (fa 8))
  F__law_draws : Fun K "_law_draws" "_law_draws" s__law_draws (fa 10) (fd 10)
  b__law_draws : Binds K (fd 10) ["script"] []
  g__law_draws : mg "_law_draws" = some (.ref (fa 10))
  F__law_take : Fun K "_law_take" "_law_take" s__law_take (fa 11) (fd 11)
  b__law_take : Binds K (fd 11) ["draws", "bound"] []
  g__law_take : mg "_law_take" = some (.ref (fa 11))
  F__law_says : Fun K "_law_says" "_law_says" s__law_says (fa 12) (fd 12)
  b__law_says : Binds K (fd 12) ["told", "due"] []
  g__law_says : mg "_law_says" = some (.ref (fa 12))
  F__law_alike : Fun K "_law_alike" "_law_alike" s__law_alike (fa 13) (fd 13)
  b__law_alike : Binds K (fd 13) ["found", "due"] []
  g__law_alike : mg "_law_alike" = some (.ref (fa 13))
  F__law_store : Fun K "_law_store" "_law_store" s__law_store (fa 14) (fd 14)
  b__law_store : Binds K (fd 14) ["draws"] []
  g__law_store : mg "_law_store" = some (.ref (fa 14))
  F__law_dry : Fun K "_law_dry" "_law_dry" s__law_dry (fa 15) (fd 15)
  b__law_dry : Binds K (fd 15) ["store", "days", "n"] []
  g__law_dry : mg "_law_dry" = some (.ref (fa 15))
  F__law_sets : Fun K "_law_sets" "_law_sets" s__law_sets (fa 16) (fd 16)
  b__law_sets : Binds K (fd 16) ["many"] []
  g__law_sets : mg "_law_sets" = some (.ref (fa 16))
  F_law : Fun K "law" "law" s_law (fa 17) (fd 17)
  b_law : Binds K (fd 17) ["script"] []
  g_law : mg "law" = some (.ref (fa 17))
  z_abs : mg "abs" = none
  z_bool : mg "bool" = none
  z_int : mg "int" = none
  z_isinstance : mg "isinstance" = none
  z_len : mg "len" = none
  z_list : mg "list" = none
  z_max : mg "max" = none
  z_min : mg "min" = none
  z_range : mg "range" = none
  z_reversed : mg "reversed" = none
  z_str : mg "str" = none
  z_tuple : mg "tuple" = none
  c_MOST_FULL : ∃ t, mg "MOST_FULL" = some (.int 100 t)
section
variable {P : Program} {w : World} {K : PySem.W.Frag} {mg : Str → Option Value} {base : Heap} {tabs : List Addr} {fa : Nat → Addr} {fd : Nat → FuncData} (T : Tx K mg fa fd)
include T
theorem ok_is_number : FnOk P w K mg base CX0 1 (fa 1) (fd 1) ["value", "least", "most"] (sp0 K tabs 3 f_is_number) :=
  hid_f (fn0 T.F_is_number sc_is_number (by decide) fun cdv A outer s H E p hr =>
    es_one (es_ret (ev_ofB (eb_and (eb_is (T := "int") (by decide) (by rfl) T.z_isinstance (by rfl) T.z_int bt_int (ev_var 0)) (eb_and (eb_not (eb_is (T := "bool") (by decide) (by rfl) T.z_isinstance (by rfl) T.z_bool bt_bool (ev_var 0))) (eb_one (ev_toB (ev_chain op2_le op2_le (ev_var 1) (ev_var 0) (ev_var 2)))))))))
theorem ok_is_store : FnOk P w K mg base CX0 2 (fa 4) (fd 4) ["value"] (sp0 K tabs 1 f_is_store) :=
  hid_f (fn0 T.F_is_store sc_is_store (by decide) fun cdv A outer s H E p hr =>
    es_cons (es_if (et_of (ew_or (et_not (et_val (eb_is (T := "tuple") (by decide) (by rfl) T.z_isinstance (by rfl) T.z_tuple bt_tuple (ev_var 0)))) (ew_or (et_cmp (op2_ne (hu100 hr)) (ev_callB opN_len (by rfl) T.z_len bt_len (ea_cons (ev_var 0) (ea_nil))) (ev_int)) (ew_or1 (et_not (et_truth (ev_call (ok_is_number T) (hr.mono (by decide)) (by rfl) T.g_is_number T.F_is_number.kp T.b_is_number (ea_cons (ev_ix (ev_var 0) (ev_int)) (ea_cons (ev_int) (ea_cons (ev_globI (by rfl) T.c_MOST_FULL) (ea_nil))))))))))) (es_one (es_ret (ev_bl))) (es_nil))
    (es_one (es_ret (ev_ofB (eb_and (ev_toB (ev_call (ok_is_number T) (hr.mono (by decide)) (by rfl) T.g_is_number T.F_is_number.kp T.b_is_number (ea_cons (ev_ix (ev_var 0) (ev_int)) (ea_cons (ev_int) (ea_cons (ev_ix (ev_var 0) (ev_int)) (ea_nil)))))) (eb_one (ev_toB (ev_call (ok_is_number T) (hr.mono (by decide)) (by rfl) T.g_is_number T.F_is_number.kp T.b_is_number (ea_cons (ev_ix (ev_var 0) (ev_int)) (ea_cons (ev_int) (ea_cons (ev_ix (ev_var 0) (ev_int)) (ea_nil))))))))))))
theorem ok_store_reach : FnOk P w K mg base CX0 1 (fa 5) (fd 5) ["store"] (sp0 K tabs 1 f_store_reach) :=
  hid_f (fn0 T.F_store_reach sc_store_reach (by decide) fun cdv A outer s H E p hr =>
    es_one (es_ret (ev_bin op2_fdiv (ev_ix (ev_var 0) (ev_int)) (ev_ix (ev_var 0) (ev_int)))))
theorem ok_dry_night : FnOk P w K mg base CX0 1 (fa 6) (fd 6) ["store", "days", "n"] (sp0 K tabs 3 f_dry_night) :=
  hid_f (fn0 T.F_dry_night sc_dry_night (by decide) fun cdv A outer s H E p hr =>
    es_cons (es_asg (ev_var 0) (eg_tup rfl (egs_cons (eg_name (i := 3) sc_dry_night.nd rfl (.inl rfl)) (egs_cons (eg_name (i := 4) sc_dry_night.nd rfl (.inl rfl)) (egs_cons (eg_name (i := 5) sc_dry_night.nd rfl (.inl rfl)) (egs_nil))))))
    (es_cons (es_for PassesOwn.never rfl (ei_range1 (by rfl) T.z_range (ea_cons (ev_var 2) (ea_nil))) (eg_name (i := 6) sc_dry_night.nd rfl (.inl rfl)) (hid_b (es_cons (es_if (et_cmp (op2_in (hu100 hr)) (ev_var 6) (ev_var 1)) (es_one (es_set (i := 5) sc_dry_night.nd rfl (.inl rfl) (ev_var 3))) (es_nil))
    (es_cons (es_if (et_cmp op2_lt (ev_var 5) (ev_var 4)) (es_one (es_ret (ev_var 6))) (es_nil))
    (es_one (es_aug (i := 5) sc_dry_night.nd rfl (.inl rfl) (ev_var 4) op2_isub))))))
    (es_one (es_ret (ev_non)))))
theorem ok_is_kept : FnOk P w K mg base CX0 2 (fa 7) (fd 7) ["store", "days", "n"] (sp0 K tabs 3 f_is_kept) :=
  hid_f (fn0 T.F_is_kept sc_is_kept (by decide) fun cdv A outer s H E p hr =>
    es_one (es_ret (ev_cmp op2_is (ev_call (ok_dry_night T) (hr.mono (by decide)) (by rfl) T.g_dry_night T.F_dry_night.kp T.b_dry_night (ea_cons (ev_var 0) (ea_cons (ev_var 1) (ea_cons (ev_var 2) (ea_nil))))) (ev_non))))
theorem ok_least_visits : FnOk P w K mg base CX0 2 (fa 8) (fd 8) ["store", "n"] (sp0 K tabs 2 f_least_visits) :=
  hid_f (fn0 T.F_least_visits sc_least_visits (by decide) fun cdv A outer s H E p hr =>
    es_cons (es_set (i := 2) sc_least_visits.nd rfl (.inl rfl) (ev_bin op2_sub (ev_var 1) (ev_bin op2_fdiv (ev_ix (ev_var 0) (ev_int)) (ev_ix (ev_var 0) (ev_int)))))
    (es_one (es_ret (ev_ifExp (et_cmp op2_le (ev_var 2) (ev_int)) (ev_int) (ev_neg (ev_bin op2_fdiv (ev_neg (ev_var 2)) (ev_call (ok_store_reach T) (hr.mono (by decide)) (by rfl) T.g_store_reach T.F_store_reach.kp T.b_store_reach (ea_cons (ev_var 0) (ea_nil)))))))))
theorem ok__law_draws : FnOk P w K mg base CX0 1 (fa 10) (fd 10) ["script"] (sp0 K tabs 1 f__law_draws) :=
  hid_f (fn0 T.F__law_draws sc__law_draws (by decide) fun cdv A outer s H E p hr =>
    es_cons (es_set (i := 1) sc__law_draws.nd rfl (.inl rfl) (ev_lst (ea_nil)))
    (es_cons (es_for PassesOwn.never rfl (ei_seq (ev_var 0)) (eg_name (i := 2) sc__law_draws.nd rfl (.inl rfl)) (hid_b (es_cons (es_set (i := 3) sc__law_draws.nd rfl (.inl rfl) (ev_callB opN_abs (by rfl) T.z_abs bt_abs (ea_cons (ev_var 2) (ea_nil))))
    (es_cons (es_if (et_cmp op2_lt (ev_var 3) (ev_bin op2_pow (ev_int) (ev_int))) (es_cons (es_set (i := 4) sc__law_draws.nd rfl (.inl rfl) (ev_bin op2_mod (ev_callTy opN_int (by rfl) T.z_int bt_int (ea_cons (ev_bin op2_add (ev_bin op2_mul (ev_var 3) (ev_int)) (ev_int)) (ea_nil))) (ev_int)))
    (es_cons (es_drop (ev_append (ev_var 1) (ev_bin op2_mod (ev_callTy opN_int (by rfl) T.z_int bt_int (ea_cons (ev_bin op2_add (ev_bin op2_mul (ev_var 4) (ev_int)) (ev_var 3)) (ea_nil))) (ev_int))))
    (es_cons (es_drop (ev_append (ev_var 1) (ev_bin op2_mod (ev_callTy opN_int (by rfl) T.z_int bt_int (ea_cons (ev_bin op2_add (ev_var 4) (ev_bin op2_fdiv (ev_var 3) (ev_int))) (ea_nil))) (ev_int))))
    (es_one (es_set (i := 3) sc__law_draws.nd rfl (.inl rfl) (ev_int)))))) (es_nil))
    (es_one (es_for PassesOwn.never rfl (ei_range1 (by rfl) T.z_range (ea_cons (ev_int) (ea_nil))) (eg_name (i := 5) sc__law_draws.nd rfl (.inl rfl)) (hid_b (es_one (es_if (et_cmp op2_gt (ev_var 3) (ev_int)) (es_cons (es_drop (ev_append (ev_var 1) (ev_bin op2_mod (ev_callTy opN_int (by rfl) T.z_int bt_int (ea_cons (ev_var 3) (ea_nil))) (ev_int))))
    (es_one (es_set (i := 3) sc__law_draws.nd rfl (.inl rfl) (ev_bin op2_fdiv (ev_var 3) (ev_int))))) (es_nil))))))))))
    (es_cons (es_set (i := 6) sc__law_draws.nd rfl (.inl rfl) (ev_int))
    (es_cons (es_if (et_cmp op2_gt (ev_callB opN_len (by rfl) T.z_len bt_len (ea_cons (ev_var 0) (ea_nil))) (ev_int)) (es_one (es_set (i := 6) sc__law_draws.nd rfl (.inl rfl) (ev_bin op2_add (ev_int) (ev_callB opN_abs (by rfl) T.z_abs bt_abs (ea_cons (ev_ix (ev_var 0) (ev_int)) (ea_nil)))))) (es_nil))
    (es_cons (es_for PassesOwn.never rfl (ei_range1 (by rfl) T.z_range (ea_cons (ev_int) (ea_nil))) (eg_name (i := 5) sc__law_draws.nd rfl (.inl rfl)) (hid_b (es_cons (es_set (i := 6) sc__law_draws.nd rfl (.inl rfl) (ev_bin op2_mod (ev_callTy opN_int (by rfl) T.z_int bt_int (ea_cons (ev_bin op2_add (ev_bin op2_mul (ev_var 6) (ev_int)) (ev_int)) (ea_nil))) (ev_int)))
    (es_one (es_drop (ev_append (ev_var 1) (ev_bin op2_fdiv (ev_var 6) (ev_int))))))))
    (es_one (es_ret (ev_listRev rfl (by rfl) T.z_list (by rfl) T.z_reversed (ev_var 1)))))))))
theorem ok__law_take : FnOk P w K mg base CX0 1 (fa 11) (fd 11) ["draws", "bound"] (spL K tabs 2 f__law_take) :=
  hid_l (fnL T.F__law_take sc__law_take (by decide) fun cdv A outer s H E p m hr =>
    es_cons (es_if (et_cmp (op2_eq (hu100 hr)) (ev_callB opN_len (by rfl) T.z_len bt_len (ea_cons (ev_var 0) (ea_nil))) (ev_int)) (es_one (es_ret (ev_int))) (es_nil))
    (es_one (es_ret (ev_bin op2_mod (ev_callTy opN_int (by rfl) T.z_int bt_int (ea_cons (ev_pop (ev_var 0)) (ea_nil))) (ev_var 1)))))
theorem ok__law_says : FnOk P w K mg base CX0 1 (fa 12) (fd 12) ["told", "due"] (sp0 K tabs 2 f__law_says) :=
  hid_f (fn0 T.F__law_says sc__law_says (by decide) fun cdv A outer s H E p hr =>
    es_one (es_ret (ev_ofB (eb_and (eb_is (T := "bool") (by decide) (by rfl) T.z_isinstance (by rfl) T.z_bool bt_bool (ev_var 0)) (eb_one (ev_toB (ev_cmp (op2_eq (hu100 hr)) (ev_var 0) (ev_var 1))))))))
theorem ok__law_alike : ∀ n : Nat, FnOk P w K mg base CX0 (n + 1) (fa 13) (fd 13) ["found", "due"] (sp0 K tabs 2 (f__law_alike n))
  | 0 => fn_stuck fun _ => rfl
  | n + 1 => by
    have ih := ok__law_alike n
    rw [show n + 1 + 1 = (n + 1) + 1 by omega]
    exact hid_f (fn0 T.F__law_alike sc__law_alike (by decide) fun cdv A outer s H E p hr =>
        es_cons (es_if (et_of (ew_or (et_val (eb_is (T := "list") (by decide) (by rfl) T.z_isinstance (by rfl) T.z_list bt_list (ev_var 1))) (ew_or1 (et_val (eb_is (T := "tuple") (by decide) (by rfl) T.z_isinstance (by rfl) T.z_tuple bt_tuple (ev_var 1)))))) (es_cons (es_if (et_of (ew_or (et_cmp (op2_ne (hu100 hr)) (ev_ofB (eb_is (T := "list") (by decide) (by rfl) T.z_isinstance (by rfl) T.z_list bt_list (ev_var 0))) (ev_ofB (eb_is (T := "list") (by decide) (by rfl) T.z_isinstance (by rfl) T.z_list bt_list (ev_var 1)))) (ew_or1 (et_cmp (op2_ne (hu100 hr)) (ev_ofB (eb_is (T := "tuple") (by decide) (by rfl) T.z_isinstance (by rfl) T.z_tuple bt_tuple (ev_var 0))) (ev_ofB (eb_is (T := "tuple") (by decide) (by rfl) T.z_isinstance (by rfl) T.z_tuple bt_tuple (ev_var 1))))))) (es_one (es_ret (ev_bl))) (es_nil))
        (es_one (es_ret (ev_ofB (eb_and (ev_toB (ev_cmp (op2_eq (hu100 hr)) (ev_callB opN_len (by rfl) T.z_len bt_len (ea_cons (ev_var 0) (ea_nil))) (ev_callB opN_len (by rfl) T.z_len bt_len (ea_cons (ev_var 1) (ea_nil))))) (eb_one (ev_toB (ev_cmp (op2_eq (hu100 hr)) (hid_e (ev_lc (own := [("k", 2)]) (by decide) rfl sc__law_alike.nd (ei_range1 (by rfl) T.z_range (ea_cons (ev_callB opN_len (by rfl) T.z_len bt_len (ea_cons (ev_var 1) (ea_nil))) (ea_nil))) (blkOk_by (own := [("k", 2)]) (N := N__law_alike) (sc := defScope s__law_alike) (by decide +kernel)) (fun p s H C cl fp => eg_name (i := 2) sc__law_alike.nd rfl (.inl rfl)) (fun p s H C cl fp => ets_one (et_not (et_truth (ev_call ih (hr.mono (by omega)) (by rfl) T.g__law_alike T.F__law_alike.kp T.b__law_alike (ea_cons (ev_ix (ev_var 0) (ev_var 2)) (ea_cons (ev_ix (ev_var 1) (ev_var 2)) (ea_nil))))))) (fun p s H C cl fp => ev_var 2))) (ev_lst (ea_nil)))))))))) (es_nil))
        (es_cons (es_if (et_cmp op2_is (ev_var 1) (ev_non)) (es_one (es_ret (ev_cmp op2_is (ev_var 0) (ev_non)))) (es_nil))
        (es_cons (es_if (et_of (ew_or (et_val (eb_is (T := "bool") (by decide) (by rfl) T.z_isinstance (by rfl) T.z_bool bt_bool (ev_var 1))) (ew_or1 (et_val (eb_is (T := "bool") (by decide) (by rfl) T.z_isinstance (by rfl) T.z_bool bt_bool (ev_var 0)))))) (es_one (es_ret (ev_ofB (eb_and (eb_is (T := "bool") (by decide) (by rfl) T.z_isinstance (by rfl) T.z_bool bt_bool (ev_var 0)) (eb_and (eb_is (T := "bool") (by decide) (by rfl) T.z_isinstance (by rfl) T.z_bool bt_bool (ev_var 1)) (eb_one (ev_toB (ev_cmp (op2_eq (hu100 hr)) (ev_var 0) (ev_var 1))))))))) (es_nil))
        (es_cons (es_if (et_val (eb_is (T := "int") (by decide) (by rfl) T.z_isinstance (by rfl) T.z_int bt_int (ev_var 1))) (es_one (es_ret (ev_ofB (eb_and (eb_is (T := "int") (by decide) (by rfl) T.z_isinstance (by rfl) T.z_int bt_int (ev_var 0)) (eb_one (ev_toB (ev_cmp (op2_eq (hu100 hr)) (ev_var 0) (ev_var 1)))))))) (es_nil))
        (es_one (es_ret (ev_ofB (eb_and (eb_is (T := "str") (by decide) (by rfl) T.z_isinstance (by rfl) T.z_str bt_str (ev_var 0)) (eb_one (ev_toB (ev_cmp (op2_eq (hu100 hr)) (ev_var 0) (ev_var 1))))))))))))
theorem ok__law_store : FnOk P w K mg base CX0 2 (fa 14) (fd 14) ["draws"] (spL K tabs 1 f__law_store) :=
  hid_l (fnL T.F__law_store sc__law_store (by decide) fun cdv A outer s H E p m hr =>
    es_cons (es_set (i := 1) sc__law_store.nd rfl (.inl rfl) (ev_bin op2_add (ev_int) (ev_callL (ok__law_take T) (hr.mono (by decide)) (by rfl) T.g__law_take T.F__law_take.kp T.b__law_take (ev_var 0) (ea_cons (ev_ix (ev_lst (ea_cons (ev_int) (ea_cons (ev_int) (ea_nil)))) (ev_callL (ok__law_take T) (hr.mono (by decide)) (by rfl) T.g__law_take T.F__law_take.kp T.b__law_take (ev_var 0) (ea_cons (ev_int) (ea_nil)))) (ea_nil)))))
    (es_cons (es_set (i := 2) sc__law_store.nd rfl (.inl rfl) (ev_callB (opN_min2 rfl) (by rfl) T.z_min bt_min (ea_cons (ev_int) (ea_cons (ev_bin op2_add (ev_bin op2_mul (ev_var 1) (ev_bin op2_add (ev_int) (ev_callL (ok__law_take T) (hr.mono (by decide)) (by rfl) T.g__law_take T.F__law_take.kp T.b__law_take (ev_var 0) (ea_cons (ev_int) (ea_nil))))) (ev_callL (ok__law_take T) (hr.mono (by decide)) (by rfl) T.g__law_take T.F__law_take.kp T.b__law_take (ev_var 0) (ea_cons (ev_var 1) (ea_nil)))) (ea_nil)))))
    (es_one (es_ret (ev_tup (ea_cons (ev_var 2) (ea_cons (ev_var 1) (ea_cons (ev_callL (ok__law_take T) (hr.mono (by decide)) (by rfl) T.g__law_take T.F__law_take.kp T.b__law_take (ev_var 0) (ea_cons (ev_bin op2_add (ev_var 2) (ev_int)) (ea_nil))) (ea_nil)))))))))
theorem ok__law_dry : FnOk P w K mg base CX0 1 (fa 15) (fd 15) ["store", "days", "n"] (sp0 K tabs 3 f__law_dry) :=
  hid_f (fn0 T.F__law_dry sc__law_dry (by decide) fun cdv A outer s H E p hr =>
    es_cons (es_asg (ev_var 0) (eg_tup rfl (egs_cons (eg_name (i := 3) sc__law_dry.nd rfl (.inl rfl)) (egs_cons (eg_name (i := 4) sc__law_dry.nd rfl (.inl rfl)) (egs_cons (eg_name (i := 5) sc__law_dry.nd rfl (.inl rfl)) (egs_nil))))))
    (es_cons (es_for PassesOwn.never rfl (ei_range1 (by rfl) T.z_range (ea_cons (ev_var 2) (ea_nil))) (eg_name (i := 6) sc__law_dry.nd rfl (.inl rfl)) (hid_b (es_cons (es_set (i := 5) sc__law_dry.nd rfl (.inl rfl) (ev_ifExp (et_cmp (op2_in (hu100 hr)) (ev_var 6) (ev_var 1)) (ev_var 3) (ev_var 5)))
    (es_cons (es_if (et_cmp op2_lt (ev_var 5) (ev_var 4)) (es_one (es_ret (ev_var 6))) (es_nil))
    (es_one (es_set (i := 5) sc__law_dry.nd rfl (.inl rfl) (ev_bin op2_sub (ev_var 5) (ev_var 4))))))))
    (es_one (es_ret (ev_non)))))
theorem ok__law_sets : FnOk P w K mg base CX0 1 (fa 16) (fd 16) ["many"] (sp0 K tabs 1 f__law_sets) :=
  hid_f (fn0 T.F__law_sets sc__law_sets (by decide) fun cdv A outer s H E p hr =>
    es_cons (es_set (i := 1) sc__law_sets.nd rfl (.inl rfl) (ev_lst (ea_cons (ev_tup (ea_nil)) (ea_nil))))
    (es_cons (es_for PassesOwn.never rfl (ei_range1 (by rfl) T.z_range (ea_cons (ev_var 0) (ea_nil))) (eg_name (i := 2) sc__law_sets.nd rfl (.inr rfl)) (hid_b (es_one (es_set (i := 1) sc__law_sets.nd rfl (.inl rfl) (ev_bin op2_add (ev_var 1) (hid_e (ev_lc (own := [("row", 3)]) (by decide) rfl sc__law_sets.nd (ei_seq (ev_var 1)) (blkOk_by (own := [("row", 3)]) (N := N__law_sets) (sc := defScope s__law_sets) (by decide +kernel)) (fun p s H C cl fp => eg_name (i := 3) sc__law_sets.nd rfl (.inl rfl)) (fun p s H C cl fp => ets_nil) (fun p s H C cl fp => ev_bin op2_add (ev_var 3) (ev_tup (ea_cons (ev_var 2) (ea_nil)))))))))))
    (es_one (es_ret (ev_var 1)))))
theorem ok_law : FnOk P w K mg base CX0 14 (fa 17) (fd 17) ["script"] (sp0 K tabs 1 f_law) :=
  hid_f (fn0 T.F_law sc_law (by decide) fun cdv A outer s H E p hr =>
    es_cons (hid_s (es_set (i := 1) sc_law.nd rfl (.inl rfl) (ev_call (ok__law_draws T) (hr.mono (by decide)) (by rfl) T.g__law_draws T.F__law_draws.kp T.b__law_draws (ea_cons (ev_var 0) (ea_nil)))))
    (es_cons (hid_s (es_par2 (i := 2) (j := 3) rfl sc_law.nd rfl rfl (by decide) rfl rfl (eu_cons (fun p => ev_callL (ok__law_store T) (hr.mono (by decide)) (by rfl) T.g__law_store T.F__law_store.kp T.b__law_store (ev_var 1) (ea_nil)) (eu_cons (fun p => ev_bin op2_add (ev_int) (ev_callL (ok__law_take T) (hr.mono (by decide)) (by rfl) T.g__law_take T.F__law_take.kp T.b__law_take (ev_var 1) (ea_cons (ev_int) (ea_nil)))) (eu_nil)))))
    (es_cons (hid_s (es_asg (ev_var 2) (eg_tup rfl (egs_cons (eg_name (i := 4) sc_law.nd rfl (.inr rfl)) (egs_cons (eg_name (i := 5) sc_law.nd rfl (.inr rfl)) (egs_cons (eg_name (i := 6) sc_law.nd rfl (.inl rfl)) (egs_nil)))))))
    (es_cons (hid_s (es_set (i := 7) sc_law.nd rfl (.inr rfl) (ev_callB opN_len (by rfl) T.z_len bt_len (ea_cons (hid_e (ev_lc (own := [("k", 16)]) (by decide) rfl sc_law.nd (ei_range2 (by rfl) T.z_range (ea_cons (ev_int) (ea_cons (ev_bin op2_add (ev_var 4) (ev_int)) (ea_nil)))) (blkOk_by (own := [("k", 16)]) (N := N_law) (sc := defScope s_law) (by decide +kernel)) (fun p s H C cl fp => eg_name (i := 16) sc_law.nd rfl (.inl rfl)) (fun p s H C cl fp => ets_one (et_cmp op2_le (ev_bin op2_mul (ev_var 16) (ev_var 5)) (ev_var 4))) (fun p s H C cl fp => ev_var 16))) (ea_nil)))))
    (es_cons (hid_s (es_if (et_of (ew_or (et_not (et_truth (ev_call (ok__law_says T) (hr.mono (by decide)) (by rfl) T.g__law_says T.F__law_says.kp T.b__law_says (ea_cons (ev_call (ok_is_store T) (hr.mono (by decide)) (by rfl) T.g_is_store T.F_is_store.kp T.b_is_store (ea_cons (ev_var 2) (ea_nil))) (ea_cons (ev_bl) (ea_nil)))))) (ew_or1 (et_not (et_truth (ev_call (ok__law_alike T 12) (hr.mono (by omega)) (by rfl) T.g__law_alike T.F__law_alike.kp T.b__law_alike (ea_cons (ev_call (ok_store_reach T) (hr.mono (by decide)) (by rfl) T.g_store_reach T.F_store_reach.kp T.b_store_reach (ea_cons (ev_var 2) (ea_nil))) (ea_cons (ev_var 7) (ea_nil))))))))) (es_one (es_ret (ev_bl))) (es_nil)))
    (es_cons (hid_s (es_set (i := 8) sc_law.nd rfl (.inl rfl) (ev_non)))
    (es_cons (hid_s (es_for PassesOwn.never rfl (ei_seq (ev_call (ok__law_sets T) (hr.mono (by decide)) (by rfl) T.g__law_sets T.F__law_sets.kp T.b__law_sets (ea_cons (ev_var 3) (ea_nil)))) (eg_name (i := 9) sc_law.nd rfl (.inl rfl)) (hid_b (es_cons (es_set (i := 10) sc_law.nd rfl (.inl rfl) (ev_call (ok__law_dry T) (hr.mono (by decide)) (by rfl) T.g__law_dry T.F__law_dry.kp T.b__law_dry (ea_cons (ev_var 2) (ea_cons (ev_var 9) (ea_cons (ev_var 3) (ea_nil))))))
    (es_cons (es_if (et_of (ew_or (et_not (et_truth (ev_call (ok__law_alike T 12) (hr.mono (by omega)) (by rfl) T.g__law_alike T.F__law_alike.kp T.b__law_alike (ea_cons (ev_call (ok_dry_night T) (hr.mono (by decide)) (by rfl) T.g_dry_night T.F_dry_night.kp T.b_dry_night (ea_cons (ev_var 2) (ea_cons (ev_var 9) (ea_cons (ev_var 3) (ea_nil))))) (ea_cons (ev_var 10) (ea_nil)))))) (ew_or1 (et_not (et_truth (ev_call (ok__law_says T) (hr.mono (by decide)) (by rfl) T.g__law_says T.F__law_says.kp T.b__law_says (ea_cons (ev_call (ok_is_kept T) (hr.mono (by decide)) (by rfl) T.g_is_kept T.F_is_kept.kp T.b_is_kept (ea_cons (ev_var 2) (ea_cons (ev_var 9) (ea_cons (ev_var 3) (ea_nil))))) (ea_cons (ev_cmp op2_is (ev_var 10) (ev_non)) (ea_nil))))))))) (es_one (es_ret (ev_bl))) (es_nil))
    (es_cons (es_set (i := 11) sc_law.nd rfl (.inr rfl) (ev_bin op2_add (ev_callTy opN_list (by rfl) T.z_list bt_list (ea_cons (ev_var 9) (ea_nil))) (ev_lst (ea_cons (ev_var 3) (ea_nil)))))
    (es_cons (es_set (i := 12) sc_law.nd rfl (.inl rfl) (ev_ifExp (et_cmp (op2_ne (hu100 hr)) (ev_var 9) (ev_tup (ea_nil))) (ev_cmp op2_le (ev_ix (ev_var 11) (ev_int)) (ev_bin op2_fdiv (ev_var 6) (ev_var 5))) (ev_cmp op2_ge (ev_bin op2_fdiv (ev_var 6) (ev_var 5)) (ev_var 3))))
    (es_cons (es_set (i := 12) sc_law.nd rfl (.inl rfl) (ev_ofB (eb_and (ev_toB (ev_var 12)) (eb_one (ev_toB (ev_cmp (op2_eq (hu100 hr)) (hid_e (ev_lc (own := [("k", 16)]) (by decide) rfl sc_law.nd (ei_range2 (by rfl) T.z_range (ea_cons (ev_int) (ea_cons (ev_callB opN_len (by rfl) T.z_len bt_len (ea_cons (ev_var 11) (ea_nil))) (ea_nil)))) (blkOk_by (own := [("k", 16)]) (N := N_law) (sc := defScope s_law) (by decide +kernel)) (fun p s H C cl fp => eg_name (i := 16) sc_law.nd rfl (.inl rfl)) (fun p s H C cl fp => ets_one (et_cmp op2_gt (ev_bin op2_sub (ev_ix (ev_var 11) (ev_var 16)) (ev_ix (ev_var 11) (ev_bin op2_sub (ev_var 16) (ev_int)))) (ev_var 7))) (fun p s H C cl fp => ev_var 16))) (ev_lst (ea_nil))))))))
    (es_cons (es_if (et_cmp (op2_ne (hu100 hr)) (ev_var 12) (ev_cmp op2_is (ev_var 10) (ev_non))) (es_one (es_ret (ev_bl))) (es_nil))
    (es_one (es_if (et_cmp op2_is (ev_var 10) (ev_non)) (es_one (es_set (i := 8) sc_law.nd rfl (.inl rfl) (ev_ifExp (et_cmp op2_is (ev_var 8) (ev_non)) (ev_callB opN_len (by rfl) T.z_len bt_len (ea_cons (ev_var 9) (ea_nil))) (ev_callB (opN_min2 rfl) (by rfl) T.z_min bt_min (ea_cons (ev_var 8) (ea_cons (ev_callB opN_len (by rfl) T.z_len bt_len (ea_cons (ev_var 9) (ea_nil))) (ea_nil))))))) (es_nil))))))))))))
    (es_cons (hid_s (es_if (et_not (et_truth (ev_call (ok__law_alike T 12) (hr.mono (by omega)) (by rfl) T.g__law_alike T.F__law_alike.kp T.b__law_alike (ea_cons (ev_call (ok_least_visits T) (hr.mono (by decide)) (by rfl) T.g_least_visits T.F_least_visits.kp T.b_least_visits (ea_cons (ev_var 2) (ea_cons (ev_var 3) (ea_nil)))) (ea_cons (ev_var 8) (ea_nil)))))) (es_one (es_ret (ev_bl))) (es_nil)))
    (es_cons (hid_s (es_set (i := 13) sc_law.nd rfl (.inl rfl) (ev_bin op2_add (ev_int) (ev_callL (ok__law_take T) (hr.mono (by decide)) (by rfl) T.g__law_take T.F__law_take.kp T.b__law_take (ev_var 1) (ea_cons (ev_int) (ea_nil))))))
    (es_cons (hid_s (es_set (i := 14) sc_law.nd rfl (.inl rfl) (ev_callB (opN_max2 rfl) (by rfl) T.z_max bt_max (ea_cons (ev_int) (ea_cons (ev_bin op2_sub (ev_var 13) (ev_bin op2_fdiv (ev_var 6) (ev_var 5))) (ea_nil))))))
    (es_cons (hid_s (es_if (et_of (ew_or (et_not (et_truth (ev_call (ok__law_alike T 12) (hr.mono (by omega)) (by rfl) T.g__law_alike T.F__law_alike.kp T.b__law_alike (ea_cons (ev_call (ok_least_visits T) (hr.mono (by decide)) (by rfl) T.g_least_visits T.F_least_visits.kp T.b_least_visits (ea_cons (ev_var 2) (ea_cons (ev_var 13) (ea_nil)))) (ea_cons (ev_bin op2_fdiv (ev_bin op2_sub (ev_bin op2_add (ev_var 14) (ev_var 7)) (ev_int)) (ev_var 7)) (ea_nil)))))) (ew_or (et_cmp op2_isNot (ev_call (ok_dry_night T) (hr.mono (by decide)) (by rfl) T.g_dry_night T.F_dry_night.kp T.b_dry_night (ea_cons (ev_var 2) (ea_cons (ev_tup (ea_nil)) (ea_cons (ev_bin op2_fdiv (ev_var 6) (ev_var 5)) (ea_nil))))) (ev_non)) (ew_or1 (et_not (et_truth (ev_call (ok__law_alike T 12) (hr.mono (by omega)) (by rfl) T.g__law_alike T.F__law_alike.kp T.b__law_alike (ea_cons (ev_call (ok_dry_night T) (hr.mono (by decide)) (by rfl) T.g_dry_night T.F_dry_night.kp T.b_dry_night (ea_cons (ev_var 2) (ea_cons (ev_tup (ea_nil)) (ea_cons (ev_bin op2_add (ev_bin op2_fdiv (ev_var 6) (ev_var 5)) (ev_int)) (ea_nil))))) (ea_cons (ev_bin op2_fdiv (ev_var 6) (ev_var 5)) (ea_nil)))))))))) (es_one (es_ret (ev_bl))) (es_nil)))
    (es_cons (hid_s (es_set (i := 15) sc_law.nd rfl (.inl rfl) (ev_lst (ea_cons (ev_non) (ea_cons (ev_callTy opN_list (by rfl) T.z_list bt_list (ea_cons (ev_var 2) (ea_nil))) (ea_cons (ev_slice (ev_var 2) eo_none (eo_some (ev_int))) (ea_cons (ev_bin op2_add (ev_var 2) (ev_tup (ea_cons (ev_int) (ea_nil)))) (ea_cons (ev_tup (ea_cons (ev_int) (ea_cons (ev_int) (ea_cons (ev_int) (ea_nil))))) (ea_cons (ev_tup (ea_cons (ev_int) (ea_cons (ev_var 5) (ea_cons (ev_int) (ea_nil))))) (ea_cons (ev_tup (ea_cons (ev_var 4) (ea_cons (ev_int) (ea_cons (ev_int) (ea_nil))))) (ea_cons (ev_tup (ea_cons (ev_var 4) (ea_cons (ev_bin op2_add (ev_var 4) (ev_int)) (ea_cons (ev_int) (ea_nil))))) (ea_cons (ev_tup (ea_cons (ev_var 4) (ea_cons (ev_var 5) (ea_cons (ev_neg (ev_int)) (ea_nil))))) (ea_cons (ev_tup (ea_cons (ev_var 4) (ea_cons (ev_var 5) (ea_cons (ev_bin op2_add (ev_var 4) (ev_int)) (ea_nil))))) (ea_cons (ev_tup (ea_cons (ev_bl) (ea_cons (ev_int) (ea_cons (ev_int) (ea_nil))))) (ea_cons (ev_tup (ea_cons (ev_var 4) (ea_cons (ev_var 5) (ea_cons (ev_non) (ea_nil))))) (ea_cons (ev_tup (ea_cons (ev_var 4) (ea_cons (ev_bl) (ea_cons (ev_int) (ea_nil))))) (ea_nil)))))))))))))))))
    (es_one (hid_s (es_ret (ev_cmp (op2_eq (hu100 hr)) (hid_e (ev_lc (own := [("value", 17)]) (by decide) rfl sc_law.nd (ei_seq (ev_var 15)) (blkOk_by (own := [("value", 17)]) (N := N_law) (sc := defScope s_law) (by decide +kernel)) (fun p s H C cl fp => eg_name (i := 17) sc_law.nd rfl (.inl rfl)) (fun p s H C cl fp => ets_one (et_cmp op2_isNot (ev_call (ok_is_store T) (hr.mono (by decide)) (by rfl) T.g_is_store T.F_is_store.kp T.b_is_store (ea_cons (ev_var 17) (ea_nil))) (ev_bl))) (fun p s H C cl fp => ev_var 17))) (ev_lst (ea_nil))))))))))))))))))
end
end Lw
namespace Lw
open PySem Cf L2
def isNum (d : PyData) (a b : Int) : Bool := match d with
  | .int i => decide (a ≤ i) && decide (i ≤ b)
  | _ => false
theorem is_number_ok (d : PyData) (a b : Int) : f_is_number [d, .int a, .int b] = .ok (.sh (.bool (isNum d a b))) := by
  cases d <;> simp [f_is_number_eq, B_is_number, runF, isNum]
  rename_i i
  by_cases h : a ≤ i <;> simp [h]
theorem store_reach_ok (f u t : Int) (hu : u ≠ 0) (hs : u.natAbs < 1073741824) : f_store_reach [.tuple [.int f, .int u, .int t]] = .ok (.sh (.int (f.fdiv u))) := by
  simp [f_store_reach_eq, B_store_reach, runF, L2.atI, L2.ixN, fdivG_small, hu, hs]
def isStore : PyData → Bool
  | .tuple [a, b, c] => isNum a 1 100 && match a with
    | .int i => isNum b 1 i && isNum c 0 i
    | _ => false
  | _ => false
theorem is_store_tup (a b c : PyData) : f_is_store [.tuple [a, b, c]] = .ok (.sh (.bool (isStore (.tuple [a, b, c])))) := by
  by_cases h : isNum a 1 100 = true
  · obtain ⟨i, rfl⟩ : ∃ i, a = .int i := by
      cases a <;> first | exact ⟨_, rfl⟩ | simp [isNum] at h
    by_cases h2 : isNum b 1 i = true <;> simp [f_is_store_eq, B_is_store, runF, isStore, L2.atI, L2.ixN, neG_int, is_number_ok, h, h2]
  · simp [f_is_store_eq, B_is_store, runF, isStore, L2.atI, L2.ixN, neG_int, is_number_ok, h]
theorem is_store_non : f_is_store [.none] = .ok (.sh (.bool false)) := by
  simp [f_is_store_eq, B_is_store, runF]
theorem is_store_lst (ds : List PyData) : f_is_store [.list ds] = .ok (.sh (.bool false)) := by
  simp [f_is_store_eq, B_is_store, runF]
theorem is_store_len (ds : List PyData) (h : (ds.length : Int) ≠ 3) : f_is_store [.tuple ds] = .ok (.sh (.bool false)) := by
  simp [f_is_store_eq, B_is_store, runF, neG_int, h]

/-! dry_night -/
def dryM (f u : Int) (ds : List Int) : Nat → Int → Int → Option Int
  | 0, _, _ => none
  | m + 1, i, t => if (if i ∈ ds then f else t) < u then some i else dryM f u ds m (i + 1) ((if i ∈ ds then f else t) - u)
def optD : Option Int → PyData
  | none => .none
  | some i => .int i
def optO : Option Int → Out
  | none => .nx
  | some i => .rt (.sh (.int i))
theorem mem_iL {i : Int} {ds : List Int} : PyData.int i ∈ iL ds ↔ i ∈ ds := by
  simp [iL]
theorem inI (i : Int) (ds : List Int) : inG (.int i) (.tuple (iL ds)) = some (.sh (.bool (decide (i ∈ ds)))) := by
  rw [inG_tup (.int (n := 0) i) (by decide) (fun d hd => by obtain ⟨c, -, rfl⟩ := List.mem_map.mp hd; exact .int c)]
  simp only [mem_iL]
theorem dry_loop (f u : Int) (ds : List Int) (s0 s2 : Sl) : ∀ (m : Nat) (i t : Int) (x : Sl), ∃ e', loopF (toSlot 6) L_dry_night_1 (rangeD i m) [s0, .sh (.tuple (iL ds)), s2, .sh (.int f), .sh (.int u), .sh (.int t), x] = .ok (optO (dryM f u ds m i t)) e'
  | 0, i, t, x => ⟨_, rfl⟩
  | m + 1, i, t, x => by
    rw [rangeD_succ, loop_cons]
    unfold dryM
    by_cases hi : i ∈ ds
    · by_cases hu : f < u
      · exact ⟨_, by simp [L_dry_night_1_app, inI, hi, hu, optO]; rfl⟩
      · obtain ⟨e', h⟩ := dry_loop f u ds s0 s2 m (i + 1) (f - u) (.sh (.int i))
        exact ⟨e', by simp [L_dry_night_1_app, inI, hi, hu, h]⟩
    · by_cases hu : t < u
      · exact ⟨_, by simp [L_dry_night_1_app, inI, hi, hu, optO]; rfl⟩
      · obtain ⟨e', h⟩ := dry_loop f u ds s0 s2 m (i + 1) (t - u) (.sh (.int i))
        exact ⟨e', by simp [L_dry_night_1_app, inI, hi, hu, h]⟩
theorem dry2_loop (f u : Int) (ds : List Int) (s0 s2 : Sl) : ∀ (m : Nat) (i t : Int) (x : Sl), ∃ e', loopF (toSlot 6) L__law_dry_1 (rangeD i m) [s0, .sh (.tuple (iL ds)), s2, .sh (.int f), .sh (.int u), .sh (.int t), x] = .ok (optO (dryM f u ds m i t)) e'
  | 0, i, t, x => ⟨_, rfl⟩
  | m + 1, i, t, x => by
    rw [rangeD_succ, loop_cons]
    unfold dryM
    by_cases hi : i ∈ ds
    · by_cases hu : f < u
      · exact ⟨_, by simp [L__law_dry_1_app, inI, hi, hu, optO]; rfl⟩
      · obtain ⟨e', h⟩ := dry2_loop f u ds s0 s2 m (i + 1) (f - u) (.sh (.int i))
        exact ⟨e', by simp [L__law_dry_1_app, inI, hi, hu, h]⟩
    · by_cases hu : t < u
      · exact ⟨_, by simp [L__law_dry_1_app, inI, hi, hu, optO]; rfl⟩
      · obtain ⟨e', h⟩ := dry2_loop f u ds s0 s2 m (i + 1) (t - u) (.sh (.int i))
        exact ⟨e', by simp [L__law_dry_1_app, inI, hi, hu, h]⟩
section
variable (f u t : Int) (ds : List Int) (n : Int) (hn : n < 1000) (h0 : -1000 < n)
include hn h0
theorem dry_night_ok : f_dry_night [.tuple [.int f, .int u, .int t], .tuple (iL ds), .int n] = .ok (.sh (optD (dryM f u ds n.toNat 0 t))) := by
  obtain ⟨e', h⟩ := dry_loop f u ds (.sh (.tuple [.int f, .int u, .int t])) (.sh (.int n)) n.toNat 0 t .un
  have h1 := for_ok (T := toSlot 6) (B := L_dry_night_1) (range1_ok (Fs := consF (readF 2) (nilF)) (e := [.sh (.tuple [.int f, .int u, .int t]), .sh (.tuple (iL ds)), .sh (.int n), .sh (.int f), .sh (.int u), .sh (.int t), .un]) (j := n) (by simp; rfl) (by omega) (by omega))
  rw [h] at h1
  rw [f_dry_night_eq]
  unfold B_dry_night runF
  rw [seq_nx (e' := [.sh (.tuple [.int f, .int u, .int t]), .sh (.tuple (iL ds)), .sh (.int n), .sh (.int f), .sh (.int u), .sh (.int t), .un]) (by simp)]
  cases hd : dryM f u ds n.toNat 0 t with
  | none =>
    rw [hd] at h1
    rw [seq_nx h1]
    simp [optD]
  | some k =>
    rw [hd] at h1
    rw [seq_rt h1]
    simp [optD]
theorem law_dry_ok : f__law_dry [.tuple [.int f, .int u, .int t], .tuple (iL ds), .int n] = .ok (.sh (optD (dryM f u ds n.toNat 0 t))) := by
  obtain ⟨e', h⟩ := dry2_loop f u ds (.sh (.tuple [.int f, .int u, .int t])) (.sh (.int n)) n.toNat 0 t .un
  have h1 := for_ok (T := toSlot 6) (B := L__law_dry_1) (range1_ok (Fs := consF (readF 2) (nilF)) (e := [.sh (.tuple [.int f, .int u, .int t]), .sh (.tuple (iL ds)), .sh (.int n), .sh (.int f), .sh (.int u), .sh (.int t), .un]) (j := n) (by simp; rfl) (by omega) (by omega))
  rw [h] at h1
  rw [f__law_dry_eq]
  unfold B__law_dry runF
  rw [seq_nx (e' := [.sh (.tuple [.int f, .int u, .int t]), .sh (.tuple (iL ds)), .sh (.int n), .sh (.int f), .sh (.int u), .sh (.int t), .un]) (by simp)]
  cases hd : dryM f u ds n.toNat 0 t with
  | none =>
    rw [hd] at h1
    rw [seq_nx h1]
    simp [optD]
  | some k =>
    rw [hd] at h1
    rw [seq_rt h1]
    simp [optD]
theorem is_kept_ok : f_is_kept [.tuple [.int f, .int u, .int t], .tuple (iL ds), .int n] = .ok (.sh (.bool (dryM f u ds n.toNat 0 t).isNone)) := by
  rw [f_is_kept_eq]
  unfold B_is_kept runF
  cases hd : dryM f u ds n.toNat 0 t <;> simp [dry_night_ok f u t ds n hn h0, hd, optD]
end
theorem least_visits_ok (f u t n : Int) (hu : 0 < u) (hf : u ≤ f) (hs : f < 1000) : f_least_visits [.tuple [.int f, .int u, .int t], .int n] = .ok (.sh (.int (if n - t.fdiv u ≤ 0 then 0 else -((-(n - t.fdiv u)).fdiv (f.fdiv u))))) := by
  have r1 : 1 ≤ f.fdiv u := by
    rw [Int.fdiv_eq_ediv_of_nonneg _ (by omega)]
    exact Int.le_ediv_of_mul_le hu (by omega)
  have r2 : f.fdiv u ≤ f := by
    rw [Int.fdiv_eq_ediv_of_nonneg _ (by omega)]
    exact Int.ediv_le_self _ (by omega)
  by_cases h : n - t.fdiv u ≤ 0
  · simp [f_least_visits_eq, B_least_visits, runF, L2.atI, L2.ixN, fdivG_small (show u ≠ 0 by omega) (show u.natAbs < 1073741824 by omega), h]
  · simp [f_least_visits_eq, B_least_visits, runF, L2.atI, L2.ixN, fdivG_small (show u ≠ 0 by omega) (show u.natAbs < 1073741824 by omega), h, store_reach_ok f u t (by omega) (by omega), fdivG_small (show f.fdiv u ≠ 0 by omega) (show (f.fdiv u).natAbs < 1073741824 by omega)]
end Lw
namespace Lw
open PySem Cf L2
theorem tk (ms : List Int) (b : Int) (hb : 0 < b) : ∃ (r : Int) (ms' : List Int), f__law_take (iL ms) [.int b] = .ok (.sh (.int r)) (iL ms') ∧ 0 ≤ r ∧ r < b := by
  rw [f__law_take_eq]
  exact take_ex ms b hb
theorem f_says_eq : f__law_says = runF 2 saysB := f__law_says_eq
theorem f_draws_eq : f__law_draws = runF 7 drawsB := by
  rw [f__law_draws_eq]
  unfold B__law_draws L__law_draws_2 L__law_draws_1 L__law_draws_3
  rw [hide_eq, hide_eq, hide_eq]
  rfl
theorem f_alike_eq : ∀ n, f__law_alike n = alikeF n
  | 0 => rfl
  | n + 1 => by
    rw [f__law_alike_eq, f_alike_eq n]
    unfold B__law_alike Q__law_alike_1
    rw [hide_eq]
    rfl
theorem alike_ok (d : PyData) (h : Deepn 12 d) : f__law_alike 12 [d, d] = .ok (.sh (.bool true)) := by
  rw [f_alike_eq]
  exact alike_refl 12 d h
theorem says_ok' (a : Bool) : f__law_says [.bool a, .bool a] = .ok (.sh (.bool true)) := by
  rw [f_says_eq, says_ok]
  simp
/-- _law_store -/
theorem law_store_ok (ms : List Int) : ∃ (f u t : Int) (ms' : List Int), f__law_store (iL ms) [] = .ok (.sh (.tuple [.int f, .int u, .int t])) (iL ms') ∧ 1 ≤ u ∧ u ≤ f ∧ f ≤ 100 ∧ 0 ≤ t ∧ t ≤ f := by
  obtain ⟨a, m1, h1, a0, a1⟩ := tk ms 2 (by decide)
  have : ∃ c : Int, L2.atI [PyData.int 2, .int 9] a = some (.int c) ∧ 0 < c ∧ c < 10 := by
    have : a = 0 ∨ a = 1 := by omega
    rcases this with rfl | rfl
    · exact ⟨2, rfl, by decide, by decide⟩
    · exact ⟨9, rfl, by decide, by decide⟩
  obtain ⟨c, hc, c0, c1⟩ := this
  obtain ⟨b, m2, h2, b0, b1⟩ := tk m1 c c0
  obtain ⟨k, m3, h3, k0, k1⟩ := tk m2 5 (by decide)
  obtain ⟨l, m4, h4, l0, l1⟩ := tk m3 (1 + b) (by omega)
  have hp : 1 + b ≤ (1 + b) * (1 + k) := by
    have := Int.mul_le_mul_of_nonneg_left (show 1 ≤ 1 + k by omega) (show 0 ≤ 1 + b by omega)
    omega
  obtain ⟨t, m5, h5, t0, t1⟩ := tk m4 (min 100 ((1 + b) * (1 + k) + l) + 1) (by omega)
  refine ⟨min 100 ((1 + b) * (1 + k) + l), 1 + b, t, m5, ?_, by omega, by omega, by omega, by omega, by omega⟩
  simp [f__law_store_eq, B__law_store, runL, h1, hc, h2, h3, h4, h5, mulG_left (show (1 + b).natAbs < 2 ^ 64 by omega)]

/-- _law_sets -/
def setsM : Nat → List (List Int)
  | 0 => [[]]
  | n + 1 => setsM n ++ (setsM n).map (· ++ [(n : Int)])
def tL (ls : List (List Int)) : List PyData := ls.map fun l => .tuple (iL l)
theorem setsM_length : ∀ n, (setsM n).length = 2 ^ n
  | 0 => rfl
  | n + 1 => by
    simp [setsM, setsM_length n, Nat.pow_succ]
    omega
theorem mem_setsM : ∀ {n : Nat} {l : List Int}, l ∈ setsM n → l.Pairwise (· < ·) ∧ ∀ x ∈ l, 0 ≤ x ∧ x < n
  | 0, l, h => by
    simp [setsM] at h
    subst h
    simp
  | n + 1, l, h => by
    simp only [setsM, List.mem_append, List.mem_map] at h
    rcases h with h | ⟨a, h, rfl⟩
    · have := mem_setsM h
      exact ⟨this.1, fun x hx => by have := this.2 x hx; omega⟩
    · have := mem_setsM h
      refine ⟨List.pairwise_append.mpr ⟨this.1, by simp, fun x hx y hy => ?_⟩, fun x hx => ?_⟩
      · simp at hy
        subst hy
        exact (this.2 x hx).2
      · simp at hx
        rcases hx with hx | rfl
        · have := this.2 x hx
          omega
        · omega
theorem setsM_mem : ∀ {n : Nat} {l : List Int}, l.Pairwise (· < ·) → (∀ x ∈ l, 0 ≤ x ∧ x < n) → l ∈ setsM n
  | 0, l, _, h => by
    cases l with
    | nil => simp [setsM]
    | cons x l => have := h x (by simp); omega
  | n + 1, l, hp, h => by
    simp only [setsM, List.mem_append, List.mem_map]
    by_cases hl : (n : Int) ∈ l
    · right
      obtain ⟨a, b, rfl⟩ := List.append_of_mem hl
      have hb : b = [] := by
        cases b with
        | nil => rfl
        | cons y b =>
          have h1 := h y (by simp)
          have := List.pairwise_append.mp hp
          have := (List.pairwise_cons.mp this.2.1).1 y (by simp)
          omega
      subst hb
      refine ⟨a, setsM_mem (List.pairwise_append.mp hp).1 fun x hx => ?_, rfl⟩
      have h1 := h x (by simp [hx])
      have h2 := (List.pairwise_append.mp hp).2.2 x hx n (by simp)
      exact ⟨h1.1, h2⟩
    · left
      refine setsM_mem hp fun x hx => ?_
      have := h x hx
      have : x ≠ n := fun z => hl (z ▸ hx)
      omega
theorem setsM_short {n : Nat} {l : List Int} (h : l ∈ setsM n) : l.length ≤ n := by
  induction n generalizing l with
  | zero =>
    simp [setsM] at h
    subst h
    simp
  | succ n ih =>
    simp only [setsM, List.mem_append, List.mem_map] at h
    rcases h with h | ⟨a, h, rfl⟩
    · have := ih h
      omega
    · have := ih h
      simp
      omega
theorem sets_loop : ∀ (m k : Nat) (s0 e2 : Sl), k + m ≤ 8 → ∃ e2', loopF (toSlot 2) L__law_sets_1 (rangeD k m) [s0, .own none (tL (setsM k)), e2, .un] = .ok .nx [s0, .own none (tL (setsM (k + m))), e2', .un]
  | 0, k, s0, e2, _ => ⟨e2, rfl⟩
  | m + 1, k, s0, e2, hk => by
    rw [rangeD_succ, loop_cons]
    obtain ⟨e2', h⟩ := sets_loop m (k + 1) s0 (.sh (.int k)) (by omega)
    refine ⟨e2', ?_⟩
    have hl : 2 ^ k ≤ 2 ^ 8 := Nat.pow_le_pow_right (by decide) (by omega)
    have hq : Q__law_sets_1 [s0, .own none (tL (setsM k)), .sh (.int k), .un] = .ok (.fr (tL ((setsM k).map (· ++ [(k : Int)])))) [s0, .sh (.list (tL (setsM k))), .sh (.int k), .un] := by
      unfold Q__law_sets_1
      rw [hide_eq]
      rw [lc_one (ds := tL (setsM k)) (e := [s0, .sh (.list (tL (setsM k))), .sh (.int k), .un]) (fun _ => true) (fun d => match d with | .tuple l => .tuple (l ++ [.int k]) | d => d)]
      · congr 2
        rw [List.filter_eq_self.mpr (by simp)]
        simp [tL, iL]
      · simp
      · simp
      · rfl
      · simp [tL, setsM_length]
        unfold sizeLine
        omega
      · intro d hd
        simp
      · intro d hd _
        obtain ⟨l, hl, rfl⟩ := List.mem_map.mp hd
        have h1 := setsM_short hl
        have h2 : (iL l).length + 1 ≤ sizeLine := by
          rw [iL_length]
          unfold sizeLine
          omega
        simp [h2]
    have hs : (tL (setsM k)).length + (tL ((setsM k).map (· ++ [(k : Int)]))).length ≤ sizeLine := by
      simp [tL, setsM_length]
      unfold sizeLine
      omega
    have e : tL (setsM k) ++ tL ((setsM k).map (· ++ [(k : Int)])) = tL (setsM (k + 1)) := by simp [tL, setsM]
    have ek : ((k + 1 : Nat) : Int) = (k : Int) + 1 := by omega
    rw [ek] at h
    rw [show k + (m + 1) = k + 1 + m by omega, ← h]
    simp [L__law_sets_1_app, hq, hs, e]
theorem sets_ok (n : Nat) (hn : n ≤ 8) : f__law_sets [.int n] = .ok (.fr (tL (setsM n))) := by
  obtain ⟨e', h⟩ := sets_loop n 0 (.sh (.int n)) .un (by omega)
  have h1 := for_ok (T := toSlot 2) (B := L__law_sets_1) (range1_ok (Fs := consF (readF 0) (nilF)) (e := [.sh (.int n), .own none (tL (setsM 0)), .un, .un]) (j := n) (by simp; rfl) (by omega) (by omega))
  rw [show ((n : Int).toNat) = n by omega] at h1
  have := h1.trans h
  rw [f__law_sets_eq]
  unfold B__law_sets runF
  rw [seq_nx (e' := [.sh (.int n), .own none (tL (setsM 0)), .un, .un]) (by simp [tL, setsM, iL]), seq_nx this]
  simp
end Lw
namespace Lw
open PySem Cf L2
/-! the plain law -/
def gapsOk (r : Int) : List Int → Bool
  | x :: y :: l => decide (y - x ≤ r) && gapsOk r (y :: l)
  | _ => true
theorem sub_div {t u : Int} (hu : 0 < u) : (t - u) / u = t / u - 1 := by
  have := Int.add_mul_ediv_right t (-1) (show u ≠ 0 by omega)
  rw [show t + -1 * u = t - u by omega] at this
  omega
theorem dry_good (f u : Int) (hu : 0 < u) (hf : u ≤ f) (ds : List Int) : ∀ (m : Nat) (i t : Int) (l : List Int), 0 ≤ t → l.Pairwise (· < ·) → (∀ x ∈ l, i ≤ x ∧ x < i + m) → (∀ x, i ≤ x → (x ∈ ds ↔ x ∈ l)) →
    (dryM f u ds m i t = none ↔ ((l ++ [i + m]).headD 0 - i) * u ≤ t ∧ gapsOk (f / u) (l ++ [i + m]) = true)
  | 0, i, t, l, ht, _, hr, _ => by
    have : l = [] := by
      cases l with
      | nil => rfl
      | cons x l => have := hr x (by simp); omega
    subst this
    simp [dryM, gapsOk, ht]
  | m + 1, i, t, l, ht, hp, hr, hm => by
    unfold dryM
    have em : i + ((m + 1 : Nat) : Int) = i + 1 + (m : Int) := by omega
    rw [em]
    by_cases hi : i ∈ ds
    · have hl := (hm i (by omega)).mp hi
      obtain ⟨l', rfl⟩ : ∃ l', l = i :: l' := by
        cases l with
        | nil => cases hl
        | cons y l' =>
          simp only [List.mem_cons] at hl
          rcases hl with rfl | hl
          · exact ⟨l', rfl⟩
          · have h1 := (List.pairwise_cons.mp hp).1 i hl
            have h2 := hr y (by simp)
            omega
      have hp' := List.pairwise_cons.mp hp
      have ih := dry_good f u hu hf ds m (i + 1) (f - u) l' (by omega) hp'.2 (fun x hx => by
        have h1 := hp'.1 x hx
        have h2 := hr x (by simp [hx])
        omega) (fun x hx => by
        rw [hm x (by omega)]
        simp only [List.mem_cons]
        constructor
        · rintro (rfl | h)
          · omega
          · exact h
        · exact .inr)
      simp only [hi, if_true]
      rw [if_neg (by omega), ih]
      have e0 : ((i :: l' ++ [i + 1 + (m : Int)]).headD 0 - i) * u ≤ t := by
        simp
        exact ht
      have : ∃ y rest, l' ++ [i + 1 + (m : Int)] = y :: rest := by
        cases l' with
        | nil => exact ⟨_, _, rfl⟩
        | cons y l' => exact ⟨_, _, rfl⟩
      obtain ⟨y, rest, hy⟩ := this
      rw [List.cons_append, hy]
      have e1 : (y - (i + 1)) * u ≤ f - u ↔ y - i ≤ f / u := by
        rw [Int.le_ediv_iff_mul_le hu]
        have : (y - (i + 1)) * u = (y - i) * u - u := by
          rw [show y - (i + 1) = (y - i) - 1 by omega, Int.sub_mul, Int.one_mul]
        omega
      simp only [gapsOk, List.headD_cons, Bool.and_eq_true, decide_eq_true_eq, e1]
      rw [List.cons_append, hy] at e0
      simp only [List.headD_cons] at e0
      exact ⟨fun ⟨a, b⟩ => ⟨e0, a, b⟩, fun ⟨_, a, b⟩ => ⟨a, b⟩⟩
    · have hl : i ∉ l := fun h => hi ((hm i (by omega)).mpr h)
      simp only [hi, if_false]
      have : ∃ y rest, l ++ [i + 1 + (m : Int)] = y :: rest ∧ i + 1 ≤ y := by
        cases l with
        | nil => exact ⟨_, _, rfl, by omega⟩
        | cons y l' =>
          refine ⟨_, _, rfl, ?_⟩
          have h1 := hr y (by simp)
          have : y ≠ i := fun z => hl (by simp [z])
          omega
      obtain ⟨y, rest, hy, hy2⟩ := this
      by_cases ht2 : t < u
      · rw [if_pos ht2, hy]
        simp only [List.headD_cons, reduceCtorEq, false_iff]
        rintro ⟨h, -⟩
        have : 1 * u ≤ (y - i) * u := Int.mul_le_mul_of_nonneg_right (by omega) (by omega)
        omega
      · rw [if_neg ht2]
        rw [dry_good f u hu hf ds m (i + 1) (t - u) l (by omega) hp (fun x hx => by
          have h2 := hr x hx
          have : x ≠ i := fun z => hl (z ▸ hx)
          omega) (fun x hx => hm x (by omega)), hy]
        simp only [List.headD_cons]
        have : (y - (i + 1)) * u = (y - i) * u - u := by
          rw [show y - (i + 1) = (y - i) - 1 by omega, Int.sub_mul, Int.one_mul]
        constructor <;> rintro ⟨a, b⟩ <;> exact ⟨by omega, b⟩
theorem dry_empty (f u : Int) (hu : 0 < u) : ∀ (m : Nat) (i t : Int), 0 ≤ t → dryM f u [] m i t = if (m : Int) ≤ t / u then none else some (i + t / u)
  | 0, i, t, ht => by
    have := Int.ediv_nonneg ht (show 0 ≤ u by omega)
    simp [dryM, this]
  | m + 1, i, t, ht => by
    unfold dryM
    simp only [List.not_mem_nil, if_false]
    by_cases h : t < u
    · rw [if_pos h, Int.ediv_eq_zero_of_lt ht h, if_neg (by omega)]
      simp
    · rw [if_neg h, dry_empty f u hu m (i + 1) (t - u) (by omega), sub_div hu]
      by_cases h2 : (m : Int) ≤ t / u - 1
      · rw [if_pos h2, if_pos (by omega)]
      · rw [if_neg h2, if_neg (by omega)]
        congr 1
        omega
theorem gaps_len (r : Int) : ∀ (l : List Int) (n x : Int), gapsOk r (x :: l ++ [n]) = true → n - x ≤ r * (l.length + 1)
  | [], n, x, h => by
    simp [gapsOk] at h
    simp
    omega
  | y :: l, n, x, h => by
    simp only [List.cons_append, gapsOk, Bool.and_eq_true, decide_eq_true_eq] at h
    have := gaps_len r l n y (by simpa using h.2)
    have e : r * (((y :: l).length : Int) + 1) = r * ((l.length : Int) + 1) + r := by
      simp only [List.length_cons]
      rw [show (((l.length + 1 : Nat) : Int) + 1) = ((l.length : Int) + 1) + 1 by omega, Int.mul_add, Int.mul_one]
    omega
/-- the least number of visits -/
def needM (r y : Int) : Int := if y ≤ 0 then 0 else -((-y) / r)
theorem ceil_eq {y r : Int} (hr : 0 < r) : -((-y) / r) = (y + r - 1) / r := by
  have h1 := Int.emod_add_mul_ediv (y + r - 1) r
  have h2 := Int.emod_nonneg (y + r - 1) (show r ≠ 0 by omega)
  have h3 := Int.emod_lt_of_pos (y + r - 1) hr
  have := (Int.ediv_emod_unique hr (a := -y) (q := -((y + r - 1) / r)) (r := -y + r * ((y + r - 1) / r))).mpr ⟨by rw [Int.mul_neg]; omega, by omega, by omega⟩
  omega
theorem needM_max {r y : Int} (hr : 0 < r) : needM r y = (max 0 y + r - 1) / r := by
  unfold needM
  by_cases h : y ≤ 0
  · rw [if_pos h, Int.max_eq_left h]
    rw [Int.ediv_eq_zero_of_lt (by omega) (by omega)]
  · rw [if_neg h, ceil_eq hr, Int.max_eq_right (by omega)]
theorem needM_step {r y : Int} (hr : 0 < r) (hy : 0 < y) : needM r y = needM r (y - r) + 1 := by
  have h1 : needM r y = -((-y) / r) := by rw [needM, if_neg (by omega)]
  have h2 : -((-(y - r)) / r) = -((-y) / r) - 1 := by
    have := Int.add_mul_ediv_right (-y) 1 (show r ≠ 0 by omega)
    rw [show -y + 1 * r = -(y - r) by omega] at this
    omega
  unfold needM at *
  by_cases h : y - r ≤ 0
  · rw [if_pos h, h1]
    rw [Int.ediv_eq_zero_of_lt (show 0 ≤ -(y - r) by omega) (by omega)] at h2
    omega
  · rw [if_neg h, h1]
    omega
theorem needM_le {r y : Int} {k : Nat} (hr : 0 < r) (h : y ≤ r * k) : needM r y ≤ k := by
  unfold needM
  by_cases hy : y ≤ 0
  · rw [if_pos hy]
    omega
  · rw [if_neg hy]
    have := (Int.le_ediv_iff_mul_le hr (a := -(k : Int)) (b := -y)).mpr (by
      rw [Int.neg_mul, Int.mul_comm]
      omega)
    omega
def best (n r : Int) : Nat → Int → List Int
  | 0, _ => []
  | m + 1, x => if x < n then x :: best n r m (x + r) else []
theorem best_ok {n r : Int} (hr : 0 < r) : ∀ (m : Nat) (x : Int), n - x ≤ m → (best n r m x).Pairwise (· < ·) ∧ (∀ z ∈ best n r m x, x ≤ z ∧ z < n) ∧ gapsOk r (best n r m x ++ [n]) = true ∧ (best n r m x ++ [n]).headD 0 = min x n ∧ ((best n r m x).length : Int) = needM r (n - x)
  | 0, x, h => by
    have : needM r (n - x) = 0 := by rw [needM, if_pos (by omega)]
    simp only [best, this]
    refine ⟨.nil, by simp, rfl, ?_, rfl⟩
    simp
    omega
  | m + 1, x, h => by
    by_cases hx : x < n
    · simp only [best, if_pos hx]
      obtain ⟨h1, h2, h3, h4, h5⟩ := best_ok (n := n) hr m (x + r) (by omega)
      refine ⟨List.pairwise_cons.mpr ⟨fun z hz => ?_, h1⟩, fun z hz => ?_, ?_, ?_, ?_⟩
      · have := h2 z hz
        omega
      · simp only [List.mem_cons] at hz
        rcases hz with rfl | hz
        · omega
        · have := h2 z hz
          omega
      · have : ∃ y rest, best n r m (x + r) ++ [n] = y :: rest := by
          cases best n r m (x + r) with
          | nil => exact ⟨_, _, rfl⟩
          | cons y l' => exact ⟨_, _, rfl⟩
        obtain ⟨y, rest, hy⟩ := this
        rw [List.cons_append, hy]
        rw [hy] at h3 h4
        simp only [List.headD_cons] at h4
        simp only [gapsOk, Bool.and_eq_true, decide_eq_true_eq]
        exact ⟨by omega, h3⟩
      · simp
        omega
      · rw [needM_step (y := n - x) hr (by omega), show n - x - r = n - (x + r) by omega, ← h5]
        simp
    · have : needM r (n - x) = 0 := by rw [needM, if_pos (by omega)]
      simp only [best, if_neg hx, this]
      refine ⟨.nil, by simp, rfl, ?_, rfl⟩
      simp
      omega
/-- the fewest of the kept -/
def minW (w : Option Int) (l : List Int) : Int := match w with | none => (l.length : Int) | some x => min x l.length
def fewM (kept : List Int → Bool) (w : Option Int) (l : List Int) : Option Int :=
  if kept l = true then some (minW w l) else w
theorem few_ok (kept : List Int → Bool) (v : Int) : ∀ (L : List (List Int)) (w : Option Int), (∀ x, w = some x → v ≤ x) → (∀ l ∈ L, kept l = true → v ≤ l.length) → (w = some v ∨ ∃ l ∈ L, kept l = true ∧ (l.length : Int) = v) → L.foldl (fewM kept) w = some v
  | [], w, _, _, h => by
    rcases h with h | ⟨l, hl, _⟩
    · exact h
    · cases hl
  | l :: L, w, hw, hL, h => by
    rw [List.foldl_cons]
    have hl := hL l (by simp)
    refine few_ok kept v L _ (fun x hx => ?_) (fun l hl => hL l (by simp [hl])) ?_
    · unfold fewM at hx
      by_cases k : kept l = true
      · rw [if_pos k] at hx
        have := hl k
        cases w with
        | none => simp [minW] at hx; omega
        | some y => have := hw y rfl; simp [minW] at hx; omega
      · rw [if_neg k] at hx
        exact hw x hx
    · unfold fewM
      rcases h with h | ⟨l', hl', k', e'⟩
      · left
        subst h
        by_cases k : kept l = true
        · rw [if_pos k]
          have := hl k
          simp [minW]
          omega
        · rw [if_neg k]
      · simp only [List.mem_cons] at hl'
        rcases hl' with rfl | hl'
        · left
          rw [if_pos k']
          cases w with
          | none => simp [minW, e']
          | some y =>
            have := hw y rfl
            simp [minW]
            omega
        · exact .inr ⟨l', hl', k', e'⟩
/-- the least over all sets of days is the formula -/
theorem few_need (f u t : Int) (n : Nat) (hu : 0 < u) (hf : u ≤ f) (ht : 0 ≤ t) : (setsM n).foldl (fewM fun l => (dryM f u l n 0 t).isNone) none = some (needM (f / u) (n - t / u)) := by
  have hr : 0 < f / u := by
    have := Int.le_ediv_of_mul_le hu (show 1 * u ≤ f by omega)
    omega
  have ha : 0 ≤ t / u := Int.ediv_nonneg ht (by omega)
  have key : ∀ l : List Int, l.Pairwise (· < ·) → (∀ x ∈ l, 0 ≤ x ∧ x < n) → ((dryM f u l n 0 t).isNone = true ↔ (l ++ [(n : Int)]).headD 0 ≤ t / u ∧ gapsOk (f / u) (l ++ [(n : Int)]) = true) := fun l hp hl => by
    rw [Option.isNone_iff_eq_none, dry_good f u hu hf l n 0 t l ht hp (fun x hx => by have := hl x hx; omega) (fun _ _ => Iff.rfl)]
    rw [show (0 : Int) + (n : Int) = n by omega, Int.sub_zero, Int.le_ediv_iff_mul_le hu]
  refine few_ok _ _ _ _ (fun _ h => by cases h) (fun l hl k => ?_) (.inr ?_)
  · obtain ⟨h1, h2⟩ := mem_setsM hl
    obtain ⟨k1, k2⟩ := (key l h1 h2).mp k
    refine needM_le hr ?_
    cases l with
    | nil =>
      simp at k1
      simp
      omega
    | cons x l =>
      have := gaps_len (f / u) l n x k2
      simp at k1
      simp only [List.length_cons]
      rw [show (((l.length + 1 : Nat) : Int)) = (l.length : Int) + 1 by omega]
      omega
  · obtain ⟨h1, h2, h3, h4, h5⟩ := best_ok (n := n) hr n (t / u) (by omega)
    have h2' : ∀ z ∈ best n (f / u) n (t / u), 0 ≤ z ∧ z < n := fun z hz => by have := h2 z hz; omega
    exact ⟨_, setsM_mem h1 h2', (key _ h1 h2').mpr ⟨by omega, h3⟩, h5⟩
theorem count_le (q : Nat) : ∀ n, ((List.range n).filter fun k => decide (k < q)).length = min n q
  | 0 => by simp
  | n + 1 => by
    rw [List.range_succ, List.filter_append, List.length_append, count_le q n]
    by_cases h : n < q
    · simp [h]
      omega
    · simp [h]
      omega
end Lw
namespace Lw
open PySem Cf L2
theorem fdiv_ediv {a b : Int} (h : 0 < b) : a.fdiv b = a / b := Int.fdiv_eq_ediv_of_nonneg _ (by omega)
theorem reach_ok (f u : Int) (hu : 0 < u) (hf : u ≤ f) (hf2 : f ≤ 100) : (((rangeD 1 f.toNat).filter fun d => match d with | .int k => decide (k * u ≤ f) | _ => false).length : Int) = f / u := by
  have hq : 0 ≤ f / u := Int.ediv_nonneg (by omega) (by omega)
  have hq2 : f / u ≤ f := Int.ediv_le_self _ (by omega)
  have := count_le (f / u).toNat f.toNat
  unfold rangeD
  rw [List.filter_map, List.length_map]
  rw [show ((fun d => match d with | PyData.int k => decide (k * u ≤ f) | _ => false) ∘ fun (i : Nat) => PyData.int (1 + (i : Int))) = fun (k : Nat) => decide (k < (f / u).toNat) from ?_]
  · omega
  · funext k
    simp only [Function.comp]
    have := Int.le_ediv_iff_mul_le hu (a := 1 + (k : Int)) (b := f)
    rw [decide_eq_decide]
    omega
def stT (f u t : Int) : PyData := .tuple [.int f, .int u, .int t]
theorem atEnds (ends : List Int) (k : Nat) (h : k < ends.length) : L2.atI (iL ends) (k : Int) = some (.int ends[k]) := by
  rw [atI_nat (by omega) (by rw [iL_length]; omega)]
  simp [iL, h]
theorem gaps_iff (r : Int) : ∀ (l : List Int), gapsOk r l = true ↔ ∀ k (h : k + 1 < l.length), l[k + 1] - l[k] ≤ r
  | [] => by simp [gapsOk]
  | [x] => by simp [gapsOk]
  | x :: y :: l => by
    simp only [gapsOk, Bool.and_eq_true, decide_eq_true_eq, gaps_iff r (y :: l)]
    constructor
    · rintro ⟨a, b⟩ k h
      cases k with
      | zero => exact a
      | succ k => exact b k (by simpa using h)
    · intro h
      exact ⟨h 0 (by simp), fun k hk => h (k + 1) (by simpa using hk)⟩
theorem q2_ok (e : Fv) (ends : List Int) (r : Int) (tg : Option Nat) (h11 : e[11]? = some (.own tg (iL ends))) (h7 : e[7]? = some (.sh (.int r))) (hl : e.length = 18) (no : noOwn [16] e = true) (hs : ends.length ≤ 100) (h1 : 1 ≤ ends.length) :
    ∃ qs, Q_law_2 e = .ok (.fr qs) e ∧ (∀ d ∈ qs, d.canLay0 = true) ∧ qs.isEmpty = gapsOk r ends := by
  unfold Q_law_2
  rw [hide_eq]
  refine ⟨_, lc_one (v := 16) (e := e) (ds := rangeD 1 (ends.length - 1)) (fun d => match d with | .int k => decide (r < (ends.getD k.toNat 0) - (ends.getD (k.toNat - 1) 0)) | _ => false) id ?_ (by omega) no (by rw [rangeD_length]; unfold sizeLine; omega) ?_ ?_, ?_, ?_⟩
  · rw [range2_ok (e' := e) (i := 1) (j := ends.length) (by simp [h11, iL]) (by omega) (by omega) (by omega) (by omega)]
    congr 2
    omega
  · intro d hd
    obtain ⟨k, hk, rfl⟩ := mem_rangeD.mp hd
    have e1 : L2.atI (iL ends) (1 + (k : Int)) = some (.int ends[k + 1]) := by
      rw [show 1 + (k : Int) = ((k + 1 : Nat) : Int) by omega]
      exact atEnds ends (k + 1) (by omega)
    have e2 : L2.atI (iL ends) (1 + (k : Int) - 1) = some (.int ends[k]) := by
      rw [show 1 + (k : Int) - 1 = ((k : Nat) : Int) by omega]
      exact atEnds ends k (by omega)
    have e3 : (1 + (k : Int)).toNat = k + 1 := by omega
    have g11 : (e.set 16 (.sh (.int (1 + (k : Int)))))[11]? = some (.own tg (iL ends)) := by rw [List.getElem?_set_ne (by decide)]; exact h11
    have g7 : (e.set 16 (.sh (.int (1 + (k : Int)))))[7]? = some (.sh (.int r)) := by rw [List.getElem?_set_ne (by decide)]; exact h7
    have g16 : (e.set 16 (.sh (.int (1 + (k : Int)))))[16]? = some (.sh (.int (1 + (k : Int)))) := by rw [List.getElem?_set_self (by omega)]
    generalize e.set 16 (.sh (.int (1 + (k : Int)))) = e' at g11 g7 g16
    simp [g11, g7, g16, e1, e2, e3]
    rw [List.getElem?_eq_getElem (by omega), List.getElem?_eq_getElem (by omega)]
    rfl
  · intro d hd _
    have g16 : (e.set 16 (.sh d))[16]? = some (.sh d) := by rw [List.getElem?_set_self (by omega)]
    generalize e.set 16 (.sh d) = e' at g16
    simp [g16]
  · intro d hd
    rw [List.map_id] at hd
    obtain ⟨k, hk, rfl⟩ := mem_rangeD.mp (List.mem_filter.mp hd).1
    rfl
  · rw [Bool.eq_iff_iff, gaps_iff, List.isEmpty_iff, List.map_id, List.filter_eq_nil_iff]
    constructor
    · intro h k hk
      have := h (.int (1 + (k : Int))) (mem_rangeD.mpr ⟨k, by omega, rfl⟩)
      have e3 : (1 + (k : Int)).toNat = k + 1 := by omega
      simp only [e3] at this
      simp at this
      rw [List.getElem?_eq_getElem (by omega), List.getElem?_eq_getElem (by omega)] at this
      simpa using this
    · intro h d hd
      obtain ⟨k, hk, rfl⟩ := mem_rangeD.mp hd
      have := h k (by omega)
      have e3 : (1 + (k : Int)).toNat = k + 1 := by omega
      simp only [e3]
      simp
      rw [List.getElem?_eq_getElem (by omega), List.getElem?_eq_getElem (by omega)]
      simpa using this
theorem is_opt (k : Option Int) : isG (optD k) .none = some (.sh (.bool k.isNone)) := by
  cases k <;> rfl
theorem deep_opt (k : Option Int) : Deepn 12 (optD k) := by
  cases k
  · exact .non
  · exact .int _
theorem plain_iL (l : List Int) : Plain 1 (.tuple (iL l)) := .tup fun d hd => by
  obtain ⟨c, -, rfl⟩ := List.mem_map.mp hd
  exact .int c
theorem ne_nil (l : List Int) : neG (.tuple (iL l)) (.tuple []) = some (.sh (.bool (!l.isEmpty))) := by
  have := neG_plain (plain_iL l) (plain_iL []) (by decide)
  rw [show PyData.tuple (iL []) = .tuple [] by rfl] at this
  rw [this]
  cases l <;> simp [iL]
section
variable (s0 s1 : Sl) (f u t : Int) (n : Nat) (hu : 0 < u) (hf : u ≤ f) (hf2 : f ≤ 100) (ht : 0 ≤ t) (ht2 : t ≤ f) (hn : n ≤ 8)
include hu hf hf2 ht ht2 hn
theorem body_ok (l : List Int) (hl : l ∈ setsM n) (w : Option Int) (e9 e10 e11 e12 : Sl) : thenU (toSlot 9 (.tuple (iL l))) L_law_1 [s0, s1, .sh (stT f u t), .sh (.int n), .sh (.int f), .sh (.int u), .sh (.int t), .sh (.int (f / u)), .sh (optD w), e9, e10, e11, e12, .un, .un, .un, .un, .un]
    = .ok .nx [s0, s1, .sh (stT f u t), .sh (.int n), .sh (.int f), .sh (.int u), .sh (.int t), .sh (.int (f / u)), .sh (optD (fewM (fun l => (dryM f u l n 0 t).isNone) w l)), .sh (.tuple (iL l)), .sh (optD (dryM f u l n 0 t)), .own none (iL (l ++ [(n : Int)])), .sh (.bool (dryM f u l n 0 t).isNone), .un, .un, .un, .un, .un] := by
  have hd : f__law_dry [stT f u t, .tuple (iL l), .int n] = .ok (.sh (optD (dryM f u l n 0 t))) := law_dry_ok f u t l n (by omega) (by omega)
  have hd2 : f_dry_night [stT f u t, .tuple (iL l), .int n] = .ok (.sh (optD (dryM f u l n 0 t))) := dry_night_ok f u t l n (by omega) (by omega)
  have hd3 : f_is_kept [stT f u t, .tuple (iL l), .int n] = .ok (.sh (.bool (dryM f u l n 0 t).isNone)) := is_kept_ok f u t l n (by omega) (by omega)
  obtain ⟨p1, p2⟩ := mem_setsM hl
  have hk := dry_good f u hu hf l n 0 t l ht p1 (fun x hx => by have := p2 x hx; omega) (fun _ _ => Iff.rfl)
  rw [show (0 : Int) + (n : Int) = n by omega, Int.sub_zero, ← Int.le_ediv_iff_mul_le hu] at hk
  have hlen := setsM_short hl
  have hsz : (iL l).length + 1 ≤ sizeLine := by rw [iL_length]; unfold sizeLine; omega
  have hdiv : fdivG (.int t) (.int u) = some (.sh (.int (t / u))) := by rw [fdivG_small (by omega) (by omega), fdiv_ediv hu]
  have hap : iL l ++ [PyData.int n] = iL (l ++ [(n : Int)]) := by simp [iL]
  have hdl : L2.atI (iL (l ++ [(n : Int)])) 0 = some (.int ((l ++ [(n : Int)]).headD 0)) := by
    have := atEnds (l ++ [(n : Int)]) 0 (by simp)
    rw [show ((0 : Nat) : Int) = 0 by rfl] at this
    rw [this]
    cases l <;> rfl
  have hh : (!decide ((l ++ [(n : Int)]).headD 0 ≤ t / u) || !gapsOk (f / u) (l ++ [(n : Int)])) = !(dryM f u l n 0 t).isNone := by
    rw [← Bool.not_and, Bool.not_inj_iff, Bool.eq_iff_iff]
    simp only [Bool.and_eq_true, decide_eq_true_eq, Option.isNone_iff_eq_none]
    exact hk.symm
  generalize hK : dryM f u l n 0 t = K at hd hd2 hd3 hh ⊢
  generalize stT f u t = S at hd hd2 hd3 ⊢
  have hq : ∀ g, ∃ qs, Q_law_2 [s0, s1, .sh S, .sh (.int n), .sh (.int f), .sh (.int u), .sh (.int t), .sh (.int (f / u)), .sh (optD w), .sh (.tuple (iL l)), .sh (optD K), .own none (iL (l ++ [(n : Int)])), g, .un, .un, .un, .un, .un] = .ok (.fr qs) [s0, s1, .sh S, .sh (.int n), .sh (.int f), .sh (.int u), .sh (.int t), .sh (.int (f / u)), .sh (optD w), .sh (.tuple (iL l)), .sh (optD K), .own none (iL (l ++ [(n : Int)])), g, .un, .un, .un, .un, .un] ∧ (∀ d ∈ qs, d.canLay0 = true) ∧ qs.isEmpty = gapsOk (f / u) (l ++ [(n : Int)]) := fun g => by
    refine q2_ok _ (l ++ [(n : Int)]) (f / u) none ?_ ?_ ?_ ?_ ?_ ?_
    · simp
    · simp
    · simp
    · simp [noOwn]
    · simp
      omega
    · simp
  have ho : fewM (fun l => (dryM f u l n 0 t).isNone) w l = if K.isNone = true then some (minW w l) else w := by
    show (if (dryM f u l n 0 t).isNone = true then _ else _) = _
    rw [hK]
  rw [ho]
  have hgood : ∀ g, (setF 12 (ifF (boolF (binF neG (readF 9) (tupF (nilF)))) (binF leG (binF itemG (readF 11) (constF (.int 0))) (binF fdivG (readF 6) (readF 5))) (binF geG (binF fdivG (readF 6) (readF 5)) (readF 3))) : Mo Out) [s0, s1, .sh S, .sh (.int n), .sh (.int f), .sh (.int u), .sh (.int t), .sh (.int (f / u)), .sh (optD w), .sh (.tuple (iL l)), .sh (optD K), .own none (iL (l ++ [(n : Int)])), g, .un, .un, .un, .un, .un] = .ok .nx [s0, s1, .sh S, .sh (.int n), .sh (.int f), .sh (.int u), .sh (.int t), .sh (.int (f / u)), .sh (optD w), .sh (.tuple (iL l)), .sh (optD K), .own none (iL (l ++ [(n : Int)])), .sh (.bool (decide ((l ++ [(n : Int)]).headD 0 ≤ t / u))), .un, .un, .un, .un, .un] := fun g => by
    have hnil : l = [] → (l ++ [(n : Int)]).headD 0 = n := fun z => by rw [z]; rfl
    generalize l ++ [(n : Int)] = E at hdl hnil
    generalize E.headD 0 = H at hdl hnil ⊢
    by_cases z : l = []
    · have := hnil z
      subst this
      simp [ne_nil, hdiv, z]
    · simp [ne_nil, hdiv, z, hdl]
  have hX : (fewM (fun l => (dryM f u l n 0 t).isNone) w l) = if K.isNone = true then some (minW w l) else w := ho
  obtain ⟨qs, q1, q2, q3⟩ := hq (.sh (.bool (decide ((l ++ [(n : Int)]).headD 0 ≤ t / u))))
  have q4 := eqG_nil q2
  have hlast : (ifF (boolF (binF isG (readF 10) (constF .none))) (setF 8 (ifF (boolF (binF isG (readF 8) (constF .none))) (callBF lenG (consF (readF 9) (nilF))) (callBF min2G (consF (readF 8) (consF (callBF lenG (consF (readF 9) (nilF))) (nilF)))))) (skipF) : Mo Out)
      [s0, s1, .sh S, .sh (.int n), .sh (.int f), .sh (.int u), .sh (.int t), .sh (.int (f / u)), .sh (optD w), .sh (.tuple (iL l)), .sh (optD K), .own none (iL (l ++ [(n : Int)])), .sh (.bool K.isNone), .un, .un, .un, .un, .un]
      = .ok .nx [s0, s1, .sh S, .sh (.int n), .sh (.int f), .sh (.int u), .sh (.int t), .sh (.int (f / u)), .sh (optD (if K.isNone = true then some (minW w l) else w)), .sh (.tuple (iL l)), .sh (optD K), .own none (iL (l ++ [(n : Int)])), .sh (.bool K.isNone), .un, .un, .un, .un, .un] := by
    have h1 := is_opt K
    have h2 := is_opt w
    generalize l ++ [(n : Int)] = E
    cases K with
    | none => cases w <;> simp [optD, iL_length, minW]
    | some k => simp [optD]
  simp only [thenU_app, toSlot_app, storeF_app, L_law_1_app]
  simp only [List.set_cons_succ, List.set_cons_zero]
  rw [seq_nx (e' := [s0, s1, .sh S, .sh (.int n), .sh (.int f), .sh (.int u), .sh (.int t), .sh (.int (f / u)), .sh (optD w), .sh (.tuple (iL l)), .sh (optD K), e11, e12, .un, .un, .un, .un, .un]) (by simp [hd])]
  rw [seq_nx (e' := [s0, s1, .sh S, .sh (.int n), .sh (.int f), .sh (.int u), .sh (.int t), .sh (.int (f / u)), .sh (optD w), .sh (.tuple (iL l)), .sh (optD K), e11, e12, .un, .un, .un, .un, .un]) (by simp [-isG, hd2, hd3, alike_ok _ (deep_opt K), is_opt, says_ok'])]
  rw [seq_nx (e' := [s0, s1, .sh S, .sh (.int n), .sh (.int f), .sh (.int u), .sh (.int t), .sh (.int (f / u)), .sh (optD w), .sh (.tuple (iL l)), .sh (optD K), .own none (iL (l ++ [(n : Int)])), e12, .un, .un, .un, .un, .un]) (by
    generalize iL (l ++ [(n : Int)]) = E at hap ⊢
    simp [hsz, hap])]
  rw [seq_nx (hgood _)]
  have hB : (!K.isNone) = false ∨ (!K.isNone) = true := by cases K <;> simp
  rw [seq_nx (e' := [s0, s1, .sh S, .sh (.int n), .sh (.int f), .sh (.int u), .sh (.int t), .sh (.int (f / u)), .sh (optD w), .sh (.tuple (iL l)), .sh (optD K), .own none (iL (l ++ [(n : Int)])), .sh (.bool K.isNone), .un, .un, .un, .un, .un]) (by
    generalize l ++ [(n : Int)] = E at q1 q3 hh ⊢
    generalize E.headD 0 = H at q1 hh ⊢
    by_cases hc : H ≤ t / u
    · have : gapsOk (f / u) E = K.isNone := by simpa [hc] using hh
      rw [this] at q3
      simp only [hc, decide_true] at q1
      simp [hc, q1, q4, q3]
    · have : K.isNone = false := by simpa [hc] using hh
      simp [hc, this])]
  rw [seq_nx (e' := [s0, s1, .sh S, .sh (.int n), .sh (.int f), .sh (.int u), .sh (.int t), .sh (.int (f / u)), .sh (optD w), .sh (.tuple (iL l)), .sh (optD K), .own none (iL (l ++ [(n : Int)])), .sh (.bool K.isNone), .un, .un, .un, .un, .un]) (by simp [-isG, is_opt, neG_bool])]
  exact hlast
theorem law_loop : ∀ (L : List (List Int)), (∀ l ∈ L, l ∈ setsM n) → ∀ (w : Option Int) (e9 e10 e11 e12 : Sl), ∃ e9' e10' e11' e12', loopF (toSlot 9) L_law_1 (tL L) [s0, s1, .sh (stT f u t), .sh (.int n), .sh (.int f), .sh (.int u), .sh (.int t), .sh (.int (f / u)), .sh (optD w), e9, e10, e11, e12, .un, .un, .un, .un, .un]
    = .ok .nx [s0, s1, .sh (stT f u t), .sh (.int n), .sh (.int f), .sh (.int u), .sh (.int t), .sh (.int (f / u)), .sh (optD (L.foldl (fewM fun l => (dryM f u l n 0 t).isNone) w)), e9', e10', e11', e12', .un, .un, .un, .un, .un]
  | [], _, w, e9, e10, e11, e12 => ⟨_, _, _, _, rfl⟩
  | l :: L, h, w, e9, e10, e11, e12 => by
    have hb := body_ok s0 s1 f u t n hu hf hf2 ht ht2 hn l (h l (by simp)) w e9 e10 e11 e12
    obtain ⟨a, b, c, d, hr⟩ := law_loop L (fun l hl => h l (by simp [hl])) (fewM (fun l => (dryM f u l n 0 t).isNone) w l) (.sh (.tuple (iL l))) (.sh (optD (dryM f u l n 0 t))) (.own none (iL (l ++ [(n : Int)]))) (.sh (.bool (dryM f u l n 0 t).isNone))
    refine ⟨a, b, c, d, ?_⟩
    show loopF _ _ (.tuple (iL l) :: tL L) _ = _
    rw [loop_cons, hb]
    exact hr
end
end Lw
namespace Lw
open PySem Cf L2
theorem q1_ok (e : Fv) (f u : Int) (hu : 0 < u) (hf : u ≤ f) (hf2 : f ≤ 100) (h4 : e[4]? = some (.sh (.int f))) (h5 : e[5]? = some (.sh (.int u))) (hl : e.length = 18) (no : noOwn [16] e = true) :
    ∃ qs, Q_law_1 e = .ok (.fr qs) e ∧ (qs.length : Int) = f / u := by
  unfold Q_law_1
  rw [hide_eq]
  refine ⟨_, lc_one (v := 16) (e := e) (ds := rangeD 1 f.toNat) (fun d => match d with | .int k => decide (k * u ≤ f) | _ => false) id ?_ (by omega) no (by rw [rangeD_length]; unfold sizeLine; omega) ?_ ?_, ?_⟩
  · rw [range2_ok (e' := e) (i := 1) (j := f + 1) (by simp [h4]) (by omega) (by omega) (by omega) (by omega)]
    congr 2
    omega
  · intro d hd
    obtain ⟨k, hk, rfl⟩ := mem_rangeD.mp hd
    have g4 : (e.set 16 (.sh (.int (1 + (k : Int)))))[4]? = some (.sh (.int f)) := by rw [List.getElem?_set_ne (by decide)]; exact h4
    have g5 : (e.set 16 (.sh (.int (1 + (k : Int)))))[5]? = some (.sh (.int u)) := by rw [List.getElem?_set_ne (by decide)]; exact h5
    have g16 : (e.set 16 (.sh (.int (1 + (k : Int)))))[16]? = some (.sh (.int (1 + (k : Int)))) := by rw [List.getElem?_set_self (by omega)]
    generalize e.set 16 (.sh (.int (1 + (k : Int)))) = e' at g4 g5 g16
    simp [g4, g5, g16, mulG_right (show u.natAbs < 2 ^ 64 by omega)]
  · intro d hd _
    have g16 : (e.set 16 (.sh d))[16]? = some (.sh d) := by rw [List.getElem?_set_self (by omega)]
    generalize e.set 16 (.sh d) = e' at g16
    simp [g16]
  · rw [List.map_id]
    exact reach_ok f u hu hf hf2
def oddD (f u t : Int) : List PyData := [.none, .list [.int f, .int u, .int t], .tuple [.int f, .int u], .tuple [.int f, .int u, .int t, .int 0], .tuple [.int 0, .int 1, .int 0], .tuple [.int 101, .int u, .int 0], .tuple [.int f, .int 0, .int 0], .tuple [.int f, .int (f + 1), .int 0], .tuple [.int f, .int u, .int (-1)], .tuple [.int f, .int u, .int (f + 1)], .tuple [.bool true, .int 1, .int 0], .tuple [.int f, .int u, .none], .tuple [.int f, .bool true, .int 0]]
theorem odd_ok (f u t : Int) (d : PyData) (h : d ∈ oddD f u t) : f_is_store [d] = .ok (.sh (.bool false)) := by
  simp only [oddD, List.mem_cons, List.not_mem_nil, or_false] at h
  rcases h with rfl | rfl | rfl | rfl | rfl | rfl | rfl | rfl | rfl | rfl | rfl | rfl | rfl
  · exact is_store_non
  · exact is_store_lst _
  · exact is_store_len _ (by simp)
  · exact is_store_len _ (by simp)
  all_goals
    rw [is_store_tup]
    simp [isStore, isNum]
    try omega
theorem holds (ns : List Int) (hl : ns.length ≤ 63) : f_law [scrD ns] = .ok (.sh (.bool true)) := by
  rw [f_law_eq]
  unfold B_law runF
  obtain ⟨ms, -, hdr⟩ := draws_ok ns hl
  rw [← f_draws_eq] at hdr
  obtain ⟨f, u, t, m1, hst, u0, uf, f1, t0, t1⟩ := law_store_ok ms
  obtain ⟨nn, m2, hn, n0, n1⟩ := tk m1 8 (by decide)
  obtain ⟨n, rfl⟩ : ∃ n : Nat, nn = n := ⟨nn.toNat, by omega⟩
  obtain ⟨lg, m3, hlg, lg0, lg1⟩ := tk m2 30 (by decide)
  have e1 : S_law_1 (env0 18 ([scrD ns].map .sh)) = .ok .nx [.sh (scrD ns), .own none (iL ms), .un, .un, .un, .un, .un, .un, .un, .un, .un, .un, .un, .un, .un, .un, .un, .un] := by
    simp [S_law_1_app, hdr]
  have e2 : S_law_2 [.sh (scrD ns), .own none (iL ms), .un, .un, .un, .un, .un, .un, .un, .un, .un, .un, .un, .un, .un, .un, .un, .un] = .ok .nx [.sh (scrD ns), .own none (iL m2), .sh (stT f u t), .sh (.int (1 + n)), .un, .un, .un, .un, .un, .un, .un, .un, .un, .un, .un, .un, .un, .un] := by
    simp [S_law_2_app, hst, hn, stT]
  have e3 : S_law_3 [.sh (scrD ns), .own none (iL m2), .sh (stT f u t), .sh (.int (1 + n)), .un, .un, .un, .un, .un, .un, .un, .un, .un, .un, .un, .un, .un, .un] = .ok .nx [.sh (scrD ns), .own none (iL m2), .sh (stT f u t), .sh (.int (1 + n)), .sh (.int f), .sh (.int u), .sh (.int t), .un, .un, .un, .un, .un, .un, .un, .un, .un, .un, .un] := by
    simp [S_law_3_app, stT]
  obtain ⟨qs, hq, hqs⟩ := q1_ok [.sh (scrD ns), .own none (iL m2), .sh (stT f u t), .sh (.int (1 + n)), .sh (.int f), .sh (.int u), .sh (.int t), .un, .un, .un, .un, .un, .un, .un, .un, .un, .un, .un] f u (by omega) uf f1 rfl rfl rfl rfl
  have e4 : S_law_4 [.sh (scrD ns), .own none (iL m2), .sh (stT f u t), .sh (.int (1 + n)), .sh (.int f), .sh (.int u), .sh (.int t), .un, .un, .un, .un, .un, .un, .un, .un, .un, .un, .un] = .ok .nx [.sh (scrD ns), .own none (iL m2), .sh (stT f u t), .sh (.int (1 + n)), .sh (.int f), .sh (.int u), .sh (.int t), .sh (.int (f / u)), .un, .un, .un, .un, .un, .un, .un, .un, .un, .un] := by
    simp [S_law_4_app, hq, hqs]
  have r1 : 1 ≤ f / u := Int.le_ediv_of_mul_le (by omega) (by omega)
  have r2 : f / u ≤ f := Int.ediv_le_self _ (by omega)
  have a0 : 0 ≤ t / u := Int.ediv_nonneg t0 (by omega)
  have a1 : t / u ≤ t := Int.ediv_le_self _ t0
  have hdiv : fdivG (.int t) (.int u) = some (.sh (.int (t / u))) := by rw [fdivG_small (by omega) (by omega), fdiv_ediv (by omega)]
  have hsr : f_store_reach [stT f u t] = .ok (.sh (.int (f / u))) := by
    have := store_reach_ok f u t (by omega) (by omega)
    rw [fdiv_ediv (by omega)] at this
    exact this
  have his : f_is_store [stT f u t] = .ok (.sh (.bool true)) := by
    unfold stT
    rw [is_store_tup]
    have : isStore (.tuple [.int f, .int u, .int t]) = true := by simp [isStore, isNum]; omega
    rw [this]
  have e5 : S_law_5 [.sh (scrD ns), .own none (iL m2), .sh (stT f u t), .sh (.int (1 + n)), .sh (.int f), .sh (.int u), .sh (.int t), .sh (.int (f / u)), .un, .un, .un, .un, .un, .un, .un, .un, .un, .un] = .ok .nx [.sh (scrD ns), .own none (iL m2), .sh (stT f u t), .sh (.int (1 + n)), .sh (.int f), .sh (.int u), .sh (.int t), .sh (.int (f / u)), .un, .un, .un, .un, .un, .un, .un, .un, .un, .un] := by
    simp [S_law_5_app, his, says_ok', hsr, alike_ok _ (.int (f / u))]
  have e6 : S_law_6 [.sh (scrD ns), .own none (iL m2), .sh (stT f u t), .sh (.int (1 + n)), .sh (.int f), .sh (.int u), .sh (.int t), .sh (.int (f / u)), .un, .un, .un, .un, .un, .un, .un, .un, .un, .un] = .ok .nx [.sh (scrD ns), .own none (iL m2), .sh (stT f u t), .sh (.int (1 + n)), .sh (.int f), .sh (.int u), .sh (.int t), .sh (.int (f / u)), .sh (optD none), .un, .un, .un, .un, .un, .un, .un, .un, .un] := by
    simp [S_law_6_app, optD]
  obtain ⟨x1, x2, x3, x4, hlp⟩ := law_loop (.sh (scrD ns)) (.own none (iL m2)) f u t (n + 1) (by omega) uf f1 t0 t1 (by omega) (setsM (n + 1)) (fun _ h => h) none .un .un .un .un
  rw [few_need f u t (n + 1) (by omega) uf t0] at hlp
  have hset := sets_ok (n + 1) (by omega)
  have en : ((n + 1 : Nat) : Int) = 1 + (n : Int) := by omega
  rw [en] at hlp hset
  have e7 : S_law_7 [.sh (scrD ns), .own none (iL m2), .sh (stT f u t), .sh (.int (1 + n)), .sh (.int f), .sh (.int u), .sh (.int t), .sh (.int (f / u)), .sh (optD none), .un, .un, .un, .un, .un, .un, .un, .un, .un] = .ok .nx [.sh (scrD ns), .own none (iL m2), .sh (stT f u t), .sh (.int (1 + n)), .sh (.int f), .sh (.int u), .sh (.int t), .sh (.int (f / u)), .sh (.int (needM (f / u) (1 + n - t / u))), x1, x2, x3, x4, .un, .un, .un, .un, .un] := by
    rw [S_law_7_app, for_ok (e' := [.sh (scrD ns), .own none (iL m2), .sh (stT f u t), .sh (.int (1 + n)), .sh (.int f), .sh (.int u), .sh (.int t), .sh (.int (f / u)), .sh (optD none), .un, .un, .un, .un, .un, .un, .un, .un, .un]) (ds := tL (setsM (n + 1))) (by simp [hset])]
    exact hlp
  have lv : ∀ k : Int, f_least_visits [stT f u t, .int k] = .ok (.sh (.int (needM (f / u) (k - t / u)))) := fun k => by
    have := least_visits_ok f u t k (by omega) uf (by omega)
    rw [fdiv_ediv (show 0 < u by omega), fdiv_ediv (show 0 < u by omega), fdiv_ediv (show 0 < f / u by omega)] at this
    exact this
  have e8 : S_law_8 [.sh (scrD ns), .own none (iL m2), .sh (stT f u t), .sh (.int (1 + n)), .sh (.int f), .sh (.int u), .sh (.int t), .sh (.int (f / u)), .sh (.int (needM (f / u) (1 + n - t / u))), x1, x2, x3, x4, .un, .un, .un, .un, .un] = .ok .nx [.sh (scrD ns), .own none (iL m2), .sh (stT f u t), .sh (.int (1 + n)), .sh (.int f), .sh (.int u), .sh (.int t), .sh (.int (f / u)), .sh (.int (needM (f / u) (1 + n - t / u))), x1, x2, x3, x4, .un, .un, .un, .un, .un] := by
    simp [S_law_8_app, lv, alike_ok _ (.int _)]
  have e9 : S_law_9 [.sh (scrD ns), .own none (iL m2), .sh (stT f u t), .sh (.int (1 + n)), .sh (.int f), .sh (.int u), .sh (.int t), .sh (.int (f / u)), .sh (.int (needM (f / u) (1 + n - t / u))), x1, x2, x3, x4, .un, .un, .un, .un, .un] = .ok .nx [.sh (scrD ns), .own none (iL m3), .sh (stT f u t), .sh (.int (1 + n)), .sh (.int f), .sh (.int u), .sh (.int t), .sh (.int (f / u)), .sh (.int (needM (f / u) (1 + n - t / u))), x1, x2, x3, x4, .sh (.int (10 + lg)), .un, .un, .un, .un] := by
    simp [S_law_9_app, hlg]
  generalize hL : 10 + lg = L at e9
  have e10 : S_law_10 [.sh (scrD ns), .own none (iL m3), .sh (stT f u t), .sh (.int (1 + n)), .sh (.int f), .sh (.int u), .sh (.int t), .sh (.int (f / u)), .sh (.int (needM (f / u) (1 + n - t / u))), x1, x2, x3, x4, .sh (.int L), .un, .un, .un, .un] = .ok .nx [.sh (scrD ns), .own none (iL m3), .sh (stT f u t), .sh (.int (1 + n)), .sh (.int f), .sh (.int u), .sh (.int t), .sh (.int (f / u)), .sh (.int (needM (f / u) (1 + n - t / u))), x1, x2, x3, x4, .sh (.int L), .sh (.int (max 0 (L - t / u))), .un, .un, .un] := by
    simp [S_law_10_app, hdiv]
  have dn : ∀ k : Nat, k ≤ 101 → f_dry_night [stT f u t, .tuple [], .int k] = .ok (.sh (optD (if (k : Int) ≤ t / u then none else some (t / u)))) := fun k hk => by
    have := dry_night_ok f u t [] k (by omega) (by omega)
    rw [Int.toNat_natCast, dry_empty f u (by omega) k 0 t t0, Int.zero_add] at this
    exact this
  have dn1 := dn (t / u).toNat (by omega)
  rw [show (((t / u).toNat : Nat) : Int) = t / u by omega, if_pos (by omega)] at dn1
  have dn2 := dn ((t / u).toNat + 1) (by omega)
  rw [show ((((t / u).toNat + 1 : Nat) : Nat) : Int) = t / u + 1 by omega, if_neg (by omega)] at dn2
  have hnm := needM_max (y := L - t / u) (show 0 < f / u by omega)
  have hd3 : fdivG (.int (max 0 (L - t / u) + f / u - 1)) (.int (f / u)) = some (.sh (.int (needM (f / u) (L - t / u)))) := by
    rw [fdivG_small (by omega) (by omega), fdiv_ediv (by omega), hnm]
  have e11 : S_law_11 [.sh (scrD ns), .own none (iL m3), .sh (stT f u t), .sh (.int (1 + n)), .sh (.int f), .sh (.int u), .sh (.int t), .sh (.int (f / u)), .sh (.int (needM (f / u) (1 + n - t / u))), x1, x2, x3, x4, .sh (.int L), .sh (.int (max 0 (L - t / u))), .un, .un, .un] = .ok .nx [.sh (scrD ns), .own none (iL m3), .sh (stT f u t), .sh (.int (1 + n)), .sh (.int f), .sh (.int u), .sh (.int t), .sh (.int (f / u)), .sh (.int (needM (f / u) (1 + n - t / u))), x1, x2, x3, x4, .sh (.int L), .sh (.int (max 0 (L - t / u))), .un, .un, .un] := by
    simp [S_law_11_app, lv, hd3, hdiv, dn1, dn2, optD, alike_ok _ (.int _)]
  have e12 : S_law_12 [.sh (scrD ns), .own none (iL m3), .sh (stT f u t), .sh (.int (1 + n)), .sh (.int f), .sh (.int u), .sh (.int t), .sh (.int (f / u)), .sh (.int (needM (f / u) (1 + n - t / u))), x1, x2, x3, x4, .sh (.int L), .sh (.int (max 0 (L - t / u))), .un, .un, .un] = .ok .nx [.sh (scrD ns), .own none (iL m3), .sh (stT f u t), .sh (.int (1 + n)), .sh (.int f), .sh (.int u), .sh (.int t), .sh (.int (f / u)), .sh (.int (needM (f / u) (1 + n - t / u))), x1, x2, x3, x4, .sh (.int L), .sh (.int (max 0 (L - t / u))), .own none (oddD f u t), .un, .un] := by
    simp [S_law_12_app, stT, oddD, cutD, HT.sIx]
  have e13 : Q_law_3 [.sh (scrD ns), .own none (iL m3), .sh (stT f u t), .sh (.int (1 + n)), .sh (.int f), .sh (.int u), .sh (.int t), .sh (.int (f / u)), .sh (.int (needM (f / u) (1 + n - t / u))), x1, x2, x3, x4, .sh (.int L), .sh (.int (max 0 (L - t / u))), .own none (oddD f u t), .un, .un] = .ok (.fr []) [.sh (scrD ns), .own none (iL m3), .sh (stT f u t), .sh (.int (1 + n)), .sh (.int f), .sh (.int u), .sh (.int t), .sh (.int (f / u)), .sh (.int (needM (f / u) (1 + n - t / u))), x1, x2, x3, x4, .sh (.int L), .sh (.int (max 0 (L - t / u))), .sh (.list (oddD f u t)), .un, .un] := by
    unfold Q_law_3
    rw [hide_eq]
    rw [lc_one (v := 17) (ds := oddD f u t) (fun _ => false) id (e := [.sh (scrD ns), .own none (iL m3), .sh (stT f u t), .sh (.int (1 + n)), .sh (.int f), .sh (.int u), .sh (.int t), .sh (.int (f / u)), .sh (.int (needM (f / u) (1 + n - t / u))), x1, x2, x3, x4, .sh (.int L), .sh (.int (max 0 (L - t / u))), .sh (.list (oddD f u t)), .un, .un]) (by simp) (by simp) rfl (by simp [oddD]) (fun d hd => by simp [odd_ok f u t d hd]) (fun _ _ h => by cases h)]
    rw [List.filter_eq_nil_iff.mpr (by simp)]
    rfl
  rw [seq_nx e1, seq_nx e2, seq_nx e3, seq_nx e4, seq_nx e5, seq_nx e6, seq_nx e7, seq_nx e8, seq_nx e9, seq_nx e10, seq_nx e11, seq_nx e12]
  simp [S_law_13_app, e13, eqG_nil0]
end Lw
namespace Lw
open PySem PySem.Spec PyProof.Rows L2 Cf
/-- the law's def, from what the top has written -/
theorem all_mk {l : PySem.W.OpenLaw} {w : World} {K : PySem.W.Frag} {h : Heap} {mg : Str → Option Value} {fl : Addr} (X : K.In h) (G : h.Ns mainGlobals mg) (hfl : mg "law" = some (.ref fl))
    {f0 f1 f2 f3 f4 f5 f6 f7 f8 f9 f10 f11 f12 f13 : Addr}
    {oc0 kV0 dc0 pm0 cd0 ct0 oc1 kV1 dc1 pm1 cd1 ct1 oc2 kV2 dc2 pm2 cd2 ct2 oc3 kV3 dc3 pm3 cd3 ct3 oc4 kV4 dc4 pm4 cd4 ct4 oc5 kV5 dc5 pm5 cd5 ct5 oc6 kV6 dc6 pm6 cd6 ct6 oc7 kV7 dc7 pm7 cd7 ct7 oc8 kV8 dc8 pm8 cd8 ct8 oc9 kV9 dc9 pm9 cd9 ct9 oc10 kV10 dc10 pm10 cd10 ct10 oc11 kV11 dc11 pm11 cd11 ct11 oc12 kV12 dc12 pm12 cd12 ct12 oc13 kV13 dc13 pm13 cd13 ct13 : Value}
    {od0 an0 od1 an1 od2 an2 od3 an3 od4 an4 od5 an5 od6 an6 od7 an7 od8 an8 od9 an9 od10 an10 od11 an11 od12 an12 od13 an13 : Option Addr} {sl0 sl1 sl2 sl3 sl4 sl5 sl6 sl7 sl8 sl9 sl10 sl11 sl12 sl13 : Array (Option Value)}
    (a0 : PySem.W.nsIn K mainGlobals "is_number" = some (some (.ref f0)))
    (l0 : K.lookup f0 = some ⟨oc0, od0, .func (PySem.W.fnOf "is_number" "is_number" (defArgs s_is_number) (defBody s_is_number) (defScope s_is_number) .none kV0 dc0 pm0 an0 cd0 ct0), sl0⟩) (c0 : PySem.W.codeIn K cd0 "is_number" = true) (k0 : PySem.W.keepIn K (.ref f0) = true)
    (a1 : PySem.W.nsIn K mainGlobals "is_store" = some (some (.ref f1)))
    (l1 : K.lookup f1 = some ⟨oc1, od1, .func (PySem.W.fnOf "is_store" "is_store" (defArgs s_is_store) (defBody s_is_store) (defScope s_is_store) .none kV1 dc1 pm1 an1 cd1 ct1), sl1⟩) (c1 : PySem.W.codeIn K cd1 "is_store" = true) (k1 : PySem.W.keepIn K (.ref f1) = true)
    (a2 : PySem.W.nsIn K mainGlobals "store_reach" = some (some (.ref f2)))
    (l2 : K.lookup f2 = some ⟨oc2, od2, .func (PySem.W.fnOf "store_reach" "store_reach" (defArgs s_store_reach) (defBody s_store_reach) (defScope s_store_reach) .none kV2 dc2 pm2 an2 cd2 ct2), sl2⟩) (c2 : PySem.W.codeIn K cd2 "store_reach" = true) (k2 : PySem.W.keepIn K (.ref f2) = true)
    (a3 : PySem.W.nsIn K mainGlobals "dry_night" = some (some (.ref f3)))
    (l3 : K.lookup f3 = some ⟨oc3, od3, .func (PySem.W.fnOf "dry_night" "dry_night" (defArgs s_dry_night) (defBody s_dry_night) (defScope s_dry_night) .none kV3 dc3 pm3 an3 cd3 ct3), sl3⟩) (c3 : PySem.W.codeIn K cd3 "dry_night" = true) (k3 : PySem.W.keepIn K (.ref f3) = true)
    (a4 : PySem.W.nsIn K mainGlobals "is_kept" = some (some (.ref f4)))
    (l4 : K.lookup f4 = some ⟨oc4, od4, .func (PySem.W.fnOf "is_kept" "is_kept" (defArgs s_is_kept) (defBody s_is_kept) (defScope s_is_kept) .none kV4 dc4 pm4 an4 cd4 ct4), sl4⟩) (c4 : PySem.W.codeIn K cd4 "is_kept" = true) (k4 : PySem.W.keepIn K (.ref f4) = true)
    (a5 : PySem.W.nsIn K mainGlobals "least_visits" = some (some (.ref f5)))
    (l5 : K.lookup f5 = some ⟨oc5, od5, .func (PySem.W.fnOf "least_visits" "least_visits" (defArgs s_least_visits) (defBody s_least_visits) (defScope s_least_visits) .none kV5 dc5 pm5 an5 cd5 ct5), sl5⟩) (c5 : PySem.W.codeIn K cd5 "least_visits" = true) (k5 : PySem.W.keepIn K (.ref f5) = true)
    (a6 : PySem.W.nsIn K mainGlobals "_law_draws" = some (some (.ref f6)))
    (l6 : K.lookup f6 = some ⟨oc6, od6, .func (PySem.W.fnOf "_law_draws" "_law_draws" (defArgs s__law_draws) (defBody s__law_draws) (defScope s__law_draws) .none kV6 dc6 pm6 an6 cd6 ct6), sl6⟩) (c6 : PySem.W.codeIn K cd6 "_law_draws" = true) (k6 : PySem.W.keepIn K (.ref f6) = true)
    (a7 : PySem.W.nsIn K mainGlobals "_law_take" = some (some (.ref f7)))
    (l7 : K.lookup f7 = some ⟨oc7, od7, .func (PySem.W.fnOf "_law_take" "_law_take" (defArgs s__law_take) (defBody s__law_take) (defScope s__law_take) .none kV7 dc7 pm7 an7 cd7 ct7), sl7⟩) (c7 : PySem.W.codeIn K cd7 "_law_take" = true) (k7 : PySem.W.keepIn K (.ref f7) = true)
    (a8 : PySem.W.nsIn K mainGlobals "_law_says" = some (some (.ref f8)))
    (l8 : K.lookup f8 = some ⟨oc8, od8, .func (PySem.W.fnOf "_law_says" "_law_says" (defArgs s__law_says) (defBody s__law_says) (defScope s__law_says) .none kV8 dc8 pm8 an8 cd8 ct8), sl8⟩) (c8 : PySem.W.codeIn K cd8 "_law_says" = true) (k8 : PySem.W.keepIn K (.ref f8) = true)
    (a9 : PySem.W.nsIn K mainGlobals "_law_alike" = some (some (.ref f9)))
    (l9 : K.lookup f9 = some ⟨oc9, od9, .func (PySem.W.fnOf "_law_alike" "_law_alike" (defArgs s__law_alike) (defBody s__law_alike) (defScope s__law_alike) .none kV9 dc9 pm9 an9 cd9 ct9), sl9⟩) (c9 : PySem.W.codeIn K cd9 "_law_alike" = true) (k9 : PySem.W.keepIn K (.ref f9) = true)
    (a10 : PySem.W.nsIn K mainGlobals "_law_store" = some (some (.ref f10)))
    (l10 : K.lookup f10 = some ⟨oc10, od10, .func (PySem.W.fnOf "_law_store" "_law_store" (defArgs s__law_store) (defBody s__law_store) (defScope s__law_store) .none kV10 dc10 pm10 an10 cd10 ct10), sl10⟩) (c10 : PySem.W.codeIn K cd10 "_law_store" = true) (k10 : PySem.W.keepIn K (.ref f10) = true)
    (a11 : PySem.W.nsIn K mainGlobals "_law_dry" = some (some (.ref f11)))
    (l11 : K.lookup f11 = some ⟨oc11, od11, .func (PySem.W.fnOf "_law_dry" "_law_dry" (defArgs s__law_dry) (defBody s__law_dry) (defScope s__law_dry) .none kV11 dc11 pm11 an11 cd11 ct11), sl11⟩) (c11 : PySem.W.codeIn K cd11 "_law_dry" = true) (k11 : PySem.W.keepIn K (.ref f11) = true)
    (a12 : PySem.W.nsIn K mainGlobals "_law_sets" = some (some (.ref f12)))
    (l12 : K.lookup f12 = some ⟨oc12, od12, .func (PySem.W.fnOf "_law_sets" "_law_sets" (defArgs s__law_sets) (defBody s__law_sets) (defScope s__law_sets) .none kV12 dc12 pm12 an12 cd12 ct12), sl12⟩) (c12 : PySem.W.codeIn K cd12 "_law_sets" = true) (k12 : PySem.W.keepIn K (.ref f12) = true)
    (a13 : PySem.W.nsIn K mainGlobals "law" = some (some (.ref f13)))
    (l13 : K.lookup f13 = some ⟨oc13, od13, .func (PySem.W.fnOf "law" "law" (defArgs s_law) (defBody s_law) (defScope s_law) .none kV13 dc13 pm13 an13 cd13 ct13), sl13⟩) (c13 : PySem.W.codeIn K cd13 "law" = true) (k13 : PySem.W.keepIn K (.ref f13) = true)
    (z_abs : PySem.W.nsIn K mainGlobals "abs" = some none)
    (z_bool : PySem.W.nsIn K mainGlobals "bool" = some none)
    (z_int : PySem.W.nsIn K mainGlobals "int" = some none)
    (z_isinstance : PySem.W.nsIn K mainGlobals "isinstance" = some none)
    (z_len : PySem.W.nsIn K mainGlobals "len" = some none)
    (z_list : PySem.W.nsIn K mainGlobals "list" = some none)
    (z_max : PySem.W.nsIn K mainGlobals "max" = some none)
    (z_min : PySem.W.nsIn K mainGlobals "min" = some none)
    (z_range : PySem.W.nsIn K mainGlobals "range" = some none)
    (z_reversed : PySem.W.nsIn K mainGlobals "reversed" = some none)
    (z_str : PySem.W.nsIn K mainGlobals "str" = some none)
    (z_tuple : PySem.W.nsIn K mainGlobals "tuple" = some none)
    {t_MOST_FULL : Tok} (c_MOST_FULL : PySem.W.nsIn K mainGlobals "MOST_FULL" = some (some (.int 100 t_MOST_FULL)))
    : ∃ fd : FuncData, (∀ (s : Shared) (v : Value), BindsTo s fd ⟨[v], []⟩ [("script", v)]) ∧ ∀ base : Heap, K.In base → base.Ns mainGlobals mg → FnOk l.prog w K mg base CX0 14 fl fd ["script"] (sp0 K [] 1 f_law) := by
  have e := hfl.symm.trans (PySem.W.mg_of X G a13)
  cases e
  let fa : Nat → Addr := fun n => [0, f0, 0, 0, f1, f2, f3, f4, f5, 0, f6, f7, f8, f9, f10, f11, f12, fl].getD n 0
  have F0 := fun_mk (st := s_is_number) l0 c0 k0
  have F1 := fun_mk (st := s_is_store) l1 c1 k1
  have F2 := fun_mk (st := s_store_reach) l2 c2 k2
  have F3 := fun_mk (st := s_dry_night) l3 c3 k3
  have F4 := fun_mk (st := s_is_kept) l4 c4 k4
  have F5 := fun_mk (st := s_least_visits) l5 c5 k5
  have F6 := fun_mk (st := s__law_draws) l6 c6 k6
  have F7 := fun_mk (st := s__law_take) l7 c7 k7
  have F8 := fun_mk (st := s__law_says) l8 c8 k8
  have F9 := fun_mk (st := s__law_alike) l9 c9 k9
  have F10 := fun_mk (st := s__law_store) l10 c10 k10
  have F11 := fun_mk (st := s__law_dry) l11 c11 k11
  have F12 := fun_mk (st := s__law_sets) l12 c12 k12
  have F13 := fun_mk (st := s_law) l13 c13 k13
  let fd : Nat → FuncData := fun n => [PySem.W.fnOf "is_number" "is_number" (defArgs s_is_number) (defBody s_is_number) (defScope s_is_number) .none kV0 dc0 pm0 an0 cd0 ct0, PySem.W.fnOf "is_number" "is_number" (defArgs s_is_number) (defBody s_is_number) (defScope s_is_number) .none kV0 dc0 pm0 an0 cd0 ct0, PySem.W.fnOf "is_number" "is_number" (defArgs s_is_number) (defBody s_is_number) (defScope s_is_number) .none kV0 dc0 pm0 an0 cd0 ct0, PySem.W.fnOf "is_number" "is_number" (defArgs s_is_number) (defBody s_is_number) (defScope s_is_number) .none kV0 dc0 pm0 an0 cd0 ct0, PySem.W.fnOf "is_store" "is_store" (defArgs s_is_store) (defBody s_is_store) (defScope s_is_store) .none kV1 dc1 pm1 an1 cd1 ct1, PySem.W.fnOf "store_reach" "store_reach" (defArgs s_store_reach) (defBody s_store_reach) (defScope s_store_reach) .none kV2 dc2 pm2 an2 cd2 ct2, PySem.W.fnOf "dry_night" "dry_night" (defArgs s_dry_night) (defBody s_dry_night) (defScope s_dry_night) .none kV3 dc3 pm3 an3 cd3 ct3, PySem.W.fnOf "is_kept" "is_kept" (defArgs s_is_kept) (defBody s_is_kept) (defScope s_is_kept) .none kV4 dc4 pm4 an4 cd4 ct4, PySem.W.fnOf "least_visits" "least_visits" (defArgs s_least_visits) (defBody s_least_visits) (defScope s_least_visits) .none kV5 dc5 pm5 an5 cd5 ct5, PySem.W.fnOf "is_number" "is_number" (defArgs s_is_number) (defBody s_is_number) (defScope s_is_number) .none kV0 dc0 pm0 an0 cd0 ct0, PySem.W.fnOf "_law_draws" "_law_draws" (defArgs s__law_draws) (defBody s__law_draws) (defScope s__law_draws) .none kV6 dc6 pm6 an6 cd6 ct6, PySem.W.fnOf "_law_take" "_law_take" (defArgs s__law_take) (defBody s__law_take) (defScope s__law_take) .none kV7 dc7 pm7 an7 cd7 ct7, PySem.W.fnOf "_law_says" "_law_says" (defArgs s__law_says) (defBody s__law_says) (defScope s__law_says) .none kV8 dc8 pm8 an8 cd8 ct8, PySem.W.fnOf "_law_alike" "_law_alike" (defArgs s__law_alike) (defBody s__law_alike) (defScope s__law_alike) .none kV9 dc9 pm9 an9 cd9 ct9, PySem.W.fnOf "_law_store" "_law_store" (defArgs s__law_store) (defBody s__law_store) (defScope s__law_store) .none kV10 dc10 pm10 an10 cd10 ct10, PySem.W.fnOf "_law_dry" "_law_dry" (defArgs s__law_dry) (defBody s__law_dry) (defScope s__law_dry) .none kV11 dc11 pm11 an11 cd11 ct11, PySem.W.fnOf "_law_sets" "_law_sets" (defArgs s__law_sets) (defBody s__law_sets) (defScope s__law_sets) .none kV12 dc12 pm12 an12 cd12 ct12, PySem.W.fnOf "law" "law" (defArgs s_law) (defBody s_law) (defScope s_law) .none kV13 dc13 pm13 an13 cd13 ct13].getD n (PySem.W.fnOf "is_number" "is_number" (defArgs s_is_number) (defBody s_is_number) (defScope s_is_number) .none kV0 dc0 pm0 an0 cd0 ct0)
  have T : Tx K mg fa fd :=
    ⟨F0,
      F0.binds (ps := ["value", "least", "most"]) fun _ _ _ _ _ _ us hl => match us, hl with | [_, _, _], _ => rfl,
      PySem.W.mg_of X G a0,
      F1,
      F1.binds (ps := ["value"]) fun _ _ _ _ _ _ us hl => match us, hl with | [_], _ => rfl,
      PySem.W.mg_of X G a1,
      F2,
      F2.binds (ps := ["store"]) fun _ _ _ _ _ _ us hl => match us, hl with | [_], _ => rfl,
      PySem.W.mg_of X G a2,
      F3,
      F3.binds (ps := ["store", "days", "n"]) fun _ _ _ _ _ _ us hl => match us, hl with | [_, _, _], _ => rfl,
      PySem.W.mg_of X G a3,
      F4,
      F4.binds (ps := ["store", "days", "n"]) fun _ _ _ _ _ _ us hl => match us, hl with | [_, _, _], _ => rfl,
      PySem.W.mg_of X G a4,
      F5,
      F5.binds (ps := ["store", "n"]) fun _ _ _ _ _ _ us hl => match us, hl with | [_, _], _ => rfl,
      PySem.W.mg_of X G a5,
      F6,
      F6.binds (ps := ["script"]) fun _ _ _ _ _ _ us hl => match us, hl with | [_], _ => rfl,
      PySem.W.mg_of X G a6,
      F7,
      F7.binds (ps := ["draws", "bound"]) fun _ _ _ _ _ _ us hl => match us, hl with | [_, _], _ => rfl,
      PySem.W.mg_of X G a7,
      F8,
      F8.binds (ps := ["told", "due"]) fun _ _ _ _ _ _ us hl => match us, hl with | [_, _], _ => rfl,
      PySem.W.mg_of X G a8,
      F9,
      F9.binds (ps := ["found", "due"]) fun _ _ _ _ _ _ us hl => match us, hl with | [_, _], _ => rfl,
      PySem.W.mg_of X G a9,
      F10,
      F10.binds (ps := ["draws"]) fun _ _ _ _ _ _ us hl => match us, hl with | [_], _ => rfl,
      PySem.W.mg_of X G a10,
      F11,
      F11.binds (ps := ["store", "days", "n"]) fun _ _ _ _ _ _ us hl => match us, hl with | [_, _, _], _ => rfl,
      PySem.W.mg_of X G a11,
      F12,
      F12.binds (ps := ["many"]) fun _ _ _ _ _ _ us hl => match us, hl with | [_], _ => rfl,
      PySem.W.mg_of X G a12,
      F13,
      F13.binds (ps := ["script"]) fun _ _ _ _ _ _ us hl => match us, hl with | [_], _ => rfl,
      PySem.W.mg_of X G a13,
      PySem.W.mg_none_of X G z_abs,
      PySem.W.mg_none_of X G z_bool,
      PySem.W.mg_none_of X G z_int,
      PySem.W.mg_none_of X G z_isinstance,
      PySem.W.mg_none_of X G z_len,
      PySem.W.mg_none_of X G z_list,
      PySem.W.mg_none_of X G z_max,
      PySem.W.mg_none_of X G z_min,
      PySem.W.mg_none_of X G z_range,
      PySem.W.mg_none_of X G z_reversed,
      PySem.W.mg_none_of X G z_str,
      PySem.W.mg_none_of X G z_tuple,
      ⟨_, PySem.W.mg_of X G c_MOST_FULL⟩⟩
  exact ⟨PySem.W.fnOf "law" "law" (defArgs s_law) (defBody s_law) (defScope s_law) .none kV13 dc13 pm13 an13 cd13 ct13, fun s v => .of_eq rfl, fun base _ _ => ok_law (fa := fa) (fd := fd) T⟩
end Lw
open PySem PySem.W PyProof.Rows
set_option maxHeartbeats 0 in
theorem PySem.Challenge.cw_coastlit_k39_whole_stores_of_oil_holds : PySem.Challenge.rw_coastlit_k39_whole_stores_of_oil.Holds := by
  w_on; o_law; k_head; (case hw => w_witness2)
  k_fill
  refine L2.walk_of (l := PySem.Challenge.rw_coastlit_k39_whole_stores_of_oil) (n := 63) (k := 14) (x := "script") (CX := fun _ => L2.CX0) (sp := fun w => Cf.sp0 _ [] 1 Lw.f_law) rfl (by decide) rfl ⟨rfl, by decide, by decide⟩ (fun w h Y => PySem.W.kIn_of Y) ?F (fun _ _ a ns hl _ hS => Cf.law_sp (Lw.holds ns hl) hS (fun P hP => absurd hP (by simp))) (fun _ _ _ _ _ h => h)
  case F =>
    intro w mg fa h KX G hmg
    refine' Lw.all_mk KX G hmg ?a0 ?l0 ?c0 ?k0 ?a1 ?l1 ?c1 ?k1 ?a2 ?l2 ?c2 ?k2 ?a3 ?l3 ?c3 ?k3 ?a4 ?l4 ?c4 ?k4 ?a5 ?l5 ?c5 ?k5 ?a6 ?l6 ?c6 ?k6 ?a7 ?l7 ?c7 ?k7 ?a8 ?l8 ?c8 ?k8 ?a9 ?l9 ?c9 ?k9 ?a10 ?l10 ?c10 ?k10 ?a11 ?l11 ?c11 ?k11 ?a12 ?l12 ?c12 ?k12 ?a13 ?l13 ?c13 ?k13 ?z_abs ?z_bool ?z_int ?z_isinstance ?z_len ?z_list ?z_max ?z_min ?z_range ?z_reversed ?z_str ?z_tuple ?c_MOST_FULL
    (case a0 => k_is)
    (case l0 => k_is)
    (case c0 => k_is)
    (case k0 => k_is)
    (case a1 => k_is)
    (case l1 => k_is)
    (case c1 => k_is)
    (case k1 => k_is)
    (case a2 => k_is)
    (case l2 => k_is)
    (case c2 => k_is)
    (case k2 => k_is)
    (case a3 => k_is)
    (case l3 => k_is)
    (case c3 => k_is)
    (case k3 => k_is)
    (case a4 => k_is)
    (case l4 => k_is)
    (case c4 => k_is)
    (case k4 => k_is)
    (case a5 => k_is)
    (case l5 => k_is)
    (case c5 => k_is)
    (case k5 => k_is)
    (case a6 => k_is)
    (case l6 => k_is)
    (case c6 => k_is)
    (case k6 => k_is)
    (case a7 => k_is)
    (case l7 => k_is)
    (case c7 => k_is)
    (case k7 => k_is)
    (case a8 => k_is)
    (case l8 => k_is)
    (case c8 => k_is)
    (case k8 => k_is)
    (case a9 => k_is)
    (case l9 => k_is)
    (case c9 => k_is)
    (case k9 => k_is)
    (case a10 => k_is)
    (case l10 => k_is)
    (case c10 => k_is)
    (case k10 => k_is)
    (case a11 => k_is)
    (case l11 => k_is)
    (case c11 => k_is)
    (case k11 => k_is)
    (case a12 => k_is)
    (case l12 => k_is)
    (case c12 => k_is)
    (case k12 => k_is)
    (case a13 => k_is)
    (case l13 => k_is)
    (case c13 => k_is)
    (case k13 => k_is)
    (case z_abs => k_is)
    (case z_bool => k_is)
    (case z_int => k_is)
    (case z_isinstance => k_is)
    (case z_len => k_is)
    (case z_list => k_is)
    (case z_max => k_is)
    (case z_min => k_is)
    (case z_range => k_is)
    (case z_reversed => k_is)
    (case z_str => k_is)
    (case z_tuple => k_is)
    (case c_MOST_FULL => k_is)
