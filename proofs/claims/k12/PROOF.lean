import PyProof.Rows.All
import Wide.All
import OpenK.AllK
import Wide.FinOn
import HandS.ForMost
import HandS.EndTab
import HandS.Wide
import HandS.IsInst
import HandS.Zip
import HandS.Codes
import KE.SortKeyHeap
import HandS.DictComp
import HandS.Conv
import KE.DataFind
import HandS.Deep
import HandS.SetFor
import HandS.Strs
import HandS.TupSets
import HandS.Style
import HandS.TupAny
import KE.GoesEnum
import PySem.Challenge.RW_strandpull_k12_whole_measures_change_not
set_option Elab.async false
set_option linter.all false
set_option maxRecDepth 100000
set_option maxHeartbeats 4000000
set_option exponentiation.threshold 100000
/-! Ab1: abstract values, abstract states. -/
namespace Ab
open PySem L2

/-! ### growth of what stands for good -/
/-- what is never written -/
def Fx : HO → Prop
  | .lst _ => False
  | .dK _ => False
  | .dT _ => False
  | .ins _ _ _ => False
  | _ => True
structure Wd where
  /-- the addresses that may change -/
  S : Addr → Prop
  /-- what holds throughout -/
  J : Hp → Prop
  has : ∀ {H a}, J H → S a → ∃ o, H a = some o ∧ ∀ ps, o ≠ .tbl ps
  stab : ∀ {H H'}, J H → (∀ a o, H a = some o → (S a ∨ Fx o) → H' a = some o) → J H'

structure Gr (w : Wd) (H H' : Hp) : Prop where
  all : ∀ a o, H a = some o → ¬ w.S a → (∀ ps, o ≠ .tbl ps) → H' a = some o
  tup : ∀ a xs, H a = some (.tup xs) → H' a = some (.tup xs)
  frz : ∀ a o u, H a = some (.frz o u) → H' a = some (.frz o u)
  dom : ∀ a o, H a = some o → (∀ ps, o ≠ .tbl ps) → ∃ o', H' a = some o' ∧ ∀ ps, o' ≠ .tbl ps
/-- nothing stands at p, but for a table -/
def Nf (H : Hp) (p : Addr) : Prop := ∀ o, H p = some o → ∃ ps, o = .tbl ps
theorem Nf.of {H : Hp} {p : Addr} (h : H p = none) : Nf H p := fun o e => by
  rw [h] at e
  cases e
theorem Nf.no {H : Hp} {p : Addr} {o : HO} (n : Nf H p) (e : H p = some o) (h : ∀ ps, o ≠ .tbl ps) : False := by
  obtain ⟨ps, z⟩ := n o e
  exact h ps z
theorem Nf.noL {H : Hp} {p : Addr} {xs : List V} (n : Nf H p) (e : H p = some (.lst xs)) : False := n.no e fun ps z => by cases z
theorem Nf.ne {H : Hp} {a p : Addr} {o : HO} (n : Nf H p) (e : H a = some o) (h : ∀ ps, o ≠ .tbl ps) : a ≠ p := fun z => n.no (by rw [← z]; exact e) h
theorem Gr.refl (w : Wd) (H : Hp) : Gr w H H := ⟨fun _ _ h _ _ => h, fun _ _ h => h, fun _ _ _ h => h, fun _ o h n => ⟨o, h, n⟩⟩
theorem Gr.trans {w : Wd} {H H1 H2 : Hp} (a : Gr w H H1) (b : Gr w H1 H2) : Gr w H H2 :=
  ⟨fun p o h n m => b.all p o (a.all p o h n m) n m, fun p xs h => b.tup p xs (a.tup p xs h), fun p o u h => b.frz p o u (a.frz p o u h), fun p o h n => let ⟨o', h', n'⟩ := a.dom p o h n; b.dom p o' h' n'⟩
theorem Gr.fresh {w : Wd} {H H' : Hp} {p : Addr} (g : Gr w H H') (h : Nf H' p) : Nf H p := fun o e => by
  apply Classical.byContradiction
  intro z
  obtain ⟨o', h', n⟩ := g.dom p o e fun ps q => z ⟨ps, q⟩
  exact h.no h' n
/-- a new object -/
theorem Gr.new {w : Wd} {H : Hp} {p : Addr} {o : HO} (h : H p = none) : Gr w H (upd H p o) := by
  have k : ∀ a u, H a = some u → upd H p o a = some u := fun a u e => by
    rw [upd_ne (ne_of_none e h)]
    exact e
  exact ⟨fun a u e _ _ => k a u e, fun a xs e => k a _ e, fun a u v e => k a _ e, fun a u e n => ⟨u, k a u e, n⟩⟩
theorem Wd.newJ {w : Wd} {H : Hp} {p : Addr} {o : HO} (j : w.J H) (h : H p = none) : w.J (upd H p o) :=
  w.stab j fun a u e _ => by
    rw [upd_ne (ne_of_none e h)]
    exact e
/-- a list that is not the world's is written -/
theorem Wd.putO {w : Wd} {H : Hp} {p : Addr} {o o' : HO} (j : w.J H) (h : H p = some o) (m : ¬ Fx o) (n : ¬ w.S p) : w.J (upd H p o') :=
  w.stab j fun a u e d => by
    have q : a ≠ p := by
      intro z
      rw [z] at e d
      rw [h] at e
      cases e
      rcases d with d | d
      · exact n d
      · exact m d
    rw [upd_ne q]
    exact e
theorem Wd.putJ {w : Wd} {H : Hp} {p : Addr} {xs ys : List V} (j : w.J H) (h : H p = some (.lst xs)) (n : ¬ w.S p) : w.J (upd H p (.lst ys)) := w.putO j h (fun z => z) n
/-- what H0 does not know is written -/
theorem Gr.putO {w : Wd} {H0 H : Hp} {p : Addr} {o' : HO} (g : Gr w H0 H) (h0 : Nf H0 p) : Gr w H0 (upd H p o') := by
  refine ⟨fun a u e n m => ?_, fun a us e => ?_, fun a u v e => ?_, fun a u e m => ?_⟩
  · rw [upd_ne (h0.ne e m)]
    exact g.all a u e n m
  · rw [upd_ne (h0.ne e fun ps z => by cases z)]
    exact g.tup a us e
  · rw [upd_ne (h0.ne e fun ps z => by cases z)]
    exact g.frz a u v e
  · rw [upd_ne (h0.ne e m)]
    exact g.dom a u e m
/-- a list that H0 does not know is written -/
theorem Gr.put {w : Wd} {H0 H : Hp} {p : Addr} {xs ys : List V} (g : Gr w H0 H) (h0 : Nf H0 p) (h : H p = some (.lst xs)) : Gr w H0 (upd H p (.lst ys)) := by
  refine ⟨fun a u e n m => ?_, fun a us e => ?_, fun a u v e => ?_, fun a u e m => ?_⟩
  · rw [upd_ne (h0.ne e m)]
    exact g.all a u e n m
  · rw [upd_ne (h0.ne e fun ps z => by cases z)]
    exact g.tup a us e
  · rw [upd_ne (h0.ne e fun ps z => by cases z)]
    exact g.frz a u v e
  · rw [upd_ne (h0.ne e m)]
    exact g.dom a u e m

/-- tuples stand -/
def Tu (H H' : Hp) : Prop := (∀ a xs, Rd H a (.tup xs) → Rd H' a (.tup xs)) ∧ (∀ a xs, H a = some (.tup xs) → H' a = some (.tup xs)) ∧ ∀ a o u, H a = some (.frz o u) → H' a = some (.frz o u)
theorem Gr.tu {w : Wd} {H H' : Hp} (g : Gr w H H') : Tu H H' := ⟨fun a xs h => by
  rcases h with h | ⟨o, h⟩
  · exact .inl (g.tup a xs h)
  · exact .inr ⟨o, g.frz a o _ h⟩, g.tup, g.frz⟩
theorem Tu.put {H : Hp} {p : Addr} {xs ys : List V} (h : H p = some (.lst xs)) : Tu H (upd H p (.lst ys)) := by
  have ne : ∀ a us, Rd H a (.tup us) → a ≠ p := fun a us e => by
    intro z
    rw [z] at e
    rcases e with e | ⟨o, e⟩ <;> rw [h] at e <;> cases e
  refine ⟨fun a us e => ?_, fun a us e => by rw [upd_ne (ne a us (.inl e))]; exact e, fun a b u e => by
    rw [upd_ne (fun z => by rw [z, h] at e; cases e)]
    exact e⟩
  have q := ne a us e
  rcases e with e | ⟨o, e⟩
  · exact .inl (by rw [upd_ne q]; exact e)
  · exact .inr ⟨o, by rw [upd_ne q]; exact e⟩
theorem Tu.sq {K : PySem.W.Frag} {H H' : Hp} (t : Tu H H') {a : Addr} {xs : List V} (h : SqT K H a xs) : SqT K H' a xs := by
  rcases h with h | h
  · exact .inl (t.1 a xs h)
  · exact .inr h
theorem Tu.refl (H : Hp) : Tu H H := ⟨fun _ _ h => h, fun _ _ h => h, fun _ _ _ h => h⟩
theorem Tu.trans {H H1 H2 : Hp} (a : Tu H H1) (b : Tu H1 H2) : Tu H H2 := ⟨fun p xs h => b.1 p xs (a.1 p xs h), fun p xs h => b.2.1 p xs (a.2.1 p xs h), fun p o u h => b.2.2 p o u (a.2.2 p o u h)⟩
theorem Tu.new {H : Hp} {p : Addr} {o : HO} (h : H p = none) : Tu H (upd H p o) := (Gr.new (w := ⟨fun _ => False, fun _ => True, fun _ h => h.elim, fun _ _ => trivial⟩) h).tu

/-! ### data without lists -/
class Rp (α : Type) where
  rp : PySem.W.Frag → Hp → V → α → Prop
  mono : ∀ {K : PySem.W.Frag} {H H' : Hp} {v : V} {x : α}, Tu H H' → rp K H v x → rp K H' v x
open Rp (rp)
inductive Rps {α : Type} [Rp α] (K : PySem.W.Frag) (H : Hp) : List V → List α → Prop
  | nil : Rps K H [] []
  | cons {v : V} {vs : List V} {x : α} {xs : List α} : rp K H v x → Rps K H vs xs → Rps K H (v :: vs) (x :: xs)
section
variable {α : Type} [Rp α] {K : PySem.W.Frag} {H H' : Hp}
theorem Rps.mono (t : Tu H H') {vs : List V} {xs : List α} (h : Rps K H vs xs) : Rps K H' vs xs := by
  induction h with
  | nil => exact .nil
  | cons a _ ih => exact .cons (Rp.mono t a) ih
theorem Rps.len {vs : List V} {xs : List α} (h : Rps K H vs xs) : vs.length = xs.length := by
  induction h with
  | nil => rfl
  | cons _ _ ih => rw [List.length_cons, List.length_cons, ih]
theorem Rps.get {vs : List V} {xs : List α} (h : Rps K H vs xs) {i : Nat} {x : α} (e : xs[i]? = some x) : ∃ v, vs[i]? = some v ∧ rp K H v x := by
  induction h generalizing i with
  | nil => simp at e
  | cons a _ ih =>
    cases i with
    | zero =>
      simp at e
      subst e
      exact ⟨_, rfl, a⟩
    | succ i =>
      simp at e
      obtain ⟨v, h1, h2⟩ := ih e
      exact ⟨v, by simpa using h1, h2⟩
theorem Rps.getV {vs : List V} {xs : List α} (h : Rps K H vs xs) {i : Nat} {v : V} (e : vs[i]? = some v) : ∃ x, xs[i]? = some x ∧ rp K H v x := by
  have hi : i < vs.length := (List.getElem?_eq_some_iff.mp e).1
  have hi2 : i < xs.length := by rw [← h.len]; exact hi
  obtain ⟨u, h1, h2⟩ := h.get (List.getElem?_eq_getElem hi2)
  rw [e] at h1
  cases h1
  exact ⟨_, List.getElem?_eq_getElem hi2, h2⟩
theorem Rps.append {vs us : List V} {xs ys : List α} (h : Rps K H vs xs) (k : Rps K H us ys) : Rps K H (vs ++ us) (xs ++ ys) := by
  induction h with
  | nil => exact k
  | cons a _ ih => exact .cons a ih
theorem Rps.take {vs : List V} {xs : List α} (h : Rps K H vs xs) (n : Nat) : Rps K H (vs.take n) (xs.take n) := by
  induction h generalizing n with
  | nil => simp; exact .nil
  | cons a _ ih =>
    cases n with
    | zero => exact .nil
    | succ n => exact .cons a (ih n)
theorem Rps.drop {vs : List V} {xs : List α} (h : Rps K H vs xs) (n : Nat) : Rps K H (vs.drop n) (xs.drop n) := by
  induction h generalizing n with
  | nil => simp; exact .nil
  | cons a h ih =>
    cases n with
    | zero => exact .cons a h
    | succ n => exact ih n
theorem Rps.reverse {vs : List V} {xs : List α} (h : Rps K H vs xs) : Rps K H vs.reverse xs.reverse := by
  induction h with
  | nil => exact .nil
  | cons a _ ih =>
    rw [List.reverse_cons, List.reverse_cons]
    exact ih.append (.cons a .nil)
theorem Rps.set {vs : List V} {xs : List α} (h : Rps K H vs xs) {v : V} {x : α} (a : rp K H v x) (i : Nat) : Rps K H (vs.set i v) (xs.set i x) := by
  induction h generalizing i with
  | nil => exact .nil
  | cons b h ih =>
    cases i with
    | zero => exact .cons a h
    | succ i => exact .cons b (ih i)
theorem Rps.one {v : V} {x : α} (a : rp K H v x) : Rps K H [v] [x] := .cons a .nil
end

instance : Rp Int := ⟨fun _ _ v x => v = .int x, fun _ h => h⟩
instance : Rp Bool := ⟨fun _ _ v x => v = .bl x, fun _ h => h⟩
instance : Rp Str := ⟨fun _ _ v x => v = .str x, fun _ h => h⟩
instance {α : Type} [Rp α] : Rp (Option α) := ⟨fun K H v x => match x with | none => v = .non | some y => rp K H v y, fun {_ _ _ _ x} t h => by
  cases x with
  | none => exact h
  | some y => exact Rp.mono (α := α) t h⟩
instance : Rp Rat := ⟨fun K H v x => ∃ a, v = .ref a ∧ H a = some (.tup [.int x.num, .int x.den]), fun t ⟨a, e, h⟩ => ⟨a, e, t.2.1 _ _ h⟩⟩
theorem tup_sq {K : PySem.W.Frag} {H : Hp} {a : Addr} {xs : List V} (h : H a = some (.tup xs)) : SqT K H a xs := .inl (.inl h)
instance {α β : Type} [Rp α] [Rp β] : Rp (α × β) := ⟨fun K H v x => ∃ a u w, v = .ref a ∧ SqT K H a [u, w] ∧ rp K H u x.1 ∧ rp K H w x.2,
  fun t ⟨a, u, w, e, h, h1, h2⟩ => ⟨a, u, w, e, t.sq h, Rp.mono t h1, Rp.mono t h2⟩⟩
/-- a tuple of alike things -/
instance {α : Type} [Rp α] : Rp (List α) := ⟨fun K H v x => ∃ a vs, v = .ref a ∧ SqT K H a vs ∧ Rps K H vs x, fun t ⟨a, vs, e, h, h1⟩ => ⟨a, vs, e, t.sq h, h1.mono t⟩⟩
/-- three things -/
structure T3 (α β γ : Type) where
  a : α
  b : β
  c : γ
instance {α β γ : Type} [Rp α] [Rp β] [Rp γ] : Rp (T3 α β γ) := ⟨fun K H v x => ∃ p u w y, v = .ref p ∧ SqT K H p [u, w, y] ∧ rp K H u x.a ∧ rp K H w x.b ∧ rp K H y x.c,
  fun t ⟨a, u, w, y, e, h, h1, h2, h3⟩ => ⟨a, u, w, y, e, t.sq h, Rp.mono t h1, Rp.mono t h2, Rp.mono t h3⟩⟩
structure Rope where
  name : Str
  slack : Int
  stiff : Int
  strong : Int
deriving DecidableEq
instance : Rp Rope := ⟨fun K H v x => ∃ a, v = .ref a ∧ SqT K H a [.str x.name, .int x.slack, .int x.stiff, .int x.strong], fun t ⟨a, e, h⟩ => ⟨a, e, t.sq h⟩⟩

/-- a new object that is no list, by what is true of it -/
structure Cel where
  P : PySem.W.Frag → Hp → HO → Prop
  mono : ∀ {K : PySem.W.Frag} {H H' : Hp} {o : HO}, Tu H H' → P K H o → P K H' o
  nl : ∀ {K : PySem.W.Frag} {H : Hp} {o : HO}, P K H o → (∀ xs, o ≠ .lst xs) ∧ (∀ ps, o ≠ .tbl ps) ∧ ¬ Fx o
/-! ### abstract values, states -/
inductive AV : Type 1
  /-- nothing is known -/
  | un
  /-- some datum of which P holds -/
  | ex {α : Type} [Rp α] (P : α → Prop)
  /-- a list of one's own: in a slot, one that may be written; as a result, a new one -/
  | own {α : Type} [Rp α] (xs : List α)
  /-- a list that may be read -/
  | lst {α : Type} [Rp α] (xs : List α)
  /-- this very value -/
  | val (v : V)
  /-- a new list of which P holds: as a result -/
  | ownE {α : Type} [Rp α] (P : List α → Prop)
  /-- a pair of a new list and a datum: as a result -/
  | two {α β : Type} [Rp α] [Rp β] (xs : List α) (y : β)
  /-- a new object -/
  | cel (C : Cel)
abbrev AV.dat {α : Type} [Rp α] (x : α) : AV := .ex fun y => y = x
def AV.isOwn : AV → Prop
  | @AV.own _ _ _ => True
  | _ => False
/-- a list under a lock: read while a loop walks it, a parameter -/
structure Pr : Type 1 where
  {α : Type}
  [i : Rp α]
  p : Addr
  xs : List α
instance pr_rp (q : Pr) : Rp q.α := q.i
structure Ctx where
  w : Wd
  H0 : Hp
  pr : List Pr
  tu : List Hp
variable {K : PySem.W.Frag}
/-- what a slot holds -/
def SlOk (K : PySem.W.Frag) (c : Ctx) (H : Hp) (o : Option (Option V)) (ad : Addr) : AV → Prop
  | .un => True
  | @AV.ex α _ P => ∃ (v : V) (x : α), o = some (some v) ∧ rp K H v x ∧ P x
  | @AV.own _ _ xs => ∃ vs, o = some (some (.ref ad)) ∧ H ad = some (.lst vs) ∧ Rps K H vs xs ∧ Nf c.H0 ad ∧ ¬ c.w.S ad
  | @AV.lst _ _ _ => False
  | .val v => o = some (some v)
  | @AV.ownE _ _ _ => False
  | @AV.two _ _ _ _ _ _ => False
  | .cel C => ∃ u, o = some (some (.ref ad)) ∧ H ad = some u ∧ C.P K H u ∧ Nf c.H0 ad ∧ ¬ c.w.S ad
structure At (K : PySem.W.Frag) (c : Ctx) (ss : List AV) (σ : St) (H : Hp) : Prop where
  len : σ.length = ss.length
  gr : Gr c.w c.H0 H
  j : c.w.J H
  tu : ∀ h ∈ c.tu, Tu h H
  pr : ∀ q ∈ c.pr, ¬ c.w.S q.p ∧ ∃ vs, H q.p = some (.lst vs) ∧ Rps K H vs q.xs
  sl : ∃ ad : Nat → Addr, (∀ i s, ss[i]? = some s → SlOk K c H σ[i]? (ad i) s) ∧
    (∀ i j s t, ss[i]? = some s → ss[j]? = some t → s.isOwn → t.isOwn → i ≠ j → ad i ≠ ad j) ∧ ∀ i s, ss[i]? = some s → s.isOwn → ∀ q ∈ c.pr, ad i ≠ q.p
/-- what a result is: H before, H' behind -/
def RsOk (K : PySem.W.Frag) (w : Wd) (H H' : Hp) (v : V) : AV → Prop
  | .un => True
  | @AV.ex α _ P => ∃ x : α, rp K H' v x ∧ P x
  | @AV.own _ _ xs => ∃ p vs, v = .ref p ∧ Nf H p ∧ H' p = some (.lst vs) ∧ Rps K H' vs xs
  | @AV.lst _ _ xs => ∃ p vs, v = .ref p ∧ ¬ w.S p ∧ H' p = some (.lst vs) ∧ Rps K H' vs xs
  | .val u => v = u
  | @AV.ownE _ _ P => ∃ p vs xs, v = .ref p ∧ Nf H p ∧ H' p = some (.lst vs) ∧ Rps K H' vs xs ∧ P xs
  | @AV.two _ _ _ _ xs y => ∃ a p vs u, v = .ref a ∧ SqT K H' a [.ref p, u] ∧ Nf H p ∧ H' p = some (.lst vs) ∧ Rps K H' vs xs ∧ rp K H' u y
  | .cel C => ∃ p u, v = .ref p ∧ Nf H p ∧ H' p = some u ∧ C.P K H' u
theorem rd_gr {w : Wd} {H H' : Hp} (g : Gr w H H') {p : Addr} {vs : List V} (n : ¬ w.S p) (h : H p = some (.lst vs)) : H' p = some (.lst vs) := g.all p _ h n fun ps e => by cases e
theorem SlOk.mono {c : Ctx} {H H' : Hp} (g : Gr c.w H H') {o : Option (Option V)} {ad : Addr} : ∀ {s : AV}, SlOk K c H o ad s → SlOk K c H' o ad s
  | .un, _ => trivial
  | @AV.ex _ _ _, ⟨v, x, e, h, p⟩ => ⟨v, x, e, Rp.mono g.tu h, p⟩
  | @AV.own _ _ _, ⟨vs, e, h, r, h0, n⟩ => ⟨vs, e, g.all _ _ h n (fun ps e => by cases e), r.mono g.tu, h0, n⟩
  | @AV.lst _ _ _, h => h
  | .val _, h => h
  | @AV.ownE _ _ _, h => h
  | @AV.two _ _ _ _ _ _, h => h
  | .cel C, ⟨u, e, h, r, h0, n⟩ => ⟨u, e, g.all _ _ h n (C.nl r).2.1, C.mono g.tu r, h0, n⟩
theorem RsOk.mono {w : Wd} {H H1 H2 : Hp} {v : V} (j : w.J H) (g : Gr w H1 H2) : ∀ {s : AV}, RsOk K w H H1 v s → RsOk K w H H2 v s
  | .un, _ => trivial
  | @AV.ex _ _ _, ⟨x, h, p⟩ => ⟨x, Rp.mono g.tu h, p⟩
  | @AV.own _ _ _, ⟨p, vs, e, n, h, r⟩ => ⟨p, vs, e, n, g.all _ _ h (fun s => by
      obtain ⟨o, ho, ht⟩ := w.has j s
      exact n.no ho ht) (fun ps e => by cases e), r.mono g.tu⟩
  | @AV.lst _ _ _, ⟨p, vs, e, n, h, r⟩ => ⟨p, vs, e, n, rd_gr g n h, r.mono g.tu⟩
  | .val _, h => h
  | @AV.ownE _ _ _, ⟨p, vs, xs, e, n, h, r, px⟩ => ⟨p, vs, xs, e, n, g.all _ _ h (fun s => by
      obtain ⟨o, ho, ht⟩ := w.has j s
      exact n.no ho ht) (fun ps e => by cases e), r.mono g.tu, px⟩
  | @AV.two _ _ _ _ _ _, ⟨a, p, vs, u, e, t, n, h, r, hy⟩ => ⟨a, p, vs, u, e, g.tu.sq t, n, g.all _ _ h (fun s => by
      obtain ⟨o, ho, ht⟩ := w.has j s
      exact n.no ho ht) (fun ps e => by cases e), r.mono g.tu, Rp.mono g.tu hy⟩
  | .cel C, ⟨p, u, e, n, h, r⟩ => ⟨p, u, e, n, g.all _ _ h (fun s => by
      obtain ⟨o, ho, ht⟩ := w.has j s
      exact n.no ho ht) (C.nl r).2.1, C.mono g.tu r⟩
theorem RsOk.back {w : Wd} {H H1 H2 : Hp} {v : V} (g : Gr w H H1) : ∀ {s : AV}, RsOk K w H1 H2 v s → RsOk K w H H2 v s
  | .un, _ => trivial
  | @AV.ex _ _ _, h => h
  | @AV.own _ _ _, ⟨p, vs, e, n, h, r⟩ => ⟨p, vs, e, g.fresh n, h, r⟩
  | @AV.lst _ _ _, h => h
  | .val _, h => h
  | @AV.ownE _ _ _, ⟨p, vs, xs, e, n, h⟩ => ⟨p, vs, xs, e, g.fresh n, h⟩
  | @AV.two _ _ _ _ _ _, ⟨a, p, vs, u, e, t, n, h⟩ => ⟨a, p, vs, u, e, t, g.fresh n, h⟩
  | .cel C, ⟨p, u, e, n, h⟩ => ⟨p, u, e, g.fresh n, h⟩
theorem At.mono {c : Ctx} {ss : List AV} {σ : St} {H H' : Hp} (a : At K c ss σ H) (g : Gr c.w H H') (j : c.w.J H') : At K c ss σ H' :=
  ⟨a.len, a.gr.trans g, j, fun h hh => (a.tu h hh).trans g.tu, fun q hq => by
    obtain ⟨n, vs, h, r⟩ := a.pr q hq
    exact ⟨n, vs, rd_gr g n h, r.mono g.tu⟩, by
    obtain ⟨ad, h1, h2, h3⟩ := a.sl
    exact ⟨ad, fun i s e => (h1 i s e).mono g, h2, h3⟩⟩
theorem At.new {c : Ctx} {ss : List AV} {σ : St} {H : Hp} (a : At K c ss σ H) {p : Addr} {o : HO} (h : H p = none) : At K c ss σ (upd H p o) := a.mono (Gr.new h) (c.w.newJ a.j h)
theorem At.notS {c : Ctx} {ss : List AV} {σ : St} {H : Hp} (a : At K c ss σ H) {p : Addr} (h : Nf H p) : ¬ c.w.S p := fun s => by
  obtain ⟨o, e, ht⟩ := c.w.has a.j s
  exact h.no e ht
/-- a slot gets what it gets -/
theorem At.set {c : Ctx} {ss : List AV} {σ : St} {H : Hp} (a : At K c ss σ H) {i : Nat} {v : V} {s : AV} (ns : ¬ s.isOwn) (hs : ∀ ad, SlOk K c H (some (some v)) ad s) (hi : i < ss.length) : At K c (ss.set i s) (σ.set i (some v)) H := by
  refine ⟨by rw [List.length_set, List.length_set]; exact a.len, a.gr, a.j, a.tu, a.pr, ?_⟩
  obtain ⟨ad, h1, h2, h3⟩ := a.sl
  have hσ : i < σ.length := by rw [a.len]; exact hi
  refine ⟨ad, fun k t e => ?_, fun k l t u e1 e2 o1 o2 n => ?_, fun k t e o => ?_⟩
  · by_cases hk : k = i
    · subst hk
      rw [List.getElem?_set_self hi] at e
      cases e
      rw [List.getElem?_set_self hσ]
      exact hs _
    · rw [List.getElem?_set_ne (Ne.symm hk)] at e ⊢
      exact h1 k t e
  · by_cases hk : k = i
    · subst hk
      rw [List.getElem?_set_self hi] at e1
      cases e1
      exact absurd o1 ns
    · by_cases hl : l = i
      · subst hl
        rw [List.getElem?_set_self hi] at e2
        cases e2
        exact absurd o2 ns
      · rw [List.getElem?_set_ne (Ne.symm hk)] at e1
        rw [List.getElem?_set_ne (Ne.symm hl)] at e2
        exact h2 k l t u e1 e2 o1 o2 n
  · by_cases hk : k = i
    · subst hk
      rw [List.getElem?_set_self hi] at e
      cases e
      exact absurd o ns
    · rw [List.getElem?_set_ne (Ne.symm hk)] at e
      exact h3 k t e o
/-- a slot gets a new list -/
theorem At.setOwn {c : Ctx} {ss : List AV} {σ : St} {Hb H : Hp} (b : At K c ss σ Hb) (a : At K c ss σ H) {i : Nat} {p : Addr} {vs : List V} {α : Type} [Rp α] {xs : List α} (n : Nf Hb p) (h : H p = some (.lst vs)) (r : Rps K H vs xs) (hi : i < ss.length) :
    At K c (ss.set i (.own xs)) (σ.set i (some (.ref p))) H := by
  refine ⟨by rw [List.length_set, List.length_set]; exact a.len, a.gr, a.j, a.tu, a.pr, ?_⟩
  obtain ⟨ad, h1, h2, h3⟩ := a.sl
  obtain ⟨bd, g1, g2, g3⟩ := b.sl
  have hσ : i < σ.length := by rw [a.len]; exact hi
  have away : ∀ k s, ss[k]? = some s → s.isOwn → ad k ≠ p := fun k s e o z => by
    cases s with
    | own ys =>
      obtain ⟨vs1, e1, _⟩ := h1 k _ e
      obtain ⟨vs2, e2, e3, _⟩ := g1 k _ e
      have q : ad k = bd k := V.ref.inj (Option.some.inj (Option.some.inj (e1.symm.trans e2)))
      rw [← q, z] at e3
      exact n.noL e3
    | _ => exact o.elim
  have awayP : ∀ q ∈ c.pr, p ≠ q.p := fun q hq z => by
    obtain ⟨_, vs, h, _⟩ := b.pr q hq
    rw [← z] at h
    exact n.noL h
  refine ⟨fun k => if k = i then p else ad k, fun k t e => ?_, fun k l t u e1 e2 o1 o2 n => ?_, fun k t e o q hq => ?_⟩
  · by_cases hk : k = i
    · subst hk
      rw [List.getElem?_set_self hi] at e
      cases e
      rw [List.getElem?_set_self hσ]
      show SlOk K c H _ (if k = k then p else ad k) _
      rw [if_pos rfl]
      exact ⟨vs, rfl, h, r, b.gr.fresh n, b.notS n⟩
    · rw [List.getElem?_set_ne (Ne.symm hk)] at e ⊢
      show SlOk K c H _ (if k = i then p else ad k) _
      rw [if_neg hk]
      exact h1 k t e
  · show (if k = i then p else ad k) ≠ (if l = i then p else ad l)
    by_cases hk : k = i
    · by_cases hl : l = i
      · exact absurd (hk.trans hl.symm) n
      · rw [if_pos hk, if_neg hl]
        rw [List.getElem?_set_ne (Ne.symm hl)] at e2
        exact Ne.symm (away l u e2 o2)
    · by_cases hl : l = i
      · rw [if_neg hk, if_pos hl]
        rw [List.getElem?_set_ne (Ne.symm hk)] at e1
        exact away k t e1 o1
      · rw [if_neg hk, if_neg hl]
        rw [List.getElem?_set_ne (Ne.symm hk)] at e1
        rw [List.getElem?_set_ne (Ne.symm hl)] at e2
        exact h2 k l t u e1 e2 o1 o2 n
  · show (if k = i then p else ad k) ≠ q.p
    by_cases hk : k = i
    · rw [if_pos hk]
      exact awayP q hq
    · rw [if_neg hk]
      rw [List.getElem?_set_ne (Ne.symm hk)] at e
      exact h3 k t e o q hq
/-- a list of one's own is written -/
theorem At.put {c : Ctx} {ss : List AV} {σ : St} {H : Hp} (a : At K c ss σ H) {i : Nat} {α : Type} [Rp α] {xs ys : List α} (e : ss[i]? = some (.own xs)) :
    ∃ p vs, σ[i]? = some (some (.ref p)) ∧ H p = some (.lst vs) ∧ Rps K H vs xs ∧ ∀ us : List V, Rps K H us ys → At K c (ss.set i (.own ys)) σ (upd H p (.lst us)) ∧ c.w.J (upd H p (.lst us)) := by
  obtain ⟨ad, h1, h2, h3⟩ := a.sl
  obtain ⟨vs, e1, e2, r, h0, n⟩ := h1 i _ e
  have hi : i < ss.length := (List.getElem?_eq_some_iff.mp e).1
  refine ⟨ad i, vs, e1, e2, r, fun us hus => ⟨?_, c.w.putJ a.j e2 n⟩⟩
  have t : Tu H (upd H (ad i) (.lst us)) := Tu.put e2
  refine ⟨by rw [List.length_set]; exact a.len, a.gr.put h0 e2, c.w.putJ a.j e2 n, fun h hh => (a.tu h hh).trans t, fun q hq => ?_, ad, fun k s es => ?_, fun k l s u es eu o1 o2 hkl => ?_, fun k s es o q hq => ?_⟩
  · obtain ⟨m, ws, g, s⟩ := a.pr q hq
    refine ⟨m, ws, ?_, s.mono t⟩
    have hq2 : q.p ≠ ad i := Ne.symm (h3 i _ e trivial q hq)
    rw [upd_ne hq2]
    exact g
  · by_cases hk : k = i
    · subst hk
      rw [List.getElem?_set_self hi] at es
      cases es
      exact ⟨us, e1, upd_same, hus.mono t, h0, n⟩
    · rw [List.getElem?_set_ne (Ne.symm hk)] at es
      have q := h1 k s es
      cases s with
      | un => exact trivial
      | ex P =>
        obtain ⟨v, x, q1, q2, q3⟩ := q
        exact ⟨v, x, q1, Rp.mono t q2, q3⟩
      | own zs =>
        obtain ⟨ws, q1, q2, q3, q4, q5⟩ := q
        exact ⟨ws, q1, by rw [upd_ne (h2 k i _ _ es e trivial trivial hk)]; exact q2, q3.mono t, q4, q5⟩
      | lst zs => exact q
      | val v => exact q
      | ownE P => exact q
      | two a b => exact q
      | cel C =>
        obtain ⟨u, q1, q2, q3, q4, q5⟩ := q
        exact ⟨u, q1, by rw [upd_ne (fun z => (C.nl q3).1 _ (by rw [z, e2] at q2; exact (Option.some.inj q2).symm))]; exact q2, C.mono t q3, q4, q5⟩
  · have own_ : ∀ {k : Nat} {s : AV}, (ss.set i (.own ys))[k]? = some s → s.isOwn → ∃ s' : AV, ss[k]? = some s' ∧ s'.isOwn := fun {k s} es o => by
      by_cases hk : k = i
      · exact ⟨.own xs, by rw [hk]; exact e, trivial⟩
      · rw [List.getElem?_set_ne (Ne.symm hk)] at es
        exact ⟨s, es, o⟩
    obtain ⟨s', es', o'⟩ := own_ es o1
    obtain ⟨u', eu', p'⟩ := own_ eu o2
    exact h2 k l s' u' es' eu' o' p' hkl
  · by_cases hk : k = i
    · exact h3 k (.own xs) (by rw [hk]; exact e) trivial q hq
    · rw [List.getElem?_set_ne (Ne.symm hk)] at es
      exact h3 k s es o q hq
/-- less is known -/
theorem At.weak {c : Ctx} {ss tt : List AV} {σ : St} {H : Hp} (a : At K c ss σ H) (hl : tt.length = ss.length) (h : ∀ (i : Nat) t, tt[i]? = some t → ∃ s, ss[i]? = some s ∧ (t.isOwn → s.isOwn) ∧ ∀ o ad, SlOk K c H o ad s → SlOk K c H o ad t) : At K c tt σ H := by
  refine ⟨by rw [hl]; exact a.len, a.gr, a.j, a.tu, a.pr, ?_⟩
  obtain ⟨ad, h1, h2, h3⟩ := a.sl
  refine ⟨ad, fun i t e => ?_, fun i j t u e1 e2 o1 o2 n => ?_, fun i t e o => ?_⟩
  · obtain ⟨s, es, _, k⟩ := h i t e
    exact k _ _ (h1 i s es)
  · obtain ⟨s, es, os, _⟩ := h i t e1
    obtain ⟨s', es', os', _⟩ := h j u e2
    exact h2 i j s s' es es' (os o1) (os' o2) n
  · obtain ⟨s, es, os, _⟩ := h i t e
    exact h3 i s es (os o)
theorem At.var {c : Ctx} {ss : List AV} {σ : St} {H : Hp} (a : At K c ss σ H) {i : Nat} {α : Type} [Rp α] {P : α → Prop} (e : ss[i]? = some (.ex P)) : ∃ v x, σ[i]? = some (some v) ∧ rp K H v x ∧ P x := by
  obtain ⟨ad, h1, _⟩ := a.sl
  exact h1 i _ e
theorem At.varV {c : Ctx} {ss : List AV} {σ : St} {H : Hp} (a : At K c ss σ H) {i : Nat} {v : V} (e : ss[i]? = some (.val v)) : σ[i]? = some (some v) := by
  obtain ⟨ad, h1, _⟩ := a.sl
  exact h1 i _ e
theorem At.varL {c : Ctx} {ss : List AV} {σ : St} {H : Hp} (a : At K c ss σ H) {i : Nat} {α : Type} [Rp α] {xs : List α} (e : ss[i]? = some (.own xs)) : ∃ p vs, σ[i]? = some (some (.ref p)) ∧ ¬ c.w.S p ∧ H p = some (.lst vs) ∧ Rps K H vs xs ∧ Nf c.H0 p := by
  obtain ⟨ad, h1, _⟩ := a.sl
  obtain ⟨vs, e1, e2, r, h0, n⟩ := h1 i _ e
  exact ⟨_, vs, e1, n, e2, r, h0⟩
end Ab

/-! Ab2: expressions over abstract states. -/
namespace Ab
open PySem L2
open Ab.Rp (rp)
theorem _root_.L2.PE.wk {X : Cx} {e : Expr} {t t' : TE} (h : PE X e t) (k : ∀ σ H Q, t' σ H Q → t σ H Q) : PE X e t' := ⟨fun pins s σ H Q I q => h.run pins s σ H Q I (k σ H Q q)⟩
theorem _root_.L2.PT.wk {X : Cx} {e : Expr} {t t' : TT} (h : PT X e t) (k : ∀ σ H Q, t' σ H Q → t σ H Q) : PT X e t' := ⟨fun pins s σ H Q I q => h.run pins s σ H Q I (k σ H Q q)⟩
theorem _root_.L2.PW.wk {X : Cx} {e : Expr} {t t' : TT} (h : PW X e t) (k : ∀ σ H Q, t' σ H Q → t σ H Q) : PW X e t' := ⟨fun wh pins s σ H Q I q => h.run wh pins s σ H Q I (k σ H Q q)⟩
theorem _root_.L2.PA.wk {X : Cx} {e : List Expr} {t t' : TA} (h : PA X e t) (k : ∀ σ H Q, t' σ H Q → t σ H Q) : PA X e t' := ⟨fun pos pins s σ H Q I q => h.run pos pins s σ H Q I (k σ H Q q)⟩
theorem _root_.L2.PS.wk {X : Cx} {e : Stmt} {t t' : TS} (h : PS X e t) (k : ∀ D σ H, t' D σ H → t D σ H) : PS X e t' := ⟨fun pins s σ H D I q => h.run pins s σ H D I (k D σ H q)⟩
theorem _root_.L2.PSs.wk {X : Cx} {e : List Stmt} {t t' : TS} (h : PSs X e t) (k : ∀ D σ H, t' D σ H → t D σ H) : PSs X e t' := ⟨fun pins s σ H D I q => h.run pins s σ H D I (k D σ H q)⟩
theorem _root_.L2.PE.all {X : Cx} {e : Expr} {ι : Sort u} {t : ι → TE} (h : ∀ i, PE X e (t i)) : PE X e (fun σ H Q => ∃ i, t i σ H Q) := ⟨fun pins s σ H Q I ⟨i, q⟩ => (h i).run pins s σ H Q I q⟩
theorem _root_.L2.PT.all {X : Cx} {e : Expr} {ι : Sort u} {t : ι → TT} (h : ∀ i, PT X e (t i)) : PT X e (fun σ H Q => ∃ i, t i σ H Q) := ⟨fun pins s σ H Q I ⟨i, q⟩ => (h i).run pins s σ H Q I q⟩
theorem _root_.L2.PSs.all {X : Cx} {e : List Stmt} {ι : Sort u} {t : ι → TS} (h : ∀ i, PSs X e (t i)) : PSs X e (fun D σ H => ∃ i, t i D σ H) := ⟨fun pins s σ H D I ⟨i, q⟩ => (h i).run pins s σ H D I q⟩

section
variable (K : PySem.W.Frag) (c : Ctx) (ss : List AV)
def tX (r : AV) : TE := fun σ H Q => At K c ss σ H ∧ ∀ v H', At K c ss σ H' → Gr c.w H H' → RsOk K c.w H H' v r → Q v H'
def tB (P : Bool → Prop) : TT := fun σ H Q => At K c ss σ H ∧ ∀ b H', At K c ss σ H' → Gr c.w H H' → P b → Q b H'
end
def RsOks (K : PySem.W.Frag) (w : Wd) (H H' : Hp) : List V → List AV → Prop
  | [], [] => True
  | v :: vs, r :: rs => RsOk K w H H' v r ∧ RsOks K w H H' vs rs
  | _, _ => False
theorem RsOks.len {K : PySem.W.Frag} {w : Wd} {H H' : Hp} : ∀ {vs : List V} {rs : List AV}, RsOks K w H H' vs rs → vs.length = rs.length
  | [], [], _ => rfl
  | _ :: vs, _ :: rs, h => by rw [List.length_cons, List.length_cons, RsOks.len (vs := vs) (rs := rs) h.2]
  | [], _ :: _, h => h.elim
  | _ :: _, [], h => h.elim
theorem RsOks.back {K : PySem.W.Frag} {w : Wd} {H H1 H2 : Hp} (g : Gr w H H1) : ∀ {vs : List V} {rs : List AV}, RsOks K w H1 H2 vs rs → RsOks K w H H2 vs rs
  | [], [], _ => trivial
  | _ :: vs, _ :: rs, h => ⟨h.1.back g, RsOks.back g (vs := vs) (rs := rs) h.2⟩
  | [], _ :: _, h => h.elim
  | _ :: _, [], h => h.elim
def AV.ownB : AV → Bool
  | @AV.own _ _ _ => true
  | @AV.ownE _ _ _ => true
  | @AV.two _ _ _ _ _ _ => true
  | .cel _ => true
  | _ => false
theorem RsOk.here {K : PySem.W.Frag} {w : Wd} {H H' : Hp} {v : V} : ∀ {r : AV}, r.ownB = false → RsOk K w H H' v r → RsOk K w H' H' v r
  | .un, _, _ => trivial
  | @AV.ex _ _ _, _, h => h
  | @AV.own _ _ _, e, _ => by cases e
  | @AV.lst _ _ _, _, h => h
  | .val _, _, h => h
  | @AV.ownE _ _ _, e, _ => by cases e
  | @AV.two _ _ _ _ _ _, e, _ => by cases e
  | .cel _, e, _ => by cases e
theorem RsOks.here {K : PySem.W.Frag} {w : Wd} {H H' : Hp} : ∀ {vs : List V} {rs : List AV}, (rs.any AV.ownB) = false → RsOks K w H H' vs rs → RsOks K w H' H' vs rs
  | [], [], _, _ => trivial
  | _ :: vs, r :: rs, e, h => by
    rw [List.any_cons, Bool.or_eq_false_iff] at e
    exact ⟨h.1.here e.1, RsOks.here (vs := vs) (rs := rs) e.2 h.2⟩
  | [], _ :: _, _, h => h.elim
  | _ :: _, [], _, h => h.elim
def tA (K : PySem.W.Frag) (c : Ctx) (ss : List AV) (rs : List AV) : TA := fun σ H Q => At K c ss σ H ∧ ∀ vs H', At K c ss σ H' → Gr c.w H H' → RsOks K c.w H H' vs rs → Q vs H'
abbrev XE (X : Cx) (c : Ctx) (ss : List AV) (e : Expr) (r : AV) : Prop := PE X e (tX X.K c ss r)
abbrev XT (X : Cx) (c : Ctx) (ss : List AV) (e : Expr) (P : Bool → Prop) : Prop := PT X e (tB X.K c ss P)
abbrev XA (X : Cx) (c : Ctx) (ss : List AV) (es : List Expr) (rs : List AV) : Prop := PA X es (tA X.K c ss rs)

section
variable {K : PySem.W.Frag} {c : Ctx} {ss : List AV} {σ : St} {H : Hp} {Q : VK}
/-- on with the rest -/
theorem tX.go {r : AV} (h : tX K c ss r σ H Q) {H1 : Hp} (a : At K c ss σ H1) (g : Gr c.w H H1) : tX K c ss r σ H1 Q := ⟨a, fun v H2 a2 g2 ok => h.2 v H2 a2 (g.trans g2) (ok.back g)⟩
theorem tX.give {r : AV} (h : tX K c ss r σ H Q) {v : V} (ok : RsOk K c.w H H v r) : Q v H := h.2 v H h.1 (Gr.refl _ _) ok
end
/-- a two-place operation by abstract values -/
def Op2 (K : PySem.W.Frag) (c : Ctx) (r : R2) (ra rb R : AV) : Prop := ∀ (ss : List AV) (σ : St) (H H2 : Hp) (x y : V) (Q : VK), c.w.J H → Gr c.w H H2 → RsOk K c.w H H2 x ra → RsOk K c.w H H2 y rb → tX K c ss R σ H2 Q → r x y H2 Q
section
variable {X : Cx} {c : Ctx} {ss : List AV} {a b e : Expr} {pos : Pos} {ra rb R : AV} {r : R2}
theorem tOp_of (h : Op2 X.K c r ra rb R) : ∀ σ H Q, tX X.K c ss R σ H Q → tOp r (tX X.K c ss ra) (tX X.K c ss rb) σ H Q := fun σ H Q q =>
  ⟨q.1, fun x H1 a1 g1 k1 => ⟨a1, fun y H2 a2 g2 k2 => h ss σ H H2 x y Q q.1.j (g1.trans g2) (k1.mono q.1.j g2) (k2.back g1) (q.go a2 (g1.trans g2))⟩⟩
theorem x_op {op : Operator} (ho : OpR X (binaryOp op) r) (h : Op2 X.K c r ra rb R) (ha : XE X c ss a ra) (hb : XE X c ss b rb) : XE X c ss (.BinOp a op b pos) R := (pe_op ho ha hb).wk (tOp_of h)
theorem x_cmp {op : CmpOp} (ho : OpR X (compareOp op) r) (h : Op2 X.K c r ra rb R) (ha : XE X c ss a ra) (hb : XE X c ss b rb) (hm : behindInMarks op b = false := by first | exact nomark _ | rfl) : XE X c ss (.Compare a [op] [b] pos) R := (pe_cmpR ho ha hb hm).wk (tOp_of h)
theorem x_ixR (ho : IxR X r) (h : Op2 X.K c r ra rb R) (ha : XE X c ss a ra) (hb : XE X c ss b rb) (hs : PlainIx b := by exact fun _ _ => rfl) : XE X c ss (.Subscript a b pos) R := (pe_ix ho ha hb hs).wk (tOp_of h)
/-- another word for the same -/
theorem x_conv {r r' : AV} (h : XE X c ss e r) (k : ∀ H H' v, c.w.J H → RsOk X.K c.w H H' v r → RsOk X.K c.w H H' v r') : XE X c ss e r' := h.wk fun σ H Q q => ⟨q.1, fun v H' a g ok => q.2 v H' a g (k H H' v q.1.j ok)⟩
section
variable {α β γ : Type} [Rp α] [Rp β] [Rp γ]
theorem x_imp {P P' : α → Prop} (h : XE X c ss e (.ex P)) (k : ∀ x, P x → P' x) : XE X c ss e (.ex P') := x_conv h fun _ _ _ _ ⟨x, r, p⟩ => ⟨x, r, k x p⟩
theorem x_eq {x y : α} (h : XE X c ss e (.dat x)) (k : x = y) : XE X c ss e (.dat y) := x_imp h fun z p => p.trans k
theorem x_some {x : α} (h : XE X c ss e (.dat x)) : XE X c ss e (.dat (some x)) := x_conv h fun _ _ _ _ ⟨y, r, p⟩ => ⟨some y, r, by rw [p]⟩
theorem x_get {x : α} (h : XE X c ss e (.dat (some x))) : XE X c ss e (.dat x) := x_conv h fun _ _ _ _ ⟨y, r, p⟩ => by
  subst p
  exact ⟨x, r, rfl⟩
theorem x_lst {xs : List α} (h : XE X c ss e (.own xs)) : XE X c ss e (.lst xs) := x_conv h fun H H' v j ⟨p, vs, e, n, k, r⟩ => ⟨p, vs, e, (fun s => by
  obtain ⟨o, ho, ht⟩ := c.w.has j s
  exact n.no ho ht), k, r⟩
/-! ### names, constants -/
theorem x_var (i : Nat) {x : Str} {P : α → Prop} (e : ss[i]? = some (.ex P) := by rfl) (hN : X.N[i]? = some x := by rfl) (hv : Vis X.env.scope x := by first | exact Or.inl rfl | exact Or.inr (Or.inl rfl) | exact Or.inr (Or.inr rfl))
    (hd : (x == ("__debug__" : Str)) = false := by decide) (hcd : (x == ("__classdict__" : Str)) = false := by decide) : XE X c ss (.Name x pos) (.ex P) := (pe_var hN hv hd hcd).wk fun σ H Q q => by
  obtain ⟨v, x, h1, h2, h3⟩ := q.1.var e
  exact ⟨v, h1, q.give ⟨x, h2, h3⟩⟩
theorem x_varV (i : Nat) {x : Str} {v : V} (e : ss[i]? = some (.val v) := by rfl) (hN : X.N[i]? = some x := by rfl) (hv : Vis X.env.scope x := by first | exact Or.inl rfl | exact Or.inr (Or.inl rfl) | exact Or.inr (Or.inr rfl))
    (hd : (x == ("__debug__" : Str)) = false := by decide) (hcd : (x == ("__classdict__" : Str)) = false := by decide) : XE X c ss (.Name x pos) (.val v) := (pe_var hN hv hd hcd).wk fun σ H Q q => ⟨v, q.1.varV e, q.give rfl⟩
/-- a list of one's own is read -/
theorem x_varL (i : Nat) {x : Str} {xs : List α} (e : ss[i]? = some (.own xs) := by rfl) (hN : X.N[i]? = some x := by rfl) (hv : Vis X.env.scope x := by first | exact Or.inl rfl | exact Or.inr (Or.inl rfl) | exact Or.inr (Or.inr rfl))
    (hd : (x == ("__debug__" : Str)) = false := by decide) (hcd : (x == ("__classdict__" : Str)) = false := by decide) : XE X c ss (.Name x pos) (.lst xs) := (pe_var hN hv hd hcd).wk fun σ H Q q => by
  obtain ⟨p, vs, h1, h2, h3, h4, _⟩ := q.1.varL e
  exact ⟨.ref p, h1, q.give ⟨p, vs, rfl, h2, h3, h4⟩⟩
/-- a locked list is read -/
theorem x_varP (i : Nat) {x : Str} {p : Addr} {xs : List α} (m : Pr.mk p xs ∈ c.pr) (e : ss[i]? = some (.val (.ref p)) := by rfl) (hN : X.N[i]? = some x := by rfl) (hv : Vis X.env.scope x := by first | exact Or.inl rfl | exact Or.inr (Or.inl rfl) | exact Or.inr (Or.inr rfl))
    (hd : (x == ("__debug__" : Str)) = false := by decide) (hcd : (x == ("__classdict__" : Str)) = false := by decide) : XE X c ss (.Name x pos) (.lst xs) := (pe_var hN hv hd hcd).wk fun σ H Q q => by
  obtain ⟨n, vs, h3, h4⟩ := q.1.pr _ m
  exact ⟨.ref p, q.1.varV e, q.give ⟨p, vs, rfl, n, h3, h4⟩⟩
theorem x_c {v : V} {r : AV} (h : PE X e (tC v)) (k : ∀ H, RsOk X.K c.w H H v r) : XE X c ss e r := h.wk fun σ H Q q => q.give (k H)
theorem x_int {n : Int} {j : Nat} : XE X c ss (.Constant (.int n) j pos) (.dat n) := x_c pe_int fun H => ⟨n, rfl, rfl⟩
theorem x_bl {b : Bool} {j : Nat} : XE X c ss (.Constant (.bool b) j pos) (.dat b) := x_c pe_bl fun H => ⟨b, rfl, rfl⟩
theorem x_str {s : Str} {j : Nat} : XE X c ss (.Constant (.str s) j pos) (.dat s) := x_c pe_str fun H => ⟨s, rfl, rfl⟩
theorem x_non {j : Nat} : XE X c ss (.Constant .none j pos) (.dat (none : Option α)) := x_c pe_non fun H => ⟨none, rfl, rfl⟩
/-! ### numbers -/
theorem o_I0 {g : Int → Int → V} {P Q : Int → Prop} {R : β → Prop} (k : ∀ i j H, P i → Q j → ∃ z, rp X.K H (g i j) z ∧ R z) : Op2 X.K c (rI0 g) (.ex P) (.ex Q) (.ex R) := fun _ _ _ H2 _ _ _ _ _ ⟨i, h1, p⟩ ⟨j, h2, q⟩ t => by
  obtain ⟨z, r, s⟩ := k i j H2 p q
  exact ⟨i, j, h1, h2, t.give ⟨z, r, s⟩⟩
theorem o_I {C : Int → Int → Prop} {g : Int → Int → V} {P Q : Int → Prop} {R : β → Prop} (k : ∀ i j H, P i → Q j → C i j ∧ ∃ z, rp X.K H (g i j) z ∧ R z) : Op2 X.K c (rI C g) (.ex P) (.ex Q) (.ex R) := fun _ _ _ H2 _ _ _ _ _ ⟨i, h1, p⟩ ⟨j, h2, q⟩ t => by
  obtain ⟨d, z, r, s⟩ := k i j H2 p q
  exact ⟨i, j, h1, h2, d, t.give ⟨z, r, s⟩⟩
theorem x_addE {P Q R : Int → Prop} (k : ∀ i j, P i → Q j → R (i + j)) (ha : XE X c ss a (.ex P)) (hb : XE X c ss b (.ex Q)) : XE X c ss (.BinOp a .Add b pos) (.ex R) := x_op op_add (o_I0 fun i j _ p q => ⟨i + j, rfl, k i j p q⟩) ha hb
theorem x_subE {P Q R : Int → Prop} (k : ∀ i j, P i → Q j → R (i - j)) (ha : XE X c ss a (.ex P)) (hb : XE X c ss b (.ex Q)) : XE X c ss (.BinOp a .Sub b pos) (.ex R) := x_op op_sub (o_I0 fun i j _ p q => ⟨i - j, rfl, k i j p q⟩) ha hb
theorem x_mulE {P Q R : Int → Prop} (k : ∀ i j, P i → Q j → CMulW i j ∧ R (i * j)) (ha : XE X c ss a (.ex P)) (hb : XE X c ss b (.ex Q)) : XE X c ss (.BinOp a .Mult b pos) (.ex R) := x_op op_mulW (o_I fun i j _ p q => ⟨(k i j p q).1, i * j, rfl, (k i j p q).2⟩) ha hb
theorem x_divE {P Q R : Int → Prop} (k : ∀ i j, P i → Q j → CDivW i j ∧ R (i / j)) (ha : XE X c ss a (.ex P)) (hb : XE X c ss b (.ex Q)) : XE X c ss (.BinOp a .FloorDiv b pos) (.ex R) := x_op op_fdivW (o_I fun i j _ p q => ⟨(k i j p q).1, i / j, rfl, (k i j p q).2⟩) ha hb
theorem x_modE {P Q R : Int → Prop} (k : ∀ i j, P i → Q j → 0 < j ∧ R (i % j)) (ha : XE X c ss a (.ex P)) (hb : XE X c ss b (.ex Q)) : XE X c ss (.BinOp a .Mod b pos) (.ex R) := x_op op_mod (o_I fun i j _ p q => ⟨(k i j p q).1, i % j, rfl, (k i j p q).2⟩) ha hb
variable {i j : Int}
theorem x_add (ha : XE X c ss a (.dat i)) (hb : XE X c ss b (.dat j)) : XE X c ss (.BinOp a .Add b pos) (.dat (i + j)) := x_addE (fun _ _ p q => by rw [p, q]) ha hb
theorem x_sub (ha : XE X c ss a (.dat i)) (hb : XE X c ss b (.dat j)) : XE X c ss (.BinOp a .Sub b pos) (.dat (i - j)) := x_subE (fun _ _ p q => by rw [p, q]) ha hb
theorem x_mul (h : CMulW i j) (ha : XE X c ss a (.dat i)) (hb : XE X c ss b (.dat j)) : XE X c ss (.BinOp a .Mult b pos) (.dat (i * j)) := x_mulE (fun _ _ p q => by rw [p, q]; exact ⟨h, rfl⟩) ha hb
theorem x_div (h : CDivW i j) (ha : XE X c ss a (.dat i)) (hb : XE X c ss b (.dat j)) : XE X c ss (.BinOp a .FloorDiv b pos) (.dat (i / j)) := x_divE (fun _ _ p q => by rw [p, q]; exact ⟨h, rfl⟩) ha hb
theorem x_mod (h : 0 < j) (ha : XE X c ss a (.dat i)) (hb : XE X c ss b (.dat j)) : XE X c ss (.BinOp a .Mod b pos) (.dat (i % j)) := x_modE (fun _ _ p q => by rw [p, q]; exact ⟨h, rfl⟩) ha hb
theorem x_neg (ha : XE X c ss a (.dat i)) : XE X c ss (.UnaryOp .USub a pos) (.dat (-i)) := (pe_un un_neg ha).wk fun σ H Q q => ⟨q.1, fun v H1 a1 g1 ⟨y, h, p⟩ => by
  subst p
  exact ⟨y, h, (q.go a1 g1).give ⟨-y, rfl, rfl⟩⟩⟩
theorem x_powc (h : 0 ≤ j ∧ j ≤ 1000000 ∧ i.natAbs < 2 ^ 64) (ha : XE X c ss a (.dat i)) (hb : XE X c ss b (.dat j)) : XE X c ss (.BinOp a .Pow b pos) (.dat (i ^ j.toNat)) :=
  x_op op_pow (o_I fun x y _ p q => by rw [p, q]; exact ⟨h, i ^ j.toNat, rfl, rfl⟩) ha hb
/-! ### comparisons of numbers -/
theorem x_ltE {P Q : Int → Prop} {R : Bool → Prop} (k : ∀ i j, P i → Q j → R (decide (i < j))) (ha : XE X c ss a (.ex P)) (hb : XE X c ss b (.ex Q)) : XE X c ss (.Compare a [.Lt] [b] pos) (.ex R) := x_cmp op_lt (o_I0 fun i j _ p q => ⟨_, rfl, k i j p q⟩) ha hb
theorem x_leE {P Q : Int → Prop} {R : Bool → Prop} (k : ∀ i j, P i → Q j → R (decide (i ≤ j))) (ha : XE X c ss a (.ex P)) (hb : XE X c ss b (.ex Q)) : XE X c ss (.Compare a [.LtE] [b] pos) (.ex R) := x_cmp op_le (o_I0 fun i j _ p q => ⟨_, rfl, k i j p q⟩) ha hb
theorem x_gtE {P Q : Int → Prop} {R : Bool → Prop} (k : ∀ i j, P i → Q j → R (decide (j < i))) (ha : XE X c ss a (.ex P)) (hb : XE X c ss b (.ex Q)) : XE X c ss (.Compare a [.Gt] [b] pos) (.ex R) := x_cmp op_gt (o_I0 fun i j _ p q => ⟨_, rfl, k i j p q⟩) ha hb
theorem x_geE {P Q : Int → Prop} {R : Bool → Prop} (k : ∀ i j, P i → Q j → R (decide (j ≤ i))) (ha : XE X c ss a (.ex P)) (hb : XE X c ss b (.ex Q)) : XE X c ss (.Compare a [.GtE] [b] pos) (.ex R) := x_cmp op_ge (o_I0 fun i j _ p q => ⟨_, rfl, k i j p q⟩) ha hb
theorem x_lt (ha : XE X c ss a (.dat i)) (hb : XE X c ss b (.dat j)) : XE X c ss (.Compare a [.Lt] [b] pos) (.dat (decide (i < j))) := x_ltE (fun _ _ p q => by rw [p, q]) ha hb
theorem x_le (ha : XE X c ss a (.dat i)) (hb : XE X c ss b (.dat j)) : XE X c ss (.Compare a [.LtE] [b] pos) (.dat (decide (i ≤ j))) := x_leE (fun _ _ p q => by rw [p, q]) ha hb
theorem x_gt (ha : XE X c ss a (.dat i)) (hb : XE X c ss b (.dat j)) : XE X c ss (.Compare a [.Gt] [b] pos) (.dat (decide (j < i))) := x_gtE (fun _ _ p q => by rw [p, q]) ha hb
theorem x_ge (ha : XE X c ss a (.dat i)) (hb : XE X c ss b (.dat j)) : XE X c ss (.Compare a [.GtE] [b] pos) (.dat (decide (j ≤ i))) := x_geE (fun _ _ p q => by rw [p, q]) ha hb
theorem x_eqI {P Q : Int → Prop} {R : Bool → Prop} (k : ∀ i j, P i → Q j → R (decide (i = j))) (ha : XE X c ss a (.ex P)) (hb : XE X c ss b (.ex Q)) : XE X c ss (.Compare a [.Eq] [b] pos) (.ex R) :=
  x_cmp op_eq (ra := .ex P) (rb := .ex Q) (fun _ _ _ _ _ _ _ _ _ ⟨i, h1, p⟩ ⟨j, h2, q⟩ t => by
    obtain rfl : _ = V.int i := h1
    obtain rfl : _ = V.int j := h2
    refine ⟨rfl, t.give ⟨decide (i = j), ?_, k i j p q⟩⟩
    show V.bl (decide (V.int i = V.int j)) = V.bl (decide (i = j))
    congr 1
    exact decide_eq_decide.mpr ⟨fun e => V.int.inj e, fun e => by rw [e]⟩) ha hb
theorem x_eqi (ha : XE X c ss a (.dat i)) (hb : XE X c ss b (.dat j)) : XE X c ss (.Compare a [.Eq] [b] pos) (.dat (decide (i = j))) := x_eqI (fun _ _ p q => by rw [p, q]) ha hb
/-- is None, is not None -/
theorem x_isN {x : Option α} (hn : ∀ (y : α) H, ¬ rp X.K H .non y) (ha : XE X c ss a (.dat x)) {k : Nat} {p2 : Pos} : XE X c ss (.Compare a [.Is] [.Constant .none k p2] pos) (.dat x.isNone) :=
  x_cmp op_isN (ra := .dat x) (rb := .dat (none : Option α)) (fun _ _ _ H2 _ _ _ _ _ ⟨y, h1, p⟩ ⟨z, h2, q⟩ t => by
    subst p q
    refine ⟨h2, t.give ⟨y.isNone, ?_, rfl⟩⟩
    cases y with
    | none =>
      obtain rfl : _ = V.non := h1
      rfl
    | some y =>
      show V.bl (decide _) = V.bl false
      rw [decide_eq_false]
      rintro rfl
      exact hn y H2 h1) ha x_non
theorem x_notN {x : Option α} (hn : ∀ (y : α) H, ¬ rp X.K H .non y) (ha : XE X c ss a (.dat x)) {k : Nat} {p2 : Pos} : XE X c ss (.Compare a [.IsNot] [.Constant .none k p2] pos) (.dat x.isSome) :=
  x_cmp op_notN (ra := .dat x) (rb := .dat (none : Option α)) (fun _ _ _ H2 _ _ _ _ _ ⟨y, h1, p⟩ ⟨z, h2, q⟩ t => by
    subst p q
    refine ⟨h2, t.give ⟨y.isSome, ?_, rfl⟩⟩
    cases y with
    | none =>
      obtain rfl : _ = V.non := h1
      rfl
    | some y =>
      show V.bl (!decide _) = V.bl true
      rw [decide_eq_false]
      · rfl
      rintro rfl
      exact hn y H2 h1) ha x_non
/-! ### tuples are read -/
/-- an item of a tuple by a written place -/
theorem x_ixT {P : α → Prop} {R : β → Prop} {n : Int} {k : Nat} {p2 : Pos} (h : ∀ H v x, rp X.K H v x → P x → ∃ p vs u z, v = .ref p ∧ SqT X.K H p vs ∧ atI vs n = some u ∧ rp X.K H u z ∧ R z) (ha : XE X c ss a (.ex P)) :
    XE X c ss (.Subscript a (.Constant (.int n) k p2) pos) (.ex R) :=
  x_ixR ix_tup (ra := .ex P) (rb := .dat n) (fun _ _ _ H2 _ _ _ _ _ ⟨x, h1, p⟩ ⟨m, h2, q⟩ t => by
    subst q
    obtain ⟨p, vs, u, z, e, h3, h4, h5, h6⟩ := h H2 _ x h1 p
    exact ⟨p, vs, m, u, e, h2, h3, h4, t.give ⟨z, h5, h6⟩⟩) ha x_int
variable {k k2 : Nat} {p2 p3 : Pos}
theorem x_fst {x : α × β} (ha : XE X c ss a (.dat x)) : XE X c ss (.Subscript a (.Constant (.int 0) k p2) pos) (.dat x.1) := x_ixT (P := fun y : α × β => y = x) (fun H v y ⟨p, u, w, e, h, h1, h2⟩ q => ⟨p, _, u, y.1, e, h, rfl, h1, by rw [q]⟩) ha
theorem x_snd {x : α × β} (ha : XE X c ss a (.dat x)) : XE X c ss (.Subscript a (.Constant (.int 1) k p2) pos) (.dat x.2) := x_ixT (P := fun y : α × β => y = x) (fun H v y ⟨p, u, w, e, h, h1, h2⟩ q => ⟨p, _, w, y.2, e, h, rfl, h2, by rw [q]⟩) ha
theorem x_num {x : Rat} (ha : XE X c ss a (.dat x)) : XE X c ss (.Subscript a (.Constant (.int 0) k p2) pos) (.dat x.num) := x_ixT (P := fun y : Rat => y = x) (fun H v y ⟨p, e, h⟩ q => ⟨p, _, .int y.num, y.num, e, tup_sq h, rfl, rfl, by rw [q]⟩) ha
theorem x_den {x : Rat} (ha : XE X c ss a (.dat x)) : XE X c ss (.Subscript a (.Constant (.int 1) k p2) pos) (.dat (x.den : Int)) := x_ixT (P := fun y : Rat => y = x) (fun H v y ⟨p, e, h⟩ q => ⟨p, _, .int y.den, (y.den : Int), e, tup_sq h, rfl, rfl, by rw [q]⟩) ha
theorem x_rname {x : Rope} (ha : XE X c ss a (.dat x)) : XE X c ss (.Subscript a (.Constant (.int 0) k p2) pos) (.dat x.name) := x_ixT (P := fun y : Rope => y = x) (fun H v y ⟨p, e, h⟩ q => ⟨p, _, .str y.name, y.name, e, h, rfl, rfl, by rw [q]⟩) ha
theorem x_rslack {x : Rope} (ha : XE X c ss a (.dat x)) : XE X c ss (.Subscript a (.Constant (.int 1) k p2) pos) (.dat x.slack) := x_ixT (P := fun y : Rope => y = x) (fun H v y ⟨p, e, h⟩ q => ⟨p, _, .int y.slack, y.slack, e, h, rfl, rfl, by rw [q]⟩) ha
theorem x_rstiff {x : Rope} (ha : XE X c ss a (.dat x)) : XE X c ss (.Subscript a (.Constant (.int 2) k p2) pos) (.dat x.stiff) := x_ixT (P := fun y : Rope => y = x) (fun H v y ⟨p, e, h⟩ q => ⟨p, _, .int y.stiff, y.stiff, e, h, rfl, rfl, by rw [q]⟩) ha
theorem x_rstrong {x : Rope} (ha : XE X c ss a (.dat x)) : XE X c ss (.Subscript a (.Constant (.int 3) k p2) pos) (.dat x.strong) := x_ixT (P := fun y : Rope => y = x) (fun H v y ⟨p, e, h⟩ q => ⟨p, _, .int y.strong, y.strong, e, h, rfl, rfl, by rw [q]⟩) ha
end
/-! ### arguments, displays -/
theorem xa_nil : XA X c ss [] [] := pa_nil.wk fun σ H Q q => q.2 [] H q.1 (Gr.refl _ _) trivial
theorem xa_cons {r : AV} {rs : List AV} {es : List Expr} (ha : XE X c ss e r) (hr : XA X c ss es rs) (hs : starEach (e :: es) X.env = (false, eval e X.env) :: starEach es X.env := by rfl) : XA X c ss (e :: es) (r :: rs) :=
  (pa_cons ha hr hs).wk fun σ H Q q => ⟨q.1, fun v H1 a1 g1 k1 => ⟨a1, fun vs H2 a2 g2 k2 => q.2 (v :: vs) H2 a2 (g1.trans g2) ⟨k1.mono q.1.j g2, k2.back g1⟩⟩⟩
theorem x_tup {es : List Expr} {rs : List AV} {k : Nat} (hl : rs.length ≤ 1000) (hr : ∀ (H H' : Hp) (vs : List V) (p : Addr), RsOks X.K c.w H H' vs rs → H' p = some (.tup vs) → RsOk X.K c.w H H' (.ref p) R) (ha : XA X c ss es rs) (hR : R.ownB = false := by rfl) : XE X c ss (.Tuple es k pos) R :=
  (pe_tup ha).wk fun σ H Q q => ⟨q.1, fun vs H1 a1 g1 k1 => ⟨by rw [k1.len]; exact Nat.le_of_lt (small1000 hl), fun p hp => by
    have g2 : Gr c.w H1 (upd H1 p (.tup vs)) := Gr.new hp
    have oks : ∀ {us : List V} {ts : List AV}, RsOks X.K c.w H H1 us ts → RsOks X.K c.w H (upd H1 p (.tup vs)) us ts := fun {us ts} => by
      induction us generalizing ts with
      | nil => cases ts with
        | nil => exact fun _ => trivial
        | cons t ts => exact fun h => h.elim
      | cons u us ih => cases ts with
        | nil => exact fun h => h.elim
        | cons t ts => exact fun h => ⟨h.1.mono q.1.j g2, ih h.2⟩
    exact q.2 (.ref p) _ (a1.new hp) (g1.trans g2) (hr H _ vs p (oks k1) upd_same)⟩⟩
section
variable {α β γ : Type} [Rp α] [Rp β] [Rp γ] {es : List Expr} {k : Nat}
theorem x_pairE {P : α → Prop} {Q : β → Prop} {R : α × β → Prop} (h : ∀ x y, P x → Q y → R (x, y)) (ha : XA X c ss es [.ex P, .ex Q]) : XE X c ss (.Tuple es k pos) (.ex R) :=
  x_tup (rs := [.ex P, .ex Q]) (R := .ex R) (by show 2 ≤ 1000; decide) (fun H H' vs p ok t => match vs, ok with | [u, w], ⟨⟨x, h1, p1⟩, ⟨y, h2, p2⟩, _⟩ => ⟨(x, y), ⟨p, u, w, rfl, tup_sq t, h1, h2⟩, h x y p1 p2⟩) ha
theorem x_pair {x : α} {y : β} (ha : XA X c ss es [.dat x, .dat y]) : XE X c ss (.Tuple es k pos) (.dat (x, y)) := x_pairE (fun _ _ p q => by rw [p, q]) ha
theorem x_t3 {x : α} {y : β} {z : γ} (ha : XA X c ss es [.dat x, .dat y, .dat z]) : XE X c ss (.Tuple es k pos) (.dat (T3.mk x y z)) :=
  x_tup (rs := [.dat x, .dat y, .dat z]) (R := .dat (T3.mk x y z)) (by show 3 ≤ 1000; decide) (fun H H' vs p ok t => match vs, ok with | [u, w, o], ⟨⟨x', h1, p1⟩, ⟨y', h2, p2⟩, ⟨z', h3, p3⟩, _⟩ => ⟨⟨x', y', z'⟩, ⟨p, u, w, o, rfl, tup_sq t, h1, h2, h3⟩, by rw [p1, p2, p3]⟩) ha
/-- a fraction in lowest terms -/
theorem x_rat {n m : Int} {q : Rat} (h : q.num = n ∧ (q.den : Int) = m) (ha : XA X c ss es [.dat n, .dat m]) : XE X c ss (.Tuple es k pos) (.dat q) :=
  x_tup (rs := [.dat n, .dat m]) (R := .dat q) (by show 2 ≤ 1000; decide) (fun H H' vs p ok t => match vs, ok with | [u, w], ⟨⟨x, h1, p1⟩, ⟨y, h2, p2⟩, _⟩ => ⟨q, ⟨p, rfl, by
    rw [h.1, h.2, ← p1, ← p2]
    rw [show u = V.int x from h1, show w = V.int y from h2] at t
    exact t⟩, rfl⟩) ha
theorem x_ropeE {P1 : Str → Prop} {P2 P3 P4 : Int → Prop} {R : Rope → Prop} (h : ∀ n s f g, P1 n → P2 s → P3 f → P4 g → R ⟨n, s, f, g⟩) (ha : XA X c ss es [.ex P1, .ex P2, .ex P3, .ex P4]) : XE X c ss (.Tuple es k pos) (.ex R) :=
  x_tup (rs := [.ex P1, .ex P2, .ex P3, .ex P4]) (R := .ex R) (by show 4 ≤ 1000; decide) (fun H H' vs p ok t => match vs, ok with | [u1, u2, u3, u4], ⟨⟨n, h1, p1⟩, ⟨s, h2, p2⟩, ⟨f, h3, p3⟩, ⟨g, h4, p4⟩, _⟩ => ⟨⟨n, s, f, g⟩, ⟨p, rfl, by
    rw [show u1 = V.str n from h1, show u2 = V.int s from h2, show u3 = V.int f from h3, show u4 = V.int g from h4] at t
    exact tup_sq t⟩, h n s f g p1 p2 p3 p4⟩) ha
theorem x_tup0 : XE X c ss (.Tuple [] k pos) (.dat ([] : List α)) := x_tup (R := .dat ([] : List α)) (Nat.zero_le _) (fun H H' vs p ok t => match vs, ok with | [], _ => ⟨[], ⟨p, [], rfl, tup_sq t, .nil⟩, rfl⟩) xa_nil
theorem x_tup1 {x : α} (ha : XA X c ss es [.dat x]) : XE X c ss (.Tuple es k pos) (.dat [x]) :=
  x_tup (rs := [.dat x]) (R := .dat [x]) (by show 1 ≤ 1000; decide) (fun H H' vs p ok t => match vs, ok with | [u], ⟨⟨y, h, q⟩, _⟩ => ⟨[y], ⟨p, [u], rfl, tup_sq t, .one h⟩, by rw [q]⟩) ha
/-- a list display: its items, all data of one kind -/
def dats (xs : List α) : List AV := xs.map fun x => AV.dat x
theorem rps_of {K : PySem.W.Frag} {w : Wd} {H H' : Hp} : ∀ {vs : List V} {xs : List α}, RsOks K w H H' vs (dats xs) → Rps K H' vs xs
  | [], [], _ => .nil
  | v :: vs, x :: xs, h => by
    obtain ⟨⟨y, h1, p⟩, h2⟩ := h
    subst p
    exact .cons h1 (rps_of (vs := vs) (xs := xs) h2)
  | [], _ :: _, h => h.elim
  | _ :: _, [], h => h.elim
theorem x_list {es : List Expr} (xs : List α) (hl : xs.length ≤ 1000) (ha : XA X c ss es (dats xs)) : XE X c ss (.List es pos) (.own xs) :=
  (pe_lst ha).wk fun σ H Q q => ⟨q.1, fun vs H1 a1 g1 k1 => ⟨by
    rw [k1.len, show (dats xs).length = xs.length from List.length_map ..]
    exact Nat.le_of_lt (small1000 hl), fun p hp => q.2 (.ref p) _ (a1.new hp) (g1.trans (Gr.new hp)) ⟨p, vs, rfl, g1.fresh (Nf.of hp), upd_same, (rps_of k1).mono (Tu.new hp)⟩⟩⟩
theorem x_nil : XE X c ss (.List [] pos) (.own ([] : List α)) := x_list [] (Nat.zero_le _) xa_nil
end
end
end Ab

/-! Ab3: tests, truths, calls, lists, tuples of alike things. -/
namespace Ab
open PySem L2
open Ab.Rp (rp)
section
variable {X : Cx} {c : Ctx} {ss : List AV} {a b d e : Expr} {es : List Expr} {pos : Pos} {ra rb R : AV} {r : R2}
/-! ### tests -/
theorem t_cmpE {op : CmpOp} {P : Bool → Prop} (ho : OpR X (compareOp op) r) (h : Op2 X.K c r ra rb (.ex P)) (ha : XE X c ss a ra) (hb : XE X c ss b rb) (hm : behindInMarks op b = false := by first | exact nomark _ | rfl) : XT X c ss (.Compare a [op] [b] pos) P :=
  (pt_cmpR ho ha hb hm).wk fun σ H Q q => tOp_of (ss := ss) h σ H (fun x H' => ∃ k, x = .bl k ∧ Q k H') ⟨q.1, fun v H' a' g ⟨k, e, p⟩ => ⟨k, e, q.2 k H' a' g p⟩⟩
theorem t_imp {P P' : Bool → Prop} (h : XT X c ss e P) (k : ∀ b, P b → P' b) : XT X c ss e P' := h.wk fun σ H Q q => ⟨q.1, fun b H' a g p => q.2 b H' a g (k b p)⟩
theorem t_eq {x y : Bool} (h : XT X c ss e (· = x)) (k : x = y) : XT X c ss e (· = y) := t_imp h fun b p => p.trans k
variable {i j : Int}
theorem t_ltE {P Q : Int → Prop} {R : Bool → Prop} (k : ∀ i j, P i → Q j → R (decide (i < j))) (ha : XE X c ss a (.ex P)) (hb : XE X c ss b (.ex Q)) : XT X c ss (.Compare a [.Lt] [b] pos) R := t_cmpE op_lt (o_I0 fun i j _ p q => ⟨_, rfl, k i j p q⟩) ha hb
theorem t_leE {P Q : Int → Prop} {R : Bool → Prop} (k : ∀ i j, P i → Q j → R (decide (i ≤ j))) (ha : XE X c ss a (.ex P)) (hb : XE X c ss b (.ex Q)) : XT X c ss (.Compare a [.LtE] [b] pos) R := t_cmpE op_le (o_I0 fun i j _ p q => ⟨_, rfl, k i j p q⟩) ha hb
theorem t_gtE {P Q : Int → Prop} {R : Bool → Prop} (k : ∀ i j, P i → Q j → R (decide (j < i))) (ha : XE X c ss a (.ex P)) (hb : XE X c ss b (.ex Q)) : XT X c ss (.Compare a [.Gt] [b] pos) R := t_cmpE op_gt (o_I0 fun i j _ p q => ⟨_, rfl, k i j p q⟩) ha hb
theorem t_geE {P Q : Int → Prop} {R : Bool → Prop} (k : ∀ i j, P i → Q j → R (decide (j ≤ i))) (ha : XE X c ss a (.ex P)) (hb : XE X c ss b (.ex Q)) : XT X c ss (.Compare a [.GtE] [b] pos) R := t_cmpE op_ge (o_I0 fun i j _ p q => ⟨_, rfl, k i j p q⟩) ha hb
theorem t_lt (ha : XE X c ss a (.dat i)) (hb : XE X c ss b (.dat j)) : XT X c ss (.Compare a [.Lt] [b] pos) (· = decide (i < j)) := t_ltE (fun _ _ p q => by rw [p, q]) ha hb
theorem t_le (ha : XE X c ss a (.dat i)) (hb : XE X c ss b (.dat j)) : XT X c ss (.Compare a [.LtE] [b] pos) (· = decide (i ≤ j)) := t_leE (fun _ _ p q => by rw [p, q]) ha hb
theorem t_gt (ha : XE X c ss a (.dat i)) (hb : XE X c ss b (.dat j)) : XT X c ss (.Compare a [.Gt] [b] pos) (· = decide (j < i)) := t_gtE (fun _ _ p q => by rw [p, q]) ha hb
theorem t_ge (ha : XE X c ss a (.dat i)) (hb : XE X c ss b (.dat j)) : XT X c ss (.Compare a [.GtE] [b] pos) (· = decide (j ≤ i)) := t_geE (fun _ _ p q => by rw [p, q]) ha hb
theorem o_eqI {P Q : Int → Prop} {R : Bool → Prop} (k : ∀ i j, P i → Q j → R (decide (i = j))) : Op2 X.K c rEq (.ex P) (.ex Q) (.ex R) := fun _ _ _ _ _ _ _ _ _ ⟨i, h1, p⟩ ⟨j, h2, q⟩ t => by
  obtain rfl : _ = V.int i := h1
  obtain rfl : _ = V.int j := h2
  refine ⟨rfl, t.give ⟨decide (i = j), ?_, k i j p q⟩⟩
  show V.bl (decide (V.int i = V.int j)) = V.bl (decide (i = j))
  congr 1
  exact decide_eq_decide.mpr ⟨fun e => V.int.inj e, fun e => by rw [e]⟩
theorem o_neI {P Q : Int → Prop} {R : Bool → Prop} (k : ∀ i j, P i → Q j → R (!decide (i = j))) : Op2 X.K c rNe (.ex P) (.ex Q) (.ex R) := fun _ _ _ _ _ _ _ _ _ ⟨i, h1, p⟩ ⟨j, h2, q⟩ t => by
  obtain rfl : _ = V.int i := h1
  obtain rfl : _ = V.int j := h2
  refine ⟨rfl, t.give ⟨!decide (i = j), ?_, k i j p q⟩⟩
  show V.bl (!decide (V.int i = V.int j)) = V.bl (!decide (i = j))
  congr 2
  exact decide_eq_decide.mpr ⟨fun e => V.int.inj e, fun e => by rw [e]⟩
theorem t_eqiE {P Q : Int → Prop} {R : Bool → Prop} (k : ∀ i j, P i → Q j → R (decide (i = j))) (ha : XE X c ss a (.ex P)) (hb : XE X c ss b (.ex Q)) : XT X c ss (.Compare a [.Eq] [b] pos) R := t_cmpE op_eq (o_eqI k) ha hb
theorem t_eqi (ha : XE X c ss a (.dat i)) (hb : XE X c ss b (.dat j)) : XT X c ss (.Compare a [.Eq] [b] pos) (· = decide (i = j)) := t_eqiE (fun _ _ p q => by rw [p, q]) ha hb
theorem t_nei (ha : XE X c ss a (.dat i)) (hb : XE X c ss b (.dat j)) : XT X c ss (.Compare a [.NotEq] [b] pos) (· = !decide (i = j)) := t_cmpE op_ne (o_neI (P := (· = i)) (Q := (· = j)) fun _ _ p q => by rw [p, q]) ha hb
/-- a value that is a truth, as a test -/
theorem t_val {P : Bool → Prop} (h : XE X c ss e (.ex P)) (he : ∀ whole, isTrue e X.env whole = (do let v ← whole; standAt e.pos; holding [v] (truthy v)) := by intro _; rfl) : XT X c ss e P :=
  (pt_val h he).wk fun σ H Q q => ⟨q.1, fun v H' a' g ⟨k, e, p⟩ => ⟨k, e, q.2 k H' a' g p⟩⟩
section
variable {α : Type} [Rp α] {x : Option α}
theorem t_isN (hn : ∀ (y : α) H, ¬ rp X.K H .non y) (ha : XE X c ss a (.dat x)) {k : Nat} {p2 : Pos} : XT X c ss (.Compare a [.Is] [.Constant .none k p2] pos) (· = x.isNone) :=
  t_cmpE op_isN (ra := .dat x) (rb := .dat (none : Option α)) (fun _ _ _ H2 _ _ _ _ _ ⟨y, h1, p⟩ ⟨z, h2, q⟩ t => by
    subst p q
    refine ⟨h2, t.give ⟨y.isNone, ?_, rfl⟩⟩
    cases y with
    | none =>
      obtain rfl : _ = V.non := h1
      rfl
    | some y =>
      show V.bl (decide _) = V.bl false
      rw [decide_eq_false]
      rintro rfl
      exact hn y H2 h1) ha x_non
theorem t_notN (hn : ∀ (y : α) H, ¬ rp X.K H .non y) (ha : XE X c ss a (.dat x)) {k : Nat} {p2 : Pos} : XT X c ss (.Compare a [.IsNot] [.Constant .none k p2] pos) (· = x.isSome) :=
  t_cmpE op_notN (ra := .dat x) (rb := .dat (none : Option α)) (fun _ _ _ H2 _ _ _ _ _ ⟨y, h1, p⟩ ⟨z, h2, q⟩ t => by
    subst p q
    refine ⟨h2, t.give ⟨y.isSome, ?_, rfl⟩⟩
    cases y with
    | none =>
      obtain rfl : _ = V.non := h1
      rfl
    | some y =>
      show V.bl (!decide _) = V.bl true
      rw [decide_eq_false]
      · rfl
      rintro rfl
      exact hn y H2 h1) ha x_non
end
/-- and, or, not: as tests -/
abbrev XW (X : Cx) (c : Ctx) (ss : List AV) (e : Expr) (P : Bool → Prop) : Prop := PW X e (tB X.K c ss P)
theorem t_w {P : Bool → Prop} (h : XW X c ss e P) : XT X c ss e P := h.pt
theorem t_and1 {P : Bool → Prop} (ha : XT X c ss a P) : XW X c ss (.BoolOp .And [a] pos) P := pw_and1 ha
theorem t_or1 {P : Bool → Prop} (ha : XT X c ss a P) : XW X c ss (.BoolOp .Or [a] pos) P := pw_or1 ha
theorem t_and {P Q R : Bool → Prop} {rest : List Expr} (k1 : P false → R false) (k2 : ∀ b, P true → Q b → R b) (ha : XT X c ss a P) (hb : P true → XW X c ss (.BoolOp .And (b :: rest) pos) Q) : XW X c ss (.BoolOp .And (a :: b :: rest) pos) R :=
  (pw_and (tA := tB X.K c ss P) (tB' := fun σ H S => P true ∧ tB X.K c ss Q σ H S) ha ⟨fun wh pins s σ H S I q => (hb q.1).run wh pins s σ H S I q.2⟩).wk fun σ H S q => ⟨q.1, fun v H1 a1 g1 p => by
    cases v with
    | true =>
      show _ ∧ _
      exact ⟨p, a1, fun b H2 a2 g2 z => q.2 b H2 a2 (g1.trans g2) (k2 b p z)⟩
    | false =>
      show S false H1
      exact q.2 false H1 a1 g1 (k1 p)⟩
theorem t_or {P Q R : Bool → Prop} {rest : List Expr} (k1 : P true → R true) (k2 : ∀ b, P false → Q b → R b) (ha : XT X c ss a P) (hb : P false → XW X c ss (.BoolOp .Or (b :: rest) pos) Q) : XW X c ss (.BoolOp .Or (a :: b :: rest) pos) R :=
  (pw_or (tA := tB X.K c ss P) (tB' := fun σ H S => P false ∧ tB X.K c ss Q σ H S) ha ⟨fun wh pins s σ H S I q => (hb q.1).run wh pins s σ H S I q.2⟩).wk fun σ H S q => ⟨q.1, fun v H1 a1 g1 p => by
    cases v with
    | false =>
      show _ ∧ _
      exact ⟨p, a1, fun b H2 a2 g2 z => q.2 b H2 a2 (g1.trans g2) (k2 b p z)⟩
    | true =>
      show S true H1
      exact q.2 true H1 a1 g1 (k1 p)⟩
variable {x y : Bool}
/-- told truths: the second is asked where the first is true -/
theorem t_andD {rest : List Expr} (ha : XT X c ss a (· = x)) (hb : x = true → XW X c ss (.BoolOp .And (b :: rest) pos) (· = y)) : XW X c ss (.BoolOp .And (a :: b :: rest) pos) (· = (x && y)) :=
  t_and (Q := (· = y)) (fun p => by rw [← p]; rfl) (fun b p q => by rw [← p, q]; rfl) ha fun p => hb p.symm
theorem t_orD {rest : List Expr} (ha : XT X c ss a (· = x)) (hb : x = false → XW X c ss (.BoolOp .Or (b :: rest) pos) (· = y)) : XW X c ss (.BoolOp .Or (a :: b :: rest) pos) (· = (x || y)) :=
  t_or (Q := (· = y)) (fun p => by rw [← p]; rfl) (fun b p q => by rw [← p, q]; rfl) ha fun p => hb p.symm
theorem t_not {P : Bool → Prop} (ha : XT X c ss a P) : XT X c ss (.UnaryOp .Not a pos) (fun z => P (!z)) := (pt_not ha).wk fun σ H S q => ⟨q.1, fun v H1 a1 g1 p => q.2 (!v) H1 a1 g1 (by show P (!!v); rw [Bool.not_not]; exact p)⟩
theorem t_notD (ha : XT X c ss a (· = x)) : XT X c ss (.UnaryOp .Not a pos) (· = !x) := t_imp (t_not ha) fun b p => by rw [← p, Bool.not_not]
/-- .. as values -/
theorem x_one {op : BoolOp} {r : AV} (h : XE X c ss a r) : XE X c ss (.BoolOp op [a] pos) r := pe_one h
theorem x_and {rest : List Expr} (ha : XE X c ss a (.dat x)) (hb : x = true → XE X c ss (.BoolOp .And (b :: rest) pos) (.dat y)) : XE X c ss (.BoolOp .And (a :: b :: rest) pos) (.dat (x && y)) :=
  (pe_and (ta := tX X.K c ss (.dat x)) (tb := fun σ H S => x = true ∧ tX X.K c ss (.dat y) σ H S) ha ⟨fun pins s σ H S I q => (hb q.1).run pins s σ H S I q.2⟩).wk fun σ H S q => ⟨q.1, fun v H1 a1 g1 ⟨k, e, p⟩ => ⟨k, e, by
    subst p
    cases k with
    | true =>
      show _ ∧ _
      exact ⟨rfl, q.go a1 g1⟩
    | false => exact (q.go a1 g1).give ⟨false, rfl, rfl⟩⟩⟩
theorem x_or {rest : List Expr} (ha : XE X c ss a (.dat x)) (hb : x = false → XE X c ss (.BoolOp .Or (b :: rest) pos) (.dat y)) : XE X c ss (.BoolOp .Or (a :: b :: rest) pos) (.dat (x || y)) :=
  (pe_or (ta := tX X.K c ss (.dat x)) (tb := fun σ H S => x = false ∧ tX X.K c ss (.dat y) σ H S) ha ⟨fun pins s σ H S I q => (hb q.1).run pins s σ H S I q.2⟩).wk fun σ H S q => ⟨q.1, fun v H1 a1 g1 ⟨k, e, p⟩ => ⟨k, e, by
    subst p
    cases k with
    | false =>
      show _ ∧ _
      exact ⟨rfl, q.go a1 g1⟩
    | true => exact (q.go a1 g1).give ⟨true, rfl, rfl⟩⟩⟩
theorem x_not (ha : XE X c ss a (.dat x)) : XE X c ss (.UnaryOp .Not a pos) (.dat (!x)) := (pe_not ha).wk fun σ H S q => ⟨q.1, fun v H1 a1 g1 ⟨k, e, p⟩ => ⟨k, e, by
  subst p
  exact (q.go a1 g1).give ⟨!k, rfl, rfl⟩⟩⟩
/-- a if t else b -/
theorem x_ifE {P : Bool → Prop} {r : AV} (hd : XT X c ss d P) (ha : P true → XE X c ss a r) (hb : P false → XE X c ss b r) : XE X c ss (.IfExp d a b pos) r :=
  (pe_ifExp (tA := tB X.K c ss P) (ta := fun σ H S => P true ∧ tX X.K c ss r σ H S) (tb := fun σ H S => P false ∧ tX X.K c ss r σ H S) hd ⟨fun pins s σ H S I q => (ha q.1).run pins s σ H S I q.2⟩ ⟨fun pins s σ H S I q => (hb q.1).run pins s σ H S I q.2⟩).wk
    fun σ H S q => ⟨q.1, fun v H1 a1 g1 p => by
      cases v with
      | true => exact ⟨p, q.go a1 g1⟩
      | false => exact ⟨p, q.go a1 g1⟩⟩
theorem x_if {α : Type} [Rp α] {z w : α} (hd : XT X c ss d (· = x)) (ha : x = true → XE X c ss a (.dat z)) (hb : x = false → XE X c ss b (.dat w)) : XE X c ss (.IfExp d a b pos) (.dat (if x = true then z else w)) :=
  x_ifE hd (fun p => by rw [← p, if_pos rfl]; exact ha p.symm) (fun p => by rw [← p, if_neg Bool.false_ne_true]; exact hb p.symm)
theorem x_ifL {α : Type} [Rp α] {z w : List α} (hd : XT X c ss d (· = x)) (ha : x = true → XE X c ss a (.own z)) (hb : x = false → XE X c ss b (.own w)) : XE X c ss (.IfExp d a b pos) (.own (if x = true then z else w)) :=
  x_ifE hd (fun p => by rw [← p, if_pos rfl]; exact ha p.symm) (fun p => by rw [← p, if_neg Bool.false_ne_true]; exact hb p.symm)
/-! ### calls of the text's own defs -/
end
theorem RsOks.one {K : PySem.W.Frag} {w : Wd} {H H' : Hp} {r : AV} : ∀ {vs : List V}, RsOks K w H H' vs [r] → ∃ v, vs = [v] ∧ RsOk K w H H' v r
  | [v], h => ⟨v, rfl, h.1⟩
  | [], h => h.elim
  | _ :: _ :: _, h => h.2.elim
theorem RsOks.two {K : PySem.W.Frag} {w : Wd} {H H' : Hp} {r s : AV} : ∀ {vs : List V}, RsOks K w H H' vs [r, s] → ∃ v u, vs = [v, u] ∧ RsOk K w H H' v r ∧ RsOk K w H H' u s
  | [v, u], h => ⟨v, u, rfl, h.1, h.2.1⟩
  | [], h => h.elim
  | [_], h => h.2.elim
  | _ :: _ :: _ :: _, h => h.2.2.elim
theorem RsOks.three {K : PySem.W.Frag} {w : Wd} {H H' : Hp} {r s t : AV} {vs : List V} (h : RsOks K w H H' vs [r, s, t]) : ∃ v u y, vs = [v, u, y] ∧ RsOk K w H H' v r ∧ RsOk K w H H' u s ∧ RsOk K w H H' y t := by
  cases vs with
  | nil => exact h.elim
  | cons v vs =>
    obtain ⟨u, y, rfl, h1, h2⟩ := RsOks.two (vs := vs) h.2
    exact ⟨v, u, y, rfl, h.1, h1, h2⟩
theorem RsOks.four {K : PySem.W.Frag} {w : Wd} {H H' : Hp} {r s t q : AV} {vs : List V} (h : RsOks K w H H' vs [r, s, t, q]) : ∃ v u y z, vs = [v, u, y, z] ∧ RsOk K w H H' v r ∧ RsOk K w H H' u s ∧ RsOk K w H H' y t ∧ RsOk K w H H' z q := by
  cases vs with
  | nil => exact h.elim
  | cons v vs =>
    obtain ⟨u, y, z, rfl, h1, h2, h3⟩ := RsOks.three (vs := vs) h.2
    exact ⟨v, u, y, z, rfl, h.1, h1, h2, h3⟩
/-- a world within another one -/
structure Wd.Le (a b : Wd) : Prop where
  S : ∀ p, a.S p → b.S p
  J : ∀ {H}, b.J H → a.J H
  up : ∀ {H H'}, b.J H → Gr a H H' → a.J H' → b.J H'
theorem Wd.Le.refl (a : Wd) : a.Le a := ⟨fun _ h => h, fun h => h, fun _ _ h => h⟩
theorem Wd.Le.gr {a b : Wd} (l : a.Le b) {H H' : Hp} (g : Gr a H H') : Gr b H H' := ⟨fun p o h n m => g.all p o h (fun s => n (l.S p s)) m, g.tup, g.frz, g.dom⟩
/-- a promise by abstract values: the arguments, what is asked, the result -/
def spW (K : PySem.W.Frag) {ι : Type} (w : ι → Wd) (args : ι → List AV) (pre : ι → Prop) (res : ι → AV) : Sp := fun vs H Q _ => ∃ i, RsOks K (w i) H H vs (args i) ∧ pre i ∧ (w i).J H ∧ ∀ v H', Gr (w i) H H' → (w i).J H' → RsOk K (w i) H H' v (res i) → Q v H'
/-- a def of the text, by its promise -/
structure Df (P : Program) (w : World) (K : PySem.W.Frag) (mg : Str → Option Value) (base : Heap) (k : Nat) (x : Str) (sp : Sp) : Prop where
  ex : ∃ (f : Addr) (fd : FuncData) (ps : List Str), FnOk P w K mg base CX0 k f fd ps sp ∧ mg x = some (.ref f) ∧ PySem.W.keepIn K (.ref f) = true ∧ Binds K fd ps []
theorem Df.imp {P : Program} {w : World} {K : PySem.W.Frag} {mg : Str → Option Value} {base : Heap} {k : Nat} {x : Str} {sp sp' : Sp} (D : Df P w K mg base k x sp) (h : ∀ vs H Q E, sp' vs H Q E → sp vs H Q E) : Df P w K mg base k x sp' := by
  obtain ⟨f, fd, ps, F, r⟩ := D.ex
  exact ⟨f, fd, ps, F.imp h, r⟩
theorem Df.mono {P : Program} {w : World} {K : PySem.W.Frag} {mg : Str → Option Value} {base : Heap} {k j : Nat} {x : Str} {sp : Sp} (D : Df P w K mg base k x sp) (h : k ≤ j) : Df P w K mg base j x sp := by
  obtain ⟨f, fd, ps, F, r⟩ := D.ex
  exact ⟨f, fd, ps, F.mono h, r⟩
theorem RsOks.le {K : PySem.W.Frag} {a b : Wd} (l : a.Le b) {H : Hp} : ∀ {vs : List V} {rs : List AV}, RsOks K b H H vs rs → RsOks K a H H vs rs
  | [], [], _ => trivial
  | v :: vs, r :: rs, h => ⟨by
    have q := h.1
    cases r with
    | lst xs =>
      obtain ⟨p, us, e, n, k, r⟩ := q
      exact ⟨p, us, e, fun s => n (l.S p s), k, r⟩
    | _ => exact q, RsOks.le l (vs := vs) (rs := rs) h.2⟩
  | [], _ :: _, h => h.elim
  | _ :: _, [], h => h.elim
def AV.lstB : AV → Bool
  | @AV.lst _ _ _ => true
  | _ => false
theorem RsOk.up {K : PySem.W.Frag} {a b : Wd} {H H' : Hp} {v : V} : ∀ {r : AV}, r.lstB = false → RsOk K a H H' v r → RsOk K b H H' v r
  | .un, _, _ => trivial
  | @AV.ex _ _ _, _, h => h
  | @AV.own _ _ _, _, h => h
  | @AV.lst _ _ _, e, _ => by cases e
  | .val _, _, h => h
  | @AV.ownE _ _ _, _, h => h
  | @AV.two _ _ _ _ _ _, _, h => h
  | .cel _, _, h => h
section
variable {X : Cx} {c : Ctx} {ss : List AV} {a b d e : Expr} {es : List Expr} {pos p : Pos} {ra rb R : AV} {r : R2}
theorem x_call {ι : Type} {args : ι → List AV} {pre : ι → Prop} {res : ι → AV} {w' : ι → Wd} {k : Nat} {x : Str} (F : Df X.prog X.w X.K X.mg X.base k x (spW X.K w' args pre res)) (i : ι) (l : (w' i).Le c.w) (hr : Room k X.A) (hp : pre i) (ha : XA X c ss (e :: es) (args i))
    (hg : Gl X x := by rfl) (hn : (args i).any AV.ownB = false := by rfl) (hl : (res i).lstB = false := by rfl) (hdb : (x == ("__debug__" : Str)) = false := by decide) (he : starEach (e :: es) X.env = (false, eval e X.env) :: starEach es X.env := by rfl) (hpl : (backTo pos (starEach es X.env)).any (·.1) = false := by rfl) :
    XE X c ss (.Call (.Name x p) (e :: es) [] pos) (res i) := by
  obtain ⟨f, fd, ps, F, hm, hk, hb⟩ := F.ex
  refine (pe_call F hr hg hm hk hb .nil pass0 ha hdb he hpl).wk fun σ H Q q => ⟨q.1, fun vs H1 a1 g1 k1 => ?_⟩
  show spW X.K w' args pre res (vs ++ []) H1 Q E0
  rw [List.append_nil]
  refine ⟨i, (k1.here hn).le l, hp, l.J a1.j, fun v H' g2 j2 ok => ?_⟩
  have g := l.gr g2
  exact q.2 v H' (a1.mono g (l.up a1.j g2 j2)) (g1.trans g) ((ok.up hl).back g1)
theorem tX.giveL {K : PySem.W.Frag} {c : Ctx} {ss : List AV} {σ : L2.St} {H : Hp} {Q : VK} {α : Type} [Rp α] {xs : List α} (t : tX K c ss (.own xs) σ H Q) {l : Addr} {us : List V} (hl : H l = none) (r : Rps K H us xs) : Q (.ref l) (upd H l (.lst us)) :=
  t.2 (.ref l) (upd H l (.lst us)) (t.1.new hl) (Gr.new hl) (show RsOk K c.w H (upd H l (.lst us)) (.ref l) (.own xs) from ⟨l, us, rfl, Nf.of hl, upd_same, r.mono (Tu.new hl)⟩)
theorem tX.giveT {K : PySem.W.Frag} {c : Ctx} {ss : List AV} {σ : L2.St} {H : Hp} {Q : VK} {α : Type} [Rp α] {xs : List α} (t : tX K c ss (.dat xs) σ H Q) {l : Addr} {us : List V} (hl : H l = none) (r : Rps K H us xs) : Q (.ref l) (upd H l (.tup us)) :=
  t.2 (.ref l) (upd H l (.tup us)) (t.1.new hl) (Gr.new hl) (show RsOk K c.w H (upd H l (.tup us)) (.ref l) (.dat xs) from ⟨xs, ⟨l, us, rfl, .inl (.inl upd_same), r.mono (Tu.new hl)⟩, rfl⟩)
theorem tX.giveI {K : PySem.W.Frag} {c : Ctx} {ss : List AV} {σ : L2.St} {H : Hp} {Q : VK} {i : Int} (t : tX K c ss (.dat i) σ H Q) : Q (.int i) H := t.2 (.int i) H t.1 (Gr.refl _ _) (show RsOk K c.w H H (.int i) (.dat i) from ⟨i, rfl, rfl⟩)
theorem tX.giveB {K : PySem.W.Frag} {c : Ctx} {ss : List AV} {σ : L2.St} {H : Hp} {Q : VK} {i : Bool} (t : tX K c ss (.dat i) σ H Q) : Q (.bl i) H := t.2 (.bl i) H t.1 (Gr.refl _ _) (show RsOk K c.w H H (.bl i) (.dat i) from ⟨i, rfl, rfl⟩)
/-- a built-in function by abstract values -/
theorem x_blt {rr : List V → Hp → VK → Prop} {id : String} {x : Str} {rs : List AV} (hc : CallR X (.builtin id) rr) (hm : X.mg x = none) (hv : bootBuiltins x = some (.builtin id)) (ha : XA X c ss (e :: es) rs)
    (h : ∀ (σ : L2.St) (H H1 : Hp) (vs : List V) (Q : VK), c.w.J H → Gr c.w H H1 → RsOks X.K c.w H H1 vs rs → tX X.K c ss R σ H1 Q → rr vs H1 Q) (hg : Gl X x := by rfl) (hn : x ≠ "__name__" := by decide) (hdb : (x == ("__debug__" : Str)) = false := by decide)
    (he : starEach (e :: es) X.env = (false, eval e X.env) :: starEach es X.env := by rfl) (hpl : (backTo pos (starEach es X.env)).any (·.1) = false := by rfl) : XE X c ss (.Call (.Name x p) (e :: es) [] pos) R :=
  (pe_callB hc hg hm hv ha hn hdb he hpl).wk fun σ H Q q => ⟨q.1, fun vs H1 a1 g1 k1 => h σ H H1 vs Q q.1.j g1 k1 (q.go a1 g1)⟩
theorem x_bty {rr : List V → Hp → VK → Prop} {T : String} {x : Str} {rs : List AV} (hc : CallR X (.type T) rr) (hm : X.mg x = none) (hv : bootBuiltins x = some (.type T)) (ha : XA X c ss (e :: es) rs)
    (h : ∀ (σ : L2.St) (H H1 : Hp) (vs : List V) (Q : VK), c.w.J H → Gr c.w H H1 → RsOks X.K c.w H H1 vs rs → tX X.K c ss R σ H1 Q → rr vs H1 Q) (hg : Gl X x := by rfl) (hn : x ≠ "__name__" := by decide) (hdb : (x == ("__debug__" : Str)) = false := by decide)
    (he : starEach (e :: es) X.env = (false, eval e X.env) :: starEach es X.env := by rfl) (hpl : (backTo pos (starEach es X.env)).any (·.1) = false := by rfl) : XE X c ss (.Call (.Name x p) (e :: es) [] pos) R :=
  (pe_callTy hc hg hm hv ha hn hdb he hpl).wk fun σ H Q q => ⟨q.1, fun vs H1 a1 g1 k1 => h σ H H1 vs Q q.1.j g1 k1 (q.go a1 g1)⟩
theorem x_abs {i : Int} (hm : X.mg "abs" = none) (ha : XA X c ss (e :: es) [.dat i]) (hg : Gl X "abs" := by rfl) (he : starEach (e :: es) X.env = (false, eval e X.env) :: starEach es X.env := by rfl) (hpl : (backTo pos (starEach es X.env)).any (·.1) = false := by rfl) :
    XE X c ss (.Call (.Name "abs" p) (e :: es) [] pos) (.dat (i.natAbs : Int)) :=
  x_blt (R := .dat (i.natAbs : Int)) call_abs hm (by decide +kernel) ha (fun σ H H1 vs Q j g ok t => match vs, ok with
    | [v], ⟨⟨n, h, q⟩, _⟩ => by
      subst q
      obtain rfl : v = V.int n := h
      refine ⟨n, rfl, ?_⟩
      rw [show (if n < 0 then -n else n) = (n.natAbs : Int) by omega]
      exact t.giveI) hg (by decide) (by decide) he hpl
theorem x_max2 {i j : Int} (hc : X.calm = true) (hm : X.mg "max" = none) (ha : XA X c ss (e :: es) [.dat i, .dat j]) (hg : Gl X "max" := by rfl) (he : starEach (e :: es) X.env = (false, eval e X.env) :: starEach es X.env := by rfl) (hpl : (backTo pos (starEach es X.env)).any (·.1) = false := by rfl) :
    XE X c ss (.Call (.Name "max" p) (e :: es) [] pos) (.dat (max i j)) :=
  x_blt (R := .dat (max i j)) (call_max2 hc) hm (by decide +kernel) ha (fun σ H H1 vs Q jj g ok t => match vs, ok with
    | [v, u], ⟨⟨n, h, q⟩, ⟨m, h2, q2⟩, _⟩ => by
      subst q q2
      obtain rfl : v = V.int n := h
      obtain rfl : u = V.int m := h2
      refine ⟨n, m, rfl, ?_⟩
      rw [show (if m > n then m else n) = max n m by omega]
      exact t.giveI) hg (by decide) (by decide) he hpl
theorem x_min2 {i j : Int} (hc : X.calm = true) (hm : X.mg "min" = none) (ha : XA X c ss (e :: es) [.dat i, .dat j]) (hg : Gl X "min" := by rfl) (he : starEach (e :: es) X.env = (false, eval e X.env) :: starEach es X.env := by rfl) (hpl : (backTo pos (starEach es X.env)).any (·.1) = false := by rfl) :
    XE X c ss (.Call (.Name "min" p) (e :: es) [] pos) (.dat (min i j)) :=
  x_blt (R := .dat (min i j)) (call_min2 hc) hm (by decide +kernel) ha (fun σ H H1 vs Q jj g ok t => match vs, ok with
    | [v, u], ⟨⟨n, h, q⟩, ⟨m, h2, q2⟩, _⟩ => by
      subst q q2
      obtain rfl : v = V.int n := h
      obtain rfl : u = V.int m := h2
      refine ⟨n, m, rfl, ?_⟩
      rw [show (if m < n then m else n) = min n m by omega]
      exact t.giveI) hg (by decide) (by decide) he hpl
section
variable {α β : Type} [Rp α] [Rp β]
/-- len of a list, of a tuple -/
theorem x_lenL {xs : List α} (hm : X.mg "len" = none) (ha : XA X c ss (e :: es) [.lst xs]) (hg : Gl X "len" := by rfl) (he : starEach (e :: es) X.env = (false, eval e X.env) :: starEach es X.env := by rfl) (hpl : (backTo pos (starEach es X.env)).any (·.1) = false := by rfl) :
    XE X c ss (.Call (.Name "len" p) (e :: es) [] pos) (.dat (xs.length : Int)) :=
  x_blt (R := .dat (xs.length : Int)) call_len_seq hm boot_len ha (fun σ H H1 vs Q j g ok t => match vs, ok with
    | [v], ⟨⟨a, us, e, n, h, r⟩, _⟩ => ⟨a, us, by rw [e], .inl (SqL.of h), by rw [r.len]; exact t.giveI⟩) hg (by decide) (by decide) he hpl
theorem x_lenT {xs : List α} (hm : X.mg "len" = none) (ha : XA X c ss (e :: es) [.dat xs]) (hg : Gl X "len" := by rfl) (he : starEach (e :: es) X.env = (false, eval e X.env) :: starEach es X.env := by rfl) (hpl : (backTo pos (starEach es X.env)).any (·.1) = false := by rfl) :
    XE X c ss (.Call (.Name "len" p) (e :: es) [] pos) (.dat (xs.length : Int)) :=
  x_blt (R := .dat (xs.length : Int)) call_len_seq hm boot_len ha (fun σ H H1 vs Q j g ok t => by
    obtain ⟨v, rfl, ys, hr, q⟩ := ok.one
    obtain ⟨a, us, e, h, r⟩ := hr
    have q : ys = xs := q
    subst q
    exact ⟨a, us, by rw [e], .inr h, by rw [r.len]; exact t.giveI⟩) hg (by decide) (by decide) he hpl
/-- list(xs), list(t), tuple(xs), tuple(t) -/
theorem x_listT {xs : List α} (hm : X.mg "list" = none) (ha : XA X c ss (e :: es) [.dat xs]) (hg : Gl X "list" := by rfl) (he : starEach (e :: es) X.env = (false, eval e X.env) :: starEach es X.env := by rfl) (hpl : (backTo pos (starEach es X.env)).any (·.1) = false := by rfl) :
    XE X c ss (.Call (.Name "list" p) (e :: es) [] pos) (.own xs) :=
  x_bty (R := .own xs) call_list_of hm (by decide +kernel) ha (fun σ H H1 vs Q j g ok t => by
    obtain ⟨v, rfl, ys, hr, q⟩ := ok.one
    obtain ⟨a, us, e, h, r⟩ := hr
    have q : ys = xs := q
    subst q
    exact ⟨a, us, by rw [e], .inr h, fun l hl => t.giveL hl r⟩) hg (by decide) (by decide) he hpl
theorem x_listL {xs : List α} (hm : X.mg "list" = none) (ha : XA X c ss (e :: es) [.lst xs]) (hg : Gl X "list" := by rfl) (he : starEach (e :: es) X.env = (false, eval e X.env) :: starEach es X.env := by rfl) (hpl : (backTo pos (starEach es X.env)).any (·.1) = false := by rfl) :
    XE X c ss (.Call (.Name "list" p) (e :: es) [] pos) (.own xs) :=
  x_bty (R := .own xs) call_list_of hm (by decide +kernel) ha (fun σ H H1 vs Q j g ok t => match vs, ok with
    | [v], ⟨⟨a, us, e, n, h, r⟩, _⟩ => ⟨a, us, by rw [e], .inl (SqL.of h), fun l hl => t.giveL hl r⟩) hg (by decide) (by decide) he hpl
theorem x_tupleL {xs : List α} (hm : X.mg "tuple" = none) (ha : XA X c ss (e :: es) [.lst xs]) (hg : Gl X "tuple" := by rfl) (he : starEach (e :: es) X.env = (false, eval e X.env) :: starEach es X.env := by rfl) (hpl : (backTo pos (starEach es X.env)).any (·.1) = false := by rfl) :
    XE X c ss (.Call (.Name "tuple" p) (e :: es) [] pos) (.dat xs) :=
  x_bty (R := .dat xs) call_tuple_of hm (by decide +kernel) ha (fun σ H H1 vs Q j g ok t => match vs, ok with
    | [v], ⟨⟨a, us, e, n, h, r⟩, _⟩ => ⟨a, us, by rw [e], .inl ⟨SqL.of h, fun l hl => t.giveT hl r⟩⟩) hg (by decide) (by decide) he hpl
theorem ints_of {K : PySem.W.Frag} {H : Hp} : ∀ {vs : List V} {xs : List Int}, Rps K H vs xs → vs = xs.map V.int
  | _, _, .nil => rfl
  | _, _, .cons h t => by rw [List.map_cons, ints_of t, show _ = V.int _ from h]
theorem strs_of {K : PySem.W.Frag} {H : Hp} : ∀ {vs : List V} {xs : List Str}, Rps K H vs xs → vs = xs.map V.str
  | _, _, .nil => rfl
  | _, _, .cons h t => by rw [List.map_cons, strs_of t, show _ = V.str _ from h]
theorem bls_of {K : PySem.W.Frag} {H : Hp} : ∀ {vs : List V} {xs : List Bool}, Rps K H vs xs → vs = xs.map V.bl
  | _, _, .nil => rfl
  | _, _, .cons h t => by rw [List.map_cons, bls_of t, show _ = V.bl _ from h]
theorem of_strs {K : PySem.W.Frag} {H : Hp} : ∀ (xs : List Str), Rps K H (xs.map V.str) xs
  | [] => .nil
  | x :: xs => .cons rfl (of_strs xs)
theorem of_ints {K : PySem.W.Frag} {H : Hp} : ∀ (xs : List Int), Rps K H (xs.map V.int) xs
  | [] => .nil
  | x :: xs => .cons rfl (of_ints xs)
theorem x_sum {xs : List Int} (hc : X.calm = true) (hm : X.mg "sum" = none) (ha : XA X c ss (e :: es) [.lst xs]) (hg : Gl X "sum" := by rfl) (he : starEach (e :: es) X.env = (false, eval e X.env) :: starEach es X.env := by rfl) (hpl : (backTo pos (starEach es X.env)).any (·.1) = false := by rfl) :
    XE X c ss (.Call (.Name "sum" p) (e :: es) [] pos) (.dat xs.sum) :=
  x_blt (R := .dat xs.sum) (cr_sum hc) hm (by decide +kernel) ha (fun σ H H1 vs Q j g ok t => match vs, ok with
    | [v], ⟨⟨a, us, e, n, h, r⟩, _⟩ => ⟨a, xs, by rw [e], by rw [← ints_of r]; exact SqL.of h, t.giveI⟩) hg (by decide) (by decide) he hpl
theorem x_all {xs : List Bool} (hc : X.calm = true) (hm : X.mg "all" = none) (ha : XA X c ss (e :: es) [.lst xs]) (hg : Gl X "all" := by rfl) (he : starEach (e :: es) X.env = (false, eval e X.env) :: starEach es X.env := by rfl) (hpl : (backTo pos (starEach es X.env)).any (·.1) = false := by rfl) :
    XE X c ss (.Call (.Name "all" p) (e :: es) [] pos) (.dat (xs.all id)) :=
  x_blt (R := .dat (xs.all id)) (cr_all hc) hm (by decide +kernel) ha (fun σ H H1 vs Q j g ok t => match vs, ok with
    | [v], ⟨⟨a, us, e, n, h, r⟩, _⟩ => ⟨a, xs, by rw [e], by rw [← bls_of r]; exact SqL.of h, t.giveB⟩) hg (by decide) (by decide) he hpl
theorem x_any {xs : List Bool} (hc : X.calm = true) (hm : X.mg "any" = none) (ha : XA X c ss (e :: es) [.lst xs]) (hg : Gl X "any" := by rfl) (he : starEach (e :: es) X.env = (false, eval e X.env) :: starEach es X.env := by rfl) (hpl : (backTo pos (starEach es X.env)).any (·.1) = false := by rfl) :
    XE X c ss (.Call (.Name "any" p) (e :: es) [] pos) (.dat (xs.any id)) :=
  x_blt (R := .dat (xs.any id)) (cr_any hc) hm (by decide +kernel) ha (fun σ H H1 vs Q j g ok t => match vs, ok with
    | [v], ⟨⟨a, us, e, n, h, r⟩, _⟩ => ⟨a, xs, by rw [e], by rw [← bls_of r]; exact SqL.of h, t.giveB⟩) hg (by decide) (by decide) he hpl
/-! ### lists and tuples: items, parts, sums -/
theorem x_ixL {xs : List α} {P : Int → Prop} {R : α → Prop} (k : ∀ i, P i → ∃ x, atI xs i = some x ∧ R x) (ha : XE X c ss a (.lst xs)) (hb : XE X c ss b (.ex P)) (hs : PlainIx b := by exact fun _ _ => rfl) : XE X c ss (.Subscript a b pos) (.ex R) :=
  x_ixR ix_list (ra := .lst xs) (rb := .ex P) (R := .ex R) (fun _ _ _ H2 _ _ _ _ _ ⟨q, vs, e, n, h, r⟩ ⟨i, h2, pi⟩ t => by
    obtain ⟨x, h3, h4⟩ := k i pi
    obtain ⟨j, hj, hx⟩ : ∃ j, ixN xs.length i = some j ∧ xs[j]? = some x := by
      unfold atI at h3
      cases hj : ixN xs.length i with
      | none => rw [hj] at h3; cases h3
      | some j => rw [hj] at h3; exact ⟨j, rfl, h3⟩
    obtain ⟨v, hv, hr⟩ := r.get hx
    exact ⟨q, vs, i, v, e, h2, SqL.of h, by unfold atI; rw [r.len, hj]; exact hv, t.give ⟨x, hr, h4⟩⟩) ha hb hs
theorem x_ixTE {xs : List α} {P : Int → Prop} {R : α → Prop} (k : ∀ i, P i → ∃ x, atI xs i = some x ∧ R x) (ha : XE X c ss a (.dat xs)) (hb : XE X c ss b (.ex P)) (hs : PlainIx b := by exact fun _ _ => rfl) : XE X c ss (.Subscript a b pos) (.ex R) :=
  x_ixR ix_tup (ra := .dat xs) (rb := .ex P) (R := .ex R) (fun _ _ _ H2 _ _ _ _ _ ⟨ys, ⟨q, vs, e, h, r⟩, hy⟩ ⟨i, h2, pi⟩ t => by
    subst hy
    obtain ⟨x, h3, h4⟩ := k i pi
    obtain ⟨j, hj, hx⟩ : ∃ j, ixN ys.length i = some j ∧ ys[j]? = some x := by
      unfold atI at h3
      cases hj : ixN ys.length i with
      | none => rw [hj] at h3; cases h3
      | some j => rw [hj] at h3; exact ⟨j, rfl, h3⟩
    obtain ⟨v, hv, hr⟩ := r.get hx
    exact ⟨q, vs, i, v, e, h2, h, by unfold atI; rw [r.len, hj]; exact hv, t.give ⟨x, hr, h4⟩⟩) ha hb hs
theorem x_ixLd {xs : List α} {i : Int} {x : α} (k : atI xs i = some x) (ha : XE X c ss a (.lst xs)) (hb : XE X c ss b (.dat i)) (hs : PlainIx b := by exact fun _ _ => rfl) : XE X c ss (.Subscript a b pos) (.dat x) :=
  x_ixL (fun j p => ⟨x, by rw [p]; exact k, rfl⟩) ha hb hs
theorem x_ixTd {xs : List α} {i : Int} {x : α} (k : atI xs i = some x) (ha : XE X c ss a (.dat xs)) (hb : XE X c ss b (.dat i)) (hs : PlainIx b := by exact fun _ _ => rfl) : XE X c ss (.Subscript a b pos) (.dat x) :=
  x_ixTE (fun j p => ⟨x, by rw [p]; exact k, rfl⟩) ha hb hs
/-- xs + ys -/
theorem x_cat {xs ys : List α} (hl : xs.length + ys.length ≤ 100000) (ha : XE X c ss a (.lst xs)) (hb : XE X c ss b (.lst ys)) : XE X c ss (.BinOp a .Add b pos) (.own (xs ++ ys)) :=
  x_op op_cat (ra := .lst xs) (rb := .lst ys) (fun _ _ _ H2 _ _ _ _ g ⟨q, vs, e, n, h, r⟩ ⟨q2, us, e2, n2, h2, r2⟩ t => ⟨q, q2, vs, us, e, e2, h, h2, by rw [r.len, r2.len]; exact Nat.le_trans hl (by decide), fun l hl => t.giveL hl (r.append r2)⟩) ha hb
/-- t + u, the left one not empty -/
theorem x_catT {xs ys : List α} (hx : xs ≠ []) (hl : xs.length + ys.length ≤ 100000) (ha : XE X c ss a (.dat xs)) (hb : XE X c ss b (.dat ys)) : XE X c ss (.BinOp a .Add b pos) (.dat (xs ++ ys)) := by
  refine x_op op_catT (ra := .dat xs) (rb := .dat ys) (fun _ _ _ H2 _ _ _ _ g ⟨zs, ⟨q, vs, e, h, r⟩, z1⟩ ⟨ws, ⟨q2, us, e2, h2, r2⟩, z2⟩ t => ?_) ha hb
  subst z1 z2
  refine ⟨q, q2, vs, us, e, e2, h, h2, fun z => ?_, by rw [r.len, r2.len]; exact Nat.le_trans hl (by decide), ?_⟩
  · subst z
    cases r
    exact hx rfl
  · refine ⟨fun z => ?_, fun _ p hp => t.giveT hp (r.append r2)⟩
    subst z
    cases r2
    rw [List.append_nil] at t
    exact t.2 (.ref q) H2 t.1 (Gr.refl _ _) (show RsOk X.K c.w H2 H2 (.ref q) (.dat zs) from ⟨zs, ⟨q, vs, rfl, h, r⟩, rfl⟩)
end
end
end Ab

/-! Ab4: statements, loops. -/
namespace Ab
open PySem L2
open Ab.Rp (rp)
structure AE : Type 1 where
  nx : List AV → Prop
  rt : AV
  bk : List AV → Prop := fun _ => False
  ct : List AV → Prop := fun _ => False
def tS (K : PySem.W.Frag) (c : Ctx) (ss : List AV) (D : AE) : TS := fun De σ H => At K c ss σ H ∧ (∀ ss' σ' H', D.nx ss' → At K c ss' σ' H' → De.nx σ' H') ∧
  (∀ v H', Gr c.w c.H0 H' → c.w.J H' → RsOk K c.w c.H0 H' v D.rt → De.rt v H') ∧ (∀ ss' σ' H', D.bk ss' → At K c ss' σ' H' → De.bk σ' H') ∧ (∀ ss' σ' H', D.ct ss' → At K c ss' σ' H' → De.ct σ' H')
abbrev XS (X : Cx) (c : Ctx) (ss : List AV) (st : Stmt) (D : AE) : Prop := PS X st (tS X.K c ss D)
abbrev XSs (X : Cx) (c : Ctx) (ss : List AV) (st : List Stmt) (D : AE) : Prop := PSs X st (tS X.K c ss D)
section
variable {K : PySem.W.Frag} {c : Ctx} {ss : List AV} {σ : L2.St} {H : Hp} {D : AE} {De : Ends}
theorem tS.at_ (h : tS K c ss D De σ H) {ss' : List AV} {σ' : L2.St} {H' : Hp} (a : At K c ss' σ' H') : tS K c ss' D De σ' H' := ⟨a, h.2⟩
end
section
variable {X : Cx} {c : Ctx} {ss : List AV} {D : AE} {e : Expr} {st : Stmt} {rest body : List Stmt} {pos pos' : Pos} {r : AV}
/-- a statement, then the rest from whatever state it leaves -/
theorem q_seq {N : List AV → Prop} (h1 : XS X c ss st { D with nx := N }) (h2 : ∀ ss', N ss' → XSs X c ss' rest D) : XSs X c ss (st :: rest) D :=
  (pss_cons h1 (PSs.all fun ss' => PSs.all fun n : N ss' => h2 ss' n)).wk fun De σ H q => ⟨q.1, fun ss' σ' H' n a => ⟨ss', n, q.at_ a⟩, q.2.2⟩
theorem s_end (h : D.nx ss) : XSs X c ss [] D := pss_nil.wk fun De σ H q => q.2.1 ss σ H h q.1
theorem s_no (h : False) : XSs X c ss body D := h.elim
/-- the state is told otherwise -/
theorem s_weak {tt : List AV} (h : XSs X c tt body D) (k : ∀ σ H, At X.K c ss σ H → At X.K c tt σ H) : XSs X c ss body D := h.wk fun De σ H q => q.at_ (k σ H q.1)
/-- x = e -/
theorem s_set {α : Type} [Rp α] {P : α → Prop} (i : Nat) {x : Str} (he : XE X c ss e (.ex P)) (h : ∀ y, P y → D.nx (ss.set i (.dat y))) (hi : i < ss.length := by exact Nat.le_of_ble_eq_true rfl) (hN : X.N.Nodup := by assumption) (hx : X.N[i]? = some x := by rfl) (hl : Loc X.env.scope x := by first | exact Or.inl rfl | exact Or.inr rfl)
    (hs : swapsWith e (some (.Name x pos')) pos.line X.env = pure false := by rfl) (hf : X.fn x = true ∨ X.env.scope.names.lookup x = some .local := by first | exact .inl rfl | exact .inr rfl) : XS X c ss (.Assign [.Name x pos'] e pos) D :=
  (ps_set hN hx hl he hs hf).wk fun De σ H q => ⟨q.1, fun v H' a g ⟨y, hy, p⟩ => q.2.1 _ _ _ (h y p) (a.set (fun z => z) (fun ad => ⟨v, y, rfl, hy, rfl⟩) hi)⟩
theorem q_setE {α : Type} [Rp α] {P : α → Prop} (i : Nat) {x : Str} (he : XE X c ss e (.ex P)) (h : ∀ y, P y → XSs X c (ss.set i (.dat y)) rest D) (hi : i < ss.length := by exact Nat.le_of_ble_eq_true rfl) (hN : X.N.Nodup := by assumption) (hx : X.N[i]? = some x := by rfl) (hl : Loc X.env.scope x := by first | exact Or.inl rfl | exact Or.inr rfl)
    (hs : swapsWith e (some (.Name x pos')) pos.line X.env = pure false := by rfl) (hf : X.fn x = true ∨ X.env.scope.names.lookup x = some .local := by first | exact .inl rfl | exact .inr rfl) : XSs X c ss (.Assign [.Name x pos'] e pos :: rest) D :=
  q_seq (N := fun ss' => ∃ y, P y ∧ ss' = ss.set i (.dat y)) (s_set i he (fun y p => ⟨y, p, rfl⟩) hi hN hx hl hs hf) fun ss' ⟨y, p, z⟩ => by
    subst z
    exact h y p
theorem q_set {α : Type} [Rp α] {y : α} (i : Nat) {x : Str} (he : XE X c ss e (.dat y)) (h : XSs X c (ss.set i (.dat y)) rest D) (hi : i < ss.length := by exact Nat.le_of_ble_eq_true rfl) (hN : X.N.Nodup := by assumption) (hx : X.N[i]? = some x := by rfl) (hl : Loc X.env.scope x := by first | exact Or.inl rfl | exact Or.inr rfl)
    (hs : swapsWith e (some (.Name x pos')) pos.line X.env = pure false := by rfl) (hf : X.fn x = true ∨ X.env.scope.names.lookup x = some .local := by first | exact .inl rfl | exact .inr rfl) : XSs X c ss (.Assign [.Name x pos'] e pos :: rest) D :=
  q_setE i he (fun z p => by
    subst p
    exact h) hi hN hx hl hs hf
/-- x = a new list -/
theorem q_setL {α : Type} [Rp α] {xs : List α} (i : Nat) {x : Str} (he : XE X c ss e (.own xs)) (h : XSs X c (ss.set i (.own xs)) rest D) (hi : i < ss.length := by exact Nat.le_of_ble_eq_true rfl) (hN : X.N.Nodup := by assumption) (hx : X.N[i]? = some x := by rfl) (hl : Loc X.env.scope x := by first | exact Or.inl rfl | exact Or.inr rfl)
    (hs : swapsWith e (some (.Name x pos')) pos.line X.env = pure false := by rfl) (hf : X.fn x = true ∨ X.env.scope.names.lookup x = some .local := by first | exact .inl rfl | exact .inr rfl) : XSs X c ss (.Assign [.Name x pos'] e pos :: rest) D :=
  q_seq (N := fun ss' => ss' = ss.set i (.own xs)) ((ps_set hN hx hl he hs hf).wk fun De σ H q => ⟨q.1, fun v H' a g ⟨p, vs, e1, n, k, r⟩ => by
    subst e1
    exact q.2.1 _ _ _ rfl (q.1.setOwn a n k r hi)⟩) fun ss' z => by
    rw [z]
    exact h
/-- x = a value told as it is -/
theorem q_setV {v : V} (i : Nat) {x : Str} (he : XE X c ss e (.val v)) (h : XSs X c (ss.set i (.val v)) rest D) (hi : i < ss.length := by exact Nat.le_of_ble_eq_true rfl) (hN : X.N.Nodup := by assumption) (hx : X.N[i]? = some x := by rfl) (hl : Loc X.env.scope x := by first | exact Or.inl rfl | exact Or.inr rfl)
    (hs : swapsWith e (some (.Name x pos')) pos.line X.env = pure false := by rfl) (hf : X.fn x = true ∨ X.env.scope.names.lookup x = some .local := by first | exact .inl rfl | exact .inr rfl) : XSs X c ss (.Assign [.Name x pos'] e pos :: rest) D :=
  q_seq (N := fun ss' => ss' = ss.set i (.val v)) ((ps_set hN hx hl he hs hf).wk fun De σ H q => ⟨q.1, fun u H' a g (z : u = v) => by
    subst z
    exact q.2.1 _ _ _ rfl (a.set (fun z => z) (fun ad => rfl) hi)⟩) fun ss' z => by
    rw [z]
    exact h
/-- return -/
theorem s_ret (he : XE X c ss e D.rt) : XSs X c ss (.Return (some e) pos :: rest) D :=
  (pss_cons (ps_ret he) (pss_never (sts := rest))).wk fun De σ H q => ⟨q.1, fun v H' a g ok => q.2.2.1 v H' a.gr a.j (ok.back q.1.gr)⟩
theorem s_retC (he : XE X c ss e r) (hr : r = D.rt) : XSs X c ss (.Return (some e) pos :: rest) D := s_ret (hr ▸ he)
/-- return of a list of one's own -/
theorem s_retOwn {α : Type} [Rp α] {xs : List α} (i : Nat) {x : Str} (hr : D.rt = .own xs) (e : ss[i]? = some (.own xs) := by rfl) (hN : X.N[i]? = some x := by rfl) (hv : Vis X.env.scope x := by first | exact Or.inl rfl | exact Or.inr (Or.inl rfl) | exact Or.inr (Or.inr rfl))
    (hd : (x == ("__debug__" : Str)) = false := by decide) (hcd : (x == ("__classdict__" : Str)) = false := by decide) : XSs X c ss (.Return (some (.Name x pos')) pos :: rest) D :=
  (pss_cons (ps_ret (pe_var hN hv hd hcd)) (pss_never (sts := rest))).wk fun De σ H q => by
    obtain ⟨p, vs, h1, h2, h3, h4, h5⟩ := q.1.varL e
    refine ⟨.ref p, h1, q.2.2.1 (.ref p) H q.1.gr q.1.j ?_⟩
    rw [hr]
    exact ⟨p, vs, rfl, h5, h3, h4⟩
/-- if -/
theorem q_if {t : Expr} {a b : List Stmt} {P : Bool → Prop} (N : List AV → Prop) (ht : XT X c ss t P) (ha : P true → XSs X c ss a { D with nx := N }) (hb : P false → XSs X c ss b { D with nx := N }) (h : ∀ ss', N ss' → XSs X c ss' rest D) : XSs X c ss (.If t a b pos :: rest) D :=
  q_seq (N := N) ((ps_if ht (PSs.all fun p : P true => ha p) (PSs.all fun p : P false => hb p)).wk fun De σ H q => ⟨q.1, fun k H' a' g p => by
    cases k with
    | true => exact ⟨p, q.at_ a'⟩
    | false => exact ⟨p, q.at_ a'⟩⟩) h
/-- if t: a (which leaves), else on -/
theorem q_when {t : Expr} {a : List Stmt} {P : Bool → Prop} (ht : XT X c ss t P) (ha : P true → XSs X c ss a { D with nx := fun _ => False }) (h : P false → XSs X c ss rest D) : XSs X c ss (.If t a [] pos :: rest) D :=
  q_if (fun ss' => ss' = ss ∧ P false) ht (fun p => (ha p).wk fun De σ H q => ⟨q.1, fun _ _ _ z _ => z.elim, q.2.2⟩) (fun p => s_end ⟨rfl, p⟩) fun ss' z => by
    rw [z.1]
    exact h z.2
/-- an if at the end -/
theorem s_if {t : Expr} {a b : List Stmt} {P : Bool → Prop} (ht : XT X c ss t P) (ha : P true → XSs X c ss a D) (hb : P false → XSs X c ss b D) : XSs X c ss [.If t a b pos] D :=
  (pss_one (ps_if ht (PSs.all fun p : P true => ha p) (PSs.all fun p : P false => hb p))).wk fun De σ H q => ⟨q.1, fun k H' a' g p => by
    cases k with
    | true => exact ⟨p, q.at_ a'⟩
    | false => exact ⟨p, q.at_ a'⟩⟩
/-- a value thrown away -/
theorem q_expr (he : XE X c ss e r) (h : XSs X c ss rest D) (hs : swapsWith e none pos.line X.env = pure false := by rfl) : XSs X c ss (.Expr e pos :: rest) D :=
  q_seq (N := fun ss' => ss' = ss) ((ps_expr he hs).wk fun De σ H q => ⟨q.1, fun v H' a g ok => q.2.1 _ _ _ rfl a⟩) fun ss' z => by
    rw [z]
    exact h
/-- xs.append(e) -/
theorem q_append {α : Type} [Rp α] {xs : List α} {x : α} (i : Nat) {y : Str} {ap p1 p2 : Pos} (he : XA X c ss [e] [.dat x]) (h : XSs X c (ss.set i (.own (xs ++ [x]))) rest D) (hz : xs.length < 100000) (hx : ss[i]? = some (.own xs) := by rfl)
    (hN : X.N[i]? = some y := by rfl) (hv : Vis X.env.scope y := by first | exact Or.inl rfl | exact Or.inr (Or.inl rfl) | exact Or.inr (Or.inr rfl)) (hd : (y == ("__debug__" : Str)) = false := by decide) (hcd : (y == ("__classdict__" : Str)) = false := by decide)
    (hs : swapsWith (.Call (.Attribute (.Name y p1) "append" ap) [e] [] p2) none pos.line X.env = pure false := by rfl)
    (hbase : attributeBase (.Name y p1) "append" X.env (eval (.Name y p1) X.env) = eval (.Name y p1) X.env := by rfl)
    (hfew : ((backTo p2 (starEach [e] X.env)).all (fun x => !x.1) && (backToKw p2 (keywordEach [] X.env)).all (fun x => x.1.isSome)
      && decide ([e].length + ([] : List Keyword).length + (if ([] : List Keyword).isEmpty then 0 else 1) < 30)) = true := by rfl)
    (hline : (ap.endLine == p2.line) = true := by rfl) (hst : starEach [e] X.env = (false, eval e X.env) :: starEach [] X.env := by rfl) : XSs X c ss (.Expr (.Call (.Attribute (.Name y p1) "append" ap) [e] [] p2) pos :: rest) D :=
  q_seq (N := fun ss' => ss' = ss.set i (.own (xs ++ [x]))) ((ps_expr (pe_bm PySem.F.plainAttrs_list PySem.F.slot_list_append PySem.F.type_list_append mt_append (pe_var hN hv hd hcd) he hbase hfew hline hst) hs).wk fun De σ H q => by
    obtain ⟨p, vs, e1, n, e2, r, h0⟩ := q.1.varL hx
    refine ⟨.ref p, e1, .inl ⟨rfl, vs, SqL.of e2⟩, q.1, fun us H1 a1 g1 ok => ?_⟩
    obtain ⟨v, rfl, z, hz2, hzx⟩ := ok.one
    have hzx : z = x := hzx
    subst hzx
    obtain ⟨p', vs', f1, f2, fr, put⟩ := a1.put (ys := xs ++ [z]) hx
    have ep : p' = p := V.ref.inj (Option.some.inj (Option.some.inj (f1.symm.trans e1)))
    subst ep
    refine ⟨p', vs', v, rfl, rfl, f2, by rw [fr.len]; exact Nat.lt_of_lt_of_le hz (by decide), ?_⟩
    exact q.2.1 _ _ _ rfl (put _ (fr.append (.one hz2))).1) fun ss' z => by
    rw [z]
    exact h
end
/-! ### targets -/
def tG (K : PySem.W.Frag) (c : Ctx) (ss : List AV) (r : AV) (ss' : List AV) : TG := fun v σ H Q => At K c ss σ H ∧ RsOk K c.w H H v r ∧ ∀ σ', At K c ss' σ' H → Q σ' H
abbrev XG (X : Cx) (c : Ctx) (ss : List AV) (tg : Expr) (r : AV) (ss' : List AV) : Prop := PG X tg (tG X.K c ss r ss')
theorem _root_.L2.PG.wk {X : Cx} {e : Expr} {t t' : TG} (h : PG X e t) (k : ∀ v σ H Q, t' v σ H Q → t v σ H Q) : PG X e t' := ⟨fun pins s σ H v u Q I r q => h.run pins s σ H v u Q I r (k v σ H Q q)⟩
theorem _root_.L2.PG.all {X : Cx} {e : Expr} {ι : Sort u} {t : ι → TG} (h : ∀ i, PG X e (t i)) : PG X e (fun v σ H Q => ∃ i, t i v σ H Q) := ⟨fun pins s σ H v u Q I r ⟨i, q⟩ => (h i).run pins s σ H v u Q I r q⟩
section
variable {X : Cx} {c : Ctx} {ss s1 s2 s3 s4 : List AV} {t1 t2 t3 t4 : Expr} {pos : Pos}
theorem g_name {α : Type} [Rp α] {y : α} (i : Nat) {x : Str} (hi : i < ss.length := by exact Nat.le_of_ble_eq_true rfl) (hN : X.N.Nodup := by assumption) (hx : X.N[i]? = some x := by rfl) (hl : Loc X.env.scope x := by first | exact Or.inl rfl | exact Or.inr rfl)
    (hf : X.fn x = true ∨ X.env.scope.names.lookup x = some .local := by first | exact .inl rfl | exact .inr rfl) : XG X c ss (.Name x pos) (.dat y) (ss.set i (.dat y)) :=
  (pg_name hN hx hl hf).wk fun v σ H Q ⟨a, ⟨z, hz, e⟩, q⟩ => q _ (a.set (fun z => z) (fun ad => ⟨v, z, rfl, hz, e⟩) hi)
theorem g_pair {α β : Type} [Rp α] [Rp β] {x : α} {y : β} {k : Nat} (hc : X.calm = true) (h1 : XG X c ss t1 (.dat x) s1) (h2 : XG X c s1 t2 (.dat y) s2)
    (e1 : (assignEach [t1, t2] X.env).map (·.2) = assign t1 X.env :: (assignEach [t2] X.env).map (·.2) := by rfl) (e2 : (assignEach [t2] X.env).map (·.2) = assign t2 X.env :: (assignEach [] X.env).map (·.2) := by rfl)
    (hn : (assignEach [t1, t2] X.env).length = 2 := by rfl) (hst : (assignEach [t1, t2] X.env).findIdx? (·.1) = none := by rfl) : XG X c ss (.Tuple [t1, t2] k pos) (.dat (x, y)) s2 :=
  (pg_tup hc (pgs_cons h1 (pgs_cons h2 pgs_nil e2) e1) hn hst).wk fun v σ H Q ⟨a, ⟨z, hz, e⟩, q⟩ => by
    have e : z = (x, y) := e
    subst e
    obtain ⟨p, u, w, rfl, st, r1, r2⟩ := hz
    exact ⟨p, [u, w], rfl, st, rfl, u, [w], rfl, a, ⟨x, r1, rfl⟩, fun σ1 a1 => ⟨w, [], rfl, a1, ⟨y, r2, rfl⟩, fun σ2 a2 => ⟨rfl, q σ2 a2⟩⟩⟩
theorem g_rope {x : Rope} {k : Nat} (hc : X.calm = true) (h1 : XG X c ss t1 (.dat x.name) s1) (h2 : XG X c s1 t2 (.dat x.slack) s2) (h3 : XG X c s2 t3 (.dat x.stiff) s3) (h4 : XG X c s3 t4 (.dat x.strong) s4)
    (e1 : (assignEach [t1, t2, t3, t4] X.env).map (·.2) = assign t1 X.env :: (assignEach [t2, t3, t4] X.env).map (·.2) := by rfl) (e2 : (assignEach [t2, t3, t4] X.env).map (·.2) = assign t2 X.env :: (assignEach [t3, t4] X.env).map (·.2) := by rfl)
    (e3 : (assignEach [t3, t4] X.env).map (·.2) = assign t3 X.env :: (assignEach [t4] X.env).map (·.2) := by rfl) (e4 : (assignEach [t4] X.env).map (·.2) = assign t4 X.env :: (assignEach [] X.env).map (·.2) := by rfl)
    (hn : (assignEach [t1, t2, t3, t4] X.env).length = 4 := by rfl) (hst : (assignEach [t1, t2, t3, t4] X.env).findIdx? (·.1) = none := by rfl) : XG X c ss (.Tuple [t1, t2, t3, t4] k pos) (.dat x) s4 :=
  (pg_tup hc (pgs_cons h1 (pgs_cons h2 (pgs_cons h3 (pgs_cons h4 pgs_nil e4) e3) e2) e1) hn hst).wk fun v σ H Q ⟨a, ⟨z, hz, e⟩, q⟩ => by
    have e : z = x := e
    subst e
    obtain ⟨p, rfl, st⟩ := hz
    exact ⟨p, _, rfl, st, rfl, _, _, rfl, a, ⟨z.name, rfl, rfl⟩, fun σ1 a1 => ⟨_, _, rfl, a1, ⟨z.slack, rfl, rfl⟩, fun σ2 a2 => ⟨_, _, rfl, a2, ⟨z.stiff, rfl, rfl⟩, fun σ3 a3 => ⟨_, [], rfl, a3, ⟨z.strong, rfl, rfl⟩, fun σ4 a4 => ⟨rfl, q σ4 a4⟩⟩⟩⟩⟩
end
section
variable {X : Cx} {c : Ctx} {ss ss' : List AV} {D : AE} {e tg : Expr} {rest body : List Stmt} {pos : Pos} {r : AV}
/-- a, b = e (e a pair, by any target) -/
theorem q_asg (he : XE X c ss e r) (hg : XG X c ss tg r ss') (h : XSs X c ss' rest D) (hr : r.ownB = false := by rfl) (hs : swapsWithSole [tg] e pos.line X.env = pure false := by rfl) (hw : swappedStores [tg] e X.env = pure none := by rfl)
    (h1 : (assignEach [tg] X.env).map (·.2) = [assign tg X.env] := by rfl) : XSs X c ss (.Assign [tg] e pos :: rest) D :=
  q_seq (N := fun s => s = ss') ((ps_asg he hg hs hw h1).wk fun De σ H q => ⟨q.1, fun v H' a g ok => ⟨a, ok.here hr, fun σ' a' => q.2.1 _ _ _ rfl a'⟩⟩) fun s z => by
    rw [z]
    exact h
def AV.slB : AV → Bool
  | @AV.lst _ _ _ => true
  | @AV.ownE _ _ _ => true
  | @AV.two _ _ _ _ _ _ => true
  | .cel _ => true
  | _ => false
/-- a slot by what came -/

theorem At.setR {K : PySem.W.Frag} {c : Ctx} {ss : List AV} {σ : L2.St} {Hb H : Hp} (b : At K c ss σ Hb) (a : At K c ss σ H) {i : Nat} {v : V} (hi : i < ss.length) : ∀ {r : AV}, r.slB = false → RsOk K c.w Hb H v r → At K c (ss.set i r) (σ.set i (some v)) H
  | .un, _, _ => a.set (fun z => z) (fun _ => trivial) hi
  | @AV.ex _ _ P, _, ⟨x, h, p⟩ => a.set (s := .ex P) (fun z => z) (fun _ => ⟨v, x, rfl, h, p⟩) hi
  | @AV.own _ _ _, _, ⟨p, vs, e, n, h, r⟩ => by
    subst e
    exact b.setOwn a n h r hi
  | @AV.lst _ _ _, e, _ => by cases e
  | @AV.ownE _ _ _, e, _ => by cases e
  | @AV.two _ _ _ _ _ _, e, _ => by cases e
  | .cel _, e, _ => by cases e
  | .val u, _, e => by
    have e : v = u := e
    subst e
    exact a.set (fun z => z) (fun _ => rfl) hi
/-- a, b = x, y of plain local names -/
theorem q_par {a b : Expr} {ra rb : AV} {x y : Str} {px py pt : Pos} {kt k2 : Nat} {pt2 : Pos} (i j : Nat) (ha : XA X c ss [a, b] [ra, rb]) (h : XSs X c ((ss.set i ra).set j rb) rest D) (hra : ra.slB = false := by rfl) (hrb : rb.slB = false := by rfl) (hij : i ≠ j := by decide) (hi : i < ss.length := by exact Nat.le_of_ble_eq_true rfl) (hj : j < ss.length := by exact Nat.le_of_ble_eq_true rfl)
    (ho : (ra.ownB && rb.ownB) = false := by rfl)
    (hc : X.calm = true := by rfl) (hN : X.N.Nodup := by assumption) (hxi : X.N[i]? = some x := by rfl) (hyj : X.N[j]? = some y := by rfl) (hx : X.env.scope.names.lookup x = some .local := by rfl) (hy : X.env.scope.names.lookup y = some .local := by rfl)
    (hw : swappedStores [.Tuple [.Name x px, .Name y py] kt pt] (.Tuple [a, b] k2 pt2) X.env = pure (some [x, y]) := by rfl) (hs : swapsWithSole [.Tuple [.Name x px, .Name y py] kt pt] (.Tuple [a, b] k2 pt2) pos.line X.env = pure false := by rfl) :
    XSs X c ss (.Assign [.Tuple [.Name x px, .Name y py] kt pt] (.Tuple [a, b] k2 pt2) pos :: rest) D :=
  q_seq (N := fun s => s = (ss.set i ra).set j rb) ((ps_par hc hN hxi hyj hij hx hy ha hw hs).wk fun De σ H q => ⟨q.1, fun vs H1 a1 g1 ok => by
    obtain ⟨v, u, rfl, k1, k2⟩ := ok.two
    refine ⟨v, u, rfl, q.2.1 _ _ _ rfl ?_⟩
    have hj' : j < (ss.set i ra).length := by rw [List.length_set]; exact hj
    by_cases o : ra.ownB = true
    · have o2 : rb.ownB = false := by
        rw [o] at ho
        exact ho
      have z := q.1.setR a1 hi hra k1
      exact z.setR z hj' hrb (k2.here o2)
    · have o : ra.ownB = false := by
        cases h : ra.ownB with
        | true => exact absurd h o
        | false => rfl
      have b := a1.setR a1 hi hra (k1.here o)
      by_cases o2 : rb.ownB = true
      · -- the second is a new list
        have hji : i < (ss.set j rb).length := by rw [List.length_set]; exact hi
        have z := q.1.setR a1 hj hrb k2
        have w := z.setR z hji hra (k1.here o)
        rw [List.set_comm _ _ hij, List.set_comm _ _ hij]
        exact w
      · have o2 : rb.ownB = false := by
          cases h : rb.ownB with
          | true => exact absurd h o2
          | false => rfl
        exact b.setR b hj' hrb (k2.here o2)⟩) fun s z => by
    rw [z]
    exact h
end
end Ab

/-! Ab5: what is walked; for, comprehensions, while. -/
namespace Ab
open PySem L2
open Ab.Rp (rp)
/-- the sources of a walk stand as they did -/
def Gd (K : PySem.W.Frag) (pr : List Pr) (H1 H : Hp) : Prop := Tu H1 H ∧ ∀ q ∈ pr, ∃ vs, H q.p = some (.lst vs) ∧ Rps K H vs q.xs
structure Wk (K : PySem.W.Frag) (pr : List Pr) (H1 : Hp) (J : It) {α : Type} [Rp α] (xs : List α) : Prop where
  go : ∀ i H, Gd K pr H1 H → i < xs.length → J.go i H
  yld : ∀ i H x H', Gd K pr H1 H → i < xs.length → J.yld i H x H' → ∃ d, xs[i]? = some d ∧ rp K H' x d ∧ (H' = H ∨ ∃ T vs, H T = none ∧ H' = upd H T (.tup vs))
  stop : ∀ i H, Gd K pr H1 H → xs.length ≤ i → J.stop i H
section
variable {K : PySem.W.Frag} {H1 : Hp} {α β : Type} [Rp α] [Rp β]
theorem sqL_of {H : Hp} {p : Addr} {vs us : List V} (h : H p = some (.lst vs)) (q : SqL K H p us) (hk : True) : True := trivial
theorem wk_list {p : Addr} {xs : List α} : Wk K [⟨p, xs⟩] H1 (Itl K p) xs where
  go := fun i H g hi => by
    obtain ⟨vs, h, r⟩ := g.2 _ (List.mem_singleton.mpr rfl)
    have hi2 : i < vs.length := by rw [r.len]; exact hi
    exact ⟨vs, vs[i], SqL.of h, List.getElem?_eq_getElem hi2⟩
  yld := fun i H x H' g hi y => by
    obtain ⟨vs, h, r⟩ := g.2 _ (List.mem_singleton.mpr rfl)
    obtain ⟨e, y⟩ := y
    subst e
    obtain ⟨d, h1, h2⟩ := r.getV (y vs (SqL.of h))
    exact ⟨d, h1, h2, .inl rfl⟩
  stop := fun i H g hi => by
    obtain ⟨vs, h, r⟩ := g.2 _ (List.mem_singleton.mpr rfl)
    exact ⟨vs, SqL.of h, by rw [r.len]; exact hi⟩
theorem wk_tup {p : Addr} {vs : List V} {xs : List α} (h : SqT K H1 p vs) (r : Rps K H1 vs xs) : Wk K [] H1 (Itt K p) xs where
  go := fun i H g hi => by
    have hi2 : i < vs.length := by rw [r.len]; exact hi
    exact ⟨vs, vs[i], g.1.sq h, List.getElem?_eq_getElem hi2⟩
  yld := fun i H x H' g hi y => by
    obtain ⟨e, y⟩ := y
    subst e
    obtain ⟨d, h1, h2⟩ := (r.mono g.1).getV (y vs (g.1.sq h))
    exact ⟨d, h1, h2, .inl rfl⟩
  stop := fun i H g hi => ⟨vs, g.1.sq h, by rw [r.len]; exact hi⟩
/-- lo, lo + 1, .. -/
def upFrom (lo : Int) (n : Nat) : List Int := (List.range n).map fun k => lo + ((k : Nat) : Int)
theorem upFrom_len (lo : Int) (n : Nat) : (upFrom lo n).length = n := by unfold upFrom; rw [List.length_map, List.length_range]
theorem upFrom_get {lo : Int} {n i : Nat} (h : i < n) : (upFrom lo n)[i]? = some (lo + (i : Int)) := by
  unfold upFrom
  rw [List.getElem?_map, List.getElem?_range h]
  rfl
theorem wk_rng {lo : Int} {n : Nat} : Wk K [] H1 (Itr lo n) (upFrom lo n) where
  go := fun i H g hi => by
    rw [upFrom_len] at hi
    exact hi
  yld := fun i H x H' g hi y => by
    rw [upFrom_len] at hi
    obtain ⟨e, y⟩ := y
    subst e
    exact ⟨_, upFrom_get hi, y, .inl rfl⟩
  stop := fun i H g hi => by
    rw [upFrom_len] at hi
    exact hi
/-- numbered -/
def numFrom (xs : List α) : List (Int × α) := (upFrom 0 xs.length).zip xs
theorem numFrom_len (xs : List α) : (numFrom xs).length = xs.length := by unfold numFrom; rw [List.length_zip, upFrom_len, Nat.min_self]
theorem numFrom_get {xs : List α} {i : Nat} {x : α} (h : xs[i]? = some x) : (numFrom xs)[i]? = some ((i : Int), x) := by
  have hi := (List.getElem?_eq_some_iff.mp h).1
  unfold numFrom
  rw [List.getElem?_zip_eq_some]
  exact ⟨by rw [upFrom_get hi, Int.zero_add], h⟩
theorem wk_enum {p : Addr} {xs : List α} : Wk K [⟨p, xs⟩] H1 (Ite K p) (numFrom xs) where
  go := fun i H g hi => by
    rw [numFrom_len] at hi
    obtain ⟨vs, h, r⟩ := g.2 _ (List.mem_singleton.mpr rfl)
    have hi2 : i < vs.length := by rw [r.len]; exact hi
    exact ⟨vs, vs[i], SqL.of h, List.getElem?_eq_getElem hi2⟩
  yld := fun i H x H' g hi y => by
    rw [numFrom_len] at hi
    obtain ⟨vs, h, r⟩ := g.2 _ (List.mem_singleton.mpr rfl)
    obtain ⟨T, x', rfl, hT, rfl, y⟩ := y
    obtain ⟨d, h1, h2⟩ := r.getV (y vs (SqL.of h))
    exact ⟨_, numFrom_get h1, ⟨T, _, _, rfl, .inl (.inl upd_same), rfl, Rp.mono (Tu.new hT) h2⟩, .inr ⟨T, _, hT, rfl⟩⟩
  stop := fun i H g hi => by
    rw [numFrom_len] at hi
    obtain ⟨vs, h, r⟩ := g.2 _ (List.mem_singleton.mpr rfl)
    exact ⟨vs, SqL.of h, by rw [r.len]; exact hi⟩
theorem wk_zip {p q : Addr} {xs : List α} {ys : List β} : Wk K [⟨p, xs⟩, ⟨q, ys⟩] H1 (Itz K p q) (xs.zip ys) where
  go := fun i H g hi => by
    rw [List.length_zip] at hi
    obtain ⟨vs, h, r⟩ := g.2 ⟨p, xs⟩ (by simp)
    obtain ⟨us, k, s⟩ := g.2 ⟨q, ys⟩ (by simp)
    have hi2 : i < vs.length := by rw [r.len]; show i < xs.length; omega
    have hi3 : i < us.length := by rw [s.len]; show i < ys.length; omega
    exact ⟨vs, us, vs[i], us[i], SqL.of h, SqL.of k, List.getElem?_eq_getElem hi2, List.getElem?_eq_getElem hi3⟩
  yld := fun i H x H' g hi y => by
    obtain ⟨vs, h, r⟩ := g.2 ⟨p, xs⟩ (by simp)
    obtain ⟨us, k, s⟩ := g.2 ⟨q, ys⟩ (by simp)
    obtain ⟨T, x', y', rfl, hT, rfl, y1, y2⟩ := y
    obtain ⟨d, h1, h2⟩ := r.getV (y1 vs (SqL.of h))
    obtain ⟨d2, k1, k2⟩ := s.getV (y2 us (SqL.of k))
    exact ⟨(d, d2), List.getElem?_zip_eq_some.mpr ⟨h1, k1⟩, ⟨T, _, _, rfl, .inl (.inl upd_same), Rp.mono (Tu.new hT) h2, Rp.mono (Tu.new hT) k2⟩, .inr ⟨T, _, hT, rfl⟩⟩
  stop := fun i H g hi => by
    rw [List.length_zip] at hi
    obtain ⟨vs, h, r⟩ := g.2 ⟨p, xs⟩ (by simp)
    obtain ⟨us, k, s⟩ := g.2 ⟨q, ys⟩ (by simp)
    refine ⟨vs, us, SqL.of h, SqL.of k, ?_⟩
    rw [r.len, s.len]
    show xs.length ≤ i ∨ ys.length ≤ i
    omega
theorem wk_zipT {p q : Addr} {vs us : List V} {xs : List α} {ys : List β} (h : SqT K H1 p vs) (r : Rps K H1 vs xs) (k : SqT K H1 q us) (s : Rps K H1 us ys) : Wk K [] H1 (RZ.ItzT K p q) (xs.zip ys) where
  go := fun i H g hi => by
    rw [List.length_zip] at hi
    have hi2 : i < vs.length := by rw [r.len]; omega
    have hi3 : i < us.length := by rw [s.len]; omega
    exact ⟨vs, us, vs[i], us[i], g.1.sq h, g.1.sq k, List.getElem?_eq_getElem hi2, List.getElem?_eq_getElem hi3⟩
  yld := fun i H x H' g hi y => by
    obtain ⟨T, x', y', rfl, hT, rfl, y1, y2⟩ := y
    obtain ⟨d, h1, h2⟩ := (r.mono g.1).getV (y1 vs (g.1.sq h))
    obtain ⟨d2, k1, k2⟩ := (s.mono g.1).getV (y2 us (g.1.sq k))
    exact ⟨(d, d2), List.getElem?_zip_eq_some.mpr ⟨h1, k1⟩, ⟨T, _, _, rfl, .inl (.inl upd_same), Rp.mono (Tu.new hT) h2, Rp.mono (Tu.new hT) k2⟩, .inr ⟨T, _, hT, rfl⟩⟩
  stop := fun i H g hi => by
    rw [List.length_zip] at hi
    refine ⟨vs, us, g.1.sq h, g.1.sq k, ?_⟩
    rw [r.len, s.len]
    omega
end
abbrev Ctx.add (c : Ctx) (pr : List Pr) (tu : List Hp) : Ctx := ⟨c.w, c.H0, pr ++ c.pr, tu ++ c.tu⟩
/-- what a loop walks: xs, its sources locked; what a comprehension walks -/
def tI (K : PySem.W.Frag) (c : Ctx) (ss : List AV) {α : Type} [Rp α] (xs : List α) : TI := fun σ H R => At K c ss σ H ∧ ∀ J H1 (pr : List Pr), At K (c.add pr [H1]) ss σ H1 → Gr c.w H H1 → Wk K pr H1 J xs → R J H1
def tIc (K : PySem.W.Frag) (c : Ctx) (ss : List AV) {α : Type} [Rp α] (xs : List α) : TI := fun σ H R => At K c ss σ H ∧ ∀ J H1 (pr : List Pr), At K c ss σ H1 → Gr c.w H H1 → (∀ q ∈ pr, ¬ c.w.S q.p ∧ ∃ vs, H1 q.p = some (.lst vs) ∧ Rps K H1 vs q.xs) → Wk K pr H1 J xs → R J H1
abbrev XI (X : Cx) (c : Ctx) (ss : List AV) (tg iter : Expr) {α : Type} [Rp α] (xs : List α) : Prop := PI X tg iter (tI X.K c ss xs)
abbrev XIc (X : Cx) (c : Ctx) (ss : List AV) (tg iter : Expr) {α : Type} [Rp α] (xs : List α) : Prop := PI X tg iter (tIc X.K c ss xs)
theorem _root_.L2.PI.wk {X : Cx} {tg e : Expr} {t t' : TI} (h : PI X tg e t) (k : ∀ σ H R, t' σ H R → t σ H R) : PI X tg e t' := ⟨fun pins s σ H R I q => h.run pins s σ H R I (k σ H R q)⟩
theorem At.unpr {K : PySem.W.Frag} {c : Ctx} {ss : List AV} {σ : L2.St} {H : Hp} {pr : List Pr} {tu : List Hp} (a : At K (c.add pr tu) ss σ H) : At K c ss σ H :=
  ⟨a.len, a.gr, a.j, fun h hh => a.tu h (List.mem_append_right _ hh), fun q hq => a.pr q (List.mem_append_right _ hq), by
    obtain ⟨ad, h1, h2, h3⟩ := a.sl
    refine ⟨ad, fun i s e => ?_, h2, fun i s e o q hq => h3 i s e o q (List.mem_append_right _ hq)⟩
    have z := h1 i s e
    cases s <;> exact z⟩
theorem At.addpr {K : PySem.W.Frag} {c : Ctx} {ss : List AV} {σ : L2.St} {H : Hp} {pr : List Pr} (a : At K c ss σ H) (h : ∀ q ∈ pr, ¬ c.w.S q.p ∧ ∃ vs, H q.p = some (.lst vs) ∧ Rps K H vs q.xs)
    (n : ∀ (i : Nat) (s : AV), ss[i]? = some s → s.isOwn → ∀ q ∈ pr, σ[i]? ≠ some (some (V.ref q.p))) : At K (c.add pr [H]) ss σ H :=
  ⟨a.len, a.gr, a.j, fun h hh => (List.mem_append.mp hh).elim (fun z => by
    obtain rfl := List.mem_singleton.mp z
    exact Tu.refl _) (a.tu h), fun q hq => (List.mem_append.mp hq).elim (h q) (a.pr q), by
    obtain ⟨ad, h1, h2, h3⟩ := a.sl
    refine ⟨ad, fun i s e => ?_, h2, fun i s e o q hq => ?_⟩
    · have z := h1 i s e
      cases s <;> exact z
    · rcases List.mem_append.mp hq with hq | hq
      · intro z
        cases s with
        | own xs =>
          obtain ⟨vs, e1, _⟩ := h1 i _ e
          rw [z] at e1
          exact n i _ e trivial q hq e1
        | _ => exact o.elim
      · exact h3 i s e o q hq⟩
theorem At.own_at {K : PySem.W.Frag} {c : Ctx} {ss : List AV} {σ : L2.St} {H : Hp} (a : At K c ss σ H) {i : Nat} {s : AV} (e : ss[i]? = some s) (o : s.isOwn) : ∃ p vs, σ[i]? = some (some (.ref p)) ∧ H p = some (.lst vs) := by
  cases s with
  | own xs =>
    obtain ⟨p, vs, h1, _, h2, _⟩ := a.varL e
    exact ⟨p, vs, h1, h2⟩
  | _ => exact o.elim
section
variable {X : Cx} {c : Ctx} {ss : List AV} {tg e e2 : Expr} {p pos : Pos} {α β : Type} [Rp α] [Rp β] {xs : List α} {ys : List β}
theorem XI.cc (h : XI X c ss tg e xs) : XIc X c ss tg e xs := h.wk fun σ H R q => ⟨q.1, fun J H1 pr a g w => q.2 J H1 pr a.unpr g (fun z hz => a.pr z (List.mem_append_left _ hz)) w⟩
theorem i_tup (h : XE X c ss e (.dat xs)) : XI X c ss tg e xs := (pi_tup h).wk fun σ H R q => ⟨q.1, fun v H1 a g ⟨ys, hy, z⟩ => by
  have z : ys = xs := z
  subst z
  obtain ⟨p, vs, rfl, h1, r⟩ := hy
  exact ⟨p, rfl, ⟨vs, h1⟩, q.2 _ H1 [] (a.addpr (fun z hz => absurd hz (by simp)) fun i s es o z hz => absurd hz (by simp)) g (wk_tup h1 r)⟩⟩
/-- a new list -/
theorem i_new (h : XE X c ss e (.own xs)) : XI X c ss tg e xs := (pi_list h).wk fun σ H R q => ⟨q.1, fun v H1 a g ok => by
  obtain ⟨p, vs, rfl, n, h1, r⟩ := ok
  refine ⟨p, rfl, ⟨vs, SqL.of h1⟩, q.2 _ H1 [⟨p, xs⟩] (a.addpr (fun z hz => ?_) fun i s es o z hz w => ?_) g wk_list⟩
  · obtain rfl := List.mem_singleton.mp hz
    exact ⟨q.1.notS n, vs, h1, r⟩
  · obtain rfl := List.mem_singleton.mp hz
    obtain ⟨p', vs', e1, e2⟩ := q.1.own_at es o
    have ep : p' = p := V.ref.inj (Option.some.inj (Option.some.inj (e1.symm.trans w)))
    rw [ep] at e2
    exact n.noL e2⟩
/-- a locked list -/
theorem i_pr {a : Addr} (m : Pr.mk a xs ∈ c.pr) (h : XE X c ss e (.val (.ref a))) : XI X c ss tg e xs := (pi_list h).wk fun σ H R q => ⟨q.1, fun v H1 at1 g ok => by
  have ok : v = .ref a := ok
  subst ok
  obtain ⟨n, vs, h1, r⟩ := at1.pr _ m
  refine ⟨a, rfl, ⟨vs, SqL.of h1⟩, q.2 _ H1 [⟨a, xs⟩] (at1.addpr (fun z hz => ?_) fun i s es o z hz w => ?_) g wk_list⟩
  · obtain rfl := List.mem_singleton.mp hz
    exact ⟨n, vs, h1, r⟩
  · obtain rfl := List.mem_singleton.mp hz
    obtain ⟨ad, k1, k2, k3⟩ := at1.sl
    cases s with
    | own ys =>
      obtain ⟨_, e1, _⟩ := k1 i _ es
      have ep : ad i = a := V.ref.inj (Option.some.inj (Option.some.inj (e1.symm.trans w)))
      exact k3 i _ es trivial _ m ep
    | _ => exact o.elim⟩
/-- any list that is read, for a comprehension -/
theorem i_lst (h : XE X c ss e (.lst xs)) : XIc X c ss tg e xs := (pi_list h).wk fun σ H R q => ⟨q.1, fun v H1 at1 g ok => by
  obtain ⟨a, vs, rfl, n, h1, r⟩ := ok
  refine ⟨a, rfl, ⟨vs, SqL.of h1⟩, q.2 _ H1 [⟨a, xs⟩] at1 g (fun z hz => ?_) wk_list⟩
  obtain rfl := List.mem_singleton.mp hz
  exact ⟨n, vs, h1, r⟩⟩
theorem i_range1E {P : Int → Prop} {n : Int} (hm : X.mg "range" = none) (h : XA X c ss [e] [.dat n]) (hn : -100000 ≤ n ∧ n ≤ 100000) (hg : Gl X "range" := by rfl) (hs : starEach [e] X.env = [(false, eval e X.env)] := by rfl) : XI X c ss tg (.Call (.Name "range" p) [e] [] pos) (upFrom 0 n.toNat) :=
  (pi_range1 hg hm h hs).wk fun σ H R q => ⟨q.1, fun vs H1 at1 g ok => by
    obtain ⟨v, rfl, m, hv, z⟩ := ok.one
    have z : m = n := z
    subst z
    obtain rfl : v = V.int m := hv
    exact ⟨m, rfl, by omega, by omega, q.2 _ H1 [] (at1.addpr (fun z hz => absurd hz (by simp)) fun i s es o z hz => absurd hz (by simp)) g wk_rng⟩⟩
theorem i_range1 {n : Int} (hm : X.mg "range" = none) (h : XA X c ss [e] [.dat n]) (hn : -100000 ≤ n ∧ n ≤ 100000) (hg : Gl X "range" := by rfl) (hs : starEach [e] X.env = [(false, eval e X.env)] := by rfl) : XI X c ss tg (.Call (.Name "range" p) [e] [] pos) (upFrom 0 n.toNat) := i_range1E (P := fun _ => True) hm h hn hg hs
theorem i_range2 {n m : Int} (hm : X.mg "range" = none) (h : XA X c ss [e, e2] [.dat n, .dat m]) (hn : -100000 ≤ n ∧ n ≤ 100000 ∧ -100000 ≤ m ∧ m ≤ 100000) (hg : Gl X "range" := by rfl) (hs : starEach [e, e2] X.env = [(false, eval e X.env), (false, eval e2 X.env)] := by rfl) (hs2 : starEach [e2] X.env = [(false, eval e2 X.env)] := by rfl) :
    XI X c ss tg (.Call (.Name "range" p) [e, e2] [] pos) (upFrom n (m - n).toNat) :=
  (pi_range2 hg hm h hs hs2).wk fun σ H R q => ⟨q.1, fun vs H1 at1 g ok => by
    obtain ⟨v, u, rfl, ⟨n', hv, z⟩, m', hu, z2⟩ := ok.two
    have z : n' = n := z
    have z2 : m' = m := z2
    subst z z2
    obtain rfl : v = V.int n' := hv
    obtain rfl : u = V.int m' := hu
    exact ⟨n', m', rfl, ⟨by omega, by omega, by omega, by omega⟩, q.2 _ H1 [] (at1.addpr (fun z hz => absurd hz (by simp)) fun i s es o z hz => absurd hz (by simp)) g wk_rng⟩⟩
/-- enumerate of a list that is read: for a comprehension; of a locked one, for a loop -/
theorem i_enumP {a : Addr} {elts : List Expr} {kk : Nat} {tpos : Pos} (m : Pr.mk a xs ∈ c.pr) (hm : X.mg "enumerate" = none) (h : XA X c ss [e] [.val (.ref a)]) (hg : Gl X "enumerate" := by rfl) (hs : starEach [e] X.env = [(false, eval e X.env)] := by rfl) :
    XI X c ss (.Tuple elts kk tpos) (.Call (.Name "enumerate" p) [e] [] pos) (numFrom xs) :=
  (pi_enum hg hm h hs).wk fun σ H R q => ⟨q.1, fun vs H1 at1 g ok => by
    obtain ⟨v, rfl, hv⟩ := ok.one
    have hv : v = .ref a := hv
    subst hv
    obtain ⟨n, us, h1, r⟩ := at1.pr _ m
    refine ⟨a, us, rfl, SqL.of h1, q.2 _ H1 [⟨a, xs⟩] (at1.addpr (fun z hz => ?_) fun i s es o z hz w => ?_) g wk_enum⟩
    · obtain rfl := List.mem_singleton.mp hz
      exact ⟨n, us, h1, r⟩
    · obtain rfl := List.mem_singleton.mp hz
      obtain ⟨ad, k1, k2, k3⟩ := at1.sl
      cases s with
      | own ys =>
        obtain ⟨_, e1, _⟩ := k1 i _ es
        have ep : ad i = a := V.ref.inj (Option.some.inj (Option.some.inj (e1.symm.trans w)))
        exact k3 i _ es trivial _ m ep
      | _ => exact o.elim⟩
theorem i_enumN {elts : List Expr} {kk : Nat} {tpos : Pos} (hm : X.mg "enumerate" = none) (h : XA X c ss [e] [.own xs]) (hg : Gl X "enumerate" := by rfl) (hs : starEach [e] X.env = [(false, eval e X.env)] := by rfl) :
    XI X c ss (.Tuple elts kk tpos) (.Call (.Name "enumerate" p) [e] [] pos) (numFrom xs) :=
  (pi_enum hg hm h hs).wk fun σ H R q => ⟨q.1, fun vs H1 at1 g ok => by
    obtain ⟨v, rfl, hv⟩ := ok.one
    obtain ⟨p, us, rfl, n, h1, r⟩ := hv
    refine ⟨p, us, rfl, SqL.of h1, q.2 _ H1 [⟨p, xs⟩] (at1.addpr (fun z hz => ?_) fun i s es o z hz w => ?_) g wk_enum⟩
    · obtain rfl := List.mem_singleton.mp hz
      exact ⟨q.1.notS n, us, h1, r⟩
    · obtain rfl := List.mem_singleton.mp hz
      obtain ⟨p', vs', e1, e2⟩ := q.1.own_at es o
      have ep : p' = p := V.ref.inj (Option.some.inj (Option.some.inj (e1.symm.trans w)))
      rw [ep] at e2
      exact n.noL e2⟩
/-- zip of two lists that are read; of two tuples -/
theorem i_zipL {elts : List Expr} {kk : Nat} {tpos : Pos} (hm : X.mg "zip" = none) (h : XA X c ss [e, e2] [.lst xs, .lst ys]) (hg : Gl X "zip" := by rfl) (hs : starEach [e, e2] X.env = (false, eval e X.env) :: starEach [e2] X.env := by rfl) (hpl : (backTo pos (starEach [e2] X.env)).any (·.1) = false := by rfl) :
    XIc X c ss (.Tuple elts kk tpos) (.Call (.Name "zip" p) [e, e2] [] pos) (xs.zip ys) :=
  (RZ.pi_zipA hg hm h hs hpl).wk fun σ H R q => ⟨q.1, fun vs H1 at1 g ok => by
    obtain ⟨v, u, rfl, hv, hu⟩ := ok.two
    obtain ⟨a, us, rfl, n, h1, r⟩ := hv
    obtain ⟨b, ws, rfl, n2, h2, r2⟩ := hu
    refine ⟨a, b, us, ws, rfl, .inl ⟨SqL.of h1, SqL.of h2, q.2 _ H1 [⟨a, xs⟩, ⟨b, ys⟩] at1 g (fun z hz => ?_) wk_zip⟩⟩
    rcases List.mem_cons.mp hz with hz | hz
    · obtain rfl := hz
      exact ⟨n, us, h1, r⟩
    · obtain rfl := List.mem_singleton.mp hz
      exact ⟨n2, ws, h2, r2⟩⟩
theorem i_zipT {elts : List Expr} {kk : Nat} {tpos : Pos} (hm : X.mg "zip" = none) (h : XA X c ss [e, e2] [.dat xs, .dat ys]) (hg : Gl X "zip" := by rfl) (hs : starEach [e, e2] X.env = (false, eval e X.env) :: starEach [e2] X.env := by rfl) (hpl : (backTo pos (starEach [e2] X.env)).any (·.1) = false := by rfl) :
    XI X c ss (.Tuple elts kk tpos) (.Call (.Name "zip" p) [e, e2] [] pos) (xs.zip ys) :=
  (RZ.pi_zipA hg hm h hs hpl).wk fun σ H R q => ⟨q.1, fun vs H1 at1 g ok => by
    obtain ⟨v, u, rfl, ⟨x', hv, z⟩, y', hu, z2⟩ := ok.two
    have z : x' = xs := z
    have z2 : y' = ys := z2
    subst z z2
    obtain ⟨a, us, rfl, h1, r⟩ := hv
    obtain ⟨b, ws, rfl, h2, r2⟩ := hu
    exact ⟨a, b, us, ws, rfl, .inr ⟨h1, h2, q.2 _ H1 [] (at1.addpr (fun z hz => absurd hz (by simp)) fun i s es o z hz => absurd hz (by simp)) g (wk_zipT h1 r h2 r2)⟩⟩⟩
end
end Ab

/-! Ab6: for, comprehensions, while, the entry of a def. -/
namespace Ab
open PySem L2
open Ab.Rp (rp)
section
variable {X : Cx} {c : Ctx} {ss : List AV} {D : AE} {e tg iter t : Expr} {rest body : List Stmt} {pos p2 : Pos} {α β : Type} [Rp α] [Rp β] {xs : List α} {ys : List β}
/-- for: I, what holds at the i-th turn; T, the state behind the target -/
theorem q_for (I : Nat → List AV → Prop) (T : List AV → α → List AV) (hc : X.calm = true) (hi : XI X c ss tg iter xs) (h0 : I 0 ss) (hg : ∀ c' i ss' x, xs[i]? = some x → I i ss' → XG X c' ss' tg (.dat x) (T ss' x))
    (hb : ∀ pr tu i ss' x, xs[i]? = some x → I i ss' → XSs X (c.add pr tu) (T ss' x) body { nx := I (i + 1), ct := I (i + 1), bk := fun _ => False, rt := D.rt }) (hd : ∀ ss', I xs.length ss' → XSs X c ss' rest D)
    (hp : PassesOwn (model X.prog X.w) X.A X.env X.xe := by exact PassesOwn.never) (hs : ∀ x, foldedSetIterable iter X.env x = pure x := by intro _; rfl) : XSs X c ss (.For tg iter body [] pos :: rest) D := by
  refine q_seq (N := I xs.length) ?_ hd
  have hg' : PG X tg (fun v σ H Q => ∃ (c' : Ctx) (i : Nat) (ss' : List AV) (x : α) (_ : xs[i]? = some x) (_ : I i ss'), tG X.K c' ss' (.dat x) (T ss' x) v σ H Q) :=
    PG.all fun c' => PG.all fun i => PG.all fun ss' => PG.all fun x => PG.all fun hx => PG.all fun hI => hg c' i ss' x hx hI
  have hb' : PSs X body (fun De σ H => ∃ (pr : List Pr) (tu : List Hp) (i : Nat) (ss' : List AV) (x : α) (_ : xs[i]? = some x) (_ : I i ss'), tS X.K (c.add pr tu) (T ss' x) { nx := I (i + 1), ct := I (i + 1), bk := fun _ => False, rt := D.rt } De σ H) :=
    PSs.all fun pr => PSs.all fun tu => PSs.all fun i => PSs.all fun ss' => PSs.all fun x => PSs.all fun hx => PSs.all fun hI => hb pr tu i ss' x hx hI
  refine (ps_for hp hc hi hg' hb' hs).wk fun De σ H q => ⟨q.1, fun J H1 pr a1 g1 w => ?_⟩
  have gd : ∀ {ss' : List AV} {σ' : L2.St} {H' : Hp}, At X.K (c.add pr [H1]) ss' σ' H' → Gd X.K pr H1 H' := fun a => ⟨a.tu H1 (List.mem_append_left _ (List.mem_singleton.mpr rfl)), fun z hz => (a.pr z (List.mem_append_left _ hz)).2⟩
  refine ⟨fun i m σ' H' => m = xs.length - i ∧ i ≤ xs.length ∧ ∃ ss', I i ss' ∧ At X.K (c.add pr [H1]) ss' σ' H', ⟨xs.length, rfl, Nat.zero_le _, ss, h0, a1⟩, ?_⟩
  rintro i m σ' H' ⟨rfl, hi', ss', hI, a'⟩
  by_cases hlt : i < xs.length
  · refine .inr ⟨w.go i H' (gd a') hlt, fun σ2 H2 => ∃ s2, I (i + 1) s2 ∧ At X.K (c.add pr [H1]) s2 σ2 H2, fun σ2 H2 ⟨s2, i2, a2⟩ => ⟨xs.length - (i + 1), by omega, rfl, hlt, s2, i2, a2⟩, fun x H2 y => ?_⟩
    obtain ⟨d, hd1, hd2, hH⟩ := w.yld i H' x H2 (gd a') hlt y
    have a2 : At X.K (c.add pr [H1]) ss' σ' H2 := by
      rcases hH with hH | ⟨T', vs, hT, hH⟩
      · rw [hH]
        exact a'
      · rw [hH]
        exact a'.new hT
    refine ⟨c.add pr [H1], i, ss', d, hd1, hI, a2, ⟨d, hd2, rfl⟩, fun σ3 a3 => ?_⟩
    exact ⟨pr, [H1], i, ss', d, hd1, hI, a3, fun s4 σ4 H4 n4 a4 => ⟨s4, n4, a4⟩, fun v H4 g4 j4 ok => q.2.2.1 v H4 g4 j4 ok, fun _ _ _ z _ => z.elim, fun s4 σ4 H4 n4 a4 => ⟨s4, n4, a4⟩⟩
  · have hi2 : i = xs.length := by omega
    subst hi2
    exact .inl ⟨w.stop _ H' (gd a') (Nat.le_refl _), q.2.1 ss' σ' H' hI a'.unpr⟩
/-! ### comprehensions -/
theorem wipe_get {σ : L2.St} {vs : List Nat} {i : Nat} (h : i ∉ vs) : (L2.wipe σ vs)[i]? = σ[i]? := by
  induction vs with
  | nil => rfl
  | cons v vs ih =>
    show ((L2.wipe σ vs).set v none)[i]? = _
    rw [List.getElem?_set_ne (fun z => h (by rw [← z]; exact List.mem_cons_self ..)), ih fun z => h (List.mem_cons_of_mem _ z)]
theorem wipe_in {σ : L2.St} {vs : List Nat} {i : Nat} (h : i ∈ vs) (hl : i < σ.length) : (L2.wipe σ vs)[i]? = some none := by
  induction vs with
  | nil => cases h
  | cons v vs ih =>
    show ((L2.wipe σ vs).set v none)[i]? = _
    by_cases hv : v = i
    · subst hv
      rw [List.getElem?_set_self (by rw [wipe_length]; exact hl)]
    · rw [List.getElem?_set_ne hv]
      exact ih ((List.mem_cons.mp h).resolve_left fun z => hv z.symm)
/-- two states that differ in the wiped slots alone -/
theorem wipe_eq {σ τ : L2.St} {vs : List Nat} (hl : σ.length = τ.length) (h : ∀ i, i ∉ vs → σ[i]? = τ[i]?) : L2.wipe σ vs = L2.wipe τ vs := by
  apply List.ext_getElem?
  intro i
  by_cases hi : i ∈ vs
  · by_cases hb : i < σ.length
    · rw [wipe_in hi hb, wipe_in hi (by rw [← hl]; exact hb)]
    · rw [List.getElem?_eq_none (by rw [wipe_length]; omega), List.getElem?_eq_none (by rw [wipe_length]; omega)]
  · rw [wipe_get hi, wipe_get hi, h i hi]
theorem wipe_wipe {σ : L2.St} {vs : List Nat} : L2.wipe (L2.wipe σ vs) vs = L2.wipe σ vs := wipe_eq (wipe_length _ _) fun i hi => wipe_get hi
theorem At.wipe {K : PySem.W.Frag} {c : Ctx} {ss : List AV} {σ : L2.St} {H : Hp} (a : At K c ss σ H) : ∀ {vs : List Nat}, (∀ i ∈ vs, ss[i]? = some .un) → At K c ss (L2.wipe σ vs) H
  | [], _ => a
  | v :: vs, h => by
    have b := At.wipe a (vs := vs) fun i hi => h i (List.mem_cons_of_mem _ hi)
    have hv := h v (List.mem_cons_self ..)
    refine ⟨by show ((L2.wipe σ vs).set v none).length = _; rw [List.length_set]; exact b.len, b.gr, b.j, b.tu, b.pr, ?_⟩
    obtain ⟨ad, h1, h2, h3⟩ := b.sl
    refine ⟨ad, fun i s e => ?_, h2, h3⟩
    by_cases hi : i = v
    · rw [hi, hv] at e
      cases e
      exact trivial
    · show SlOk K c H ((L2.wipe σ vs).set v none)[i]? _ _
      rw [List.getElem?_set_ne (Ne.symm hi)]
      exact h1 i s e
/-- a new list outside the state is written -/
theorem At.out {K : PySem.W.Frag} {c : Ctx} {ss : List AV} {σ : L2.St} {Hb H : Hp} {p : Addr} {us ws : List V} (b : At K c ss σ Hb) (n : Nf Hb p) (a : At K c ss σ H) (h : H p = some (.lst us)) : At K c ss σ (upd H p (.lst ws)) := by
  have t : Tu H (upd H p (.lst ws)) := Tu.put h
  have h0 : Nf c.H0 p := b.gr.fresh n
  refine ⟨a.len, a.gr.put h0 h, c.w.putJ a.j h (b.notS n), fun z hz => (a.tu z hz).trans t, fun q hq => ?_, ?_⟩
  · obtain ⟨m, vs, g, s⟩ := a.pr q hq
    obtain ⟨_, vs2, g2, _⟩ := b.pr q hq
    have hq2 : q.p ≠ p := fun z => by
      rw [z] at g2
      exact n.noL g2
    exact ⟨m, vs, by rw [upd_ne hq2]; exact g, s.mono t⟩
  · obtain ⟨ad, h1, h2, h3⟩ := a.sl
    refine ⟨ad, fun i s e => ?_, h2, h3⟩
    have q := h1 i s e
    cases s with
    | un => exact trivial
    | ex P =>
      obtain ⟨v, x, q1, q2, q3⟩ := q
      exact ⟨v, x, q1, Rp.mono t q2, q3⟩
    | own zs =>
      obtain ⟨vs, q1, q2, q3, q4, q5⟩ := q
      obtain ⟨p2, vs2, e1, e2⟩ := b.own_at e trivial
      have ep : ad i = p2 := V.ref.inj (Option.some.inj (Option.some.inj (q1.symm.trans e1)))
      have hne : ad i ≠ p := fun z => by
        rw [← ep, z] at e2
        exact n.noL e2
      exact ⟨vs, q1, by rw [upd_ne hne]; exact q2, q3.mono t, q4, q5⟩
    | lst zs => exact q
    | val v => exact q
    | ownE P => exact q
    | two a b => exact q
    | cel C =>
      obtain ⟨u, q1, q2, q3, q4, q5⟩ := q
      exact ⟨u, q1, by rw [upd_ne (fun z => (C.nl q3).1 _ (by rw [z, h] at q2; exact (Option.some.inj q2).symm))]; exact q2, C.mono t q3, q4, q5⟩
/-- what no tuple is may be written -/
theorem Tu.putO {H : Hp} {p : Addr} {o o' : HO} (h : H p = some o) (h1 : ∀ xs, o ≠ .tup xs) (h2 : ∀ b u, o ≠ .frz b u) : Tu H (upd H p o') := by
  have ne : ∀ a us, Rd H a (.tup us) → a ≠ p := fun a us e => by
    intro z
    rw [z] at e
    rcases e with e | ⟨b, e⟩
    · rw [h] at e
      exact h1 _ (Option.some.inj e)
    · rw [h] at e
      exact h2 _ _ (Option.some.inj e)
  refine ⟨fun a us e => ?_, fun a us e => by rw [upd_ne (ne a us (.inl e))]; exact e, fun a b u e => by
    rw [upd_ne (fun z => by rw [z, h] at e; exact h2 _ _ (Option.some.inj e))]
    exact e⟩
  have q := ne a us e
  rcases e with e | ⟨b, e⟩
  · exact .inl (by rw [upd_ne q]; exact e)
  · exact .inr ⟨b, by rw [upd_ne q]; exact e⟩
/-- a new object outside the state is written -/
theorem At.outO {K : PySem.W.Frag} {c : Ctx} {ss : List AV} {σ : L2.St} {Hb H : Hp} {p : Addr} {o o' : HO} (b : At K c ss σ Hb) (n : Nf Hb p) (a : At K c ss σ H) (h : H p = some o) (m : ¬ Fx o) : At K c ss σ (upd H p o') := by
  have t : Tu H (upd H p o') := Tu.putO h (fun xs z => m (by rw [z]; trivial)) (fun q u z => m (by rw [z]; trivial))
  have h0 : Nf c.H0 p := b.gr.fresh n
  refine ⟨a.len, a.gr.putO h0, c.w.putO a.j h m (b.notS n), fun z hz => (a.tu z hz).trans t, fun q hq => ?_, ?_⟩
  · obtain ⟨m, vs, g, s⟩ := a.pr q hq
    obtain ⟨_, vs2, g2, _⟩ := b.pr q hq
    have hq2 : q.p ≠ p := fun z => by
      rw [z] at g2
      exact n.noL g2
    exact ⟨m, vs, by rw [upd_ne hq2]; exact g, s.mono t⟩
  · obtain ⟨ad, h1, h2, h3⟩ := a.sl
    refine ⟨ad, fun i s e => ?_, h2, h3⟩
    have q := h1 i s e
    cases s with
    | un => exact trivial
    | ex P =>
      obtain ⟨v, x, q1, q2, q3⟩ := q
      exact ⟨v, x, q1, Rp.mono t q2, q3⟩
    | own zs =>
      obtain ⟨vs, q1, q2, q3, q4, q5⟩ := q
      obtain ⟨p2, vs2, e1, e2⟩ := b.own_at e trivial
      have ep : ad i = p2 := V.ref.inj (Option.some.inj (Option.some.inj (q1.symm.trans e1)))
      have hne : ad i ≠ p := fun z => by
        rw [← ep, z] at e2
        exact n.noL e2
      exact ⟨vs, q1, by rw [upd_ne hne]; exact q2, q3.mono t, q4, q5⟩
    | lst zs => exact q
    | val v => exact q
    | ownE P => exact q
    | two a b => exact q
    | cel C =>
      obtain ⟨u, q1, q2, q3, q4, q5⟩ := q
      obtain ⟨bd, g1, _⟩ := b.sl
      obtain ⟨u2, r1, r2, r3, _⟩ := g1 i _ e
      have ep : ad i = bd i := V.ref.inj (Option.some.inj (Option.some.inj (q1.symm.trans r1)))
      have hne : ad i ≠ p := by
        rw [ep]
        exact n.ne r2 (C.nl r3).2.1
      exact ⟨u, q1, by rw [upd_ne hne]; exact q2, C.mono t q3, q4, q5⟩
/-- [elt for tg in iter if ..]: I holds of the list made so far -/
theorem x_lcE {elt : Expr} {ifs : List Expr} {scope : Scope} {own : List (Str × Nat)} (I : Nat → List β → Prop) (Pt : Nat → Bool → Prop) (Pe : Nat → β → Prop) (T : α → List AV) {R : AV}
    (hc : X.calm = true) (hN : X.N.Nodup) (ok : BlkOk X.N X.env.scope scope own) (hun : ∀ i ∈ own.map (·.2), ss[i]? = some .un) (hsz : xs.length ≤ 100000) (hi : XIc X c ss tg iter xs)
    (hg : ∀ (s : Shared) (H : Hp) (C : Addr) (cl : List (Str × Addr)) (fp : List Addr) (x : α), PG (X.blk s H scope (compEnvC scope cl C X.env) fp) tg (fun v σ H Q => At X.K c ss σ H ∧ RsOk X.K c.w H H v (.dat x) ∧ ∀ σ', At X.K c (T x) σ' H → L2.wipe σ' (own.map (·.2)) = L2.wipe σ (own.map (·.2)) → Q σ' H))
    (ht : ∀ (s : Shared) (H : Hp) (C : Addr) (cl : List (Str × Addr)) (fp : List Addr) (i : Nat) (x : α), xs[i]? = some x → PTs (X.blk s H scope (compEnvC scope cl C X.env) fp) ifs (tB X.K c (T x) (Pt i)))
    (he : ∀ (s : Shared) (H : Hp) (C : Addr) (cl : List (Str × Addr)) (fp : List Addr) (i : Nat) (x : α), xs[i]? = some x → Pt i true → PE (X.blk s H scope (compEnvC scope cl C X.env) fp) elt (tX X.K c (T x) (.ex (Pe i))))
    (h0 : I 0 []) (h1 : ∀ i zs, i < xs.length → I i zs → Pt i false → I (i + 1) zs) (h2 : ∀ i zs z, i < xs.length → I i zs → Pt i true → Pe i z → I (i + 1) (zs ++ [z]))
    (hR : ∀ H H' v zs, I xs.length zs → RsOk X.K c.w H H' v (.own zs) → RsOk X.K c.w H H' v R) (hs : ∀ x, foldedSetIterable iter X.env x = pure x := by intro _; rfl) :
    XE X c ss (.ListComp elt [⟨tg, iter, ifs, 0⟩] scope pos) R := by
  have hg' : ∀ (s : Shared) (H : Hp) (C : Addr) (cl : List (Str × Addr)) (fp : List Addr), PG (X.blk s H scope (compEnvC scope cl C X.env) fp) tg (fun v σ H Q => ∃ x : α, At X.K c ss σ H ∧ RsOk X.K c.w H H v (.dat x) ∧ ∀ σ', At X.K c (T x) σ' H → L2.wipe σ' (own.map (·.2)) = L2.wipe σ (own.map (·.2)) → Q σ' H) :=
    fun s H C cl fp => PG.all fun x => hg s H C cl fp x
  have ht' : ∀ (s : Shared) (H : Hp) (C : Addr) (cl : List (Str × Addr)) (fp : List Addr), PTs (X.blk s H scope (compEnvC scope cl C X.env) fp) ifs (fun σ H Q => ∃ (i : Nat) (x : α) (_ : xs[i]? = some x), tB X.K c (T x) (Pt i) σ H Q) :=
    fun s H C cl fp => ⟨fun pins s' σ H' Q J ⟨i, x, hx, q⟩ => (ht s H C cl fp i x hx).run pins s' σ H' Q J q⟩
  have he' : ∀ (s : Shared) (H : Hp) (C : Addr) (cl : List (Str × Addr)) (fp : List Addr), PE (X.blk s H scope (compEnvC scope cl C X.env) fp) elt (fun σ H Q => ∃ (i : Nat) (x : α) (_ : xs[i]? = some x) (_ : Pt i true), tX X.K c (T x) (.ex (Pe i)) σ H Q) :=
    fun s H C cl fp => PE.all fun i => PE.all fun x => PE.all fun hx => PE.all fun hp => he s H C cl fp i x hx hp
  refine (pe_lc hc hN hi ok hg' ht' he' hs).wk fun σ H Q q => ⟨q.1, fun J H1 pr a1 g1 src w L hL => ?_⟩
  have nS : ¬ c.w.S L := a1.notS (Nf.of hL)
  have w0 : At X.K c ss (L2.wipe σ (own.map (·.2))) H1 := a1.wipe hun
  have gd : ∀ {H' : Hp}, Gr c.w H1 H' → Gd X.K pr H1 H' := fun g => ⟨g.tu, fun z hz => by
    obtain ⟨n, vs, e, r⟩ := src z hz
    exact ⟨vs, g.all _ _ e n (fun ps e => by cases e), r.mono g.tu⟩⟩
  refine ⟨fun i m H' => m = xs.length - i ∧ i ≤ xs.length ∧ At X.K c ss (L2.wipe σ (own.map (·.2))) H' ∧ Gr c.w H1 H' ∧ ∃ acc zs, H' L = some (.lst acc) ∧ Rps X.K H' acc zs ∧ I i zs ∧ zs.length ≤ i,
    ⟨xs.length, rfl, Nat.zero_le _, w0.new hL, Gr.new hL, [], [], upd_same, .nil, h0, Nat.le_refl _⟩, ?_⟩
  rintro i m H' ⟨rfl, hi', a', g', acc, zs, hacc, hr, hI, hzl⟩
  by_cases hlt : i < xs.length
  · refine .inr ⟨w.go i H' (gd g') hlt, fun H2 => At X.K c ss (L2.wipe σ (own.map (·.2))) H2 ∧ Gr c.w H1 H2 ∧ ∃ acc zs, H2 L = some (.lst acc) ∧ Rps X.K H2 acc zs ∧ I (i + 1) zs ∧ zs.length ≤ i + 1,
      fun H2 ⟨a2, g2, k2⟩ => ⟨xs.length - (i + 1), by omega, rfl, hlt, a2, g2, k2⟩, fun x H2 y => ?_⟩
    obtain ⟨d, hd1, hd2, hH⟩ := w.yld i H' x H2 (gd g') hlt y
    have a2 : At X.K c ss (L2.wipe σ (own.map (·.2))) H2 ∧ Gr c.w H' H2 := by
      rcases hH with hH | ⟨T', vs, hT, hH⟩
      · rw [hH]
        exact ⟨a', Gr.refl _ _⟩
      · rw [hH]
        exact ⟨a'.new hT, Gr.new hT⟩
    have keep : ∀ {Ha Hb : Hp} {acc : List V}, Gr c.w Ha Hb → Ha L = some (.lst acc) → Hb L = some (.lst acc) := fun g e => g.all _ _ e nS fun ps z => by cases z
    refine ⟨d, a2.1, ⟨d, hd2, rfl⟩, fun σ3 a3 ew => ?_⟩
    have ew : L2.wipe σ3 (own.map (·.2)) = L2.wipe σ (own.map (·.2)) := by
      rw [ew, wipe_wipe]
    refine ⟨ew, i, d, hd1, a3, fun b H3 a4 g4 pb => ?_⟩
    have base : At X.K c ss (L2.wipe σ (own.map (·.2))) H3 := a2.1.mono g4 a4.j
    cases b with
    | true =>
      refine ⟨i, d, hd1, pb, a4, fun v H4 a5 g5 ⟨z, hz, pz⟩ => ?_⟩
      have g15 : Gr c.w H' H4 := (a2.2.trans g4).trans g5
      have hL4 : H4 L = some (.lst acc) := keep g15 hacc
      have base4 : At X.K c ss (L2.wipe σ (own.map (·.2))) H4 := base.mono g5 a5.j
      refine ⟨acc, hL4, by rw [hr.len]; exact Nat.lt_of_le_of_lt hzl (Nat.lt_of_lt_of_le hlt (Nat.le_trans hsz (by decide))), w0.out (Nf.of hL) base4 hL4, (g'.trans g15).put (Nf.of hL) hL4, acc ++ [v], zs ++ [z], upd_same, ?_, h2 i zs z hlt hI pb pz, by rw [List.length_append, List.length_singleton]; omega⟩
      exact ((hr.mono g15.tu).append (.one hz)).mono (Tu.put hL4)
    | false =>
      have g15 : Gr c.w H' H3 := a2.2.trans g4
      exact ⟨base, g'.trans g15, acc, zs, keep g15 hacc, hr.mono g15.tu, h1 i zs hlt hI pb, by omega⟩
  · have hi2 : i = xs.length := by omega
    subst hi2
    refine .inl ⟨w.stop _ H' (gd g') (Nat.le_refl _), q.2 (.ref L) H' (a1.mono g' a'.j) (g1.trans g') (hR H H' _ zs hI ⟨L, acc, rfl, g1.fresh (Nf.of hL), hacc, hr⟩)⟩
end
end Ab

/-! Ab7: comprehensions in short, while, locks, the entry of a def. -/
namespace Ab
open PySem L2
open Ab.Rp (rp)
section
variable {X : Cx} {c : Ctx} {ss : List AV} {D : AE} {e tg iter t : Expr} {rest body : List Stmt} {pos p1 p2 : Pos} {α β γ : Type} [Rp α] [Rp β] [Rp γ] {xs : List α}
theorem pts_wk {ifs : List Expr} {t t' : TT} (h : PTs X ifs t) (k : ∀ σ H Q, t' σ H Q → t σ H Q) : PTs X ifs t' := ⟨fun pins s σ H Q I q => h.run pins s σ H Q I (k σ H Q q)⟩
theorem c_yes : PTs X [] (tB X.K c ss (· = true)) := pts_wk pts_nil fun σ H Q q => q.2 true H q.1 (Gr.refl _ _) rfl
theorem c_one {P : Bool → Prop} (h : XT X c ss t P) : PTs X [t] (tB X.K c ss P) := pts_one h
/-- what a comprehension's target is to give -/
def tGc (K : PySem.W.Frag) (c : Ctx) (ss : List AV) (vs : List Nat) (r : AV) (ss' : List AV) : TG := fun v σ H Q => At K c ss σ H ∧ RsOk K c.w H H v r ∧ ∀ σ', At K c ss' σ' H → L2.wipe σ' vs = L2.wipe σ vs → Q σ' H
theorem g_lc1 {x : α} (i : Nat) {y : Str} (hi : i < ss.length) (hN : X.N.Nodup) (hx : X.N[i]? = some y) (hl : Loc X.env.scope y) (hf : X.fn y = true ∨ X.env.scope.names.lookup y = some .local) : PG X (.Name y pos) (tGc X.K c ss [i] (.dat x) (ss.set i (.dat x))) :=
  (pg_name hN hx hl hf).wk fun v σ H Q ⟨a, ⟨z, hz, e⟩, q⟩ => q _ (a.set (fun z => z) (fun ad => ⟨v, z, rfl, hz, e⟩) hi) (wipe_eq (List.length_set ..) fun j hj => by
    rw [List.getElem?_set_ne (fun z => hj (by rw [← z]; exact List.mem_singleton.mpr rfl))])
theorem g_lc2 {x : α} {y : β} {k : Nat} (i j : Nat) {y1 y2 : Str} (hc : X.calm = true) (hij : i ≠ j) (hi : i < ss.length) (hj : j < ss.length) (hN : X.N.Nodup) (hx : X.N[i]? = some y1) (hy : X.N[j]? = some y2) (hl : Loc X.env.scope y1) (hl2 : Loc X.env.scope y2)
    (hf : X.fn y1 = true ∨ X.env.scope.names.lookup y1 = some .local) (hf2 : X.fn y2 = true ∨ X.env.scope.names.lookup y2 = some .local)
    (e1 : (assignEach [.Name y1 p1, .Name y2 p2] X.env).map (·.2) = assign (.Name y1 p1) X.env :: (assignEach [.Name y2 p2] X.env).map (·.2) := by rfl) (e2 : (assignEach [.Name y2 p2] X.env).map (·.2) = assign (.Name y2 p2) X.env :: (assignEach [] X.env).map (·.2) := by rfl)
    (hn : (assignEach [.Name y1 p1, .Name y2 p2] X.env).length = 2 := by rfl) (hst : (assignEach [.Name y1 p1, .Name y2 p2] X.env).findIdx? (·.1) = none := by rfl) :
    PG X (.Tuple [.Name y1 p1, .Name y2 p2] k pos) (tGc X.K c ss [i, j] (.dat (x, y)) ((ss.set i (.dat x)).set j (.dat y))) :=
  (pg_tup hc (pgs_cons (pg_name hN hx hl hf) (pgs_cons (pg_name hN hy hl2 hf2) pgs_nil e2) e1) hn hst).wk fun v σ H Q ⟨a, ⟨z, hz, e⟩, q⟩ => by
    have e : z = (x, y) := e
    subst e
    obtain ⟨p, u, w, rfl, st, r1, r2⟩ := hz
    refine ⟨p, [u, w], rfl, st, rfl, u, [w], rfl, w, [], rfl, rfl, q _ ((a.set (s := .dat x) (fun z => z) (fun ad => ⟨u, x, rfl, r1, rfl⟩) hi).set (s := .dat y) (fun z => z) (fun ad => ⟨w, y, rfl, r2, rfl⟩) (by rw [List.length_set]; exact hj)) (wipe_eq (by rw [List.length_set, List.length_set]) fun k hk => ?_)⟩
    rw [List.getElem?_set_ne (fun z => hk (by rw [← z]; simp)), List.getElem?_set_ne (fun z => hk (by rw [← z]; simp))]
theorem given_step {f : α → β} {g : α → Bool} {zs : List β} {i : Nat} {x : α} (hx : xs[i]? = some x) (h : zs = ((xs.take i).filter g).map f) : (g x = false → zs = ((xs.take (i + 1)).filter g).map f) ∧ (g x = true → zs ++ [f x] = ((xs.take (i + 1)).filter g).map f) := by
  rw [List.take_add_one, hx, List.filter_append, List.map_append, h]
  refine ⟨fun e => ?_, fun e => ?_⟩
  · show _ = _ ++ (List.filter g [x]).map f
    rw [List.filter_cons_of_neg (by rw [e]; decide)]
    exact (List.append_nil _).symm
  · show _ = _ ++ (List.filter g [x]).map f
    rw [List.filter_cons_of_pos e]
    rfl
/-- told wholly: the items that pass, each by f -/
theorem x_lc {elt : Expr} {ifs : List Expr} {scope : Scope} {own : List (Str × Nat)} (f : α → β) (g : α → Bool) (T : α → List AV) (hc : X.calm = true) (hN : X.N.Nodup) (ok : BlkOk X.N X.env.scope scope own) (hun : ∀ i ∈ own.map (·.2), ss[i]? = some .un) (hsz : xs.length ≤ 100000) (hi : XIc X c ss tg iter xs)
    (hg : ∀ (s : Shared) (H : Hp) (C : Addr) (cl : List (Str × Addr)) (fp : List Addr) (x : α), PG (X.blk s H scope (compEnvC scope cl C X.env) fp) tg (tGc X.K c ss (own.map (·.2)) (.dat x) (T x)))
    (ht : ∀ (s : Shared) (H : Hp) (C : Addr) (cl : List (Str × Addr)) (fp : List Addr) (x : α), x ∈ xs → PTs (X.blk s H scope (compEnvC scope cl C X.env) fp) ifs (tB X.K c (T x) (· = g x)))
    (he : ∀ (s : Shared) (H : Hp) (C : Addr) (cl : List (Str × Addr)) (fp : List Addr) (x : α), x ∈ xs → g x = true → PE (X.blk s H scope (compEnvC scope cl C X.env) fp) elt (tX X.K c (T x) (.dat (f x))))
    (hs : ∀ x, foldedSetIterable iter X.env x = pure x := by intro _; rfl) : XE X c ss (.ListComp elt [⟨tg, iter, ifs, 0⟩] scope pos) (.own ((xs.filter g).map f)) :=
  x_lcE (R := .own ((xs.filter g).map f)) (fun i zs => zs = ((xs.take i).filter g).map f) (fun i b => ∃ x, xs[i]? = some x ∧ b = g x) (fun i z => ∃ x, xs[i]? = some x ∧ z = f x) T hc hN ok hun hsz hi hg
    (fun s H C cl fp i x hx => pts_wk (ht s H C cl fp x (List.mem_of_getElem? hx)) fun σ H' Q q => ⟨q.1, fun b H2 a g p => q.2 b H2 a g ⟨x, hx, p⟩⟩)
    (fun s H C cl fp i x hx ⟨x', hx', p⟩ => (he s H C cl fp x (List.mem_of_getElem? hx) (by
      rw [hx] at hx'
      cases hx'
      exact p.symm)).wk fun σ H' Q q => ⟨q.1, fun v H2 a g ⟨z, hz, e⟩ => q.2 v H2 a g ⟨z, hz, x, hx, e⟩⟩)
    (by rw [List.take_zero]; rfl) (fun i zs hi h ⟨x, hx, e⟩ => (given_step hx h).1 e.symm) (fun i zs z hi h ⟨x, hx, e⟩ ⟨x', hx', e'⟩ => by
      rw [hx] at hx'
      cases hx'
      rw [e']
      exact (given_step hx h).2 e.symm) (fun H H' v zs h ok => by
      have h : zs = ((xs.take xs.length).filter g).map f := h
      rw [List.take_length] at h
      rw [← h]
      exact ok) hs
/-- [f(x) for x in xs] -/
theorem x_map {elt : Expr} {scope : Scope} {own : List (Str × Nat)} (f : α → β) (T : α → List AV) (hc : X.calm = true) (hN : X.N.Nodup) (ok : BlkOk X.N X.env.scope scope own) (hun : ∀ i ∈ own.map (·.2), ss[i]? = some .un) (hsz : xs.length ≤ 100000) (hi : XIc X c ss tg iter xs)
    (hg : ∀ (s : Shared) (H : Hp) (C : Addr) (cl : List (Str × Addr)) (fp : List Addr) (x : α), PG (X.blk s H scope (compEnvC scope cl C X.env) fp) tg (tGc X.K c ss (own.map (·.2)) (.dat x) (T x)))
    (he : ∀ (s : Shared) (H : Hp) (C : Addr) (cl : List (Str × Addr)) (fp : List Addr) (x : α), x ∈ xs → PE (X.blk s H scope (compEnvC scope cl C X.env) fp) elt (tX X.K c (T x) (.dat (f x))))
    (hs : ∀ x, foldedSetIterable iter X.env x = pure x := by intro _; rfl) : XE X c ss (.ListComp elt [⟨tg, iter, [], 0⟩] scope pos) (.own (xs.map f)) := by
  have h := x_lc (pos := pos) (xs := xs) f (fun _ => true) T hc hN ok hun hsz hi hg (fun s H C cl fp x hx => c_yes) (fun s H C cl fp x hx _ => he s H C cl fp x hx) hs
  rw [List.filter_eq_self.mpr (fun _ _ => rfl)] at h
  exact h
/-- while: I with a number that falls -/
theorem q_while (I : Nat → List AV → Prop) (P : Nat → List AV → Bool → Prop) {m0 : Nat} (h0 : I m0 ss) (ht : ∀ m ss', I m ss' → XT X c ss' t (P m ss')) (hb : ∀ m ss', I m ss' → P m ss' true → XSs X c ss' body { nx := fun s => ∃ m', m' < m ∧ I m' s, ct := fun s => ∃ m', m' < m ∧ I m' s, bk := fun _ => False, rt := D.rt })
    (hd : ∀ m ss', I m ss' → P m ss' false → XSs X c ss' rest D) (hp : PassesOwn (model X.prog X.w) X.A X.env X.xe := by exact PassesOwn.never) : XSs X c ss (.While t body [] pos :: rest) D := by
  refine q_seq (N := fun s => ∃ m, I m s ∧ P m s false) ?_ fun s ⟨m, hI, hP⟩ => hd m s hI hP
  have ht' : PT X t (fun σ H Q => ∃ (m : Nat) (s : List AV) (_ : I m s), tB X.K c s (P m s) σ H Q) := PT.all fun m => PT.all fun s => PT.all fun hI => ht m s hI
  have hb' : PSs X body (fun De σ H => ∃ (m : Nat) (s : List AV) (_ : I m s) (_ : P m s true), tS X.K c s { nx := fun s => ∃ m', m' < m ∧ I m' s, ct := fun s => ∃ m', m' < m ∧ I m' s, bk := fun _ => False, rt := D.rt } De σ H) :=
    PSs.all fun m => PSs.all fun s => PSs.all fun hI => PSs.all fun hP => hb m s hI hP
  refine (ps_while hp ht' hb').wk fun De σ H q => ?_
  refine ⟨fun m σ' H' => ∃ s, I m s ∧ At X.K c s σ' H', ⟨m0, ss, h0, q.1⟩, fun m σ' H' ⟨s, hI, a⟩ => ⟨m, s, hI, a, fun b H1 a1 g1 p => ?_⟩⟩
  cases b with
  | true =>
    refine ⟨fun σ2 H2 => ∃ m', m' < m ∧ ∃ s2, I m' s2 ∧ At X.K c s2 σ2 H2, fun σ2 H2 ⟨m', h1, s2, h2, h3⟩ => ⟨m', h1, s2, h2, h3⟩, ?_⟩
    exact ⟨m, s, hI, p, a1, fun s2 σ2 H2 ⟨m', h1, h2⟩ a2 => ⟨m', h1, s2, h2, a2⟩, fun v H2 g j ok => q.2.2.1 v H2 g j ok, fun _ _ _ z _ => z.elim, fun s2 σ2 H2 ⟨m', h1, h2⟩ a2 => ⟨m', h1, s2, h2, a2⟩⟩
  | false => exact q.2.1 s σ' H1 ⟨m, hI, p⟩ a1
/-- the same, the states told by an index -/
theorem q_whileI {ι : Type} (S : ι → List AV) (I : ι → Prop) (μ : ι → Nat) (b : ι → Bool) (i0 : ι) (h0 : I i0) (e0 : ss = S i0) (ht : ∀ i, I i → XT X c (S i) t (· = b i)) (hb : ∀ i, I i → b i = true → XSs X c (S i) body { nx := fun s => ∃ j, I j ∧ μ j < μ i ∧ s = S j, ct := fun s => ∃ j, I j ∧ μ j < μ i ∧ s = S j, bk := fun _ => False, rt := D.rt })
    (hd : ∀ i, I i → b i = false → XSs X c (S i) rest D) (hp : PassesOwn (model X.prog X.w) X.A X.env X.xe := by exact PassesOwn.never) : XSs X c ss (.While t body [] pos :: rest) D := by
  subst e0
  refine q_seq (N := fun s => ∃ i, I i ∧ b i = false ∧ s = S i) ?_ fun s ⟨i, hI, hP, e⟩ => by
    subst e
    exact hd i hI hP
  have ht' : PT X t (fun σ H Q => ∃ (i : ι) (_ : I i), tB X.K c (S i) (· = b i) σ H Q) := PT.all fun i => PT.all fun hI => ht i hI
  have hb' : PSs X body (fun De σ H => ∃ (i : ι) (_ : I i) (_ : b i = true), tS X.K c (S i) { nx := fun s => ∃ j, I j ∧ μ j < μ i ∧ s = S j, ct := fun s => ∃ j, I j ∧ μ j < μ i ∧ s = S j, bk := fun _ => False, rt := D.rt } De σ H) :=
    PSs.all fun i => PSs.all fun hI => PSs.all fun hP => hb i hI hP
  refine (ps_while hp ht' hb').wk fun De σ H q => ?_
  refine ⟨fun m σ' H' => ∃ i, I i ∧ m = μ i ∧ At X.K c (S i) σ' H', ⟨μ i0, i0, h0, rfl, q.1⟩, fun m σ' H' ⟨i, hI, hm, a⟩ => ⟨i, hI, a, fun z H1 a1 g1 p => ?_⟩⟩
  cases z with
  | true =>
    refine ⟨fun σ2 H2 => ∃ j, I j ∧ μ j < μ i ∧ At X.K c (S j) σ2 H2, fun σ2 H2 ⟨j, h1, h2, h3⟩ => ⟨μ j, by rw [hm]; exact h2, j, h1, rfl, h3⟩, ?_⟩
    refine ⟨i, hI, p.symm, a1, fun s2 σ2 H2 ⟨j, h1, h2, e⟩ a2 => ⟨j, h1, h2, by rw [← e]; exact a2⟩, fun v H2 g j ok => q.2.2.1 v H2 g j ok, fun _ _ _ z _ => z.elim, fun s2 σ2 H2 ⟨j, h1, h2, e⟩ a2 => ⟨j, h1, h2, by rw [← e]; exact a2⟩⟩
  | false => exact q.2.1 (S i) σ' H1 ⟨i, hI, p.symm, rfl⟩ a1
/-- a list of one's own is locked from here on -/
theorem q_lock (i : Nat) (h : ∀ p tu, XSs X (c.add [⟨p, xs⟩] tu) (ss.set i (.val (.ref p))) body { D with nx := fun _ => False, bk := fun _ => False, ct := fun _ => False }) (e : ss[i]? = some (.own xs) := by rfl) : XSs X c ss body D :=
  (PSs.all fun p => PSs.all fun tu => h p tu).wk fun De σ H q => by
    have hi : i < ss.length := (List.getElem?_eq_some_iff.mp e).1
    obtain ⟨ad, k1, k2, k3⟩ := q.1.sl
    obtain ⟨vs, e1, e2, r, h0, n⟩ := k1 i _ e
    have a1 : At X.K c (ss.set i (.val (.ref (ad i)))) σ H := by
      have z := q.1.set (i := i) (v := .ref (ad i)) (s := .val (.ref (ad i))) (fun z => z) (fun _ => rfl) hi
      have hσ : σ.set i (some (V.ref (ad i))) = σ := by
        apply List.ext_getElem?
        intro j
        by_cases hj : i = j
        · subst hj
          rw [List.getElem?_set_self (by rw [q.1.len]; exact hi), e1]
        · rw [List.getElem?_set_ne hj]
      rw [hσ] at z
      exact z
    refine ⟨ad i, [H], a1.addpr (pr := [⟨ad i, xs⟩]) (fun z hz => ?_) (fun j s es o z hz w => ?_), fun _ _ _ z _ => z.elim, q.2.2.1, fun _ _ _ z _ => z.elim, fun _ _ _ z _ => z.elim⟩
    · obtain rfl := List.mem_singleton.mp hz
      exact ⟨n, vs, e2, r⟩
    · obtain rfl := List.mem_singleton.mp hz
      by_cases hj : j = i
      · subst hj
        rw [List.getElem?_set_self hi] at es
        cases es
        exact o
      · rw [List.getElem?_set_ne (Ne.symm hj)] at es
        cases s with
        | own ys =>
          obtain ⟨_, f1, _⟩ := k1 j _ es
          have ep : ad j = ad i := V.ref.inj (Option.some.inj (Option.some.inj (f1.symm.trans w)))
          exact k2 j i _ _ es e trivial trivial hj ep
        | _ => exact o.elim
end
/-! ### the entry of a def -/
/-- what the text says of a def -/
structure TxD (K : PySem.W.Frag) (mg : Str → Option Value) (x : Str) (st : Stmt) (ps : List Str) : Prop where
  ex : ∃ (f : Addr) (fd : FuncData), Fun K x x st f fd ∧ mg x = some (.ref f) ∧ Binds K fd ps []
def slotOf : V → AV → AV
  | v, @AV.lst _ _ _ => .val v
  | _, r => r
def prV {α : Type} [Rp α] (xs : List α) : V → List Pr
  | .ref p => [⟨p, xs⟩]
  | _ => []
def prOf (v : V) : AV → List Pr
  | @AV.lst _ _ xs => prV xs v
  | _ => []
def slots : List V → List AV → List AV
  | v :: vs, r :: rs => slotOf v r :: slots vs rs
  | _, _ => []
def prs : List V → List AV → List Pr
  | v :: vs, r :: rs => prOf v r ++ prs vs rs
  | _, _ => []
theorem slots_len : ∀ {vs : List V} {rs : List AV}, vs.length = rs.length → (slots vs rs).length = rs.length
  | [], [], _ => rfl
  | v :: vs, r :: rs, h => by
    show (slots vs rs).length + 1 = rs.length + 1
    rw [slots_len (by simpa using h)]
theorem slots_get {K : PySem.W.Frag} {c : Ctx} {H : Hp} : ∀ {vs : List V} {rs : List AV}, (rs.any AV.ownB) = false → RsOks K c.w H H vs rs → ∀ (i : Nat) (s : AV), (slots vs rs)[i]? = some s → (∃ v, vs[i]? = some v ∧ ∀ ad, SlOk K c H (some (some v)) ad s) ∧ ¬ s.isOwn
  | [], [], _, _, i, s, e => by cases e
  | v :: vs, r :: rs, ho, h, 0, s, e => by
    have e : slotOf v r = s := Option.some.inj e
    subst e
    rw [List.any_cons, Bool.or_eq_false_iff] at ho
    cases r with
    | un => exact ⟨⟨v, rfl, fun _ => trivial⟩, fun z => z⟩
    | ex P =>
      obtain ⟨x, h1, h2⟩ := h.1
      exact ⟨⟨v, rfl, fun _ => ⟨v, x, rfl, h1, h2⟩⟩, fun z => z⟩
    | own xs => exact absurd (show true = false from ho.1) (by decide)
    | ownE xs => exact absurd (show true = false from ho.1) (by decide)
    | two xs y => exact absurd (show true = false from ho.1) (by decide)
    | cel C => exact absurd (show true = false from ho.1) (by decide)
    | lst xs => exact ⟨⟨v, rfl, fun _ => rfl⟩, fun z => z⟩
    | val u =>
      have e : v = u := h.1
      subst e
      exact ⟨⟨v, rfl, fun _ => rfl⟩, fun z => z⟩
  | v :: vs, r :: rs, ho, h, i + 1, s, e => by
    rw [List.any_cons, Bool.or_eq_false_iff] at ho
    obtain ⟨⟨u, h1, h2⟩, h3⟩ := slots_get (c := c) ho.2 h.2 i s e
    exact ⟨⟨u, h1, h2⟩, h3⟩
theorem prs_ok {K : PySem.W.Frag} {w : Wd} {H : Hp} : ∀ {vs : List V} {rs : List AV}, RsOks K w H H vs rs → ∀ q ∈ prs vs rs, ¬ w.S q.p ∧ ∃ us, H q.p = some (.lst us) ∧ Rps K H us q.xs
  | [], [], _, q, hq => by cases hq
  | v :: vs, r :: rs, h, q, hq => by
    rcases List.mem_append.mp hq with hq | hq
    · cases r with
      | lst xs =>
        obtain ⟨p, us, e, n, h1, r1⟩ := h.1
        subst e
        obtain rfl := List.mem_singleton.mp hq
        exact ⟨n, us, h1, r1⟩
      | _ => cases hq
    · exact prs_ok h.2 q hq
theorem at_start {K : PySem.W.Frag} {w : Wd} {H : Hp} {N : List Str} {vs : List V} {rs : List AV} (ho : (rs.any AV.ownB) = false) (h : RsOks K w H H vs rs) (j : w.J H) (hl : rs.length ≤ N.length) :
    At K ⟨w, H, prs vs rs, []⟩ (slots vs rs ++ List.replicate (N.length - rs.length) .un) (L2.start N vs) H := by
  have hlen := h.len
  refine ⟨?_, Gr.refl _ _, j, fun h hh => absurd hh (by simp), prs_ok h, fun _ => 0, fun i s e => ?_, fun i j s t e1 e2 o1 o2 => ?_, fun i s e o => ?_⟩
  · unfold L2.start
    rw [List.length_append, List.length_map, List.length_replicate, List.length_append, List.length_replicate, slots_len hlen, hlen]
  all_goals
    have own : ∀ {i : Nat} {s : AV}, (slots vs rs ++ List.replicate (N.length - rs.length) .un)[i]? = some s → (∃ v, vs[i]? = some v ∧ ∀ ad, SlOk K ⟨w, H, prs vs rs, []⟩ H (some (some v)) ad s) ∧ ¬ s.isOwn ∨ s = .un := fun {i s} e => by
      by_cases hi : i < (slots vs rs).length
      · rw [List.getElem?_append_left hi] at e
        exact .inl (slots_get (c := ⟨w, H, prs vs rs, []⟩) ho h i s e)
      · rw [List.getElem?_append_right (by omega), List.getElem?_replicate] at e
        split at e
        · exact .inr (Option.some.inj e).symm
        · cases e
  · rcases own e with ⟨⟨v, h1, h2⟩, _⟩ | e
    · have hi : i < vs.length := (List.getElem?_eq_some_iff.mp h1).1
      unfold L2.start
      rw [List.getElem?_append_left (by rw [List.length_map]; exact hi), List.getElem?_map, h1]
      exact h2 _
    · rw [e]
      exact trivial
  · rcases own e1 with ⟨_, z⟩ | z
    · exact absurd o1 z
    · rw [z] at o1
      exact o1.elim
  · rcases own e with ⟨_, z⟩ | z
    · exact absurd o z
    · rw [z] at o
      exact o.elim
/-- THE RULE of a def -/
theorem df_of {P : Program} {w : World} {K : PySem.W.Frag} {mg : Str → Option Value} {base : Heap} {k : Nat} {x : Str} {st : Stmt} {N ps : List Str} {ι : Type} {wd : ι → Wd} {args : ι → List AV} {pre : ι → Prop} {res : ι → AV} (T : TxD K mg x st ps) (S : FnScope N ps (defScope st)) (hl : ∀ i, (args i).length = ps.length) (ho : ∀ i, ((args i).any AV.ownB) = false)
    (body : ∀ (f : Addr) (cdv : Value) (A : Around) (outer : List Env) (s : Shared) (H : Hp) (E : XK) (vs : List V) (i : ι), Room k (A.deeper (PyProof.Rows.envOfC x (defScope st) s.heap.objs.size f cdv)) → RsOks K (wd i) H H vs (args i) → pre i →
      XSs (cxOf CX0 P w K mg base N x (defScope st) f cdv A outer s H E).nox ⟨wd i, H, prs vs (args i), []⟩ (slots vs (args i) ++ List.replicate (N.length - (args i).length) .un) (defBody st) { nx := fun _ => RsOk K (wd i) H H .non (res i) ∧ (res i).ownB = false, rt := res i }) :
    Df P w K mg base (k + 1) x (spW K wd args pre res) := by
  obtain ⟨f, fd, F, hm, hb⟩ := T.ex
  refine ⟨f, fd, ps, F.ok S (fun vs H Q E ⟨i, h, _⟩ => h.len.trans (hl i)) (fun cdv A outer s H vs Q E hr ⟨i, h, hp, hj, hq⟩ => ⟨_, body f cdv A outer s H E vs i hr h hp, ?_⟩), hm, F.kp, hb⟩
  have hN : (args i).length ≤ N.length := by
    rw [hl i, ← S.pre, List.length_take]
    exact Nat.min_le_right _ _
  refine ⟨at_start (ho i) h hj hN, fun ss' σ' H' ⟨n, n2⟩ a => hq .non H' a.gr a.j ?_, fun v H' g j ok => hq v H' g j ok, fun _ _ _ z _ => z.elim, fun _ _ _ z _ => z.elim⟩
  exact RsOk.mono hj a.gr n
end Ab

/-! M1: fractions by their tops and bottoms; sizes. -/
namespace SM
theorem rat_num {a b : Int} (hb : 0 < b) : ((a : Rat) / (b : Rat)).num = a / (Int.gcd a b : Int) := by
  rw [← Rat.divInt_eq_div, Rat.num_divInt, Int.sign_eq_one_of_pos hb, Int.one_mul, Int.gcd_comm]
theorem rat_den {a b : Int} (hb : 0 < b) : (((a : Rat) / (b : Rat)).den : Int) = b / (Int.gcd a b : Int) := by
  rw [← Rat.divInt_eq_div, Rat.den_divInt]
  rw [if_neg (by omega)]
  rw [Int.gcd_comm]
  have : (b.natAbs : Int) = b := by omega
  rw [Int.natCast_ediv, this]
theorem num_den (a : Rat) : (a.num : Rat) / ((a.den : Int) : Rat) = a := by
  rw [← Rat.divInt_eq_div, Rat.num_divInt_den]
theorem den_pos (a : Rat) : (0 : Int) < (a.den : Int) := by
  have := a.den_pos
  omega
theorem den_ne (a : Rat) : ((a.den : Int) : Rat) ≠ 0 := by
  have := den_pos a
  intro h
  have := Rat.intCast_eq_zero_iff.mp h
  omega
theorem num_eq (a : Rat) : (a.num : Rat) = a * ((a.den : Int) : Rat) := by
  have h := num_den a
  have := den_ne a
  grind
theorem gcd_add_mul (y r q : Int) : Int.gcd y r = Int.gcd (r + y * q) y := by
  rw [Int.gcd_comm (r + y * q) y]
  apply Nat.dvd_antisymm
  · apply Int.dvd_gcd
    · exact Int.gcd_dvd_left ..
    · exact Int.dvd_add (Int.gcd_dvd_right ..) (Int.dvd_mul_of_dvd_left (Int.gcd_dvd_left ..))
  · apply Int.dvd_gcd
    · exact Int.gcd_dvd_left ..
    · have h1 : (Int.gcd y (r + y * q) : Int) ∣ y := Int.gcd_dvd_left ..
      have h2 : (Int.gcd y (r + y * q) : Int) ∣ r + y * q := Int.gcd_dvd_right ..
      have h3 := Int.dvd_sub h2 (Int.dvd_mul_of_dvd_left (c := q) h1)
      rw [Int.add_sub_cancel] at h3
      exact h3
theorem gcd_step (x y : Int) : Int.gcd y (x % y) = Int.gcd x y := by
  have h := gcd_add_mul y (x % y) (x / y)
  rw [h, Int.emod_add_mul_ediv]
theorem gcd_abs (a b : Int) : Int.gcd (a.natAbs : Int) b = Int.gcd a b := by
  unfold Int.gcd
  rw [Int.natAbs_natCast]
/-- the sum as the programs reckon it -/
theorem add_eq (a b : Rat) : ((a.num * (b.den : Int) + b.num * (a.den : Int) : Int) : Rat) / (((a.den : Int) * (b.den : Int) : Int) : Rat) = a + b := by
  have h1 := num_eq a
  have h2 := num_eq b
  have h3 := den_ne a
  have h4 := den_ne b
  rw [Rat.intCast_add, Rat.intCast_mul, Rat.intCast_mul, Rat.intCast_mul]
  grind
theorem lt_iff (a b : Rat) : decide (a.num * (b.den : Int) < b.num * (a.den : Int)) = decide (a < b) := decide_eq_decide.mpr (Rat.lt_iff a b).symm
/-! ### sizes -/
def Sz (n : Nat) (q : Rat) : Prop := q.num.natAbs < 2 ^ n ∧ q.den < 2 ^ n
theorem Sz.mono {n m : Nat} {q : Rat} (h : Sz n q) (hm : n ≤ m) : Sz m q :=
  have := Nat.pow_le_pow_right (show 0 < 2 by decide) hm
  ⟨Nat.lt_of_lt_of_le h.1 this, Nat.lt_of_lt_of_le h.2 this⟩
theorem natAbs_ediv_le (a : Int) {g : Int} (hg : 0 < g) (hd : g ∣ a) : (a / g).natAbs ≤ a.natAbs := by
  obtain ⟨k, rfl⟩ := hd
  rw [Int.mul_ediv_cancel_left _ (by omega), Int.natAbs_mul]
  exact Nat.le_mul_of_pos_left _ (by omega)
theorem sz_div {a b : Int} {n : Nat} (hb : 0 < b) (ha : a.natAbs < 2 ^ n) (hb2 : b.natAbs < 2 ^ n) : Sz n ((a : Rat) / (b : Rat)) := by
  have hg : (0 : Int) < (Int.gcd a b : Int) := by
    have := Int.gcd_pos_of_ne_zero_right a (show b ≠ 0 by omega)
    omega
  constructor
  · rw [rat_num hb]
    exact Nat.lt_of_le_of_lt (natAbs_ediv_le a hg (Int.gcd_dvd_left ..)) ha
  · have h := rat_den (a := a) hb
    have h2 := natAbs_ediv_le b hg (Int.gcd_dvd_right ..)
    rw [← h] at h2
    omega
theorem mul_lt_pow {a b n m : Nat} (ha : a < 2 ^ n) (hb : b < 2 ^ m) : a * b < 2 ^ (n + m) := by
  rw [Nat.pow_add]
  exact Nat.mul_lt_mul'' ha hb
theorem sz_add {a b : Rat} {n m : Nat} (ha : Sz n a) (hb : Sz m b) : Sz (n + m + 1) (a + b) := by
  rw [← add_eq]
  have h1 := mul_lt_pow ha.1 hb.2
  have h2 := mul_lt_pow hb.1 ha.2
  have h3 := mul_lt_pow ha.2 hb.2
  have e : 2 ^ (n + m + 1) = 2 ^ (n + m) + 2 ^ (n + m) := by rw [Nat.pow_succ]; omega
  have e2 : m + n = n + m := Nat.add_comm ..
  rw [e2] at h2
  apply sz_div
  · exact Int.mul_pos (den_pos a) (den_pos b)
  · have := Int.natAbs_add_le (a.num * (b.den : Int)) (b.num * (a.den : Int))
    rw [Int.natAbs_mul, Int.natAbs_mul, Int.natAbs_natCast, Int.natAbs_natCast] at this
    omega
  · rw [Int.natAbs_mul, Int.natAbs_natCast, Int.natAbs_natCast]
    omega
theorem sz_int {i : Int} {n : Nat} (h : i.natAbs < 2 ^ n) (hn : 0 < n) : Sz n (i : Rat) := ⟨by rw [Rat.num_intCast]; exact h, by
  rw [Rat.den_intCast]
  exact Nat.one_lt_pow (by omega) (by decide)⟩
end SM

/-! Ab8: the worlds: tables of code objects; a bag. -/
namespace Ab
open PySem L2 LamX
open Ab.Rp (rp)
theorem TabS.stays {H H' : Hp} {P : Addr} {q : Str} (t : TabS H P q) (e : ∀ a o, H a = some o → Fx o → H' a = some o) : TabS H' P q := by
  obtain ⟨ps, h1, h2, h3⟩ := t
  refine ⟨ps, e _ _ h1 trivial, h2, fun pos cv hc => ?_⟩
  obtain ⟨c, e1, e2⟩ := h3 pos cv hc
  exact ⟨c, e1, e _ _ e2 (by unfold CodeO; trivial)⟩
/-- only the tables turn -/
def w0 (T : List (Addr × Str)) : Wd where
  S := fun _ => False
  J := fun H => Tabs T H
  has := fun _ h => h.elim
  stab := fun j e p hp => TabS.stays (j p hp) fun a o h n => e a o h (.inr n)
def Bag (H : Hp) (b : Addr) : Prop := ∃ x y, H b = some (.lst [.int x, .int y]) ∧ 0 ≤ x ∧ 0 ≤ y ∧ y ≤ 2147483646
/-- and the bag at b -/
def wB (T : List (Addr × Str)) (b : Addr) : Wd where
  S := fun a => a = b
  J := fun H => Tabs T H ∧ Bag H b
  has := fun {H a} ⟨_, x, y, h, _⟩ e => ⟨.lst [.int x, .int y], by rw [show a = b from e]; exact h, fun ps z => by cases z⟩
  stab := fun ⟨j, x, y, h, k⟩ e => ⟨fun p hp => TabS.stays (j p hp) fun a o h n => e a o h (.inr n), x, y, e _ _ h (.inl rfl), k⟩
theorem w0_le (T : List (Addr × Str)) (b : Addr) : (w0 T).Le (wB T b) where
  S := fun _ h => h.elim
  J := fun {H} (j : Tabs T H ∧ Bag H b) => j.1
  up := fun {H H'} (q : Tabs T H ∧ Bag H b) g j => by
    obtain ⟨_, x, y, h, k⟩ := q
    exact (⟨j, x, y, g.all _ _ h (fun z => z) (fun ps z => by cases z), k⟩ : Tabs T H' ∧ Bag H' b)
end Ab

/-! AbS: sorted(xs, key=lambda p: p[1]) of ropes. -/
namespace Ab
open PySem L2 LamX PySem.Calls PyProof.Rows
open Ab.Rp (rp)
/-- the lambda's scope: one parameter, no more -/
structure Lam1 (p : Str) (params : Arguments) (scope : Scope) : Prop where
  kind : scope.kind = .function
  co : scope.isCoroutine = false
  gen : scope.isGenerator = false
  names : scope.names = [(p, .local)]
  bind : ∀ (q : Str) (cl : List (Str × Addr)) (body : Expr) (pm cv ctv v : Value), bindArgs (PySem.W.kla_fn "<lambda>" q params body scope cl pm cv ctv) ⟨[v], []⟩ = pure [(p, v)]
section
variable {prog : Program} {w : World} {A : Around}
/-- a call of such a lambda: the item at 1 of a tuple -/
theorem lam_turn {f c' : Addr} {p q : Str} {params : Arguments} {scope : Scope} {j : Nat} {p1 p2 p3 : Pos} {pm ctv : Value} {s : Shared} {a : Addr} {its : Array Value} {n : Int} {t : Tok} (L : Lam1 p params scope) (hroom : A.depth < recursionLimit)
    (hf : s.heap.get? f = some (PySem.W.kla_obj "<lambda>" q params (.Subscript (.Name p p1) (.Constant (.int 1) j p2) p3) scope [] pm c' ctv)) (hc : ∃ (oc : Obj) (vs : Array Value) (t : Tok), s.heap.get? c' = some oc ∧ oc.data = .fields vs ∧ vs[1]? = some (.str q t))
    (hl : s.heap.NoLimit) (ht : IsTup s.heap a its) (hi : its[1]? = some (.int n t)) (hd : (p == ("__debug__" : Str)) = false) :
    wpAny (model prog w) A (call (.ref f) [.ref a]) (PySem.W.KeyPure (.int n) s) (fun _ _ => False) s := by
  refine wpAny_call (codeAny_mono (R := fun r s' => ∃ v, r = .ok (.ret v) ∧ PySem.W.KeyPure (.int n) s v s') ?_ fun r s' ⟨v, e, k⟩ => ?_)
  · obtain ⟨oc, vs, tq, e1, e2, e3⟩ := hc
    refine PySem.W.kla_callFunE (body := .Subscript (.Name p p1) (.Constant (.int 1) j p2) p3) hroom hf rfl L.co L.gen rfl ⟨c', oc, vs, tq, rfl, e1, e2, e3⟩ ?_
    rw [L.bind]
    refine wpAny_pure (wpAny_newFunctionEnv (fun y hy => ?_) (fun y hy => ?_) (fun h₁ hns hsb => ⟨hl.fresh _ hsb, ?_⟩) L.kind)
    · rw [show scope.names = _ from L.names] at hy
      obtain rfl := List.mem_singleton.mp hy
      exact fun z => by cases z
    · obtain rfl := List.mem_singleton.mp hy
      show scope.names.lookup p = some .local
      rw [L.names]
      simp
    · have kp : ∀ b o, s.heap.get? b = some o → h₁.get? b = some o := fun b o e => hsb.extBut b o (Nat.ne_of_lt (Heap.lt_size e)) (Heap.get?_push_of_some _ e)
      refine PySem.W.kla_codeExpr ?_
      refine Subscript_Constant ?_
      have lk : scope.names.lookup p = some .local := by
        rw [L.names]
        simp
      refine wpAny_Name (wpAny_loadName_local (m := fun x => [(p, Value.ref a)].reverse.lookup x) (v := .ref a) L.kind lk hns (by simp) ?_) hd
      refine wpAny_Constant_int ?_
      have ht1 : IsTup h₁ a its := by
        obtain ⟨o, e1, e2, e3⟩ := ht
        exact ⟨o, kp _ _ e1, e2, e3⟩
      have hsz : 1 < its.size := by
        obtain ⟨h, _⟩ := Array.getElem?_eq_some_iff.mp hi
        exact h
      have hsi : seqIndex? 1 its.size = some 1 := by
        unfold seqIndex?
        simp
        omega
      refine ⟨"tuple", _, slot_tuple_getitem.lookup, ht1.typeIs, PyProof.Rows.getItem_tuple ht1 (by decide) (by decide) hsi hi ?_⟩
      exact ⟨_, rfl, h₁, _, rfl, kp, .int n t⟩
  · subst e
    exact k
end
theorem extN_gr {T : List (Addr × Str)} {H H' : Hp} (e : ExtN H H') : Gr (w0 T) H H' :=
  ⟨fun a o h _ n => e a o h n, fun a xs h => e a _ h (fun ps z => by cases z), fun a o u h => e a _ h (fun ps z => by cases z), fun a o h n => ⟨o, e a o h n, n⟩⟩
theorem rel_split {K : PySem.W.Frag} {H : Hp} {s : Shared} {X : Cx} {pins : List (Addr × Obj)} {σ : L2.St} (I : Inv X pins σ H s) : ∀ {us : List V} {vs : List Value} {xs : List Rope}, Rps X.K H us xs → Vals us vs →
    PySem.W.EachIs (fun v (z : V × Rope) => RelV z.1 v ∧ rp X.K H z.1 z.2 ∧ ∃ a its t, v = .ref a ∧ IsTup s.heap a its ∧ its[1]? = some (.int z.2.slack t)) vs (us.zip xs)
  | _, _, _, .nil, .nil => .nil
  | _, _, _, .cons (x := x) h hs, .cons r rs => by
    refine .cons ?_ (rel_split (K := K) I hs rs)
    have h0 := h
    obtain ⟨a, e, st⟩ := h
    subst e
    cases r
    obtain ⟨its, rv, ht, _⟩ := I.tuple st
    obtain ⟨u, hu, hv⟩ := rv.get (i := 1) (x := V.int x.slack) rfl
    obtain ⟨t, rfl⟩ := hv
    exact ⟨rfl, h0, a, its.toArray, t, rfl, ht, by simpa using hu⟩
theorem zip_snd {α β : Type} {us : List α} {xs : List β} (h : us.length = xs.length) : (us.zip xs).map Prod.snd = xs := by
  rw [← List.unzip_snd, List.unzip_zip_right (by omega)]
theorem out_split {K : PySem.W.Frag} {H : Hp} {R : Value → V × Rope → Prop} (hR : ∀ v z, R v z → RelV z.1 v ∧ rp K H z.1 z.2) : ∀ {vs : List Value} {zs : List (V × Rope)}, PySem.W.EachIs R vs zs → Vals (zs.map Prod.fst) vs ∧ Rps K H (zs.map Prod.fst) (zs.map Prod.snd)
  | _, _, .nil => ⟨.nil, .nil⟩
  | _, _, .cons h t => ⟨.cons (hR _ _ h).1 (out_split hR t).1, .cons (hR _ _ h).2 (out_split hR t).2⟩
/-- by slack, equal ones as they stood -/
def bySlack (xs : List Rope) : List Rope := xs.mergeSort fun a b => decide (a.slack ≤ b.slack)
theorem x_sortLam {X : Cx} {c : Ctx} {ss : List AV} {T : List (Addr × Str)} {cc PP : Addr} {p : Str} {params : Arguments} {scope : Scope} {e : Expr} {xs : List Rope} {j : Nat} {p0 p1 p2 p3 lpos kpos pos : Pos} (le : (w0 T).Le c.w) (he : XA X c ss [e] [.lst xs]) (hm : X.mg "sorted" = none) (TB : TabB X.base X.mg cc PP) (hcode : X.env.code = .ref cc)
    (hmT : (PP, X.env.qual ++ "<lambda>") ∈ T) (hu : ∀ q ∈ T, q.1 = PP → q.2 = X.env.qual ++ "<lambda>") (L : Lam1 p params scope) (hdef : defaultsOf params X.env = ([], [])) (hr : Room 3 X.A) (hsz : xs.length ≤ 1000) (hg : Gl X "sorted" := by rfl) (hd : (p == ("__debug__" : Str)) = false := by decide)
    (hst : backTo pos (starEach [e] X.env) = (false, eval e X.env) :: backTo pos (starEach [] X.env) := by rfl) (hpl : (backTo pos (starEach [e] X.env)).any (·.1) = false := by rfl) :
    XE X c ss (.Call (.Name "sorted" p0) [e] [⟨some "key", .Lambda params (.Subscript (.Name p p1) (.Constant (.int 1) j p2) p3) scope lpos, kpos⟩] pos) (.own (bySlack xs)) := by
  refine ⟨fun pins s σ H Q I q => ?_⟩
  refine wpAny_Call_Name_kw (ld_blt I hg hm PyProof.Rows.boot_sorted ?_ (by decide) (by decide))
  refine PyProof.Rows.callWith_kw (thn (he.run pos pins s σ H _ I ⟨q.1, fun us H1 a1 g1 ok => (⟨a1, g1, ok⟩ : At X.K c ss σ H1 ∧ Gr c.w H H1 ∧ RsOks X.K c.w H H1 us [.lst xs])⟩) fun us s1 ⟨vs, H1, I1, r1, a1, g1, ok⟩ => ?_) hst hpl (by rfl) (by rfl)
  obtain ⟨v, rfl, l, ws, rfl, nS, hl, hrs⟩ := ok.one
  obtain ⟨u0, rfl, hu0⟩ : ∃ u0, us = [u0] ∧ RelV (.ref l) u0 := by
    cases r1 with
    | cons r rr =>
      cases rr
      exact ⟨_, rfl, r⟩
  cases hu0
  show wpAny _ _ (evalAll [(do let v ← eval (.Lambda params (.Subscript (.Name p p1) (.Constant (.int 1) j p2) p3) scope lpos) X.env; standAt pos; pure v)]) _ _ s1
  refine wpAny_evalAll_cons (wpAny_bind (lam_make2 I1 TB hcode hmT hu (le.J a1.j) hdef (fun y hy z => ?_) fun f c' pm ctv H2 s2 I2 eN T2 hf hfn hfr hco => ?_))
  · rw [L.names] at hy
    obtain rfl := List.mem_singleton.mp hy
    cases z
  refine wpAny_bind (wpAny_standAt (wpAny_pure (wpAny_evalAll_nil ?_)))
  show wpAny _ _ (call (.builtin "sorted") [.ref l] [(Str.ofString "key", .ref f)]) _ _ s2
  have g2 : Gr c.w H1 H2 := le.gr (extN_gr (T := T) eN)
  have a2 : At X.K c ss σ H2 := a1.mono g2 (le.up a1.j (extN_gr (T := T) eN) T2)
  have hl2 : H2 l = some (.lst ws) := g2.all l _ hl nS fun ps z => by cases z
  have hrs2 : Rps X.K H2 ws xs := hrs.mono g2.tu
  obtain ⟨its, rv, hpl2, hz⟩ := I2.list (SqL.of hl2)
  have hE := rel_split (K := X.K) I2 hrs2 rv
  have hzl : (ws.zip xs).length = xs.length := by rw [List.length_zip, hrs2.len, Nat.min_self]
  have hcl : cloFrom X.env.cells scope.names [] = [] := by
    rw [L.names]
    rfl
  rw [hcl] at hf
  refine PySem.W.sorted_key_data (k := fun z : V × Rope => .int z.2.slack) (b := false) hpl2.isList hE (PySem.W.AllAlike.of fun _ _ => rfl) (PySem.W.Sortable.others fun _ => ⟨(fun z => by cases z), (fun _ z => by cases z)⟩) (by rw [hzl]; exact Nat.le_of_lt (small1000 hsz)) (fun z hz => ?_)
    (PyProof.Rows.ksk_s1 _ _) (fun _ => PyProof.Rows.ksk_l1 _ _) (fun x => PyProof.Rows.ksk_t1 _ _) (fun v z hR hz h tk kp => ?_) (fun out ep h' tk kp hn hat hlen hout => ?_)
  · have := hr.un
    show X.A.units + 2 + 0 < cLine
    omega
  · obtain ⟨_, _, a, it, t, rfl, ht, hi⟩ := hR
    obtain ⟨o, e1, e2, e3⟩ := ht
    obtain ⟨⟨oc, vs, tq, f1, f2, f3⟩, _, _⟩ := I2.hok c' _ hco
    exact lam_turn L (Room.in1 (Room.in1 hr)).depth (kp _ _ hf) ⟨oc, vs, tq, kp _ _ f1, f2, f3⟩ (I2.nolimit.keeps kp) ⟨o, kp _ _ e1, e2, e3⟩ hi hd
  · obtain ⟨o1, o2⟩ := out_split (K := X.K) (H := H2) (fun v z h => ⟨h.1, h.2.1⟩) hout
    have es : ((ws.zip xs).mergeSort (PySem.W.dataLe false fun z : V × Rope => .int z.2.slack)).map Prod.snd = bySlack xs := by
      rw [PySem.W.dataLe_int, PySem.W.sort_maps (s := fun a b : Rope => decide (a.slack ≤ b.slack)) Prod.snd (fun a _ b _ => rfl), zip_snd hrs2.len]
      rfl
    rw [es] at o2
    have hn2 : H2 (s2.heap.objs.size + 1) = none := I2.hok.fresh (Nat.le_succ _)
    refine ⟨.ref (s2.heap.objs.size + 1), upd H2 (s2.heap.objs.size + 1) (.lst _), I2.laid (t' := tk) kp (Nat.le_succ _) ⟨?_, out, ep, o1, hat⟩, rfl, ?_⟩
    · rw [o2.len]
      show (bySlack xs).length ≤ _
      unfold bySlack
      rw [List.length_mergeSort]
      exact Nat.le_of_lt (small1000 hsz)
    · exact q.2 _ _ (a2.new hn2) ((g1.trans g2).trans (Gr.new hn2)) ⟨_, _, rfl, (g1.trans g2).fresh (Nf.of hn2), upd_same, o2.mono (Tu.new hn2)⟩
end Ab

/-! AbD: equality of data, membership, parts of lists, sorted. -/
namespace Ab
open PySem L2
open Ab.Rp (rp)
/-- data that can be compared -/
class Dt (α : Type) extends Rp α where
  toD : α → PyData
  ok : α → Prop
  dpt : Nat
  dp : ∀ {K : PySem.W.Frag} {H : Hp} {v : V} {x : α}, rp K H v x → Dp K H v (toD x)
  lay : ∀ x, ok x → (toD x).canLay0 = true
  dep : ∀ x, (toD x).depth ≤ dpt
  eqv : ∀ x y, PyData.eqv (toD x) (toD y) = true ↔ x = y
  nn : Bool
  no : nn = true → ∀ x, toD x ≠ .none
open Dt (toD)
class Fact' (p : Prop) : Prop where
  out : p
section
variable {α β γ : Type} [Dt α] [Dt β] [Dt γ]
theorem dpAll {K : PySem.W.Frag} {H : Hp} : ∀ {vs : List V} {xs : List α}, Rps K H vs xs → DpAll K H vs (xs.map toD)
  | _, _, .nil => .nil
  | _, _, .cons h t => .cons (Dt.dp h) (dpAll t)
theorem layAll : ∀ {xs : List α}, (∀ x ∈ xs, Dt.ok x) → PyData.canLayAll0 (xs.map toD) = true
  | [], _ => rfl
  | x :: xs, h => by
    rw [List.map_cons]
    show (PyData.canLay0 _ && PyData.canLayAll0 _) = true
    rw [Dt.lay x (h x (List.mem_cons_self ..)), layAll fun y hy => h y (List.mem_cons_of_mem _ hy)]
    rfl
theorem depAll : ∀ (xs : List α), PyData.depthAll (xs.map toD) ≤ Dt.dpt α
  | [] => Nat.zero_le _
  | x :: xs => by
    rw [List.map_cons]
    show max _ _ ≤ _
    exact Nat.max_le.mpr ⟨Dt.dep x, depAll xs⟩
theorem eqvAll_iff : ∀ (xs ys : List α), PyData.eqvAll (xs.map toD) (ys.map toD) = true ↔ xs = ys
  | [], [] => ⟨fun _ => rfl, fun _ => rfl⟩
  | [], y :: ys => ⟨(fun h => by cases h), (fun h => by cases h)⟩
  | x :: xs, [] => ⟨(fun h => by cases h), (fun h => by cases h)⟩
  | x :: xs, y :: ys => by
    rw [List.map_cons, List.map_cons]
    show (PyData.eqv _ _ && PyData.eqvAll _ _) = true ↔ _
    rw [Bool.and_eq_true, Dt.eqv, eqvAll_iff xs ys]
    exact ⟨fun ⟨a, b⟩ => by rw [a, b], fun h => by injection h with a b; exact ⟨a, b⟩⟩
instance : Dt Int where
  toD := .int
  ok := fun _ => True
  dpt := 0
  dp := fun {K H v x} h => by
    obtain rfl : v = .int x := h
    exact .int x
  lay := fun _ _ => rfl
  dep := fun _ => Nat.le_refl _
  eqv := fun x y => by
    show (x == y) = true ↔ x = y
    exact beq_iff_eq
  nn := true
  no := fun _ x => (fun z => by cases z)
instance : Dt Bool where
  toD := .bool
  ok := fun _ => True
  dpt := 0
  dp := fun {K H v x} h => by
    obtain rfl : v = .bl x := h
    exact .bl x
  lay := fun _ _ => rfl
  dep := fun _ => Nat.le_refl _
  eqv := fun x y => by
    show (x == y) = true ↔ x = y
    exact beq_iff_eq
  nn := true
  no := fun _ x => (fun z => by cases z)
instance : Dt Str where
  toD := .str
  ok := fun x => PySem.PyData.strOk x = true
  dpt := 0
  dp := fun {K H v x} h => by
    obtain rfl : v = .str x := h
    exact .str x
  lay := fun _ h => h
  dep := fun _ => Nat.le_refl _
  eqv := fun x y => by
    show (x == y) = true ↔ x = y
    exact beq_iff_eq
  nn := true
  no := fun _ x => (fun z => by cases z)
theorem eqv_none_l {d : PyData} (h : d ≠ .none) : PyData.eqv .none d = false := by
  cases d <;> first | rfl | exact absurd rfl h
theorem eqv_none_r {d : PyData} (h : d ≠ .none) : PyData.eqv d .none = false := by
  cases d <;> first | rfl | exact absurd rfl h
instance {α : Type} [Dt α] [h : Fact' (Dt.nn α = true)] : Dt (Option α) where
  toD := fun x => match x with | none => .none | some y => toD y
  ok := fun x => match x with | none => True | some y => Dt.ok y
  dpt := Dt.dpt α
  dp := fun {K H v x} q => by
    cases x with
    | none =>
      obtain rfl : v = .non := q
      exact .non
    | some y => exact Dt.dp (α := α) q
  lay := fun x q => by
    cases x with
    | none => rfl
    | some y => exact Dt.lay y q
  dep := fun x => by
    cases x with
    | none => exact Nat.zero_le _
    | some y => exact Dt.dep y
  eqv := fun x y => by
    cases x with
    | none => cases y with
      | none => exact ⟨fun _ => rfl, fun _ => rfl⟩
      | some y =>
        show PyData.eqv .none (toD y) = true ↔ _
        rw [eqv_none_l (Dt.no h.out y)]
        exact ⟨(fun z => by cases z), (fun z => by cases z)⟩
    | some x => cases y with
      | none =>
        show PyData.eqv (toD x) .none = true ↔ _
        rw [eqv_none_r (Dt.no h.out x)]
        exact ⟨(fun z => by cases z), (fun z => by cases z)⟩
      | some y =>
        show PyData.eqv (toD x) (toD y) = true ↔ _
        rw [Dt.eqv]
        exact ⟨fun z => by rw [z], fun z => Option.some.inj z⟩
  nn := false
  no := fun z => by cases z
theorem dp_tup {K : PySem.W.Frag} {H : Hp} {a : Addr} {vs : List V} {ds : List PyData} (h : SqT K H a vs) (k : DpAll K H vs ds) : Dp K H (.ref a) (.tuple ds) := .tup h k
instance : Dt Rat where
  toD := fun q => .tuple [.int q.num, .int q.den]
  ok := fun _ => True
  dpt := 1
  dp := fun {K H v x} ⟨a, e, h⟩ => by
    subst e
    exact .tup (tup_sq h) (.cons (.int _) (.cons (.int _) .nil))
  lay := fun _ _ => rfl
  dep := fun x => by show 1 ≤ 1; decide
  eqv := fun x y => by
    show ((x.num == y.num) && (((x.den : Int) == (y.den : Int)) && true)) = true ↔ x = y
    rw [Bool.and_true, Bool.and_eq_true, beq_iff_eq, beq_iff_eq]
    exact ⟨fun ⟨a, b⟩ => Rat.ext a (by omega), fun h => by rw [h]; exact ⟨rfl, rfl⟩⟩
  nn := true
  no := fun _ x => (fun z => by cases z)
instance : Dt (α × β) where
  toD := fun x => .tuple [toD x.1, toD x.2]
  ok := fun x => Dt.ok x.1 ∧ Dt.ok x.2
  dpt := max (Dt.dpt α) (Dt.dpt β) + 1
  dp := fun {K H v x} ⟨a, u, w, e, h, h1, h2⟩ => by
    subst e
    exact .tup h (.cons (Dt.dp h1) (.cons (Dt.dp h2) .nil))
  lay := fun x h => by
    show (PyData.canLay0 _ && (PyData.canLay0 _ && true)) = true
    rw [Dt.lay _ h.1, Dt.lay _ h.2]
    rfl
  dep := fun x => by
    show max (toD x.1).depth (max (toD x.2).depth 0) + 1 ≤ _
    have h1 := Dt.dep x.1
    have h2 := Dt.dep x.2
    omega
  eqv := fun x y => by
    show (PyData.eqv _ _ && (PyData.eqv _ _ && true)) = true ↔ x = y
    rw [Bool.and_true, Bool.and_eq_true, Dt.eqv, Dt.eqv]
    exact ⟨fun ⟨a, b⟩ => Prod.ext a b, fun h => by rw [h]; exact ⟨rfl, rfl⟩⟩
  nn := true
  no := fun _ x => (fun z => by cases z)
instance : Dt (T3 α β γ) where
  toD := fun x => .tuple [toD x.a, toD x.b, toD x.c]
  ok := fun x => Dt.ok x.a ∧ Dt.ok x.b ∧ Dt.ok x.c
  dpt := max (Dt.dpt α) (max (Dt.dpt β) (Dt.dpt γ)) + 1
  dp := fun {K H v x} ⟨a, u, w, y, e, h, h1, h2, h3⟩ => by
    subst e
    exact .tup h (.cons (Dt.dp h1) (.cons (Dt.dp h2) (.cons (Dt.dp h3) .nil)))
  lay := fun x h => by
    show (PyData.canLay0 _ && (PyData.canLay0 _ && (PyData.canLay0 _ && true))) = true
    rw [Dt.lay _ h.1, Dt.lay _ h.2.1, Dt.lay _ h.2.2]
    rfl
  dep := fun x => by
    show max (toD x.a).depth (max (toD x.b).depth (max (toD x.c).depth 0)) + 1 ≤ _
    have h1 := Dt.dep x.a
    have h2 := Dt.dep x.b
    have h3 := Dt.dep x.c
    omega
  eqv := fun x y => by
    show (PyData.eqv _ _ && (PyData.eqv _ _ && (PyData.eqv _ _ && true))) = true ↔ x = y
    rw [Bool.and_true, Bool.and_eq_true, Bool.and_eq_true, Dt.eqv, Dt.eqv, Dt.eqv]
    exact ⟨fun ⟨a, b, c⟩ => by cases x; cases y; simp_all, fun h => by rw [h]; exact ⟨rfl, rfl, rfl⟩⟩
  nn := true
  no := fun _ x => (fun z => by cases z)
instance : Dt Rope where
  toD := fun x => .tuple [.str x.name, .int x.slack, .int x.stiff, .int x.strong]
  ok := fun x => PySem.PyData.strOk x.name = true
  dpt := 1
  dp := fun {K H v x} ⟨a, e, h⟩ => by
    subst e
    exact .tup h (.cons (.str _) (.cons (.int _) (.cons (.int _) (.cons (.int _) .nil))))
  lay := fun x h => by
    show (PyData.strOk _ && true) = true
    rw [h]
    rfl
  dep := fun x => by show 1 ≤ 1; decide
  eqv := fun x y => by
    show ((x.name == y.name) && ((x.slack == y.slack) && ((x.stiff == y.stiff) && ((x.strong == y.strong) && true)))) = true ↔ x = y
    rw [Bool.and_true, Bool.and_eq_true, Bool.and_eq_true, Bool.and_eq_true, beq_iff_eq, beq_iff_eq, beq_iff_eq, beq_iff_eq]
    exact ⟨fun ⟨a, b, c, d⟩ => by cases x; cases y; simp_all, fun h => by rw [h]; exact ⟨rfl, rfl, rfl, rfl⟩⟩
  nn := true
  no := fun _ x => (fun z => by cases z)
instance : Dt (List α) where
  toD := fun xs => .tuple (xs.map toD)
  ok := fun xs => ∀ x ∈ xs, Dt.ok x
  dpt := Dt.dpt α + 1
  dp := fun {K H v x} ⟨a, vs, e, h, r⟩ => by
    subst e
    exact .tup h (dpAll r)
  lay := fun xs h => layAll h
  dep := fun xs => Nat.succ_le_succ (depAll xs)
  eqv := fun xs ys => eqvAll_iff xs ys
  nn := true
  no := fun _ x => (fun z => by cases z)
theorem eqv_dec [DecidableEq α] (x y : α) : PyData.eqv (toD x) (toD y) = decide (x = y) := by
  cases h : PyData.eqv (toD x) (toD y) with
  | true => exact (decide_eq_true ((Dt.eqv x y).mp h)).symm
  | false => exact (decide_eq_false fun z => by rw [(Dt.eqv x y).mpr z] at h; cases h).symm
theorem eqvL_dec [DecidableEq α] (xs ys : List α) : PyData.eqv (.list (xs.map toD)) (.list (ys.map toD)) = decide (xs = ys) := by
  cases h : PyData.eqv (.list (xs.map toD)) (.list (ys.map toD)) with
  | true => exact (decide_eq_true ((eqvAll_iff xs ys).mp h)).symm
  | false => exact (decide_eq_false fun z => by
    have q : PyData.eqv (.list (xs.map toD)) (.list (ys.map toD)) = true := (eqvAll_iff xs ys).mpr z
    rw [q] at h
    cases h).symm
theorem shaped_of {d : PyData} (h1 : d.canLay0 = true) (h2 : d.depth ≤ 64) : SeqAt.shaped d = true := by
  unfold SeqAt.shaped
  rw [h1, decide_eq_true h2]
  rfl
end
section
variable {X : Cx} {c : Ctx} {ss : List AV} {a b e : Expr} {pos : Pos} {α β : Type} [Dt α] [Dt β]
theorem o_eqD [DecidableEq α] {x y : α} (ox : Dt.ok x) (oy : Dt.ok y) (hd : Dt.dpt α ≤ 64) : Op2 X.K c (rEqD X.K) (.dat x) (.dat y) (.dat (decide (x = y))) := fun _ _ _ _ _ _ _ _ _ ⟨x', h1, p⟩ ⟨y', h2, q⟩ t => by
  have p : x' = x := p
  have q : y' = y := q
  subst p q
  refine ⟨_, _, Dt.dp h1, Dt.dp h2, shaped_of (Dt.lay _ ox) (Nat.le_trans (Dt.dep _) hd), shaped_of (Dt.lay _ oy) (Nat.le_trans (Dt.dep _) hd), ?_⟩
  rw [eqv_dec]
  exact t.giveB
theorem o_neD [DecidableEq α] {x y : α} (ox : Dt.ok x) (oy : Dt.ok y) (hd : Dt.dpt α ≤ 64) : Op2 X.K c (rNeD X.K) (.dat x) (.dat y) (.dat (!decide (x = y))) := fun _ _ _ _ _ _ _ _ _ ⟨x', h1, p⟩ ⟨y', h2, q⟩ t => by
  have p : x' = x := p
  have q : y' = y := q
  subst p q
  refine ⟨_, _, Dt.dp h1, Dt.dp h2, shaped_of (Dt.lay _ ox) (Nat.le_trans (Dt.dep _) hd), shaped_of (Dt.lay _ oy) (Nat.le_trans (Dt.dep _) hd), ?_⟩
  rw [eqv_dec]
  exact t.giveB
theorem o_eqL [DecidableEq α] {xs ys : List α} (ox : ∀ x ∈ xs, Dt.ok x) (oy : ∀ x ∈ ys, Dt.ok x) (hd : Dt.dpt α ≤ 60) : Op2 X.K c (rEqD X.K) (.lst xs) (.lst ys) (.dat (decide (xs = ys))) := fun _ _ _ _ _ _ _ _ _ ⟨p, vs, e, _, h, r⟩ ⟨q, us, e2, _, h2, r2⟩ t => by
  subst e e2
  refine ⟨.list (xs.map toD), .list (ys.map toD), .lst (SqL.of h) (dpAll r), .lst (SqL.of h2) (dpAll r2), shaped_of (layAll ox) ?_, shaped_of (layAll oy) ?_, ?_⟩
  · show PyData.depthAll (xs.map toD) + 1 ≤ 64
    have := depAll xs
    omega
  · show PyData.depthAll (ys.map toD) + 1 ≤ 64
    have := depAll ys
    omega
  rw [eqvL_dec]
  exact t.giveB
theorem o_neL [DecidableEq α] {xs ys : List α} (ox : ∀ x ∈ xs, Dt.ok x) (oy : ∀ x ∈ ys, Dt.ok x) (hd : Dt.dpt α ≤ 60) : Op2 X.K c (rNeD X.K) (.lst xs) (.lst ys) (.dat (!decide (xs = ys))) := fun _ _ _ _ _ _ _ _ _ ⟨p, vs, e, _, h, r⟩ ⟨q, us, e2, _, h2, r2⟩ t => by
  subst e e2
  refine ⟨.list (xs.map toD), .list (ys.map toD), .lst (SqL.of h) (dpAll r), .lst (SqL.of h2) (dpAll r2), shaped_of (layAll ox) ?_, shaped_of (layAll oy) ?_, ?_⟩
  · show PyData.depthAll (xs.map toD) + 1 ≤ 64
    have := depAll xs
    omega
  · show PyData.depthAll (ys.map toD) + 1 ≤ 64
    have := depAll ys
    omega
  rw [eqvL_dec]
  exact t.giveB
variable [DecidableEq α] {x y : α} {xs ys : List α} {k : Nat}
/-- hr : the call's room -/
theorem t_eqD (hr : Room k X.A) (ha : XE X c ss a (.dat x)) (hb : XE X c ss b (.dat y)) (ox : Dt.ok x) (oy : Dt.ok y) (hd : Dt.dpt α ≤ 64 := by decide) : XT X c ss (.Compare a [.Eq] [b] pos) (· = decide (x = y)) := t_cmpE (op_eqD hr.units) (o_eqD ox oy hd) ha hb
theorem t_neD (hr : Room k X.A) (ha : XE X c ss a (.dat x)) (hb : XE X c ss b (.dat y)) (ox : Dt.ok x) (oy : Dt.ok y) (hd : Dt.dpt α ≤ 64 := by decide) : XT X c ss (.Compare a [.NotEq] [b] pos) (· = !decide (x = y)) := t_cmpE (op_neD hr.units) (o_neD ox oy hd) ha hb
theorem x_eqD (hr : Room k X.A) (ha : XE X c ss a (.dat x)) (hb : XE X c ss b (.dat y)) (ox : Dt.ok x) (oy : Dt.ok y) (hd : Dt.dpt α ≤ 64 := by decide) : XE X c ss (.Compare a [.Eq] [b] pos) (.dat (decide (x = y))) := x_cmp (op_eqD hr.units) (o_eqD ox oy hd) ha hb
theorem x_neD (hr : Room k X.A) (ha : XE X c ss a (.dat x)) (hb : XE X c ss b (.dat y)) (ox : Dt.ok x) (oy : Dt.ok y) (hd : Dt.dpt α ≤ 64 := by decide) : XE X c ss (.Compare a [.NotEq] [b] pos) (.dat (!decide (x = y))) := x_cmp (op_neD hr.units) (o_neD ox oy hd) ha hb
theorem t_eqL (hr : Room k X.A) (ha : XE X c ss a (.lst xs)) (hb : XE X c ss b (.lst ys)) (ox : ∀ x ∈ xs, Dt.ok x) (oy : ∀ x ∈ ys, Dt.ok x) (hd : Dt.dpt α ≤ 60 := by decide) : XT X c ss (.Compare a [.Eq] [b] pos) (· = decide (xs = ys)) := t_cmpE (op_eqD hr.units) (o_eqL ox oy hd) ha hb
theorem t_neL (hr : Room k X.A) (ha : XE X c ss a (.lst xs)) (hb : XE X c ss b (.lst ys)) (ox : ∀ x ∈ xs, Dt.ok x) (oy : ∀ x ∈ ys, Dt.ok x) (hd : Dt.dpt α ≤ 60 := by decide) : XT X c ss (.Compare a [.NotEq] [b] pos) (· = !decide (xs = ys)) := t_cmpE (op_neD hr.units) (o_neL ox oy hd) ha hb
theorem x_eqL (hr : Room k X.A) (ha : XE X c ss a (.lst xs)) (hb : XE X c ss b (.lst ys)) (ox : ∀ x ∈ xs, Dt.ok x) (oy : ∀ x ∈ ys, Dt.ok x) (hd : Dt.dpt α ≤ 60 := by decide) : XE X c ss (.Compare a [.Eq] [b] pos) (.dat (decide (xs = ys))) := x_cmp (op_eqD hr.units) (o_eqL ox oy hd) ha hb
theorem x_neL (hr : Room k X.A) (ha : XE X c ss a (.lst xs)) (hb : XE X c ss b (.lst ys)) (ox : ∀ x ∈ xs, Dt.ok x) (oy : ∀ x ∈ ys, Dt.ok x) (hd : Dt.dpt α ≤ 60 := by decide) : XE X c ss (.Compare a [.NotEq] [b] pos) (.dat (!decide (xs = ys))) := x_cmp (op_neD hr.units) (o_neL ox oy hd) ha hb
end
/-! ### in, not in: texts -/
section
variable {X : Cx} {c : Ctx} {ss : List AV} {a b e : Expr} {pos : Pos} {n : Str} {xs : List Str}
theorem inV_str (n : Str) : ∀ xs : List Str, inV (.str n) (xs.map V.str) = decide (n ∈ xs)
  | [] => rfl
  | x :: xs => by
    have ih := inV_str n xs
    show ((x == n) || inV (.str n) (xs.map V.str)) = _
    rw [ih]
    by_cases h : x = n
    · subst h
      simp
    · have h2 : (x == n) = false := by simpa using h
      rw [h2, Bool.false_or]
      exact decide_eq_decide.mpr ⟨fun z => List.mem_cons_of_mem _ z, fun z => (List.mem_cons.mp z).resolve_left fun q => h q.symm⟩
theorem flat_strs : ∀ xs : List Str, (xs.map V.str).all flatV = true
  | [] => rfl
  | x :: xs => flat_strs xs
theorem o_in {neg : Bool} {R : Bool → Prop} {r : AV} (hr : ∀ (H H' : Hp) v, c.w.J H → RsOk X.K c.w H H' v r → ∃ p vs, v = .ref p ∧ (SqL X.K H' p vs ∨ SqT X.K H' p vs) ∧ vs = xs.map V.str) (k : R (if neg then !decide (n ∈ xs) else decide (n ∈ xs))) : Op2 X.K c (rIn X.K neg) (.dat n) r (.ex R) :=
  fun _ _ H H2 _ _ _ j _ ⟨m, h1, p⟩ ok t => by
    have p : m = n := p
    subst p
    obtain rfl : _ = V.str m := h1
    obtain ⟨q, vs, e, h, z⟩ := hr H H2 _ j ok
    subst e z
    refine ⟨q, _, rfl, h, rfl, flat_strs xs, ?_⟩
    rw [inV_str]
    exact t.2 (.bl _) H2 t.1 (Gr.refl _ _) ⟨_, rfl, k⟩
theorem in_tup (H H' : Hp) (v : V) (_ : c.w.J H) (ok : RsOk X.K c.w H H' v (.dat xs)) : ∃ p vs, v = .ref p ∧ (SqL X.K H' p vs ∨ SqT X.K H' p vs) ∧ vs = xs.map V.str := by
  obtain ⟨ys, h, z⟩ := ok
  have z : ys = xs := z
  subst z
  obtain ⟨p, vs, e, h, r⟩ := h
  exact ⟨p, vs, e, .inr h, strs_of r⟩
theorem in_lst (H H' : Hp) (v : V) (_ : c.w.J H) (ok : RsOk X.K c.w H H' v (.lst xs)) : ∃ p vs, v = .ref p ∧ (SqL X.K H' p vs ∨ SqT X.K H' p vs) ∧ vs = xs.map V.str := by
  obtain ⟨p, vs, e, _, h, r⟩ := ok
  exact ⟨p, vs, e, .inl (SqL.of h), strs_of r⟩
theorem t_inT (ha : XE X c ss a (.dat n)) (hb : XE X c ss b (.dat xs)) (hm : behindInMarks .In b = false := by rfl) : XT X c ss (.Compare a [.In] [b] pos) (· = decide (n ∈ xs)) := t_cmpE op_in_seq (o_in (neg := false) in_tup rfl) ha hb hm
theorem t_niT (ha : XE X c ss a (.dat n)) (hb : XE X c ss b (.dat xs)) (hm : behindInMarks .NotIn b = false := by rfl) : XT X c ss (.Compare a [.NotIn] [b] pos) (· = !decide (n ∈ xs)) := t_cmpE op_notIn_seq (o_in (neg := true) in_tup rfl) ha hb hm
theorem t_inL (ha : XE X c ss a (.dat n)) (hb : XE X c ss b (.lst xs)) (hm : behindInMarks .In b = false := by rfl) : XT X c ss (.Compare a [.In] [b] pos) (· = decide (n ∈ xs)) := t_cmpE op_in_seq (o_in (neg := false) in_lst rfl) ha hb hm
theorem t_niL (ha : XE X c ss a (.dat n)) (hb : XE X c ss b (.lst xs)) (hm : behindInMarks .NotIn b = false := by rfl) : XT X c ss (.Compare a [.NotIn] [b] pos) (· = !decide (n ∈ xs)) := t_cmpE op_notIn_seq (o_in (neg := true) in_lst rfl) ha hb hm
theorem x_inT (ha : XE X c ss a (.dat n)) (hb : XE X c ss b (.dat xs)) (hm : behindInMarks .In b = false := by rfl) : XE X c ss (.Compare a [.In] [b] pos) (.dat (decide (n ∈ xs))) := x_cmp op_in_seq (o_in (neg := false) in_tup rfl) ha hb hm
theorem x_inL (ha : XE X c ss a (.dat n)) (hb : XE X c ss b (.lst xs)) (hm : behindInMarks .In b = false := by rfl) : XE X c ss (.Compare a [.In] [b] pos) (.dat (decide (n ∈ xs))) := x_cmp op_in_seq (o_in (neg := false) in_lst rfl) ha hb hm
end
/-! ### parts -/
section
variable {X : Cx} {c : Ctx} {ss : List AV} {a b e : Expr} {pos p2 : Pos} {α : Type} [Rp α] {xs : List α} {lo hi : Option Expr} {i j : Option Int}
def tO (K : PySem.W.Frag) (c : Ctx) (ss : List AV) (o : Option Int) : TO := fun σ H Q => At K c ss σ H ∧ ∀ H', At K c ss σ H' → Gr c.w H H' → Q o H'
abbrev XO (X : Cx) (c : Ctx) (ss : List AV) (e : Option Expr) (o : Option Int) : Prop := PO X e (tO X.K c ss o)
theorem po_wk {e : Option Expr} {t t' : TO} (h : PO X e t) (k : ∀ σ H Q, t' σ H Q → t σ H Q) : PO X e t' := ⟨fun pins s σ H Q I q => h.run pins s σ H Q I (k σ H Q q)⟩
theorem xo_none : XO X c ss none none := po_wk po_none fun σ H Q q => q.2 H q.1 (Gr.refl _ _)
theorem xo_some {n : Int} (h : XE X c ss e (.dat n)) : XO X c ss (some e) (some n) := po_wk (po_some h) fun σ H Q q => ⟨q.1, fun v H' a g ⟨m, h, p⟩ => ⟨m, h, by
  have p : m = n := p
  rw [p]
  exact q.2 H' a g⟩⟩
/-- xs[lo:hi] of data -/
def cut {α : Type} (xs : List α) (lo hi : Option Int) : List α := (xs.drop (HT.sIx xs.length 0 lo)).take (HT.sIx xs.length xs.length hi - HT.sIx xs.length 0 lo)
theorem rps_cut {K : PySem.W.Frag} {H : Hp} {vs : List V} (h : Rps K H vs xs) (lo hi : Option Int) : Rps K H (cutV vs lo hi) (cut xs lo hi) := by
  unfold cutV cut
  rw [h.len]
  exact (h.drop _).take _
theorem cut_take (xs : List α) (n : Nat) : cut xs none (some (n : Int)) = xs.take n := by
  unfold cut
  rw [HT.sIx_none, HT.sIx_nat]
  show (xs.drop 0).take (min n xs.length - 0) = _
  rw [List.drop_zero, Nat.sub_zero]
  by_cases h : n ≤ xs.length
  · rw [Nat.min_eq_left h]
  · rw [Nat.min_eq_right (by omega), List.take_length, List.take_of_length_le (by omega)]
theorem cut_drop (xs : List α) (n : Nat) : cut xs (some (n : Int)) none = xs.drop n := by
  unfold cut
  rw [HT.sIx_none, HT.sIx_nat]
  by_cases h : n ≤ xs.length
  · rw [Nat.min_eq_left h, List.take_of_length_le (by rw [List.length_drop]; omega)]
  · rw [Nat.min_eq_right (by omega), List.drop_length, List.drop_of_length_le (by omega)]
    exact List.take_nil ..
theorem x_slL (ha : XE X c ss e (.lst xs)) (hl : XO X c ss lo i) (hh : XO X c ss hi j) : XE X c ss (.Subscript e (.Slice lo hi none p2) pos) (.own (cut xs i j)) :=
  (pe_slice sl_list ha hl hh).wk fun σ H Q q => ⟨q.1, fun v H1 a1 g1 ok => ⟨a1, fun H2 a2 g2 => ⟨a2, fun H3 a3 g3 => by
    obtain ⟨p, vs, e, n, h, r⟩ := (ok.mono q.1.j (g2.trans g3))
    exact ⟨p, vs, e, SqL.of h, fun l hl => (q.go a3 ((g1.trans g2).trans g3)).giveL hl (rps_cut r i j)⟩⟩⟩⟩
/-- t[lo:hi], not the whole -/
theorem x_slT (hw : ¬ (HT.sIx xs.length 0 i = 0 ∧ HT.sIx xs.length xs.length j = xs.length)) (ha : XE X c ss e (.dat xs)) (hl : XO X c ss lo i) (hh : XO X c ss hi j) : XE X c ss (.Subscript e (.Slice lo hi none p2) pos) (.dat (cut xs i j)) :=
  (pe_slice sl_tup ha hl hh).wk fun σ H Q q => ⟨q.1, fun v H1 a1 g1 ok => ⟨a1, fun H2 a2 g2 => ⟨a2, fun H3 a3 g3 => by
    obtain ⟨ys, hy, z⟩ := (ok.mono q.1.j (g2.trans g3))
    have z : ys = xs := z
    subst z
    obtain ⟨p, vs, e, h, r⟩ := hy
    exact ⟨p, vs, e, h, by rw [r.len]; exact hw, fun l hl => (q.go a3 ((g1.trans g2).trans g3)).giveT hl (rps_cut r i j)⟩⟩⟩⟩
/-- rope[1:] -/
theorem x_ropeTail {x : Rope} (ha : XE X c ss e (.dat x)) (hl : XO X c ss lo (some 1)) : XE X c ss (.Subscript e (.Slice lo none none p2) pos) (.dat (T3.mk x.slack x.stiff x.strong)) :=
  (pe_slice sl_tup ha hl xo_none).wk fun σ H Q q => ⟨q.1, fun v H1 a1 g1 ok => ⟨a1, fun H2 a2 g2 => ⟨a2, fun H3 a3 g3 => by
    obtain ⟨y, hy, z⟩ := (ok.mono q.1.j (g2.trans g3))
    have z : y = x := z
    subst z
    obtain ⟨p, e, h⟩ := hy
    refine ⟨p, _, e, h, by show ¬ (HT.sIx 4 0 (some 1) = 0 ∧ HT.sIx 4 4 none = 4); decide, fun l hl => (q.go a3 ((g1.trans g2).trans g3)).2 (.ref l) _ (a3.new hl) (Gr.new hl) ⟨_, ⟨l, _, _, _, rfl, .inl (.inl upd_same), rfl, rfl, rfl⟩, rfl⟩⟩⟩⟩⟩
/-- (name,) + .. -/
theorem x_nameCons {n : Str} {y : T3 Int Int Int} (ha : XE X c ss a (.dat [n])) (hb : XE X c ss b (.dat y)) : XE X c ss (.BinOp a .Add b pos) (.dat (Rope.mk n y.a y.b y.c)) := by
  refine x_op op_catT (ra := .dat [n]) (rb := .dat y) (fun _ _ _ H2 _ _ _ _ g ⟨zs, ⟨q, vs, e, h, r⟩, z1⟩ ⟨w, ⟨q2, u1, u2, u3, e2, h2, r1, r2, r3⟩, z2⟩ t => ?_) ha hb
  have z1 : zs = [n] := z1
  have z2 : w = y := z2
  subst z1 z2
  obtain rfl := strs_of r
  obtain rfl : u1 = V.int w.a := r1
  obtain rfl : u2 = V.int w.b := r2
  obtain rfl : u3 = V.int w.c := r3
  exact ⟨q, q2, _, _, e, e2, h, h2, (fun z => by cases z), by show 1 + 3 ≤ sizeLine; decide, (fun z => by cases z), fun _ p hp => t.2 (.ref p) _ (t.1.new hp) (Gr.new hp) ⟨_, ⟨p, rfl, .inl (.inl upd_same)⟩, rfl⟩⟩
end
end Ab

/-! AbE: sorted of data; the script; other small rules. -/
namespace Ab
open PySem L2
open Ab.Rp (rp)
open Ab.Dt (toD)
section
variable {α : Type} [Dt α]
theorem rel_data {H : Hp} {s : Shared} {X : Cx} {pins : List (Addr × Obj)} {σ : L2.St} (I : Inv X pins σ H s) : ∀ {us : List V} {vs : List Value} {xs : List α}, Rps X.K H us xs → Vals us vs →
    PySem.W.EachIs (fun v (z : V × α) => RelV z.1 v ∧ rp X.K H z.1 z.2) vs (us.zip xs) ∧ PySem.W.EachIs (fun v (z : V × α) => ∃ as, Reads s.heap v (toD z.2) as) vs (us.zip xs)
  | _, _, _, .nil, .nil => ⟨.nil, .nil⟩
  | _, _, _, .cons h hs, .cons r rs => by
    obtain ⟨a, b⟩ := rel_data I hs rs
    exact ⟨.cons ⟨r, h⟩ a, .cons (Dp.reads I _ _ _ (Dt.dp h) r) b⟩
theorem out_data {K : PySem.W.Frag} {H : Hp} {R : Value → V × α → Prop} (hR : ∀ v z, R v z → RelV z.1 v ∧ rp K H z.1 z.2) : ∀ {vs : List Value} {zs : List (V × α)}, PySem.W.EachIs R vs zs → Vals (zs.map Prod.fst) vs ∧ Rps K H (zs.map Prod.fst) (zs.map Prod.snd)
  | _, _, .nil => ⟨.nil, .nil⟩
  | _, _, .cons h t => ⟨.cons (hR _ _ h).1 (out_data hR t).1, .cons (hR _ _ h).2 (out_data hR t).2⟩
/-- the order of sorted -/
def srt (xs : List α) : List α := xs.mergeSort (PySem.W.dataLe false toD)
theorem srt_len (xs : List α) : (srt xs).length = xs.length := by unfold srt; rw [List.length_mergeSort]
theorem srt_perm (xs : List α) : (srt xs).Perm xs := List.mergeSort_perm ..
theorem x_sorted {X : Cx} {c : Ctx} {ss : List AV} {e : Expr} {xs : List α} {p0 pos : Pos} (hr : Room 3 X.A) (hm : X.mg "sorted" = none) (he : XA X c ss [e] [.lst xs]) (hal : ∀ x y : α, PySem.W.alike (toD x) (toD y) = true) (hk : (∀ x : α, ∃ a r, toD x = .tuple (a :: r)) ∨ ∀ x : α, toD x ≠ .none ∧ ∀ ys, toD x ≠ .tuple ys) (hd : Dt.dpt α ≤ 64) (hsz : xs.length ≤ 100000)
    (hg : Gl X "sorted" := by rfl) (hst : starEach [e] X.env = (false, eval e X.env) :: starEach [] X.env := by rfl) (hpl : (backTo pos (starEach [] X.env)).any (·.1) = false := by rfl) : XE X c ss (.Call (.Name "sorted" p0) [e] [] pos) (.own (srt xs)) := by
  refine ⟨fun pins s σ H Q I q => ?_⟩
  refine wpAny_Call_Name_kw (ld_blt I hg hm PyProof.Rows.boot_sorted ?_ (by decide) (by decide))
  refine PyProof.Rows.callWith_builtin1 (thn (he.run pos pins s σ H _ I ⟨q.1, fun us H1 a1 g1 ok => (⟨a1, g1, ok⟩ : At X.K c ss σ H1 ∧ Gr c.w H H1 ∧ RsOks X.K c.w H H1 us [.lst xs])⟩) fun us s1 ⟨vs, H1, I1, r1, a1, g1, ok⟩ => ?_) hst hpl
  obtain ⟨v, rfl, l, ws, rfl, nS, hl, hrs⟩ := ok.one
  obtain ⟨u0, rfl, hu0⟩ : ∃ u0, us = [u0] ∧ RelV (.ref l) u0 := by
    cases r1 with
    | cons r rr =>
      cases rr
      exact ⟨_, rfl, r⟩
  cases hu0
  obtain ⟨its, rv, hp1, hz⟩ := I1.list (SqL.of hl)
  obtain ⟨hE, hD⟩ := rel_data I1 hrs rv
  have hzl : (ws.zip xs).length = xs.length := by rw [List.length_zip, hrs.len, Nat.min_self]
  have hn1 : H1 (s1.heap.objs.size + 1) = none := I1.hok.fresh (Nat.le_succ _)
  refine PySem.W.sorted_data (enc := fun z : V × α => toD z.2) hp1.isList hE hD (PySem.W.AllAlike.of fun a b => hal a.2 b.2) (hk.elim (fun h => PySem.W.Sortable.tuples fun b => h b.2) (fun h => PySem.W.Sortable.others fun b => h b.2)) (by rw [hzl]; exact Nat.le_trans hsz (by decide)) (fun b hb => ?_) (fun out hlen hout => ?_)
  · have := hr.un
    have := Dt.dep b.2
    show X.A.units + 2 + (toD b.2).depth < cLine
    omega
  · obtain ⟨o1, o2⟩ := out_data (K := X.K) (H := H1) (fun v z h => ⟨h.1, h.2⟩) hout
    have es : ((ws.zip xs).mergeSort (PySem.W.dataLe false fun z : V × α => toD z.2)).map Prod.snd = srt xs := by
      have z := PySem.W.sort_maps (r := PySem.W.dataLe false fun z : V × α => toD z.2) (s := PySem.W.dataLe false toD) Prod.snd (l := ws.zip xs) (fun a _ b _ => rfl)
      rw [z, zip_snd hrs.len]
      rfl
    rw [es] at o2
    obtain ⟨ep, hat⟩ := PyProof.Rows.sortedAll_at s1.heap its (List.toArray out)
    refine ⟨.ref (s1.heap.objs.size + 1), upd H1 (s1.heap.objs.size + 1) (.lst _), I1.laid (t' := s1.toks) (fun _ _ => PyProof.Rows.sortedAll_old) (Nat.le_succ _) ⟨?_, out, ep, o1, hat⟩, rfl, ?_⟩
    · rw [o2.len, srt_len]
      exact Nat.le_trans hsz (by decide)
    · exact q.2 _ _ (a1.new hn1) (g1.trans (Gr.new hn1)) ⟨_, _, rfl, g1.fresh (Nf.of hn1), upd_same, o2.mono (Tu.new hn1)⟩
end
theorem srt_ii (xs : List (Int × Int)) : srt xs = xs.mergeSort fun p q => decide (p.1 < q.1 ∨ (p.1 = q.1 ∧ p.2 ≤ q.2)) := by
  unfold srt
  rw [← PySem.W.dataLe_ii (fun p : Int × Int => p.1) (fun p => p.2)]
  rfl
theorem srt_str (xs : List Str) : srt xs = xs.mergeSort fun p q => decide (p.cps.toList ≤ q.cps.toList) := by
  unfold srt
  rw [← PySem.W.dataLe_str (fun p : Str => p)]
  rfl
section
variable {X : Cx} {c : Ctx} {ss : List AV} {a b e : Expr} {es : List Expr} {pos p2 p : Pos}
theorem x_sortedII {xs : List (Int × Int)} {p0 : Pos} (hr : Room 3 X.A) (hm : X.mg "sorted" = none) (he : XA X c ss [e] [.lst xs]) (hsz : xs.length ≤ 100000)
    (hg : Gl X "sorted" := by rfl) (hst : starEach [e] X.env = (false, eval e X.env) :: starEach [] X.env := by rfl) (hpl : (backTo pos (starEach [] X.env)).any (·.1) = false := by rfl) : XE X c ss (.Call (.Name "sorted" p0) [e] [] pos) (.own (srt xs)) :=
  x_sorted hr hm he (fun x y => rfl) (.inl fun x => ⟨_, _, rfl⟩) (by decide) hsz hg hst hpl
theorem x_sortedS {xs : List Str} {p0 : Pos} (hr : Room 3 X.A) (hm : X.mg "sorted" = none) (he : XA X c ss [e] [.lst xs]) (hsz : xs.length ≤ 100000)
    (hg : Gl X "sorted" := by rfl) (hst : starEach [e] X.env = (false, eval e X.env) :: starEach [] X.env := by rfl) (hpl : (backTo pos (starEach [] X.env)).any (·.1) = false := by rfl) : XE X c ss (.Call (.Name "sorted" p0) [e] [] pos) (.own (srt xs)) :=
  x_sorted hr hm he (fun x y => rfl) (.inr fun x => ⟨(fun z => by cases z), (fun _ z => by cases z)⟩) (by decide) hsz hg hst hpl
end
end Ab

/-! M2: pulls, totals, sinkings. -/
namespace SM
open Ab
open Ab.Rp (rp)
open Ab.Dt (toD)
/-- how hard a rope pulls at a sinking -/
def pullR (r : Rope) (u : Rat) : Rat := if (r.slack : Rat) < u then (r.stiff : Rat) * (u - (r.slack : Rat)) else 0
def Ok (r : Rope) : Prop := 0 ≤ r.slack ∧ r.slack ≤ 10000 ∧ 1 ≤ r.stiff ∧ r.stiff ≤ 1000 ∧ 1 ≤ r.strong ∧ r.strong ≤ 100000000
def total (rs : List Rope) (u : Rat) : Rat := (rs.map fun r => pullR r u).sum
theorem total_nil (u : Rat) : total [] u = 0 := rfl
theorem total_cons (r : Rope) (rs : List Rope) (u : Rat) : total (r :: rs) u = pullR r u + total rs u := by
  unfold total
  rw [List.map_cons, List.sum_cons]
theorem total_append (rs qs : List Rope) (u : Rat) : total (rs ++ qs) u = total rs u + total qs u := by
  induction rs with
  | nil => rw [List.nil_append, total_nil]; grind
  | cons r rs ih => rw [List.cons_append, total_cons, total_cons, ih]; grind
theorem stiff_pos {r : Rope} (h : Ok r) : (0 : Rat) < (r.stiff : Rat) := Rat.intCast_pos.mpr (by have := h.2.2.1; omega)
theorem pull_nonneg {r : Rope} (h : Ok r) (u : Rat) : 0 ≤ pullR r u := by
  unfold pullR
  have := stiff_pos h
  split
  · rename_i hu
    exact Rat.mul_nonneg (by grind) (by grind)
  · exact Rat.le_refl
theorem pull_mono {r : Rope} (h : Ok r) {u v : Rat} (huv : u ≤ v) : pullR r u ≤ pullR r v := by
  unfold pullR
  have hs := stiff_pos h
  split
  · rename_i hu
    rw [if_pos (by grind)]
    exact Rat.mul_le_mul_of_nonneg_left (by grind) (by grind)
  · split
    · exact Rat.mul_nonneg (by grind) (by grind)
    · exact Rat.le_refl
theorem pull_strict {r : Rope} (h : Ok r) {u v : Rat} (huv : u < v) (hp : 0 < pullR r u) : pullR r u < pullR r v := by
  unfold pullR at hp ⊢
  have hs := stiff_pos h
  by_cases hu : (r.slack : Rat) < u
  · rw [if_pos hu] at hp ⊢
    rw [if_pos (by grind)]
    exact Rat.mul_lt_mul_of_pos_left (by grind) hs
  · rw [if_neg hu] at hp
    exact absurd hp Rat.lt_irrefl
theorem total_nonneg {rs : List Rope} (h : ∀ r ∈ rs, Ok r) (u : Rat) : 0 ≤ total rs u := by
  induction rs with
  | nil => rw [total_nil]; exact Rat.le_refl
  | cons r rs ih =>
    rw [total_cons]
    have h1 := pull_nonneg (h r (List.mem_cons_self ..)) u
    have h2 := ih fun q hq => h q (List.mem_cons_of_mem _ hq)
    grind
theorem total_mono {rs : List Rope} (h : ∀ r ∈ rs, Ok r) {u v : Rat} (huv : u ≤ v) : total rs u ≤ total rs v := by
  induction rs with
  | nil => rw [total_nil, total_nil]; exact Rat.le_refl
  | cons r rs ih =>
    rw [total_cons, total_cons]
    have h1 := pull_mono (h r (List.mem_cons_self ..)) huv
    have h2 := ih fun q hq => h q (List.mem_cons_of_mem _ hq)
    grind
theorem total_strict {rs : List Rope} (h : ∀ r ∈ rs, Ok r) {u v : Rat} (huv : u < v) (hp : 0 < total rs u) : total rs u < total rs v := by
  induction rs with
  | nil => rw [total_nil] at hp; exact absurd hp Rat.lt_irrefl
  | cons r rs ih =>
    rw [total_cons] at hp ⊢
    rw [total_cons]
    have hr := h r (List.mem_cons_self ..)
    have hq : ∀ q ∈ rs, Ok q := fun q hq => h q (List.mem_cons_of_mem _ hq)
    have h1 := pull_nonneg hr u
    have h2 := total_nonneg hq u
    have h3 := pull_mono hr (show u ≤ v by grind)
    have h4 := total_mono hq (show u ≤ v by grind)
    by_cases hz : 0 < pullR r u
    · have := pull_strict hr huv hz
      grind
    · have := ih hq (by grind)
      grind
/-- the sinking is one alone -/
theorem total_inj {rs : List Rope} (h : ∀ r ∈ rs, Ok r) {u v l : Rat} (hl : 0 < l) (hu : total rs u = l) (hv : total rs v = l) : u = v := by
  by_cases h1 : u < v
  · have := total_strict h h1 (by grind)
    grind
  · by_cases h2 : v < u
    · have := total_strict h h2 (by grind)
      grind
    · grind
theorem total_perm {rs qs : List Rope} (h : rs.Perm qs) (u : Rat) : total rs u = total qs u := by
  induction h with
  | nil => rfl
  | cons r _ ih => rw [total_cons, total_cons, ih]
  | swap r q l => rw [total_cons, total_cons, total_cons, total_cons]; grind
  | trans _ _ h1 h2 => rw [h1, h2]
/-! ### drawn one after the other -/
def sumS (rs : List Rope) : Int := (rs.map fun r => r.stiff).sum
def sumD (rs : List Rope) : Int := (rs.map fun r => r.stiff * r.slack).sum
/-- the sinking where just these are drawn -/
def drawnTo (rs : List Rope) (l : Rat) : Rat := (l + (sumD rs : Rat)) / (sumS rs : Rat)
theorem sumS_pos {rs : List Rope} (h : ∀ r ∈ rs, Ok r) (hn : rs ≠ []) : 0 < sumS rs := by
  induction rs with
  | nil => exact absurd rfl hn
  | cons r rs ih =>
    show 0 < ((r :: rs).map fun r => r.stiff).sum
    rw [List.map_cons, List.sum_cons]
    have h1 := (h r (List.mem_cons_self ..)).2.2.1
    by_cases hz : rs = []
    · subst hz
      simp
      omega
    · have := ih (fun q hq => h q (List.mem_cons_of_mem _ hq)) hz
      unfold sumS at this
      omega
theorem sumS_append (rs qs : List Rope) : sumS (rs ++ qs) = sumS rs + sumS qs := by
  unfold sumS
  rw [List.map_append, List.sum_append]
theorem sumD_append (rs qs : List Rope) : sumD (rs ++ qs) = sumD rs + sumD qs := by
  unfold sumD
  rw [List.map_append, List.sum_append]
/-- all drawn: the total is a line -/
theorem total_all {rs : List Rope} {u : Rat} (h : ∀ r ∈ rs, (r.slack : Rat) ≤ u) : total rs u = (sumS rs : Rat) * u - (sumD rs : Rat) := by
  induction rs with
  | nil =>
    show (0 : Rat) = ((0 : Int) : Rat) * u - ((0 : Int) : Rat)
    rw [Rat.intCast_zero]
    grind
  | cons r rs ih =>
    rw [total_cons, ih fun q hq => h q (List.mem_cons_of_mem _ hq)]
    have hr := h r (List.mem_cons_self ..)
    have e1 : sumS (r :: rs) = r.stiff + sumS rs := by unfold sumS; rw [List.map_cons, List.sum_cons]
    have e2 : sumD (r :: rs) = r.stiff * r.slack + sumD rs := by unfold sumD; rw [List.map_cons, List.sum_cons]
    rw [e1, e2, Rat.intCast_add, Rat.intCast_add, Rat.intCast_mul]
    unfold pullR
    split
    · grind
    · have : (r.slack : Rat) = u := by grind
      grind
/-- none drawn -/
theorem total_none {rs : List Rope} {u : Rat} (h : ∀ r ∈ rs, u ≤ (r.slack : Rat)) : total rs u = 0 := by
  induction rs with
  | nil => rfl
  | cons r rs ih =>
    rw [total_cons, ih fun q hq => h q (List.mem_cons_of_mem _ hq)]
    have hr := h r (List.mem_cons_self ..)
    unfold pullR
    rw [if_neg (by grind)]
    grind
theorem drawnTo_total {rs : List Rope} {l : Rat} (h : ∀ r ∈ rs, Ok r) (hn : rs ≠ []) (hs : ∀ r ∈ rs, (r.slack : Rat) ≤ drawnTo rs l) : total rs (drawnTo rs l) = l := by
  rw [total_all hs]
  have := sumS_pos h hn
  have h0 : (sumS rs : Rat) ≠ 0 := fun z => by
    have := Rat.intCast_eq_zero_iff.mp z
    omega
  unfold drawnTo
  grind
/-- one more rope, its slack under the sinking so far: all stay drawn, it too -/
theorem drawnTo_more {rs : List Rope} {r : Rope} {l : Rat} (h : ∀ q ∈ rs, Ok q) (hr : Ok r) (hn : rs ≠ []) (hs : (r.slack : Rat) < drawnTo rs l) : (r.slack : Rat) < drawnTo (rs ++ [r]) l ∧ drawnTo (rs ++ [r]) l < drawnTo rs l := by
  have h1 := sumS_pos h hn
  have e1 : sumS (rs ++ [r]) = sumS rs + r.stiff := by rw [sumS_append]; unfold sumS; simp
  have e2 : sumD (rs ++ [r]) = sumD rs + r.stiff * r.slack := by rw [sumD_append]; unfold sumD; simp
  have p1 : (0 : Rat) < (sumS rs : Rat) := Rat.intCast_pos.mpr h1
  have p2 := stiff_pos hr
  unfold drawnTo at hs ⊢
  rw [e1, e2, Rat.intCast_add, Rat.intCast_add, Rat.intCast_mul]
  rw [Rat.lt_div_iff p1] at hs
  constructor
  · rw [Rat.lt_div_iff (by grind)]
    grind
  · rw [Rat.div_lt_iff (by grind)]
    have e : (l + (sumD rs : Rat)) / (sumS rs : Rat) * ((sumS rs : Rat) + (r.stiff : Rat)) = (l + (sumD rs : Rat)) + (l + (sumD rs : Rat)) / (sumS rs : Rat) * (r.stiff : Rat) := by grind
    rw [e]
    have k : (r.slack : Rat) < (l + (sumD rs : Rat)) / (sumS rs : Rat) := by
      rw [Rat.lt_div_iff p1]
      exact hs
    have k2 := Rat.mul_lt_mul_of_pos_right k p2
    grind
end SM

/-! M3: the sinking, reckoned in two ways. -/
namespace SM
open Ab
open Ab.Rp (rp)
open Ab.Dt (toD)
/-- done: the ropes gone through; act: those drawn; f: the sinking so far -/
structure Inv3 (l : Rat) (done act rest : List Rope) (f : Option Rat) : Prop where
  e : done = act ++ rest
  e0 : act = [] → rest = [] ∧ f = none
  e1 : act ≠ [] → f = some (drawnTo act l) ∧ (∀ r ∈ act, (r.slack : Rat) < drawnTo act l) ∧ ∀ r ∈ rest, drawnTo act l ≤ (r.slack : Rat)
def under (r : Rope) (f : Option Rat) : Bool := match f with
  | none => true
  | some u => decide ((r.slack : Rat) < u)
theorem drawnTo_one {r : Rope} {l : Rat} (h : Ok r) (hl : 0 < l) : (r.slack : Rat) < drawnTo [r] l := by
  have e1 : sumS [r] = r.stiff := by unfold sumS; simp
  have e2 : sumD [r] = r.stiff * r.slack := by unfold sumD; simp
  have p := stiff_pos h
  unfold drawnTo
  rw [e1, e2, Rat.lt_div_iff p, Rat.intCast_mul]
  grind
section
variable {l : Rat} {done act rest : List Rope} {f : Option Rat} {r : Rope}
theorem Inv3.yes (I : Inv3 l done act rest f) (hl : 0 < l) (ho : ∀ q ∈ done, Ok q) (hr : Ok r) (hs : ∀ q ∈ done, q.slack ≤ r.slack) (h : under r f = true) : rest = [] ∧ Inv3 l (done ++ [r]) (act ++ [r]) [] (some (drawnTo (act ++ [r]) l)) := by
  by_cases ha : act = []
  · obtain ⟨h1, h2⟩ := I.e0 ha
    subst ha h1
    refine ⟨rfl, by rw [I.e]; simp, fun z => by simp at z, fun _ => ⟨rfl, fun q hq => ?_, fun q hq => by cases hq⟩⟩
    rw [List.nil_append] at hq ⊢
    obtain rfl := List.mem_singleton.mp hq
    exact drawnTo_one hr hl
  · obtain ⟨h1, h2, h3⟩ := I.e1 ha
    subst h1
    have hu : (r.slack : Rat) < drawnTo act l := of_decide_eq_true h
    have hre : rest = [] := by
      cases rest with
      | nil => rfl
      | cons q rest =>
        have k1 := h3 q (List.mem_cons_self ..)
        have k2 := hs q (by rw [I.e]; simp)
        have k3 : (q.slack : Rat) ≤ (r.slack : Rat) := Rat.intCast_le_intCast.mpr k2
        exact absurd hu (by grind)
    subst hre
    have hd : done = act := by rw [I.e, List.append_nil]
    subst hd
    obtain ⟨m1, m2⟩ := drawnTo_more ho hr ha hu
    refine ⟨rfl, by simp, fun z => by simp at z, fun _ => ⟨rfl, fun q hq => ?_, fun q hq => by cases hq⟩⟩
    rcases List.mem_append.mp hq with hq | hq
    · have k3 : (q.slack : Rat) ≤ (r.slack : Rat) := Rat.intCast_le_intCast.mpr (hs q hq)
      grind
    · obtain rfl := List.mem_singleton.mp hq
      exact m1
theorem Inv3.not (I : Inv3 l done act rest f) (h : under r f = false) : Inv3 l (done ++ [r]) act (rest ++ [r]) f := by
  by_cases ha : act = []
  · obtain ⟨h1, h2⟩ := I.e0 ha
    rw [h2] at h
    cases h
  · obtain ⟨h1, h2, h3⟩ := I.e1 ha
    refine ⟨by rw [I.e]; simp, fun z => absurd z ha, fun _ => ⟨h1, h2, fun q hq => ?_⟩⟩
    rcases List.mem_append.mp hq with hq | hq
    · exact h3 q hq
    · obtain rfl := List.mem_singleton.mp hq
      rw [h1] at h
      have : ¬ (q.slack : Rat) < drawnTo act l := of_decide_eq_false h
      grind
theorem Inv3.start : Inv3 l [] [] [] none := ⟨rfl, fun _ => ⟨rfl, rfl⟩, fun z => absurd rfl z⟩
theorem Inv3.done_total (I : Inv3 l done act rest f) (ho : ∀ q ∈ done, Ok q) (hn : done ≠ []) : ∃ u, f = some u ∧ total done u = l ∧ act ≠ [] ∧ u = drawnTo act l := by
  have ha : act ≠ [] := fun z => hn (by rw [I.e, z, (I.e0 z).1]; rfl)
  obtain ⟨h1, h2, h3⟩ := I.e1 ha
  have k1 : ∀ q ∈ act, Ok q := fun q hq => ho q (by rw [I.e]; exact List.mem_append_left _ hq)
  refine ⟨_, h1, ?_, ha, rfl⟩
  conv => lhs; rw [I.e]
  rw [total_append, drawnTo_total k1 ha (fun q hq => by have := h2 q hq; grind), total_none h3]
  grind
end
/-- the program's way -/
def sbStep (l : Rat) (st : Option Rat × Int × Int) (r : Rope) : Option Rat × Int × Int :=
  if under r st.1 = true then (some ((l + ((st.2.2 + r.stiff * r.slack : Int) : Rat)) / ((st.2.1 + r.stiff : Int) : Rat)), st.2.1 + r.stiff, st.2.2 + r.stiff * r.slack) else st
theorem sbStep_yes {l : Rat} {st : Option Rat × Int × Int} {r : Rope} (h : under r st.1 = true) : sbStep l st r = (some ((l + ((st.2.2 + r.stiff * r.slack : Int) : Rat)) / ((st.2.1 + r.stiff : Int) : Rat)), st.2.1 + r.stiff, st.2.2 + r.stiff * r.slack) := if_pos h
theorem sbStep_not {l : Rat} {st : Option Rat × Int × Int} {r : Rope} (h : under r st.1 = false) : sbStep l st r = st := if_neg (by rw [h]; decide)
def sunkBy (rs : List Rope) (l : Rat) : Option Rat := if l = 0 then some 0 else ((bySlack rs).foldl (sbStep l) (none, 0, 0)).1
theorem bySlack_perm (rs : List Rope) : (bySlack rs).Perm rs := List.mergeSort_perm ..
theorem bySlack_sorted (rs : List Rope) : (bySlack rs).Pairwise fun a b => a.slack ≤ b.slack := by
  have h := List.pairwise_mergeSort (le := fun a b : Rope => decide (a.slack ≤ b.slack)) (fun a b c h1 h2 => by
    have h1 := of_decide_eq_true h1
    have h2 := of_decide_eq_true h2
    exact decide_eq_true (by omega)) (fun a b => by
    by_cases h : a.slack ≤ b.slack
    · rw [decide_eq_true h]; rfl
    · have h' : b.slack ≤ a.slack := by omega
      rw [decide_eq_true h']
      exact Bool.or_true _) rs
  exact h.imp fun h => of_decide_eq_true h
theorem snoc_ind {α : Type} {p : List α → Prop} (h0 : p []) (h1 : ∀ L a, p L → p (L ++ [a])) (L : List α) : p L := by
  have : ∀ L : List α, p L.reverse := by
    intro L
    induction L with
    | nil => exact h0
    | cons a L ih =>
      rw [List.reverse_cons]
      exact h1 _ _ ih
  have h := this L.reverse
  rwa [List.reverse_reverse] at h
/-- the fold over a rising list keeps the word -/
theorem sb_inv {l : Rat} (hl : 0 < l) : ∀ (L : List Rope), (∀ r ∈ L, Ok r) → (L.Pairwise fun a b => a.slack ≤ b.slack) → ∃ act rest, Inv3 l L act rest (L.foldl (sbStep l) (none, 0, 0)).1 ∧ (L.foldl (sbStep l) (none, 0, 0)).2.1 = sumS act ∧ (L.foldl (sbStep l) (none, 0, 0)).2.2 = sumD act := by
  refine snoc_ind (fun _ _ => ⟨[], [], Inv3.start, rfl, rfl⟩) ?_
  · intro L r ih ho hs
    rw [List.foldl_append]
    obtain ⟨act, rest, I, e1, e2⟩ := ih (fun q hq => ho q (List.mem_append_left _ hq)) (List.pairwise_append.mp hs).1
    have hsr : ∀ q ∈ L, q.slack ≤ r.slack := fun q hq => (List.pairwise_append.mp hs).2.2 q hq r (List.mem_singleton.mpr rfl)
    have hor := ho r (List.mem_append_right _ (List.mem_singleton.mpr rfl))
    show ∃ act' rest', Inv3 l (L ++ [r]) act' rest' (sbStep l (L.foldl (sbStep l) (none, 0, 0)) r).1 ∧ (sbStep l (L.foldl (sbStep l) (none, 0, 0)) r).2.1 = sumS act' ∧ (sbStep l (L.foldl (sbStep l) (none, 0, 0)) r).2.2 = sumD act'
    generalize L.foldl (sbStep l) (none, 0, 0) = S at I e1 e2 ⊢
    cases h : under r S.1 with
    | true =>
      rw [sbStep_yes h]
      obtain ⟨_, J⟩ := I.yes hl (fun q hq => ho q (List.mem_append_left _ hq)) hor hsr h
      have f1 : sumS (act ++ [r]) = sumS act + r.stiff := by rw [sumS_append]; unfold sumS; simp
      have f2 : sumD (act ++ [r]) = sumD act + r.stiff * r.slack := by rw [sumD_append]; unfold sumD; simp
      refine ⟨act ++ [r], [], ?_, ?_, ?_⟩
      · unfold drawnTo at J
        rw [f1, f2] at J
        rw [e1, e2]
        exact J
      · rw [f1, e1]
      · rw [f2, e2]
    | false =>
      rw [sbStep_not h]
      exact ⟨act, rest ++ [r], I.not h, e1, e2⟩
theorem sunkBy_zero (rs : List Rope) : sunkBy rs 0 = some 0 := if_pos rfl
theorem sunkBy_nil {l : Rat} (hl : 0 < l) : sunkBy [] l = none := by
  unfold sunkBy
  rw [if_neg (by grind)]
  unfold bySlack
  rw [List.mergeSort_nil]
  rfl
theorem sunkBy_spec {rs : List Rope} {l : Rat} (ho : ∀ r ∈ rs, Ok r) (hn : rs ≠ []) (hl : 0 < l) : ∃ u, sunkBy rs l = some u ∧ total rs u = l := by
  have hp := bySlack_perm rs
  obtain ⟨act, rest, I, _, _⟩ := sb_inv hl (bySlack rs) (fun r hr => ho r (hp.mem_iff.mp hr)) (bySlack_sorted rs)
  obtain ⟨u, h1, h2, _⟩ := I.done_total (fun r hr => ho r (hp.mem_iff.mp hr)) (fun z => hn (by
    rw [z] at hp
    exact List.nil_perm.mp hp))
  refine ⟨u, ?_, ?_⟩
  · unfold sunkBy
    rw [if_neg (by grind)]
    exact h1
  · rw [← total_perm hp]
    exact h2
end SM

/-! M4: the law's own way to the sinking. -/
namespace SM
open Ab
open Ab.Rp (rp)
open Ab.Dt (toD)
def asRope (p : Int × Int) : Rope := ⟨PySem.Str.ofString "", p.1, p.2, 1⟩
def ofRope (r : Rope) : Int × Int := (r.slack, r.stiff)
def pS (ps : List (Int × Int)) : Int := (ps.map fun p => p.2).sum
def pD (ps : List (Int × Int)) : Int := (ps.map fun p => p.1 * p.2).sum
theorem pS_eq (ps : List (Int × Int)) : sumS (ps.map asRope) = pS ps := by
  unfold sumS pS
  rw [List.map_map]
  rfl
theorem pD_eq (ps : List (Int × Int)) : sumD (ps.map asRope) = pD ps := by
  unfold sumD pD
  rw [List.map_map]
  congr 1
  apply List.map_congr_left
  intro p _
  show p.2 * p.1 = p.1 * p.2
  exact Int.mul_comm ..
def lsStep (l : Rat) (ps : List (Int × Int)) (here : Option Rat) (j : Nat) : Option Rat := match ps[j]? with
  | none => here
  | some p => if under (asRope p) here = true then some ((l + (pD (ps.take (j + 1)) : Rat)) / (pS (ps.take (j + 1)) : Rat)) else here
def lsTo (l : Rat) (ps : List (Int × Int)) (j : Nat) : Option Rat := (List.range j).foldl (lsStep l ps) none
theorem lsTo_succ (l : Rat) (ps : List (Int × Int)) (j : Nat) : lsTo l ps (j + 1) = lsStep l ps (lsTo l ps j) j := by
  unfold lsTo
  rw [List.range_succ, List.foldl_append]
  rfl
def lawSunk (rs : List Rope) (l : Rat) : Option Rat := if l = 0 then some 0 else lsTo l (srt (rs.map ofRope)) (srt (rs.map ofRope)).length
theorem ls_inv {l : Rat} (hl : 0 < l) {ps : List (Int × Int)} (ho : ∀ p ∈ ps, Ok (asRope p)) (hs : ps.Pairwise fun a b => a.1 ≤ b.1) : ∀ j, j ≤ ps.length → ∃ act rest, Inv3 l ((ps.take j).map asRope) act rest (lsTo l ps j)
  | 0, _ => ⟨[], [], Inv3.start⟩
  | j + 1, hj => by
    obtain ⟨act, rest, I⟩ := ls_inv hl ho hs j (by omega)
    have hj' : j < ps.length := by omega
    have e : ps[j]? = some ps[j] := List.getElem?_eq_getElem hj'
    have et : ps.take (j + 1) = ps.take j ++ [ps[j]] := by rw [List.take_add_one, e]; rfl
    rw [lsTo_succ]
    generalize lsTo l ps j = here at I ⊢
    have hor : Ok (asRope ps[j]) := ho _ (List.getElem_mem hj')
    have hod : ∀ q ∈ (ps.take j).map asRope, Ok q := fun q hq => by
      obtain ⟨p, hp, rfl⟩ := List.mem_map.mp hq
      exact ho p (List.mem_of_mem_take hp)
    have hsr : ∀ q ∈ (ps.take j).map asRope, q.slack ≤ (asRope ps[j]).slack := fun q hq => by
      obtain ⟨p, hp, rfl⟩ := List.mem_map.mp hq
      obtain ⟨i, hi, rfl⟩ := List.mem_take_iff_getElem.mp hp
      exact List.pairwise_iff_getElem.mp hs i j (by omega) hj' (by omega)
    have em : (ps.take (j + 1)).map asRope = (ps.take j).map asRope ++ [asRope ps[j]] := by rw [et, List.map_append]; rfl
    have es : lsStep l ps here j = if under (asRope ps[j]) here = true then some ((l + (pD (ps.take (j + 1)) : Rat)) / (pS (ps.take (j + 1)) : Rat)) else here := by
      unfold lsStep
      rw [e]
    rw [es, em]
    cases h : under (asRope ps[j]) here with
    | true =>
      rw [if_pos rfl]
      obtain ⟨hr, J⟩ := I.yes hl hod hor hsr h
      have ea : act ++ [asRope ps[j]] = (ps.take (j + 1)).map asRope := by
        have := I.e
        rw [hr, List.append_nil] at this
        rw [← this, em]
      refine ⟨act ++ [asRope ps[j]], [], ?_⟩
      unfold drawnTo at J
      rw [ea, pS_eq, pD_eq] at J
      rw [ea]
      exact J
    | false =>
      rw [if_neg Bool.false_ne_true]
      exact ⟨act, rest ++ [asRope ps[j]], I.not h⟩
theorem ok_of {r : Rope} (h : Ok r) : Ok (asRope (ofRope r)) := ⟨h.1, h.2.1, h.2.2.1, h.2.2.2.1, (by show (1:Int) ≤ 1; decide), (by show (1:Int) ≤ 100000000; decide)⟩
theorem total_of (rs : List Rope) (u : Rat) : total ((rs.map ofRope).map asRope) u = total rs u := by
  induction rs with
  | nil => rfl
  | cons r rs ih =>
    rw [List.map_cons, List.map_cons, total_cons, total_cons, ih]
    rfl
theorem srt_ii_sorted (xs : List (Int × Int)) : (srt xs).Pairwise fun a b => a.1 ≤ b.1 := by
  rw [srt_ii]
  have h := List.pairwise_mergeSort (le := fun p q : Int × Int => decide (p.1 < q.1 ∨ (p.1 = q.1 ∧ p.2 ≤ q.2))) (fun a b c h1 h2 => by
    have h1 := of_decide_eq_true h1
    have h2 := of_decide_eq_true h2
    exact decide_eq_true (by omega)) (fun a b => by
    by_cases h : a.1 < b.1 ∨ (a.1 = b.1 ∧ a.2 ≤ b.2)
    · rw [decide_eq_true h]; rfl
    · have h' : b.1 < a.1 ∨ (b.1 = a.1 ∧ b.2 ≤ a.2) := by omega
      rw [decide_eq_true h']
      exact Bool.or_true _) xs
  exact h.imp fun h => by
    have := of_decide_eq_true h
    omega
/-- the two ways agree -/
theorem law_sunk_eq {rs : List Rope} {l : Rat} (ho : ∀ r ∈ rs, Ok r) (hl : 0 ≤ l) : lawSunk rs l = sunkBy rs l := by
  by_cases h0 : l = 0
  · subst h0
    rw [sunkBy_zero]
    exact if_pos rfl
  · have hl : 0 < l := by grind
    by_cases hn : rs = []
    · subst hn
      rw [sunkBy_nil hl]
      unfold lawSunk
      rw [if_neg h0]
      have : srt (([] : List Rope).map ofRope) = [] := by
        unfold srt
        exact List.mergeSort_nil
      rw [this]
      rfl
    · obtain ⟨u, h1, h2⟩ := sunkBy_spec ho hn hl
      have hp : ((srt (rs.map ofRope)).map asRope).Perm ((rs.map ofRope).map asRope) := (srt_perm _).map _
      have hop : ∀ p ∈ srt (rs.map ofRope), Ok (asRope p) := fun p hp' => by
        obtain ⟨r, hr, rfl⟩ := List.mem_map.mp ((srt_perm _).mem_iff.mp hp')
        exact ok_of (ho r hr)
      obtain ⟨act, rest, I⟩ := ls_inv hl hop (srt_ii_sorted _) (srt (rs.map ofRope)).length (Nat.le_refl _)
      rw [List.take_length] at I
      obtain ⟨v, k1, k2, _⟩ := I.done_total (fun q hq => by
        obtain ⟨p, hp', rfl⟩ := List.mem_map.mp hq
        exact hop p hp') (fun z => hn (by
        have := congrArg List.length z
        rw [List.length_map, srt_len, List.length_map] at this
        exact List.length_eq_zero_iff.mp this))
      rw [total_perm hp, total_of] at k2
      have : u = v := total_inj ho hl h2 k2
      unfold lawSunk
      rw [if_neg h0, k1, h1, this]
end SM

/-! M5: sizes along pulls, sinkings. -/
namespace SM
open Ab L2
open Ab.Rp (rp)
open Ab.Dt (toD)
theorem cmul_of {i j : Int} {a b : Nat} (ha : i.natAbs < 2 ^ a) (hb : j.natAbs < 2 ^ b) (h0 : 0 < a := by decide) (h1 : 0 < b := by decide) (h : a + b ≤ 1000000 := by decide) : CMulW i j := wide_mul ha hb h0 h1 h
theorem Sz.n {n : Nat} {q : Rat} (h : Sz n q) : q.num.natAbs < 2 ^ n := h.1
theorem Sz.d {n : Nat} {q : Rat} (h : Sz n q) : (q.den : Int).natAbs < 2 ^ n := by rw [Int.natAbs_natCast]; exact h.2
theorem abs_lt {i : Int} {n : Nat} (a : Nat) (h0 : 0 ≤ i) (h : i ≤ (n : Int)) (hn : n < 2 ^ a) : i.natAbs < 2 ^ a := by omega
theorem mul_abs {i j : Int} {a b : Nat} (ha : i.natAbs < 2 ^ a) (hb : j.natAbs < 2 ^ b) : (i * j).natAbs < 2 ^ (a + b) := wide_lt ha hb
theorem sub_abs {i j : Int} {a : Nat} (ha : i.natAbs < 2 ^ a) (hb : j.natAbs < 2 ^ a) : (i - j).natAbs < 2 ^ (a + 1) := by
  rw [Nat.pow_succ]; omega
theorem add_abs {i j : Int} {a : Nat} (ha : i.natAbs < 2 ^ a) (hb : j.natAbs < 2 ^ a) : (i + j).natAbs < 2 ^ (a + 1) := by
  rw [Nat.pow_succ]; omega
theorem up_abs {i : Int} {a b : Nat} (ha : i.natAbs < 2 ^ a) (h : a ≤ b) : i.natAbs < 2 ^ b := Nat.lt_of_lt_of_le ha (Nat.pow_le_pow_right (by decide) h)
theorem slack_abs {r : Rope} (h : Ok r) : r.slack.natAbs < 2 ^ 14 := by have := h.1; have := h.2.1; omega
theorem stiff_abs {r : Rope} (h : Ok r) : r.stiff.natAbs < 2 ^ 10 := by have := h.2.2.1; have := h.2.2.2.1; omega
theorem strong_abs {r : Rope} (h : Ok r) : r.strong.natAbs < 2 ^ 27 := by have := h.2.2.2.2.1; have := h.2.2.2.2.2; omega
theorem top_eq (r : Rope) (u : Rat) : ((u.num - r.slack * (u.den : Int) : Int) : Rat) = (u - (r.slack : Rat)) * ((u.den : Int) : Rat) := by
  have := num_eq u
  rw [Rat.intCast_sub, Rat.intCast_mul]
  grind
theorem top_pos (r : Rope) (u : Rat) : 0 < u.num - r.slack * (u.den : Int) ↔ (r.slack : Rat) < u := by
  have h := Rat.lt_iff (r.slack : Rat) u
  rw [Rat.num_intCast, Rat.den_intCast] at h
  rw [h]
  constructor
  · intro z; have : (((1 : Nat) : Int)) = 1 := rfl; rw [this]; omega
  · intro z; have : (((1 : Nat) : Int)) = 1 := rfl; rw [this] at z; omega
theorem pull_pos {r : Rope} {u : Rat} (h : 0 < u.num - r.slack * (u.den : Int)) : ((r.stiff * (u.num - r.slack * (u.den : Int)) : Int) : Rat) / ((u.den : Int) : Rat) = pullR r u := by
  unfold pullR
  rw [if_pos ((top_pos r u).mp h), Rat.intCast_mul, top_eq]
  have := den_ne u
  grind
theorem pull_not {r : Rope} {u : Rat} (h : ¬ 0 < u.num - r.slack * (u.den : Int)) : (0 : Rat) = pullR r u := by
  unfold pullR
  rw [if_neg (fun z => h ((top_pos r u).mpr z))]
theorem top_abs {r : Rope} (hr : Ok r) {u : Rat} {n : Nat} (h : Sz n u) : (u.num - r.slack * (u.den : Int)).natAbs < 2 ^ (14 + n + 1) := sub_abs (up_abs h.n (by omega)) (mul_abs (slack_abs hr) h.d)
theorem sz_pull {r : Rope} (hr : Ok r) {u : Rat} {n : Nat} (h : Sz n u) : Sz (n + 25) (pullR r u) := by
  by_cases hp : 0 < u.num - r.slack * (u.den : Int)
  · rw [← pull_pos hp]
    exact (sz_div (den_pos u) (up_abs (mul_abs (stiff_abs hr) (top_abs hr h)) (by omega)) (up_abs h.d (by omega)))
  · rw [← pull_not hp]
    exact ⟨by show (0 : Nat) < _; exact Nat.pos_of_ne_zero (by simp), by show (1 : Nat) < _; exact Nat.one_lt_pow (by omega) (by decide)⟩
theorem sz_zero {n : Nat} (h : 0 < n) : Sz n 0 := ⟨by show (0 : Nat) < _; exact Nat.pos_of_ne_zero (by simp), by show (1 : Nat) < _; exact Nat.one_lt_pow (by omega) (by decide)⟩
/-- a sinking as the programs reckon it -/
theorem sunk_eq (l : Rat) (D S : Int) : ((l.num + D * (l.den : Int) : Int) : Rat) / ((S * (l.den : Int) : Int) : Rat) = (l + (D : Rat)) / (S : Rat) := by
  have h := num_eq l
  have hd := den_ne l
  rw [Rat.intCast_add, Rat.intCast_mul, Rat.intCast_mul, h]
  by_cases hS : (S : Rat) = 0
  · rw [hS]; grind
  · grind
theorem sz_sunk {l : Rat} {D S : Int} {n : Nat} (h : Sz n l) (hS : 0 < S) (hS2 : S.natAbs < 2 ^ 40) (hD : D.natAbs < 2 ^ 40) : Sz (n + 41) ((l + (D : Rat)) / (S : Rat)) := by
  rw [← sunk_eq]
  refine sz_div (Int.mul_pos hS (den_pos l)) ?_ (up_abs (mul_abs hS2 h.d) (by omega))
  exact up_abs (add_abs (up_abs h.n (by omega : n ≤ 40 + n)) (mul_abs hD h.d)) (by omega)
def sbSt (rs : List Rope) (l : Rat) (i : Nat) : Option Rat × Int × Int := ((bySlack rs).take i).foldl (sbStep l) (none, 0, 0)
theorem sbSt_zero (rs : List Rope) (l : Rat) : sbSt rs l 0 = (none, 0, 0) := by unfold sbSt; rw [List.take_zero]; rfl
theorem sbSt_succ {rs : List Rope} {l : Rat} {i : Nat} {r : Rope} (h : (bySlack rs)[i]? = some r) : sbSt rs l (i + 1) = sbStep l (sbSt rs l i) r := by
  unfold sbSt
  rw [List.take_add_one, h, List.foldl_append]
  rfl
theorem bySlack_len (rs : List Rope) : (bySlack rs).length = rs.length := by unfold bySlack; rw [List.length_mergeSort]
theorem sbSt_all (rs : List Rope) (l : Rat) : (sbSt rs l (bySlack rs).length).1 = ((bySlack rs).foldl (sbStep l) (none, 0, 0)).1 := by unfold sbSt; rw [List.take_length]
theorem bySlack_ok {rs : List Rope} (h : ∀ r ∈ rs, Ok r) : ∀ r ∈ bySlack rs, Ok r := fun r hr => h r ((bySlack_perm rs).mem_iff.mp hr)
/-- bounds along the walk -/
structure SbB (n i : Nat) (st : Option Rat × Int × Int) : Prop where
  s0 : 0 ≤ st.2.1
  s1 : st.2.1 ≤ 1000 * (i : Int)
  d0 : 0 ≤ st.2.2
  d1 : st.2.2 ≤ 10000000 * (i : Int)
  f : ∀ q, st.1 = some q → Sz (n + 41) q
theorem mul_in {a b : Int} {m k : Int} (ha : 0 ≤ a) (ha2 : a ≤ m) (hb : 0 ≤ b) (hb2 : b ≤ k) : 0 ≤ a * b ∧ a * b ≤ m * k :=
  ⟨Int.mul_nonneg ha hb, Int.mul_le_mul ha2 hb2 hb (by omega)⟩
theorem sb_bounds {rs : List Rope} {l : Rat} {n : Nat} (ho : ∀ r ∈ rs, Ok r) (hl : Sz n l) (hz : rs.length ≤ 1000) : ∀ i, i ≤ rs.length → SbB n i (sbSt rs l i)
  | 0, _ => by
    rw [sbSt_zero]
    exact ⟨Int.le_refl _, by show (0 : Int) ≤ _; omega, Int.le_refl _, by show (0 : Int) ≤ _; omega, fun q z => by cases z⟩
  | i + 1, hi => by
    have B := sb_bounds ho hl hz i (by omega)
    have hb : i < (bySlack rs).length := by rw [bySlack_len]; omega
    have hr := bySlack_ok ho _ (List.getElem_mem hb)
    rw [sbSt_succ (List.getElem?_eq_getElem hb)]
    generalize (bySlack rs)[i] = r at hr
    obtain ⟨h1, h2, h3, h4, h5, h6⟩ := hr
    obtain ⟨m1, m2⟩ := mul_in (a := r.stiff) (b := r.slack) (m := 1000) (k := 10000) (by omega) h4 h1 h2
    cases hu : under r (sbSt rs l i).1 with
    | true =>
      rw [sbStep_yes hu]
      have := B.s0
      have := B.s1
      have := B.d0
      have := B.d1
      refine ⟨by show 0 ≤ _ + _; omega, by show _ + _ ≤ _; omega, by show 0 ≤ _ + _; omega, by show _ + _ ≤ _; omega, fun q z => ?_⟩
      obtain rfl : _ = q := Option.some.inj z
      exact sz_sunk hl (by omega) (by omega) (by omega)
    | false =>
      rw [sbStep_not hu]
      have := B.s1
      have := B.d1
      exact ⟨B.s0, by omega, B.d0, by omega, B.f⟩
end SM
namespace SM
open Ab L2
open Ab.Rp (rp)
open Ab.Dt (toD)
theorem sz_sunkBy {rs : List Rope} {l u : Rat} {n : Nat} (ho : ∀ r ∈ rs, Ok r) (hl : Sz n l) (hz : rs.length ≤ 1000) (h : sunkBy rs l = some u) : Sz (n + 41) u := by
  unfold sunkBy at h
  by_cases h0 : l = 0
  · rw [if_pos h0] at h
    obtain rfl := Option.some.inj h
    exact sz_zero (by omega)
  · rw [if_neg h0, ← sbSt_all] at h
    exact (sb_bounds ho hl hz _ (by rw [bySlack_len]; exact Nat.le_refl _)).f u h
theorem num_zero {l : Rat} (h : l.num = 0) : l = 0 := Rat.num_eq_zero.mp h
theorem sunkBy_end {rs : List Rope} {l : Rat} (h : ¬ l.num = 0) : (sbSt rs l (bySlack rs).length).1 = sunkBy rs l := by
  unfold sunkBy
  rw [if_neg (fun z => h (by rw [z]; rfl)), sbSt_all]
end SM

/-! AbF: promises that ask of the heap; the script; the bag. -/
namespace Ab
open PySem L2 LamX
open Ab.Rp (rp)
open Ab.Dt (toD)
def spH (K : PySem.W.Frag) {ι : Type} (w : ι → Wd) (args : ι → List AV) (pre : ι → Hp → Prop) (res : ι → AV) : Sp := fun vs H Q _ => ∃ i, RsOks K (w i) H H vs (args i) ∧ pre i H ∧ (w i).J H ∧ ∀ v H', Gr (w i) H H' → (w i).J H' → RsOk K (w i) H H' v (res i) → Q v H'
section
variable {X : Cx} {c : Ctx} {ss : List AV} {a b d e : Expr} {es rest : List Expr} {pos p : Pos}
theorem x_callH {ι : Type} {args : ι → List AV} {pre : ι → Hp → Prop} {res : ι → AV} {w' : ι → Wd} {k : Nat} {x : Str} (F : Df X.prog X.w X.K X.mg X.base k x (spH X.K w' args pre res)) (i : ι) (l : (w' i).Le c.w) (hr : Room k X.A) (hp : ∀ H, Gr c.w c.H0 H → pre i H) (ha : XA X c ss (e :: es) (args i))
    (hg : Gl X x := by rfl) (hn : (args i).any AV.ownB = false := by rfl) (hl : (res i).lstB = false := by rfl) (hdb : (x == ("__debug__" : Str)) = false := by decide) (he : starEach (e :: es) X.env = (false, eval e X.env) :: starEach es X.env := by rfl) (hpl : (backTo pos (starEach es X.env)).any (·.1) = false := by rfl) :
    XE X c ss (.Call (.Name x p) (e :: es) [] pos) (res i) := by
  obtain ⟨f, fd, ps, F, hm, hk, hb⟩ := F.ex
  refine (pe_call F hr hg hm hk hb .nil pass0 ha hdb he hpl).wk fun σ H Q q => ⟨q.1, fun vs H1 a1 g1 k1 => ?_⟩
  show spH X.K w' args pre res (vs ++ []) H1 Q E0
  rw [List.append_nil]
  refine ⟨i, (k1.here hn).le l, hp H1 a1.gr, l.J a1.j, fun v H' g2 j2 ok => ?_⟩
  have g := l.gr g2
  exact q.2 v H' (a1.mono g (l.up a1.j g2 j2)) (g1.trans g) ((ok.up hl).back g1)
end
theorem df_ofH {P : Program} {w : World} {K : PySem.W.Frag} {mg : Str → Option Value} {base : Heap} {k : Nat} {x : Str} {st : Stmt} {N ps : List Str} {ι : Type} {wd : ι → Wd} {args : ι → List AV} {pre : ι → Hp → Prop} {res : ι → AV} (T : TxD K mg x st ps) (S : FnScope N ps (defScope st)) (hl : ∀ i, (args i).length = ps.length) (ho : ∀ i, ((args i).any AV.ownB) = false)
    (body : ∀ (f : Addr) (cdv : Value) (A : Around) (outer : List Env) (s : Shared) (H : Hp) (E : XK) (vs : List V) (i : ι), Room k (A.deeper (PyProof.Rows.envOfC x (defScope st) s.heap.objs.size f cdv)) → RsOks K (wd i) H H vs (args i) → pre i H →
      XSs (cxOf CX0 P w K mg base N x (defScope st) f cdv A outer s H E).nox ⟨wd i, H, prs vs (args i), []⟩ (slots vs (args i) ++ List.replicate (N.length - (args i).length) .un) (defBody st) { nx := fun _ => RsOk K (wd i) H H .non (res i) ∧ (res i).ownB = false, rt := res i }) :
    Df P w K mg base (k + 1) x (spH K wd args pre res) := by
  obtain ⟨f, fd, F, hm, hb⟩ := T.ex
  refine ⟨f, fd, ps, F.ok S (fun vs H Q E ⟨i, h, _⟩ => h.len.trans (hl i)) (fun cdv A outer s H vs Q E hr ⟨i, h, hp, hj, hq⟩ => ⟨_, body f cdv A outer s H E vs i hr h hp, ?_⟩), hm, F.kp, hb⟩
  have hN : (args i).length ≤ N.length := by
    rw [hl i, ← S.pre, List.length_take]
    exact Nat.min_le_right _ _
  refine ⟨at_start (ho i) h hj hN, fun ss' σ' H' ⟨n, n2⟩ a => hq .non H' a.gr a.j ?_, fun v H' g j ok => hq v H' g j ok, fun _ _ _ z _ => z.elim, fun _ _ _ z _ => z.elim⟩
  exact RsOk.mono hj a.gr n
/-! ### the script -/
def Scr (K : PySem.W.Frag) (H : Hp) (a : Addr) (ns : List Int) : Prop := SqL K H a (ns.map V.int)
theorem Scr.stay {K : PySem.W.Frag} {w : Wd} {H H' : Hp} {a : Addr} {ns : List Int} (h : Scr K H a ns) (g : Gr w H H') (n : ¬ w.S a) : Scr K H' a ns := by
  rcases h with (h | ⟨o, h⟩) | h
  · exact .inl (.inl (rd_gr g n h))
  · exact .inl (.inr ⟨o, g.frz a o _ h⟩)
  · exact .inr h
section
variable {X : Cx} {c : Ctx} {ss : List AV} {e e2 : Expr} {pos p : Pos} {a : Addr} {ns : List Int}
theorem x_lenS (h : ∀ H, Gr c.w c.H0 H → Scr X.K H a ns) (hm : X.mg "len" = none) (ha : XA X c ss [e] [.val (.ref a)]) (hg : Gl X "len" := by rfl) (he : starEach [e] X.env = (false, eval e X.env) :: starEach [] X.env := by rfl) (hpl : (backTo pos (starEach [] X.env)).any (·.1) = false := by rfl) :
    XE X c ss (.Call (.Name "len" p) [e] [] pos) (.dat (ns.length : Int)) :=
  x_blt (R := .dat (ns.length : Int)) call_len_seq hm boot_len ha (fun σ H H1 vs Q j g ok t => by
    obtain ⟨v, rfl, hv⟩ := ok.one
    have hv : v = .ref a := hv
    exact ⟨a, ns.map V.int, by rw [hv], .inl (h H1 t.1.gr), by rw [List.length_map]; exact t.giveI⟩) hg (by decide) (by decide) he hpl
theorem x_ixS {k : Int} {n : Int} (h : ∀ H, Gr c.w c.H0 H → Scr X.K H a ns) (hk : atI ns k = some n) (ha : XE X c ss e (.val (.ref a))) (hb : XE X c ss e2 (.dat k)) (hs : PlainIx e2 := by exact fun _ _ => rfl) : XE X c ss (.Subscript e e2 pos) (.dat n) :=
  x_ixR ix_list (ra := .val (.ref a)) (rb := .dat k) (R := .dat n) (fun ss' σ H H2 x y Q j g hx hy t => by
    obtain ⟨i, h2, pi⟩ := hy
    have pi : i = k := pi
    subst pi
    have hx : x = .ref a := hx
    refine ⟨a, ns.map V.int, i, .int n, hx, h2, h H2 t.1.gr, ?_, t.give ⟨n, rfl, rfl⟩⟩
    unfold atI at hk ⊢
    rw [List.length_map]
    cases hj : ixN ns.length i with
    | none => rw [hj] at hk; cases hk
    | some j =>
      rw [hj] at hk
      show (ns.map V.int)[j]? = _
      rw [List.getElem?_map, show ns[j]? = some n from hk]
      rfl) ha hb hs
end
/-! ### the bag -/
section
variable {X : Cx} {c : Ctx} {ss : List AV} {e : Expr} {pos p : Pos} {b : Addr} {k : Nat} {p2 : Pos}
theorem x_bag0 (hB : ∀ H, c.w.J H → Bag H b) (ha : XE X c ss e (.val (.ref b))) : XE X c ss (.Subscript e (.Constant (.int 0) k p2) pos) (.ex fun x : Int => 0 ≤ x) :=
  x_ixR ix_list (ra := .val (.ref b)) (rb := .dat (0 : Int)) (R := .ex fun x : Int => 0 ≤ x) (fun ss' σ H H2 x y Q j g hx hy t => by
    obtain ⟨i, h2, pi⟩ := hy
    have pi : i = 0 := pi
    subst pi
    have hx : x = .ref b := hx
    obtain ⟨n, m, hb, h0, h1, h3⟩ := hB H2 t.1.j
    exact ⟨b, [.int n, .int m], 0, .int n, hx, h2, SqL.of hb, rfl, t.give ⟨n, rfl, h0⟩⟩) ha x_int
theorem x_bag1 (hB : ∀ H, c.w.J H → Bag H b) (ha : XE X c ss e (.val (.ref b))) : XE X c ss (.Subscript e (.Constant (.int 1) k p2) pos) (.ex fun x : Int => 0 ≤ x ∧ x ≤ 2147483646) :=
  x_ixR ix_list (ra := .val (.ref b)) (rb := .dat (1 : Int)) (R := .ex fun x : Int => 0 ≤ x ∧ x ≤ 2147483646) (fun ss' σ H H2 x y Q j g hx hy t => by
    obtain ⟨i, h2, pi⟩ := hy
    have pi : i = 1 := pi
    subst pi
    have hx : x = .ref b := hx
    obtain ⟨n, m, hb, h0, h1, h3⟩ := hB H2 t.1.j
    exact ⟨b, [.int n, .int m], 1, .int m, hx, h2, SqL.of hb, rfl, t.give ⟨m, rfl, h1, h3⟩⟩) ha x_int
end
/-- what may change is written -/
theorem At.vol {K : PySem.W.Frag} {c : Ctx} {ss : List AV} {σ : L2.St} {H : Hp} {b : Addr} {us ws : List V} (a : At K c ss σ H) (hS : c.w.S b) (h : H b = some (.lst us)) (j : c.w.J (upd H b (.lst ws))) : At K c ss σ (upd H b (.lst ws)) := by
  have t : Tu H (upd H b (.lst ws)) := Tu.put h
  refine ⟨a.len, ⟨fun p o e n m => ?_, fun p xs e => ?_, fun p o u e => ?_, fun p o e m => ?_⟩, j, fun z hz => (a.tu z hz).trans t, fun q hq => ?_, ?_⟩
  · rw [upd_ne (fun z => n (by rw [z]; exact hS))]
    exact a.gr.all p o e n m
  · have z := a.gr.tup p xs e
    rw [upd_ne (fun q => by rw [q, h] at z; cases z)]
    exact z
  · have z := a.gr.frz p o u e
    rw [upd_ne (fun q => by rw [q, h] at z; cases z)]
    exact z
  · by_cases q : p = b
    · rw [q]
      exact ⟨_, upd_same, fun ps z => by cases z⟩
    · rw [upd_ne q]
      exact a.gr.dom p o e m
  · obtain ⟨m, vs, g, s⟩ := a.pr q hq
    exact ⟨m, vs, by rw [upd_ne (fun z => m (by rw [z]; exact hS))]; exact g, s.mono t⟩
  · obtain ⟨ad, h1, h2, h3⟩ := a.sl
    refine ⟨ad, fun i s e => ?_, h2, h3⟩
    have q := h1 i s e
    cases s with
    | un => exact trivial
    | ex P =>
      obtain ⟨v, x, q1, q2, q3⟩ := q
      exact ⟨v, x, q1, Rp.mono t q2, q3⟩
    | own zs =>
      obtain ⟨vs, q1, q2, q3, q4, q5⟩ := q
      exact ⟨vs, q1, by rw [upd_ne (fun z => q5 (by rw [z]; exact hS))]; exact q2, q3.mono t, q4, q5⟩
    | lst zs => exact q
    | val v => exact q
    | ownE P => exact q
    | two a b => exact q
    | cel C =>
      obtain ⟨u, q1, q2, q3, q4, q5⟩ := q
      exact ⟨u, q1, by rw [upd_ne (fun z => q5 (by rw [z]; exact hS))]; exact q2, C.mono t q3, q4, q5⟩
theorem wB_put {T : List (Addr × Str)} {b : Addr} {H : Hp} {us : List V} {x y : Int} (j : (wB T b).J H) (h : H b = some (.lst us)) (hx : 0 ≤ x) (hy : 0 ≤ y ∧ y ≤ 2147483646) : (wB T b).J (upd H b (.lst [.int x, .int y])) := by
  refine ⟨fun p hp => TabS.stays (j.1 p hp) fun a o e n => ?_, x, y, upd_same, hx, hy.1, hy.2⟩
  rw [upd_ne (fun z => by
    rw [z, h] at e
    cases e
    exact n)]
  exact e
section
variable {X : Cx} {c : Ctx} {ss : List AV} {D : AE} {e : Expr} {rest : List Stmt} {pos p1 p2 p3 : Pos} {b : Addr} {k : Nat} {T : List (Addr × Str)} {x : Str}
/-- bag[0] = e -/
theorem q_bag0 (i : Nat) (hw : c.w = wB T b) (he : XE X c ss e (.ex fun x : Int => 0 ≤ x)) (h : XSs X c ss rest D) (e0 : ss[i]? = some (.val (.ref b)) := by rfl) (hN : X.N[i]? = some x := by rfl) (hv : Vis X.env.scope x := by first | exact Or.inl rfl | exact Or.inr (Or.inl rfl) | exact Or.inr (Or.inr rfl))
    (hd : (x == ("__debug__" : Str)) = false := by decide) (hcd : (x == ("__classdict__" : Str)) = false := by decide)
    (hs : swapsWithSole [.Subscript (.Name x p1) (.Constant (.int 0) k p2) p3] e pos.line X.env = pure false := by rfl) (hsw : swappedStores [.Subscript (.Name x p1) (.Constant (.int 0) k p2) p3] e X.env = pure none := by rfl)
    (h1 : (assignEach [.Subscript (.Name x p1) (.Constant (.int 0) k p2) p3] X.env).map (·.2) = [assign (.Subscript (.Name x p1) (.Constant (.int 0) k p2) p3) X.env] := by rfl)
    (hsub : ∀ v, assign (.Subscript (.Name x p1) (.Constant (.int 0) k p2) p3) X.env v = (do
      let ov ← holding [v] (eval (.Name x p1) X.env)
      let iv ← holding [v, ov] (eval (.Constant (.int 0) k p2) X.env)
      standAt p3
      holding [v, ov, iv] (setItem ov iv v)
      release [v, ov, iv] []) := by intro _; rfl) :
    XSs X c ss (.Assign [.Subscript (.Name x p1) (.Constant (.int 0) k p2) p3] e pos :: rest) D :=
  q_seq (N := fun s => s = ss) ((ps_asg he (pg_sub (x_varV (c := c) (ss := ss) i e0 hN hv hd hcd) (x_int (c := c) (ss := ss)) set_list hsub) hs hsw h1).wk fun De σ H q => ⟨q.1, fun v H1 a1 g1 ⟨n, hn, h0⟩ => ⟨a1, fun u H2 a2 g2 hu => ⟨a2, fun y H3 a3 g3 ⟨m, hm, hm0⟩ => by
    obtain ⟨x, y, hb, _, hy⟩ : Bag H3 b := by
      have := a3.j
      rw [hw] at this
      exact this.2
    have hm0 : m = 0 := hm0
    subst hm0
    have hn : v = .int n := hn
    subst hn
    refine ⟨b, [.int x, .int y], 0, 0, hu, hm, hb, rfl, ?_⟩
    refine q.2.1 _ _ _ rfl (a3.vol (by rw [hw]; exact rfl) hb ?_)
    rw [hw]
    have j := a3.j
    rw [hw] at j
    exact wB_put j hb h0 hy⟩⟩⟩) fun s z => by
    rw [z]
    exact h
/-- bag[1] = e -/
theorem q_bag1 (i : Nat) (hw : c.w = wB T b) (he : XE X c ss e (.ex fun x : Int => 0 ≤ x ∧ x ≤ 2147483646)) (h : XSs X c ss rest D) (e0 : ss[i]? = some (.val (.ref b)) := by rfl) (hN : X.N[i]? = some x := by rfl) (hv : Vis X.env.scope x := by first | exact Or.inl rfl | exact Or.inr (Or.inl rfl) | exact Or.inr (Or.inr rfl))
    (hd : (x == ("__debug__" : Str)) = false := by decide) (hcd : (x == ("__classdict__" : Str)) = false := by decide)
    (hs : swapsWithSole [.Subscript (.Name x p1) (.Constant (.int 1) k p2) p3] e pos.line X.env = pure false := by rfl) (hsw : swappedStores [.Subscript (.Name x p1) (.Constant (.int 1) k p2) p3] e X.env = pure none := by rfl)
    (h1 : (assignEach [.Subscript (.Name x p1) (.Constant (.int 1) k p2) p3] X.env).map (·.2) = [assign (.Subscript (.Name x p1) (.Constant (.int 1) k p2) p3) X.env] := by rfl)
    (hsub : ∀ v, assign (.Subscript (.Name x p1) (.Constant (.int 1) k p2) p3) X.env v = (do
      let ov ← holding [v] (eval (.Name x p1) X.env)
      let iv ← holding [v, ov] (eval (.Constant (.int 1) k p2) X.env)
      standAt p3
      holding [v, ov, iv] (setItem ov iv v)
      release [v, ov, iv] []) := by intro _; rfl) :
    XSs X c ss (.Assign [.Subscript (.Name x p1) (.Constant (.int 1) k p2) p3] e pos :: rest) D :=
  q_seq (N := fun s => s = ss) ((ps_asg he (pg_sub (x_varV (c := c) (ss := ss) i e0 hN hv hd hcd) (x_int (c := c) (ss := ss)) set_list hsub) hs hsw h1).wk fun De σ H q => ⟨q.1, fun v H1 a1 g1 ⟨n, hn, h0⟩ => ⟨a1, fun u H2 a2 g2 hu => ⟨a2, fun y H3 a3 g3 ⟨m, hm, hm0⟩ => by
    obtain ⟨x, y, hb, hx, hy⟩ : Bag H3 b := by
      have := a3.j
      rw [hw] at this
      exact this.2
    have hm0 : m = 1 := hm0
    subst hm0
    have hn : v = .int n := hn
    subst hn
    refine ⟨b, [.int x, .int y], 1, 1, hu, hm, hb, rfl, ?_⟩
    refine q.2.1 _ _ _ rfl (a3.vol (by rw [hw]; exact rfl) hb ?_)
    rw [hw]
    have j := a3.j
    rw [hw] at j
    exact wB_put j hb hx h0⟩⟩⟩) fun s z => by
    rw [z]
    exact h
end
/-! ### from the tables' world to the bag's -/
abbrev Ctx.bag (c : Ctx) (T : List (Addr × Str)) (b : Addr) : Ctx := ⟨wB T b, c.H0, c.pr, c.tu⟩
theorem gr_down {T : List (Addr × Str)} {b : Addr} {H H' : Hp} (n : Nf H b) (g : Gr (wB T b) H H') : Gr (w0 T) H H' :=
  ⟨fun a o h _ m => g.all a o h (fun z => n.no (by rw [← (show a = b from z)]; exact h) m) m, g.tup, g.frz, g.dom⟩
theorem At.down {K : PySem.W.Frag} {c : Ctx} {ss : List AV} {σ : L2.St} {H : Hp} {T : List (Addr × Str)} {b : Addr} (hw : c.w = w0 T) (n : Nf c.H0 b) (a : At K (c.bag T b) ss σ H) : At K c ss σ H :=
  ⟨a.len, by rw [hw]; exact gr_down n a.gr, by rw [hw]; exact a.j.1, a.tu, fun q hq => ⟨by rw [hw]; exact id, (a.pr q hq).2⟩, by
    obtain ⟨ad, h1, h2, h3⟩ := a.sl
    refine ⟨ad, fun i s e => ?_, h2, h3⟩
    have z := h1 i s e
    cases s with
    | own xs =>
      obtain ⟨vs, q1, q2, q3, q4, q5⟩ := z
      exact ⟨vs, q1, q2, q3, q4, by rw [hw]; exact id⟩
    | cel C =>
      obtain ⟨u, q1, q2, q3, q4, q5⟩ := z
      exact ⟨u, q1, q2, q3, q4, by rw [hw]; exact id⟩
    | _ => exact z⟩
theorem rsok_down {K : PySem.W.Frag} {T : List (Addr × Str)} {b : Addr} {H H' : Hp} {v : V} : ∀ {r : AV}, RsOk K (wB T b) H H' v r → RsOk K (w0 T) H H' v r
  | .un, _ => trivial
  | @AV.ex _ _ _, h => h
  | @AV.own _ _ _, h => h
  | @AV.lst _ _ _, ⟨p, vs, e, n, h, r⟩ => ⟨p, vs, e, id, h, r⟩
  | .val _, h => h
  | @AV.ownE _ _ _, h => h
  | @AV.two _ _ _ _ _ _, h => h
  | .cel _, h => h
section
variable {X : Cx} {c : Ctx} {ss : List AV} {D : AE} {e : Expr} {rest : List Stmt} {pos pos' : Pos} {T : List (Addr × Str)} {x : Str}
/-- bag = a new bag -/
theorem q_bag (i : Nat) {n m : Int} (hw : c.w = w0 T) (hn : 0 ≤ n) (hm : 0 ≤ m ∧ m ≤ 2147483646) (he : XE X c ss e (.own [n, m])) (h : ∀ b, XSs X (c.bag T b) (ss.set i (.val (.ref b))) rest D) (hi : i < ss.length := by exact Nat.le_of_ble_eq_true rfl) (hN : X.N.Nodup := by assumption) (hx : X.N[i]? = some x := by rfl) (hl : Loc X.env.scope x := by first | exact Or.inl rfl | exact Or.inr rfl)
    (hs : swapsWith e (some (.Name x pos')) pos.line X.env = pure false := by rfl) (hf : X.fn x = true ∨ X.env.scope.names.lookup x = some .local := by first | exact .inl rfl | exact .inr rfl) : XSs X c ss (.Assign [.Name x pos'] e pos :: rest) D := by
  refine (pss_cons (ps_set hN hx hl he hs hf) (PSs.all fun b => h b)).wk fun De σ H q => ⟨q.1, fun v H' a g ⟨p, vs, e1, nf, k, r⟩ => ?_⟩
  subst e1
  have ev : vs = [.int n, .int m] := ints_of r
  subst ev
  have n0 : Nf c.H0 p := q.1.gr.fresh nf
  have jB : (wB T p).J H' := ⟨by
    have := a.j
    rw [hw] at this
    exact this, n, m, k, hn, hm.1, hm.2⟩
  have aw := a.set (i := i) (v := .ref p) (s := .val (.ref p)) (fun z => z) (fun _ => rfl) hi
  have le := w0_le T p
  refine ⟨p, ⟨aw.len, ?_, jB, aw.tu, fun z hz => ?_, ?_⟩, fun ss' σ' H1 n1 a1 => q.2.1 ss' σ' H1 n1 (a1.down hw n0), fun v H1 g1 j1 ok => q.2.2.1 v H1 (by rw [hw]; exact gr_down n0 g1) (by rw [hw]; exact j1.1) (by rw [hw]; exact rsok_down ok), fun ss' σ' H1 n1 a1 => q.2.2.2.1 ss' σ' H1 n1 (a1.down hw n0), fun ss' σ' H1 n1 a1 => q.2.2.2.2 ss' σ' H1 n1 (a1.down hw n0)⟩
  · have := aw.gr
    rw [hw] at this
    exact le.gr this
  · refine ⟨fun (w : z.p = p) => ?_, (aw.pr z hz).2⟩
    obtain ⟨_, us, h1, _⟩ := q.1.pr z hz
    rw [w] at h1
    exact nf.noL h1
  · obtain ⟨ad, h1, h2, h3⟩ := aw.sl
    refine ⟨ad, fun j s es => ?_, h2, h3⟩
    have z := h1 j s es
    cases s with
    | own xs =>
      obtain ⟨us, q1, q2, q3, q4, q5⟩ := z
      refine ⟨us, q1, q2, q3, q4, fun (w : ad j = p) => ?_⟩
      have hji : i ≠ j := fun z => by
        rw [← z, List.getElem?_set_self hi] at es
        cases es
      rw [List.getElem?_set_ne hji] at es
      obtain ⟨p2, vs2, e1, e2⟩ := q.1.own_at es trivial
      rw [List.getElem?_set_ne hji] at q1
      have ep : ad j = p2 := V.ref.inj (Option.some.inj (Option.some.inj (q1.symm.trans e1)))
      rw [← ep, w] at e2
      exact nf.noL e2
    | cel C =>
      obtain ⟨u, q1, q2, q3, q4, q5⟩ := z
      refine ⟨u, q1, q2, q3, q4, fun (w : ad j = p) => ?_⟩
      have hji : i ≠ j := fun z => by
        rw [← z, List.getElem?_set_self hi] at es
        cases es
      rw [List.getElem?_set_ne hji] at es
      rw [List.getElem?_set_ne hji] at q1
      obtain ⟨ad2, g1, _⟩ := q.1.sl
      obtain ⟨u2, r1, r2, r3, r4, r5⟩ := g1 j _ es
      have ep : ad j = ad2 j := V.ref.inj (Option.some.inj (Option.some.inj (q1.symm.trans r1)))
      rw [← ep, w] at r2
      exact nf.no r2 (C.nl r3).2.1
    | _ => exact z
end
end Ab

/-! AbG: told states through loops; slots forgotten; drawn tuples. -/
namespace Ab
open PySem L2
open Ab.Rp (rp)
open Ab.Dt (toD)
def fgt : List Nat → List AV → List AV
  | [], ss => ss
  | i :: is, ss => fgt is (ss.set i .un)
theorem At.fg1 {K : PySem.W.Frag} {c : Ctx} {ss : List AV} {σ : L2.St} {H : Hp} (a : At K c ss σ H) (i : Nat) : At K c (ss.set i .un) σ H :=
  a.weak (List.length_set ..) fun j t e => by
    by_cases h : i = j
    · subst h
      by_cases hi : i < ss.length
      · rw [List.getElem?_set_self hi] at e
        cases e
        exact ⟨ss[i], List.getElem?_eq_getElem hi, fun z => z.elim, fun _ _ _ => trivial⟩
      · rw [List.getElem?_eq_none (by rw [List.length_set]; omega)] at e
        cases e
    · rw [List.getElem?_set_ne h] at e
      exact ⟨t, e, id, fun _ _ => id⟩
theorem At.fgs {K : PySem.W.Frag} {c : Ctx} {σ : L2.St} {H : Hp} : ∀ (is : List Nat) {ss : List AV}, At K c ss σ H → At K c (fgt is ss) σ H
  | [], _, a => a
  | i :: is, _, a => At.fgs is (a.fg1 i)
section
variable {X : Cx} {c : Ctx} {ss : List AV} {D : AE} {e tg iter t : Expr} {rest body : List Stmt} {pos p1 p2 : Pos} {α β γ : Type} [Rp α] [Rp β] [Rp γ] {xs : List α}
/-- these slots are forgotten -/
theorem s_fg (is : List Nat) (h : XSs X c (fgt is ss) body D) : XSs X c ss body D := s_weak h fun σ H a => a.fgs is
/-- for, by told states -/
theorem q_forS (S : Nat → List AV) (T : Nat → α → List AV) (hc : X.calm = true) (hi : XI X c ss tg iter xs) (h0 : ss = S 0) (hg : ∀ c' i x, xs[i]? = some x → XG X c' (S i) tg (.dat x) (T i x))
    (hb : ∀ pr tu i x, xs[i]? = some x → XSs X (c.add pr tu) (T i x) body { nx := fun s => s = S (i + 1), ct := fun s => s = S (i + 1), bk := fun _ => False, rt := D.rt }) (hd : XSs X c (S xs.length) rest D)
    (hp : PassesOwn (model X.prog X.w) X.A X.env X.xe := by exact PassesOwn.never) (hs : ∀ x, foldedSetIterable iter X.env x = pure x := by intro _; rfl) : XSs X c ss (.For tg iter body [] pos :: rest) D := by
  have tr : ∀ (i : Nat) (x : α), xs[i]? = some x → ∃ y, xs[i]? = some y := fun i x h => ⟨x, h⟩
  refine q_seq (N := fun s => s = S xs.length) ?_ fun s z => by
    rw [z]
    exact hd
  have hg' : PG X tg (fun v σ H Q => ∃ (c' : Ctx) (i : Nat) (x : α) (_ : xs[i]? = some x), tG X.K c' (S i) (.dat x) (T i x) v σ H Q) :=
    PG.all fun c' => PG.all fun i => PG.all fun x => PG.all fun hx => hg c' i x hx
  have hb' : PSs X body (fun De σ H => ∃ (pr : List Pr) (tu : List Hp) (i : Nat) (x : α) (_ : xs[i]? = some x), tS X.K (c.add pr tu) (T i x) { nx := fun s => s = S (i + 1), ct := fun s => s = S (i + 1), bk := fun _ => False, rt := D.rt } De σ H) :=
    PSs.all fun pr => PSs.all fun tu => PSs.all fun i => PSs.all fun x => PSs.all fun hx => hb pr tu i x hx
  refine (ps_for hp hc hi hg' hb' hs).wk fun De σ H q => ⟨q.1, fun J H1 pr a1 g1 w => ?_⟩
  have gd : ∀ {ss' : List AV} {σ' : L2.St} {H' : Hp}, At X.K (c.add pr [H1]) ss' σ' H' → Gd X.K pr H1 H' := fun a => ⟨a.tu H1 (List.mem_append_left _ (List.mem_singleton.mpr rfl)), fun z hz => (a.pr z (List.mem_append_left _ hz)).2⟩
  refine ⟨fun i m σ' H' => m = xs.length - i ∧ i ≤ xs.length ∧ At X.K (c.add pr [H1]) (S i) σ' H', ⟨xs.length, rfl, Nat.zero_le _, h0 ▸ a1⟩, ?_⟩
  rintro i m σ' H' ⟨rfl, hi', a'⟩
  by_cases hlt : i < xs.length
  · refine .inr ⟨w.go i H' (gd a') hlt, fun σ2 H2 => At X.K (c.add pr [H1]) (S (i + 1)) σ2 H2, fun σ2 H2 a2 => ⟨xs.length - (i + 1), by omega, rfl, hlt, a2⟩, fun x H2 y => ?_⟩
    obtain ⟨d, hd1, hd2, hH⟩ := w.yld i H' x H2 (gd a') hlt y
    have a2 : At X.K (c.add pr [H1]) (S i) σ' H2 := by
      rcases hH with hH | ⟨T', vs, hT, hH⟩
      · rw [hH]
        exact a'
      · rw [hH]
        exact a'.new hT
    refine ⟨c.add pr [H1], i, d, hd1, a2, ⟨d, hd2, rfl⟩, fun σ3 a3 => ?_⟩
    exact ⟨pr, [H1], i, d, hd1, a3, fun s4 σ4 H4 n4 a4 => (by subst n4; exact a4), fun v H4 g4 j4 ok => q.2.2.1 v H4 g4 j4 ok, fun _ _ _ z _ => z.elim, fun s4 σ4 H4 n4 a4 => (by subst n4; exact a4)⟩
  · have hi2 : i = xs.length := by omega
    subst hi2
    exact .inl ⟨w.stop _ H' (gd a') (Nat.le_refl _), q.2.1 _ σ' H' rfl a'.unpr⟩
/-- for, when nothing of the turns is kept: the state at each turn's start is S, P holds before each turn -/
theorem q_forP (S : List AV) (T : α → List AV) (hc : X.calm = true) (hi : XI X c ss tg iter xs) (h0 : ss = S) (hg : ∀ c' x, x ∈ xs → XG X c' S tg (.dat x) (T x))
    (hb : ∀ pr tu x, x ∈ xs → XSs X (c.add pr tu) (T x) body { nx := fun s => s = S, ct := fun s => s = S, bk := fun _ => False, rt := D.rt }) (hd : XSs X c S rest D)
    (hp : PassesOwn (model X.prog X.w) X.A X.env X.xe := by exact PassesOwn.never) (hs : ∀ x, foldedSetIterable iter X.env x = pure x := by intro _; rfl) : XSs X c ss (.For tg iter body [] pos :: rest) D :=
  q_forS (fun _ => S) (fun _ => T) hc hi h0 (fun c' i x h => hg c' x (List.mem_of_getElem? h)) (fun pr tu i x h => hb pr tu x (List.mem_of_getElem? h)) hd hp hs
/-- a list of drawn things -/
def tXN (K : PySem.W.Frag) (c : Ctx) (ss : List AV) (P : List α → Prop) : TE := fun σ H Q => At K c ss σ H ∧ ∀ v H' zs, At K c ss σ H' → Gr c.w H H' → P zs → RsOk K c.w H H' v (.own zs) → Q v H'
abbrev XN (X : Cx) (c : Ctx) (ss : List AV) (e : Expr) (P : List α → Prop) : Prop := PE X e (tXN X.K c ss P)
theorem xn_of {zs : List α} {P : List α → Prop} (h : XE X c ss e (.own zs)) (p : P zs) : XN X c ss e P := h.wk fun σ H Q q => ⟨q.1, fun v H' a g ok => q.2 v H' zs a g p ok⟩
/-- tuple(..) of a list of drawn things -/
theorem x_tupleN {P : List α → Prop} (hm : X.mg "tuple" = none) (ha : XN X c ss e P) (hg : Gl X "tuple" := by rfl) (he : starEach [e] X.env = (false, eval e X.env) :: starEach [] X.env := by rfl) (hpl : (backTo pos (starEach [] X.env)).any (·.1) = false := by rfl) :
    XE X c ss (.Call (.Name "tuple" p1) [e] [] pos) (.ex P) :=
  (pe_callTy call_tuple_of hg hm (by decide +kernel) (pa_cons ha pa_nil he) (by decide) (by decide) he hpl).wk fun σ H Q q => ⟨q.1, fun v H1 zs a1 g1 pz ok => by
    obtain ⟨a, us, rfl, n, h, r⟩ := ok
    refine ⟨a, us, rfl, .inl ⟨SqL.of h, fun l hl => ?_⟩⟩
    refine q.2 (.ref l) _ (a1.new hl) (g1.trans (Gr.new hl)) ⟨zs, ⟨l, us, rfl, .inl (.inl upd_same), r.mono (Tu.new hl)⟩, pz⟩⟩
/-- x = a list of drawn things -/
theorem q_setN {P : List α → Prop} (i : Nat) {x : Str} (he : XN X c ss e P) (h : ∀ zs, P zs → XSs X c (ss.set i (.own zs)) rest D) (hi : i < ss.length := by exact Nat.le_of_ble_eq_true rfl) (hN : X.N.Nodup := by assumption) (hx : X.N[i]? = some x := by rfl) (hl : Loc X.env.scope x := by first | exact Or.inl rfl | exact Or.inr rfl)
    (hs : swapsWith e (some (.Name x p1)) pos.line X.env = pure false := by rfl) (hf : X.fn x = true ∨ X.env.scope.names.lookup x = some .local := by first | exact .inl rfl | exact .inr rfl) : XSs X c ss (.Assign [.Name x p1] e pos :: rest) D :=
  q_seq (N := fun ss' => ∃ zs, P zs ∧ ss' = ss.set i (.own zs)) ((ps_set hN hx hl he hs hf).wk fun De σ H q => ⟨q.1, fun v H' zs a g pz ⟨p, vs, e1, n, k, r⟩ => by
    subst e1
    exact q.2.1 _ _ _ ⟨zs, pz, rfl⟩ (q.1.setOwn a n k r hi)⟩) fun ss' ⟨zs, pz, z⟩ => by
    rw [z]
    exact h zs pz
/-- [elt for tg in iter if ..] with draws -/
theorem x_lcN {elt : Expr} {ifs : List Expr} {scope : Scope} {own : List (Str × Nat)} (P : List β → Prop) (I : Nat → List β → Prop) (Pt : Nat → Bool → Prop) (Pe : Nat → β → Prop) (T : α → List AV)
    (hc : X.calm = true) (hN : X.N.Nodup) (ok : BlkOk X.N X.env.scope scope own) (hun : ∀ i ∈ own.map (·.2), ss[i]? = some .un) (hsz : xs.length ≤ 100000) (hi : XIc X c ss tg iter xs)
    (hg : ∀ (s : Shared) (H : Hp) (C : Addr) (cl : List (Str × Addr)) (fp : List Addr) (x : α), PG (X.blk s H scope (compEnvC scope cl C X.env) fp) tg (tGc X.K c ss (own.map (·.2)) (.dat x) (T x)))
    (ht : ∀ (s : Shared) (H : Hp) (C : Addr) (cl : List (Str × Addr)) (fp : List Addr) (i : Nat) (x : α), xs[i]? = some x → PTs (X.blk s H scope (compEnvC scope cl C X.env) fp) ifs (tB X.K c (T x) (Pt i)))
    (he : ∀ (s : Shared) (H : Hp) (C : Addr) (cl : List (Str × Addr)) (fp : List Addr) (i : Nat) (x : α), xs[i]? = some x → Pt i true → PE (X.blk s H scope (compEnvC scope cl C X.env) fp) elt (tX X.K c (T x) (.ex (Pe i))))
    (h0 : I 0 []) (h1 : ∀ i zs, i < xs.length → I i zs → Pt i false → I (i + 1) zs) (h2 : ∀ i zs z, i < xs.length → I i zs → Pt i true → Pe i z → I (i + 1) (zs ++ [z])) (h3 : ∀ zs, I xs.length zs → P zs)
    (hs : ∀ x, foldedSetIterable iter X.env x = pure x := by intro _; rfl) : XN X c ss (.ListComp elt [⟨tg, iter, ifs, 0⟩] scope pos) P := by
  have hg' : ∀ (s : Shared) (H : Hp) (C : Addr) (cl : List (Str × Addr)) (fp : List Addr), PG (X.blk s H scope (compEnvC scope cl C X.env) fp) tg (fun v σ H Q => ∃ x : α, At X.K c ss σ H ∧ RsOk X.K c.w H H v (.dat x) ∧ ∀ σ', At X.K c (T x) σ' H → L2.wipe σ' (own.map (·.2)) = L2.wipe σ (own.map (·.2)) → Q σ' H) :=
    fun s H C cl fp => PG.all fun x => hg s H C cl fp x
  have ht' : ∀ (s : Shared) (H : Hp) (C : Addr) (cl : List (Str × Addr)) (fp : List Addr), PTs (X.blk s H scope (compEnvC scope cl C X.env) fp) ifs (fun σ H Q => ∃ (i : Nat) (x : α) (_ : xs[i]? = some x), tB X.K c (T x) (Pt i) σ H Q) :=
    fun s H C cl fp => ⟨fun pins s' σ H' Q J ⟨i, x, hx, q⟩ => (ht s H C cl fp i x hx).run pins s' σ H' Q J q⟩
  have he' : ∀ (s : Shared) (H : Hp) (C : Addr) (cl : List (Str × Addr)) (fp : List Addr), PE (X.blk s H scope (compEnvC scope cl C X.env) fp) elt (fun σ H Q => ∃ (i : Nat) (x : α) (_ : xs[i]? = some x) (_ : Pt i true), tX X.K c (T x) (.ex (Pe i)) σ H Q) :=
    fun s H C cl fp => PE.all fun i => PE.all fun x => PE.all fun hx => PE.all fun hp => he s H C cl fp i x hx hp
  refine (pe_lc hc hN hi ok hg' ht' he' hs).wk fun σ H Q q => ⟨q.1, fun J H1 pr a1 g1 src w L hL => ?_⟩
  have nS : ¬ c.w.S L := a1.notS (Nf.of hL)
  have w0 : At X.K c ss (L2.wipe σ (own.map (·.2))) H1 := a1.wipe hun
  have gd : ∀ {H' : Hp}, Gr c.w H1 H' → Gd X.K pr H1 H' := fun g => ⟨g.tu, fun z hz => by
    obtain ⟨n, vs, e, r⟩ := src z hz
    exact ⟨vs, g.all _ _ e n (fun ps e => by cases e), r.mono g.tu⟩⟩
  refine ⟨fun i m H' => m = xs.length - i ∧ i ≤ xs.length ∧ At X.K c ss (L2.wipe σ (own.map (·.2))) H' ∧ Gr c.w H1 H' ∧ ∃ acc zs, H' L = some (.lst acc) ∧ Rps X.K H' acc zs ∧ I i zs ∧ zs.length ≤ i,
    ⟨xs.length, rfl, Nat.zero_le _, w0.new hL, Gr.new hL, [], [], upd_same, .nil, h0, Nat.le_refl _⟩, ?_⟩
  rintro i m H' ⟨rfl, hi', a', g', acc, zs, hacc, hr, hI, hzl⟩
  by_cases hlt : i < xs.length
  · refine .inr ⟨w.go i H' (gd g') hlt, fun H2 => At X.K c ss (L2.wipe σ (own.map (·.2))) H2 ∧ Gr c.w H1 H2 ∧ ∃ acc zs, H2 L = some (.lst acc) ∧ Rps X.K H2 acc zs ∧ I (i + 1) zs ∧ zs.length ≤ i + 1,
      fun H2 ⟨a2, g2, k2⟩ => ⟨xs.length - (i + 1), by omega, rfl, hlt, a2, g2, k2⟩, fun x H2 y => ?_⟩
    obtain ⟨d, hd1, hd2, hH⟩ := w.yld i H' x H2 (gd g') hlt y
    have a2 : At X.K c ss (L2.wipe σ (own.map (·.2))) H2 ∧ Gr c.w H' H2 := by
      rcases hH with hH | ⟨T', vs, hT, hH⟩
      · rw [hH]
        exact ⟨a', Gr.refl _ _⟩
      · rw [hH]
        exact ⟨a'.new hT, Gr.new hT⟩
    have keep : ∀ {Ha Hb : Hp} {acc : List V}, Gr c.w Ha Hb → Ha L = some (.lst acc) → Hb L = some (.lst acc) := fun g e => g.all _ _ e nS fun ps z => by cases z
    refine ⟨d, a2.1, ⟨d, hd2, rfl⟩, fun σ3 a3 ew => ?_⟩
    have ew : L2.wipe σ3 (own.map (·.2)) = L2.wipe σ (own.map (·.2)) := by
      rw [ew, wipe_wipe]
    refine ⟨ew, i, d, hd1, a3, fun b H3 a4 g4 pb => ?_⟩
    have base : At X.K c ss (L2.wipe σ (own.map (·.2))) H3 := a2.1.mono g4 a4.j
    cases b with
    | true =>
      refine ⟨i, d, hd1, pb, a4, fun v H4 a5 g5 ⟨z, hz, pz⟩ => ?_⟩
      have g15 : Gr c.w H' H4 := (a2.2.trans g4).trans g5
      have hL4 : H4 L = some (.lst acc) := keep g15 hacc
      have base4 : At X.K c ss (L2.wipe σ (own.map (·.2))) H4 := base.mono g5 a5.j
      refine ⟨acc, hL4, by rw [hr.len]; exact Nat.lt_of_le_of_lt hzl (Nat.lt_of_lt_of_le hlt (Nat.le_trans hsz (by decide))), w0.out (Nf.of hL) base4 hL4, (g'.trans g15).put (Nf.of hL) hL4, acc ++ [v], zs ++ [z], upd_same, ?_, h2 i zs z hlt hI pb pz, by rw [List.length_append, List.length_singleton]; omega⟩
      exact ((hr.mono g15.tu).append (.one hz)).mono (Tu.put hL4)
    | false =>
      have g15 : Gr c.w H' H3 := a2.2.trans g4
      exact ⟨base, g'.trans g15, acc, zs, keep g15 hacc, hr.mono g15.tu, h1 i zs hlt hI pb, by omega⟩
  · have hi2 : i = xs.length := by omega
    subst hi2
    exact .inl ⟨w.stop _ H' (gd g') (Nat.le_refl _), q.2 (.ref L) H' zs (a1.mono g' a'.j) (g1.trans g') (h3 zs hI) ⟨L, acc, rfl, g1.fresh (Nf.of hL), hacc, hr⟩⟩
end
end Ab

/-! AbH: a def with a lambda; calls by levels. -/
namespace Ab
open PySem L2 LamX
open Ab.Rp (rp)
open Ab.Dt (toD)
/-- what the text says of a def whose code object is told -/
structure TxL (K : PySem.W.Frag) (mg : Str → Option Value) (x : Str) (st : Stmt) (ps : List Str) (cc : Addr) : Prop where
  ex : ∃ (f : Addr) (oc : Value) (od : Option Addr) (kV doc pm : Value) (an : Option Addr) (ct : Value) (osl : Array (Option Value)),
    K.lookup f = some ⟨oc, od, .func (PySem.W.fnOf x x (defArgs st) (defBody st) (defScope st) .none kV doc pm an (.ref cc) ct), osl⟩ ∧ PySem.W.codeIn K (.ref cc) x = true ∧ PySem.W.keepIn K (.ref f) = true ∧ mg x = some (.ref f) ∧
      Binds K (PySem.W.fnOf x x (defArgs st) (defBody st) (defScope st) .none kV doc pm an (.ref cc) ct) ps []
theorem df_ofL {P : Program} {w : World} {K : PySem.W.Frag} {mg : Str → Option Value} {base : Heap} {k : Nat} {x : Str} {st : Stmt} {N ps : List Str} {cc : Addr} {ι : Type} {wd : ι → Wd} {args : ι → List AV} {pre : ι → Prop} {res : ι → AV} (T : TxL K mg x st ps cc) (S : FnScope N ps (defScope st)) (hl : ∀ i, (args i).length = ps.length) (ho : ∀ i, ((args i).any AV.ownB) = false)
    (body : ∀ (f : Addr) (A : Around) (outer : List Env) (s : Shared) (H : Hp) (E : XK) (vs : List V) (i : ι), Room k (A.deeper (PyProof.Rows.envOfC x (defScope st) s.heap.objs.size f (.ref cc))) → RsOks K (wd i) H H vs (args i) → pre i →
      XSs (cxOf CX0 P w K mg base N x (defScope st) f (.ref cc) A outer s H E).nox ⟨wd i, H, prs vs (args i), []⟩ (slots vs (args i) ++ List.replicate (N.length - (args i).length) .un) (defBody st) { nx := fun _ => RsOk K (wd i) H H .non (res i) ∧ (res i).ownB = false, rt := res i }) :
    Df P w K mg base (k + 1) x (spW K wd args pre res) := by
  obtain ⟨f, oc, od, kV, doc, pm, an, ct, osl, lk, hcd, kp, hm, hb⟩ := T.ex
  refine ⟨f, _, ps, fn_of lk hcd S (fun vs H Q E ⟨i, h, _⟩ => h.len.trans (hl i)) (fun A outer s H vs Q E hr ⟨i, h, hp, hj, hq⟩ => ⟨_, (body f A outer s H E vs i hr h hp).nox, ?_⟩), hm, kp, hb⟩
  have hN : (args i).length ≤ N.length := by
    rw [hl i, ← S.pre, List.length_take]
    exact Nat.min_le_right _ _
  refine ⟨at_start (ho i) h hj hN, fun ss' σ' H' ⟨n, n2⟩ a => hq .non H' a.gr a.j ?_, fun v H' g j ok => hq v H' g j ok, fun _ _ _ z _ => z.elim, fun _ _ _ z _ => z.elim⟩
  exact RsOk.mono hj a.gr n
section
variable {X : Cx} {c : Ctx} {ss : List AV} {a b d e : Expr} {es rest : List Expr} {pos p : Pos}
theorem x_cal {ι : Type} {args : ι → List AV} {pre : ι → Prop} {res : ι → AV} {w' : ι → Wd} {j k : Nat} {x : Str} (F : Df X.prog X.w X.K X.mg X.base j x (spW X.K w' args pre res)) (i : ι) (l : (w' i).Le c.w) (hr : Room k X.A) (hp : pre i) (ha : XA X c ss (e :: es) (args i)) (hjk : Nat.ble j k = true := by rfl)
    (hg : Gl X x := by rfl) (hn : (args i).any AV.ownB = false := by rfl) (hl : (res i).lstB = false := by rfl) (hdb : (x == ("__debug__" : Str)) = false := by decide) (he : starEach (e :: es) X.env = (false, eval e X.env) :: starEach es X.env := by rfl) (hpl : (backTo pos (starEach es X.env)).any (·.1) = false := by rfl) :
    XE X c ss (.Call (.Name x p) (e :: es) [] pos) (res i) := x_call (F.mono (Nat.le_of_ble_eq_true hjk)) i l hr hp ha hg hn hl hdb he hpl
end
section
variable {X : Cx} {c : Ctx} {ss : List AV} {iter elt : Expr} {ifs : List Expr} {pos tpos p1 p2 : Pos} {α β γ : Type} [Rp α] [Rp β] [Rp γ] {xs : List α} {scope : Scope} {y y2 : Str}
/-- [elt for y in iter if ..], y in the i-th slot -/
theorem x_lc1 (i : Nat) (f : α → β) (g : α → Bool) (hi : XIc X c ss (.Name y tpos) iter xs) (hsz : xs.length ≤ 100000)
    (ht : ∀ (s : Shared) (H : Hp) (C : Addr) (cl : List (Str × Addr)) (fp : List Addr) (x : α), x ∈ xs → PTs (X.blk s H scope (compEnvC scope cl C X.env) fp) ifs (tB X.K c (ss.set i (.dat x)) (· = g x)))
    (he : ∀ (s : Shared) (H : Hp) (C : Addr) (cl : List (Str × Addr)) (fp : List Addr) (x : α), x ∈ xs → g x = true → PE (X.blk s H scope (compEnvC scope cl C X.env) fp) elt (tX X.K c (ss.set i (.dat x)) (.dat (f x))))
    (hc : X.calm = true := by rfl) (hN : X.N.Nodup := by assumption) (ok : blkC X.N X.env.scope scope [(y, i)] = true := by rfl) (hun : ss[i]? = some .un := by rfl) (hx : X.N[i]? = some y := by rfl) (hl : ∀ (s : Shared) (H : Hp) (C : Addr) (cl : List (Str × Addr)) (fp : List Addr), (X.blk s H scope (compEnvC scope cl C X.env) fp).env.scope.names.lookup y = some .local := by intros; rfl)
    (hs : ∀ x, foldedSetIterable iter X.env x = pure x := by intro _; rfl) : XE X c ss (.ListComp elt [⟨.Name y tpos, iter, ifs, 0⟩] scope pos) (.own ((xs.filter g).map f)) :=
  x_lc (own := [(y, i)]) f g (fun x => ss.set i (.dat x)) hc hN (blkOk_by ok) (fun j hj => by
    obtain rfl := List.mem_singleton.mp hj
    exact hun) hsz hi (fun s H C cl fp x => g_lc1 i (List.getElem?_eq_some_iff.mp hun).1 hN hx (.inl (hl s H C cl fp)) (.inr (hl s H C cl fp))) ht he hs
theorem x_map1 (i : Nat) (f : α → β) (hi : XIc X c ss (.Name y tpos) iter xs) (hsz : xs.length ≤ 100000)
    (he : ∀ (s : Shared) (H : Hp) (C : Addr) (cl : List (Str × Addr)) (fp : List Addr) (x : α), x ∈ xs → PE (X.blk s H scope (compEnvC scope cl C X.env) fp) elt (tX X.K c (ss.set i (.dat x)) (.dat (f x))))
    (hc : X.calm = true := by rfl) (hN : X.N.Nodup := by assumption) (ok : blkC X.N X.env.scope scope [(y, i)] = true := by rfl) (hun : ss[i]? = some .un := by rfl) (hx : X.N[i]? = some y := by rfl) (hl : ∀ (s : Shared) (H : Hp) (C : Addr) (cl : List (Str × Addr)) (fp : List Addr), (X.blk s H scope (compEnvC scope cl C X.env) fp).env.scope.names.lookup y = some .local := by intros; rfl)
    (hs : ∀ x, foldedSetIterable iter X.env x = pure x := by intro _; rfl) : XE X c ss (.ListComp elt [⟨.Name y tpos, iter, [], 0⟩] scope pos) (.own (xs.map f)) :=
  x_map (own := [(y, i)]) f (fun x => ss.set i (.dat x)) hc hN (blkOk_by ok) (fun j hj => by
    obtain rfl := List.mem_singleton.mp hj
    exact hun) hsz hi (fun s H C cl fp x => g_lc1 i (List.getElem?_eq_some_iff.mp hun).1 hN hx (.inl (hl s H C cl fp)) (.inr (hl s H C cl fp))) he hs
/-- [elt for y, y2 in iter if ..] -/
theorem x_lc2 {xs : List (α × γ)} {k : Nat} (i j : Nat) (f : α × γ → β) (g : α × γ → Bool) (hi : XIc X c ss (.Tuple [.Name y p1, .Name y2 p2] k tpos) iter xs) (hsz : xs.length ≤ 100000)
    (ht : ∀ (s : Shared) (H : Hp) (C : Addr) (cl : List (Str × Addr)) (fp : List Addr) (x : α × γ), x ∈ xs → PTs (X.blk s H scope (compEnvC scope cl C X.env) fp) ifs (tB X.K c ((ss.set i (.dat x.1)).set j (.dat x.2)) (· = g x)))
    (he : ∀ (s : Shared) (H : Hp) (C : Addr) (cl : List (Str × Addr)) (fp : List Addr) (x : α × γ), x ∈ xs → g x = true → PE (X.blk s H scope (compEnvC scope cl C X.env) fp) elt (tX X.K c ((ss.set i (.dat x.1)).set j (.dat x.2)) (.dat (f x))))
    (hij : i ≠ j := by decide) (hc : X.calm = true := by rfl) (hN : X.N.Nodup := by assumption) (ok : blkC X.N X.env.scope scope [(y, i), (y2, j)] = true := by rfl) (hun : ss[i]? = some .un := by rfl) (hun2 : ss[j]? = some .un := by rfl) (hx : X.N[i]? = some y := by rfl) (hx2 : X.N[j]? = some y2 := by rfl) (hl : ∀ (s : Shared) (H : Hp) (C : Addr) (cl : List (Str × Addr)) (fp : List Addr), (X.blk s H scope (compEnvC scope cl C X.env) fp).env.scope.names.lookup y = some .local := by intros; rfl) (hl2 : ∀ (s : Shared) (H : Hp) (C : Addr) (cl : List (Str × Addr)) (fp : List Addr), (X.blk s H scope (compEnvC scope cl C X.env) fp).env.scope.names.lookup y2 = some .local := by intros; rfl)
    (e1 : ∀ (s : Shared) (H : Hp) (C : Addr) (cl : List (Str × Addr)) (fp : List Addr), (assignEach [.Name y p1, .Name y2 p2] (X.blk s H scope (compEnvC scope cl C X.env) fp).env).map (·.2) = assign (.Name y p1) (X.blk s H scope (compEnvC scope cl C X.env) fp).env :: (assignEach [.Name y2 p2] (X.blk s H scope (compEnvC scope cl C X.env) fp).env).map (·.2) := by intros; rfl)
    (e2 : ∀ (s : Shared) (H : Hp) (C : Addr) (cl : List (Str × Addr)) (fp : List Addr), (assignEach [.Name y2 p2] (X.blk s H scope (compEnvC scope cl C X.env) fp).env).map (·.2) = assign (.Name y2 p2) (X.blk s H scope (compEnvC scope cl C X.env) fp).env :: (assignEach [] (X.blk s H scope (compEnvC scope cl C X.env) fp).env).map (·.2) := by intros; rfl)
    (hs : ∀ x, foldedSetIterable iter X.env x = pure x := by intro _; rfl) : XE X c ss (.ListComp elt [⟨.Tuple [.Name y p1, .Name y2 p2] k tpos, iter, ifs, 0⟩] scope pos) (.own ((xs.filter g).map f)) :=
  x_lc (own := [(y, i), (y2, j)]) f g (fun x => (ss.set i (.dat x.1)).set j (.dat x.2)) hc hN (blkOk_by ok) (fun l hj => by
    rcases List.mem_cons.mp hj with rfl | hj
    · exact hun
    · obtain rfl := List.mem_singleton.mp hj
      exact hun2) hsz hi (fun s H C cl fp x => g_lc2 i j hc hij (List.getElem?_eq_some_iff.mp hun).1 (List.getElem?_eq_some_iff.mp hun2).1 hN hx hx2 (.inl (hl s H C cl fp)) (.inl (hl2 s H C cl fp)) (.inr (hl s H C cl fp)) (.inr (hl2 s H C cl fp)) (e1 s H C cl fp) (e2 s H C cl fp)) ht he hs
end
/-- names given as a list or as a tuple -/
def nmAV : Bool → List Str → AV
  | true, xs => .lst xs
  | false, xs => .dat xs
end Ab

/-! AbI: drawn arguments, drawn lists, locks for a loop alone, lists of any things. -/
namespace Ab
open PySem L2 LamX
open Ab.Rp (rp)
open Ab.Dt (toD)
section
variable {X : Cx} {c : Ctx} {ss : List AV} {D : AE} {a b d e tg iter : Expr} {es : List Expr} {body rest : List Stmt} {pos p p1 p2 : Pos} {α β γ : Type} [Rp α] [Rp β] [Rp γ] {xs : List α}
/-- a call whose arguments are drawn -/
theorem x_calE {ι : Type} {args : ι → List AV} {pre : ι → Prop} {res : ι → AV} {w' : ι → Wd} {j k : Nat} {x : Str} {rs : List AV} {R : AV} (F : Df X.prog X.w X.K X.mg X.base j x (spW X.K w' args pre res)) (hr : Room k X.A) (ha : XA X c ss (e :: es) rs)
    (sel : ∀ H vs, RsOks X.K c.w H H vs rs → ∃ i, RsOks X.K (w' i) H H vs (args i) ∧ pre i ∧ (w' i).Le c.w ∧ (∀ H' v, RsOk X.K (w' i) H H' v (res i) → RsOk X.K c.w H H' v R)) (hjk : Nat.ble j k = true := by rfl)
    (hg : Gl X x := by rfl) (hn : rs.any AV.ownB = false := by rfl) (hdb : (x == ("__debug__" : Str)) = false := by decide) (he : starEach (e :: es) X.env = (false, eval e X.env) :: starEach es X.env := by rfl) (hpl : (backTo pos (starEach es X.env)).any (·.1) = false := by rfl) :
    XE X c ss (.Call (.Name x p) (e :: es) [] pos) R := by
  obtain ⟨f, fd, ps, F, hm, hk, hb⟩ := (F.mono (Nat.le_of_ble_eq_true hjk)).ex
  refine (pe_call F hr hg hm hk hb .nil pass0 ha hdb he hpl).wk fun σ H Q q => ⟨q.1, fun vs H1 a1 g1 k1 => ?_⟩
  show spW X.K w' args pre res (vs ++ []) H1 Q E0
  rw [List.append_nil]
  obtain ⟨i, s1, s2, l, s3⟩ := sel H1 vs (k1.here hn)
  refine ⟨i, s1, s2, l.J a1.j, fun v H' g2 j2 ok => ?_⟩
  have g := l.gr g2
  exact q.2 v H' (a1.mono g (l.up a1.j g2 j2)) (g1.trans g) ((s3 H' v ok).back g1)
/-- what a loop walks: a drawn list -/
def tIN (K : PySem.W.Frag) (c : Ctx) (ss : List AV) {α : Type} [Rp α] (P : List α → Prop) : TI := fun σ H R => At K c ss σ H ∧ ∀ xs J H1 (pr : List Pr), P xs → At K (c.add pr [H1]) ss σ H1 → Gr c.w H H1 → Wk K pr H1 J xs → R J H1
abbrev XIN (X : Cx) (c : Ctx) (ss : List AV) (tg iter : Expr) {α : Type} [Rp α] (P : List α → Prop) : Prop := PI X tg iter (tIN X.K c ss P)
theorem i_newN {P : List α → Prop} (h : XN X c ss e P) : XIN X c ss tg e P := (pi_list h).wk fun σ H R q => ⟨q.1, fun v H1 xs a g px ok => by
  obtain ⟨p, vs, rfl, n, h1, r⟩ := ok
  refine ⟨p, rfl, ⟨vs, SqL.of h1⟩, q.2 xs _ H1 [⟨p, xs⟩] px (a.addpr (fun z hz => ?_) fun i s es o z hz w => ?_) g wk_list⟩
  · obtain rfl := List.mem_singleton.mp hz
    exact ⟨q.1.notS n, vs, h1, r⟩
  · obtain rfl := List.mem_singleton.mp hz
    obtain ⟨p', vs', e1, e2⟩ := q.1.own_at es o
    have ep : p' = p := V.ref.inj (Option.some.inj (Option.some.inj (e1.symm.trans w)))
    rw [ep] at e2
    exact n.noL e2⟩
/-- a drawn tuple -/
theorem i_tupN {P : List α → Prop} (h : XE X c ss e (.ex P)) : XIN X c ss tg e P := (pi_tup h).wk fun σ H R q => ⟨q.1, fun v H1 a g ⟨ys, hy, z⟩ => by
  obtain ⟨p, vs, rfl, h1, r⟩ := hy
  exact ⟨p, rfl, ⟨vs, h1⟩, q.2 ys _ H1 [] z (a.addpr (fun z hz => absurd hz (by simp)) fun i s es o z hz => absurd hz (by simp)) g (wk_tup h1 r)⟩⟩
/-- for over a drawn list -/
theorem q_forN {P : List α → Prop} (I : List α → Nat → List AV → Prop) (T : List AV → α → List AV) (hc : X.calm = true) (hi : XIN X c ss tg iter P) (h0 : ∀ xs, P xs → I xs 0 ss) (hg : ∀ c' xs i ss' x, P xs → xs[i]? = some x → I xs i ss' → XG X c' ss' tg (.dat x) (T ss' x))
    (hb : ∀ pr tu xs i ss' x, P xs → xs[i]? = some x → I xs i ss' → XSs X (c.add pr tu) (T ss' x) body { nx := I xs (i + 1), ct := I xs (i + 1), bk := fun _ => False, rt := D.rt }) (hd : ∀ xs ss', P xs → I xs xs.length ss' → XSs X c ss' rest D)
    (hp : PassesOwn (model X.prog X.w) X.A X.env X.xe := by exact PassesOwn.never) (hs : ∀ x, foldedSetIterable iter X.env x = pure x := by intro _; rfl) : XSs X c ss (.For tg iter body [] pos :: rest) D := by
  refine q_seq (N := fun s => ∃ xs, P xs ∧ I xs xs.length s) ?_ fun s ⟨xs, px, hI⟩ => hd xs s px hI
  have hg' : PG X tg (fun v σ H Q => ∃ (c' : Ctx) (xs : List α) (i : Nat) (ss' : List AV) (x : α) (_ : P xs) (_ : xs[i]? = some x) (_ : I xs i ss'), tG X.K c' ss' (.dat x) (T ss' x) v σ H Q) :=
    PG.all fun c' => PG.all fun xs => PG.all fun i => PG.all fun ss' => PG.all fun x => PG.all fun px => PG.all fun hx => PG.all fun hI => hg c' xs i ss' x px hx hI
  have hb' : PSs X body (fun De σ H => ∃ (pr : List Pr) (tu : List Hp) (xs : List α) (i : Nat) (ss' : List AV) (x : α) (_ : P xs) (_ : xs[i]? = some x) (_ : I xs i ss'), tS X.K (c.add pr tu) (T ss' x) { nx := I xs (i + 1), ct := I xs (i + 1), bk := fun _ => False, rt := D.rt } De σ H) :=
    PSs.all fun pr => PSs.all fun tu => PSs.all fun xs => PSs.all fun i => PSs.all fun ss' => PSs.all fun x => PSs.all fun px => PSs.all fun hx => PSs.all fun hI => hb pr tu xs i ss' x px hx hI
  refine (ps_for hp hc hi hg' hb' hs).wk fun De σ H q => ⟨q.1, fun xs J H1 pr px a1 g1 w => ?_⟩
  have gd : ∀ {ss' : List AV} {σ' : L2.St} {H' : Hp}, At X.K (c.add pr [H1]) ss' σ' H' → Gd X.K pr H1 H' := fun a => ⟨a.tu H1 (List.mem_append_left _ (List.mem_singleton.mpr rfl)), fun z hz => (a.pr z (List.mem_append_left _ hz)).2⟩
  refine ⟨fun i m σ' H' => m = xs.length - i ∧ i ≤ xs.length ∧ ∃ ss', I xs i ss' ∧ At X.K (c.add pr [H1]) ss' σ' H', ⟨xs.length, rfl, Nat.zero_le _, ss, h0 xs px, a1⟩, ?_⟩
  rintro i m σ' H' ⟨rfl, hi', ss', hI, a'⟩
  by_cases hlt : i < xs.length
  · refine .inr ⟨w.go i H' (gd a') hlt, fun σ2 H2 => ∃ s2, I xs (i + 1) s2 ∧ At X.K (c.add pr [H1]) s2 σ2 H2, fun σ2 H2 ⟨s2, i2, a2⟩ => ⟨xs.length - (i + 1), by omega, rfl, hlt, s2, i2, a2⟩, fun x H2 y => ?_⟩
    obtain ⟨d, hd1, hd2, hH⟩ := w.yld i H' x H2 (gd a') hlt y
    have a2 : At X.K (c.add pr [H1]) ss' σ' H2 := by
      rcases hH with hH | ⟨T', vs, hT, hH⟩
      · rw [hH]
        exact a'
      · rw [hH]
        exact a'.new hT
    refine ⟨c.add pr [H1], xs, i, ss', d, px, hd1, hI, a2, ⟨d, hd2, rfl⟩, fun σ3 a3 => ?_⟩
    exact ⟨pr, [H1], xs, i, ss', d, px, hd1, hI, a3, fun s4 σ4 H4 n4 a4 => ⟨s4, n4, a4⟩, fun v H4 g4 j4 ok => q.2.2.1 v H4 g4 j4 ok, fun _ _ _ z _ => z.elim, fun s4 σ4 H4 n4 a4 => ⟨s4, n4, a4⟩⟩
  · have hi2 : i = xs.length := by omega
    subst hi2
    exact .inl ⟨w.stop _ H' (gd a') (Nat.le_refl _), q.2.1 ss' σ' H' ⟨xs, px, hI⟩ a'.unpr⟩
/-- xs[:n], n drawn -/
theorem x_slN {P : Int → Prop} (ha : XE X c ss e (.lst xs)) (hh : XE X c ss d (.ex P)) : XN X c ss (.Subscript e (.Slice none (some d) none p2) pos) (fun zs => ∃ n, P n ∧ zs = cut xs none (some n)) :=
  (pe_slice sl_list ha xo_none (po_some hh)).wk fun σ H Q q => ⟨q.1, fun v H1 a1 g1 ok => ⟨a1, fun H2 a2 g2 => ⟨a2, fun u H3 a3 g3 ⟨m, hm, pm⟩ => by
    obtain ⟨p, vs, e, n, h, r⟩ := (ok.mono q.1.j (g2.trans g3))
    refine ⟨m, hm, p, vs, e, SqL.of h, fun l hl => ?_⟩
    have g := (g1.trans g2).trans g3
    exact q.2 (.ref l) _ _ (a3.new hl) (g.trans (Gr.new hl)) ⟨m, pm, rfl⟩ ⟨l, _, rfl, g.fresh (Nf.of hl), upd_same, (rps_cut r none (some m)).mono (Tu.new hl)⟩⟩⟩⟩
theorem x_slTN {P : Int → Prop} (hw : ∀ n, P n → ¬ (HT.sIx xs.length 0 (none) = 0 ∧ HT.sIx xs.length xs.length (some n) = xs.length)) (ha : XE X c ss e (.dat xs)) (hh : XE X c ss d (.ex P)) : XE X c ss (.Subscript e (.Slice none (some d) none p2) pos) (.ex fun zs => ∃ n, P n ∧ zs = cut xs none (some n)) :=
  (pe_slice sl_tup ha xo_none (po_some hh)).wk fun σ H Q q => ⟨q.1, fun v H1 a1 g1 ok => ⟨a1, fun H2 a2 g2 => ⟨a2, fun u H3 a3 g3 ⟨m, hm, pm⟩ => by
    obtain ⟨ys, hy, z⟩ := (ok.mono q.1.j (g2.trans g3))
    have z : ys = xs := z
    subst z
    obtain ⟨p, vs, e, h, r⟩ := hy
    refine ⟨m, hm, p, vs, e, h, by rw [r.len]; exact hw m pm, fun l hl => ?_⟩
    have g := (g1.trans g2).trans g3
    exact q.2 (.ref l) _ (a3.new hl) (g.trans (Gr.new hl)) ⟨_, ⟨l, _, rfl, .inl (.inl upd_same), (rps_cut r none (some m)).mono (Tu.new hl)⟩, m, pm, rfl⟩⟩⟩⟩
theorem x_ropeTailE {P : Rope → Prop} {lo : Option Expr} (ha : XE X c ss e (.ex P)) (hl : XO X c ss lo (some 1)) : XE X c ss (.Subscript e (.Slice lo none none p2) pos) (.ex fun y : T3 Int Int Int => ∃ x, P x ∧ y = ⟨x.slack, x.stiff, x.strong⟩) :=
  (pe_slice sl_tup ha hl xo_none).wk fun σ H Q q => ⟨q.1, fun v H1 a1 g1 ok => ⟨a1, fun H2 a2 g2 => ⟨a2, fun H3 a3 g3 => by
    obtain ⟨y, hy, z⟩ := (ok.mono q.1.j (g2.trans g3))
    obtain ⟨p, e, h⟩ := hy
    refine ⟨p, _, e, h, by show ¬ (HT.sIx 4 0 (some 1) = 0 ∧ HT.sIx 4 4 none = 4); decide, fun l hl => (q.go a3 ((g1.trans g2).trans g3)).2 (.ref l) _ (a3.new hl) (Gr.new hl) ⟨⟨y.slack, y.stiff, y.strong⟩, ⟨l, _, _, _, rfl, .inl (.inl upd_same), rfl, rfl, rfl⟩, y, z, rfl⟩⟩⟩⟩⟩
theorem x_nameConsE {n : Str} {P : T3 Int Int Int → Prop} (ha : XE X c ss a (.dat [n])) (hb : XE X c ss b (.ex P)) : XE X c ss (.BinOp a .Add b pos) (.ex fun r : Rope => ∃ y, P y ∧ r = ⟨n, y.a, y.b, y.c⟩) := by
  refine x_op op_catT (ra := .dat [n]) (rb := .ex P) (fun _ _ _ H2 _ _ _ _ g ⟨zs, ⟨q, vs, e, h, r⟩, z1⟩ ⟨w, ⟨q2, u1, u2, u3, e2, h2, r1, r2, r3⟩, z2⟩ t => ?_) ha hb
  have z1 : zs = [n] := z1
  subst z1
  obtain rfl := strs_of r
  obtain rfl : u1 = V.int w.a := r1
  obtain rfl : u2 = V.int w.b := r2
  obtain rfl : u3 = V.int w.c := r3
  exact ⟨q, q2, _, _, e, e2, h, h2, (fun z => by cases z), by show 1 + 3 ≤ sizeLine; decide, (fun z => by cases z), fun _ p hp => t.2 (.ref p) _ (t.1.new hp) (Gr.new hp) ⟨⟨n, w.a, w.b, w.c⟩, ⟨p, rfl, .inl (.inl upd_same)⟩, w, z2, rfl⟩⟩
end
/-- a list or a tuple of alike things -/
def sqAV {α : Type} [Rp α] : Bool → List α → AV
  | true, xs => .lst xs
  | false, xs => .dat xs
/-! ### anything -/
structure Any where
instance : Rp Any := ⟨fun _ _ _ _ => True, fun _ h => h⟩
theorem rps_any {K : PySem.W.Frag} {H : Hp} {α : Type} [Rp α] {vs : List V} {xs : List α} (h : Rps K H vs xs) : Rps K H vs (xs.map fun _ => Any.mk) := by
  induction h with
  | nil => exact .nil
  | cons _ _ ih => exact .cons trivial ih
theorem At.any {K : PySem.W.Frag} {c : Ctx} {ss : List AV} {σ : L2.St} {H : Hp} {α : Type} [Rp α] {xs : List α} (a : At K c ss σ H) (i : Nat) (e : ss[i]? = some (.own xs)) : At K c (ss.set i (.own (xs.map fun _ => Any.mk))) σ H :=
  a.weak (List.length_set ..) fun j t et => by
    have hi := (List.getElem?_eq_some_iff.mp e).1
    by_cases h : i = j
    · subst h
      rw [List.getElem?_set_self hi] at et
      cases et
      exact ⟨_, e, fun _ => trivial, fun o ad ⟨vs, q1, q2, q3, q4⟩ => ⟨vs, q1, q2, rps_any q3, q4⟩⟩
    · rw [List.getElem?_set_ne h] at et
      exact ⟨t, et, id, fun _ _ => id⟩
section
variable {X : Cx} {c : Ctx} {ss : List AV} {D : AE} {e tg : Expr} {body rest : List Stmt} {pos : Pos} {α : Type} [Rp α] {xs : List α} {r : AV}
/-- its items are forgotten -/
theorem s_any (i : Nat) (h : XSs X c (ss.set i (.own (xs.map fun _ => Any.mk))) body D) (e : ss[i]? = some (.own xs) := by rfl) : XSs X c ss body D := s_weak h fun σ H a => a.any i e
theorem x_any' (h : XE X c ss e r) : XE X c ss e (.dat Any.mk) := x_conv h fun _ _ _ _ _ => ⟨Any.mk, trivial, rfl⟩
end
/-! ### a loop over a list of one's own -/
theorem At.unlock {K : PySem.W.Frag} {c : Ctx} {ss : List AV} {σ : L2.St} {H : Hp} {α : Type} [Rp α] {xs : List α} {p : Addr} {tu : List Hp} (a : At K (c.add [⟨p, xs⟩] tu) ss σ H) (i : Nat) (e : ss[i]? = some (.val (.ref p))) (n0 : Nf c.H0 p) (np : ∀ q ∈ c.pr, p ≠ q.p) : At K c (ss.set i (.own xs)) σ H := by
  have b := a.unpr
  obtain ⟨nS, vs, hp, hr⟩ := a.pr ⟨p, xs⟩ (List.mem_append_left _ (List.mem_singleton.mpr rfl))
  have hi := (List.getElem?_eq_some_iff.mp e).1
  obtain ⟨ad, h1, h2, h3⟩ := a.sl
  refine ⟨by rw [List.length_set]; exact b.len, b.gr, b.j, b.tu, b.pr, fun k => if k = i then p else ad k, fun k s es => ?_, fun k l s u es eu o1 o2 hkl => ?_, fun k s es o q hq => ?_⟩
  · show SlOk K c H _ (if k = i then p else ad k) s
    by_cases hk : k = i
    · subst hk
      rw [List.getElem?_set_self hi] at es
      cases es
      rw [if_pos rfl]
      have z := h1 k _ e
      exact ⟨vs, z, hp, hr, n0, nS⟩
    · rw [if_neg hk]
      rw [List.getElem?_set_ne (Ne.symm hk)] at es
      have z := h1 k s es
      cases s <;> exact z
  · show (if k = i then p else ad k) ≠ (if l = i then p else ad l)
    have away : ∀ m s, ss[m]? = some s → s.isOwn → ad m ≠ p := fun m s es o => h3 m s es o ⟨p, xs⟩ (List.mem_append_left _ (List.mem_singleton.mpr rfl))
    by_cases hk : k = i
    · by_cases hl : l = i
      · exact absurd (hk.trans hl.symm) hkl
      · rw [if_pos hk, if_neg hl]
        rw [List.getElem?_set_ne (Ne.symm hl)] at eu
        exact Ne.symm (away l u eu o2)
    · by_cases hl : l = i
      · rw [if_neg hk, if_pos hl]
        rw [List.getElem?_set_ne (Ne.symm hk)] at es
        exact away k s es o1
      · rw [if_neg hk, if_neg hl]
        rw [List.getElem?_set_ne (Ne.symm hk)] at es
        rw [List.getElem?_set_ne (Ne.symm hl)] at eu
        exact h2 k l s u es eu o1 o2 hkl
  · show (if k = i then p else ad k) ≠ q.p
    by_cases hk : k = i
    · rw [if_pos hk]
      exact np q hq
    · rw [if_neg hk]
      rw [List.getElem?_set_ne (Ne.symm hk)] at es
      exact h3 k s es o q (List.mem_append_right _ hq)
theorem _root_.L2.PS.all {X : Cx} {e : Stmt} {ι : Sort u} {t : ι → TS} (h : ∀ i, PS X e (t i)) : PS X e (fun D σ H => ∃ i, t i D σ H) := ⟨fun pins s σ H D I ⟨i, q⟩ => (h i).run pins s σ H D I q⟩
section
variable {X : Cx} {c : Ctx} {ss : List AV} {D : AE} {st : Stmt} {rest : List Stmt} {α : Type} [Rp α] {xs : List α}
/-- a list of one's own locked for one statement -/
theorem q_with (i : Nat) (N : List AV → Prop) (h : ∀ p tu, XS X (c.add [⟨p, xs⟩] tu) (ss.set i (.val (.ref p))) st { D with nx := fun s => s[i]? = some (.val (.ref p)) ∧ N (s.set i (.own xs)), bk := fun _ => False, ct := fun _ => False }) (hd : ∀ s, N s → XSs X c s rest D) (e : ss[i]? = some (.own xs) := by rfl) : XSs X c ss (st :: rest) D := by
  refine (pss_cons (PS.all fun p => PS.all fun tu => h p tu) (PSs.all fun s => PSs.all fun n : N s => hd s n)).wk fun De σ H q => ?_
  have hi : i < ss.length := (List.getElem?_eq_some_iff.mp e).1
  obtain ⟨ad, k1, k2, k3⟩ := q.1.sl
  obtain ⟨vs, e1, e2, r, h0, n⟩ := k1 i _ e
  have a1 : At X.K c (ss.set i (.val (.ref (ad i)))) σ H := by
    have z := q.1.set (i := i) (v := .ref (ad i)) (s := .val (.ref (ad i))) (fun z => z) (fun _ => rfl) hi
    have hσ : σ.set i (some (V.ref (ad i))) = σ := by
      apply List.ext_getElem?
      intro j
      by_cases hj : i = j
      · subst hj
        rw [List.getElem?_set_self (by rw [q.1.len]; exact hi), e1]
      · rw [List.getElem?_set_ne hj]
    rw [hσ] at z
    exact z
  refine ⟨ad i, [H], a1.addpr (pr := [⟨ad i, xs⟩]) (fun z hz => ?_) (fun j s es o z hz w => ?_), fun s σ' H' ⟨es, ns⟩ a' => ⟨_, ns, q.at_ (a'.unlock i es h0 (k3 i _ e trivial))⟩, q.2.2.1, fun _ _ _ z _ => z.elim, fun _ _ _ z _ => z.elim⟩
  · obtain rfl := List.mem_singleton.mp hz
    exact ⟨n, vs, e2, r⟩
  · obtain rfl := List.mem_singleton.mp hz
    by_cases hj : j = i
    · subst hj
      rw [List.getElem?_set_self hi] at es
      cases es
      exact o
    · rw [List.getElem?_set_ne (Ne.symm hj)] at es
      cases s with
      | own ys =>
        obtain ⟨_, f1, _⟩ := k1 j _ es
        have ep : ad j = ad i := V.ref.inj (Option.some.inj (Option.some.inj (f1.symm.trans w)))
        exact k2 j i _ _ es e trivial trivial hj ep
      | _ => exact o.elim
end
end Ab

/-! AbJ: a drawn slot told; loops as single statements. -/
namespace Ab
open PySem L2 LamX
open Ab.Rp (rp)
open Ab.Dt (toD)
section
variable {X : Cx} {c : Ctx} {ss : List AV} {D : AE} {e tg iter : Expr} {st : Stmt} {body rest : List Stmt} {pos p p1 p2 : Pos} {α β γ : Type} [Rp α] [Rp β] [Rp γ] {xs : List α}
/-- what a slot holds gets a name -/
theorem s_fix {P : α → Prop} (i : Nat) (h : ∀ y, P y → XSs X c (ss.set i (.dat y)) body D) (e : ss[i]? = some (.ex P) := by rfl) : XSs X c ss body D :=
  (PSs.all fun y => PSs.all fun py : P y => h y py).wk fun De σ H q => by
    obtain ⟨v, y, h1, h2, h3⟩ := q.1.var e
    have hi : i < ss.length := (List.getElem?_eq_some_iff.mp e).1
    have z := q.1.set (i := i) (v := v) (s := .dat y) (fun z => z) (fun _ => ⟨v, y, rfl, h2, rfl⟩) hi
    have hσ : σ.set i (some v) = σ := by
      apply List.ext_getElem?
      intro j
      by_cases hj : i = j
      · subst hj
        rw [List.getElem?_set_self (by rw [q.1.len]; exact hi), h1]
      · rw [List.getElem?_set_ne hj]
    rw [hσ] at z
    exact ⟨y, h3, q.at_ z⟩
/-- for, by told states, as a statement -/
theorem s_forS (S : Nat → List AV) (T : Nat → α → List AV) (hc : X.calm = true) (hi : XI X c ss tg iter xs) (h0 : ss = S 0) (hg : ∀ c' i x, xs[i]? = some x → XG X c' (S i) tg (.dat x) (T i x))
    (hb : ∀ pr tu i x, xs[i]? = some x → XSs X (c.add pr tu) (T i x) body { nx := fun s => s = S (i + 1), ct := fun s => s = S (i + 1), bk := fun _ => False, rt := D.rt }) (hd : D.nx (S xs.length))
    (hp : PassesOwn (model X.prog X.w) X.A X.env X.xe := by exact PassesOwn.never) (hs : ∀ x, foldedSetIterable iter X.env x = pure x := by intro _; rfl) : XS X c ss (.For tg iter body [] pos) D := by
  have hg' : PG X tg (fun v σ H Q => ∃ (c' : Ctx) (i : Nat) (x : α) (_ : xs[i]? = some x), tG X.K c' (S i) (.dat x) (T i x) v σ H Q) :=
    PG.all fun c' => PG.all fun i => PG.all fun x => PG.all fun hx => hg c' i x hx
  have hb' : PSs X body (fun De σ H => ∃ (pr : List Pr) (tu : List Hp) (i : Nat) (x : α) (_ : xs[i]? = some x), tS X.K (c.add pr tu) (T i x) { nx := fun s => s = S (i + 1), ct := fun s => s = S (i + 1), bk := fun _ => False, rt := D.rt } De σ H) :=
    PSs.all fun pr => PSs.all fun tu => PSs.all fun i => PSs.all fun x => PSs.all fun hx => hb pr tu i x hx
  refine (ps_for hp hc hi hg' hb' hs).wk fun De σ H q => ⟨q.1, fun J H1 pr a1 g1 w => ?_⟩
  have gd : ∀ {ss' : List AV} {σ' : L2.St} {H' : Hp}, At X.K (c.add pr [H1]) ss' σ' H' → Gd X.K pr H1 H' := fun a => ⟨a.tu H1 (List.mem_append_left _ (List.mem_singleton.mpr rfl)), fun z hz => (a.pr z (List.mem_append_left _ hz)).2⟩
  refine ⟨fun i m σ' H' => m = xs.length - i ∧ i ≤ xs.length ∧ At X.K (c.add pr [H1]) (S i) σ' H', ⟨xs.length, rfl, Nat.zero_le _, h0 ▸ a1⟩, ?_⟩
  rintro i m σ' H' ⟨rfl, hi', a'⟩
  by_cases hlt : i < xs.length
  · refine .inr ⟨w.go i H' (gd a') hlt, fun σ2 H2 => At X.K (c.add pr [H1]) (S (i + 1)) σ2 H2, fun σ2 H2 a2 => ⟨xs.length - (i + 1), by omega, rfl, hlt, a2⟩, fun x H2 y => ?_⟩
    obtain ⟨d, hd1, hd2, hH⟩ := w.yld i H' x H2 (gd a') hlt y
    have a2 : At X.K (c.add pr [H1]) (S i) σ' H2 := by
      rcases hH with hH | ⟨T', vs, hT, hH⟩
      · rw [hH]
        exact a'
      · rw [hH]
        exact a'.new hT
    refine ⟨c.add pr [H1], i, d, hd1, a2, ⟨d, hd2, rfl⟩, fun σ3 a3 => ?_⟩
    exact ⟨pr, [H1], i, d, hd1, a3, fun s4 σ4 H4 n4 a4 => (by subst n4; exact a4), fun v H4 g4 j4 ok => q.2.2.1 v H4 g4 j4 ok, fun _ _ _ z _ => z.elim, fun s4 σ4 H4 n4 a4 => (by subst n4; exact a4)⟩
  · have hi2 : i = xs.length := by omega
    subst hi2
    exact .inl ⟨w.stop _ H' (gd a') (Nat.le_refl _), q.2.1 _ σ' H' hd a'.unpr⟩
/-- for over a list of one's own in the j-th slot -/
theorem q_forO {x : Str} (j : Nat) (S : Addr → Nat → List AV) (T : Addr → Nat → α → List AV) (hc : X.calm = true) (h0 : ∀ p, ss.set j (.val (.ref p)) = S p 0) (hg : ∀ c' q i x, xs[i]? = some x → XG X c' (S q i) tg (.dat x) (T q i x))
    (hb : ∀ q pr tu i x, xs[i]? = some x → XSs X (c.add pr tu) (T q i x) body { nx := fun s => s = S q (i + 1), ct := fun s => s = S q (i + 1), bk := fun _ => False, rt := D.rt }) (hj : ∀ q, (S q xs.length)[j]? = some (.val (.ref q))) {s1 : List AV} (h1 : ∀ q, (S q xs.length).set j (.own xs) = s1) (hd : XSs X c s1 rest D)
    (e0 : ss[j]? = some (.own xs) := by rfl) (hN : X.N[j]? = some x := by rfl) (hv : Vis X.env.scope x := by first | exact Or.inl rfl | exact Or.inr (Or.inl rfl) | exact Or.inr (Or.inr rfl)) (hdb : (x == ("__debug__" : Str)) = false := by decide) (hcd : (x == ("__classdict__" : Str)) = false := by decide)
    (hp : PassesOwn (model X.prog X.w) X.A X.env X.xe := by exact PassesOwn.never) (hs : ∀ y, foldedSetIterable (.Name x p) X.env y = pure y := by intro _; rfl) : XSs X c ss (.For tg (.Name x p) body [] pos :: rest) D := by
  have hjl : j < ss.length := (List.getElem?_eq_some_iff.mp e0).1
  refine q_with j (fun s => s = s1) (fun q tu => ?_) (fun s z => by rw [z]; exact hd) e0
  refine s_forS (S q) (T q) hc (i_pr (List.mem_append_left _ (List.mem_singleton.mpr rfl)) (x_varV j (by rw [List.getElem?_set_self hjl]) hN hv hdb hcd)) (h0 q) (fun c' i x hx => hg c' q i x hx) (fun pr tu' i y hy => ?_) ⟨hj q, h1 q⟩ hp hs
  have z := hb q (pr ++ [⟨q, xs⟩]) (tu' ++ tu) i y hy
  have e : c.add (pr ++ [⟨q, xs⟩]) (tu' ++ tu) = (c.add [⟨q, xs⟩] tu).add pr tu' := by
    show (⟨c.w, c.H0, (pr ++ [⟨q, xs⟩]) ++ c.pr, (tu' ++ tu) ++ c.tu⟩ : Ctx) = ⟨c.w, c.H0, pr ++ ([⟨q, xs⟩] ++ c.pr), tu' ++ (tu ++ c.tu)⟩
    rw [List.append_assoc, List.append_assoc]
  rw [e] at z
  exact z
end
section
variable {X : Cx} {c : Ctx} {ss : List AV} {e : Expr} {es : List Expr} {pos p : Pos}
theorem x_calH {ι : Type} {args : ι → List AV} {pre : ι → Hp → Prop} {res : ι → AV} {w' : ι → Wd} {j k : Nat} {x : Str} (F : Df X.prog X.w X.K X.mg X.base j x (spH X.K w' args pre res)) (i : ι) (l : (w' i).Le c.w) (hr : Room k X.A) (hp : ∀ H, Gr c.w c.H0 H → pre i H) (ha : XA X c ss (e :: es) (args i)) (hjk : Nat.ble j k = true := by rfl)
    (hg : Gl X x := by rfl) (hn : (args i).any AV.ownB = false := by rfl) (hl : (res i).lstB = false := by rfl) (hdb : (x == ("__debug__" : Str)) = false := by decide) (he : starEach (e :: es) X.env = (false, eval e X.env) :: starEach es X.env := by rfl) (hpl : (backTo pos (starEach es X.env)).any (·.1) = false := by rfl) :
    XE X c ss (.Call (.Name x p) (e :: es) [] pos) (res i) := x_callH (F.mono (Nat.le_of_ble_eq_true hjk)) i l hr hp ha hg hn hl hdb he hpl
end
instance nnRat : Fact' (Dt.nn Rat = true) := ⟨rfl⟩
instance nnStr : Fact' (Dt.nn Str = true) := ⟨rfl⟩
instance nnInt : Fact' (Dt.nn Int = true) := ⟨rfl⟩
instance nnPair {α β : Type} [Dt α] [Dt β] : Fact' (Dt.nn (α × β) = true) := ⟨rfl⟩
instance nnList {α : Type} [Dt α] : Fact' (Dt.nn (List α) = true) := ⟨rfl⟩
instance nnRope : Fact' (Dt.nn Rope = true) := ⟨rfl⟩
end Ab

/-! AbK: the end of a row. -/
namespace Ab
open PySem L2 LamX
open Ab.Rp (rp)
open Ab.Dt (toD)
section
variable {K : PySem.W.Frag} {h : Heap} {mg : Str → Option Value} {x : Str} {st : Stmt} {ps : List Str} {f fa cc PP : Addr} {oc kV doc pm cd ct : Value} {od an : Option Addr} {sl : Array (Option Value)}
theorem txd_mk (X : K.In h) (G : h.Ns mainGlobals mg) (a : PySem.W.nsIn K mainGlobals x = some (some (.ref f))) (l : K.lookup f = some ⟨oc, od, .func (PySem.W.fnOf x x (defArgs st) (defBody st) (defScope st) .none kV doc pm an cd ct), sl⟩) (c : PySem.W.codeIn K cd x = true) (k : PySem.W.keepIn K (.ref f) = true)
    (b : ∀ (kV doc pm : Value) (an : Option Addr) (cdv ct : Value) (us : List Value), us.length = ps.length → bindArgs (PySem.W.fnOf x x (defArgs st) (defBody st) (defScope st) .none kV doc pm an cdv ct) ⟨us, []⟩ = pure (ps.zip us)) : TxD K mg x st ps :=
  ⟨f, _, fun_mk l c k, PySem.W.mg_of X G a, (fun_mk l c k).binds b⟩
theorem txl_mk (X : K.In h) (G : h.Ns mainGlobals mg) (a : PySem.W.nsIn K mainGlobals x = some (some (.ref f))) (l : K.lookup f = some ⟨oc, od, .func (PySem.W.fnOf x x (defArgs st) (defBody st) (defScope st) .none kV doc pm an (.ref cc) ct), sl⟩) (c : PySem.W.codeIn K (.ref cc) x = true) (k : PySem.W.keepIn K (.ref f) = true)
    (b : ∀ (kV doc pm : Value) (an : Option Addr) (cdv ct : Value) (us : List Value), us.length = ps.length → bindArgs (PySem.W.fnOf x x (defArgs st) (defBody st) (defScope st) .none kV doc pm an cdv ct) ⟨us, []⟩ = pure (ps.zip us)) : TxL K mg x st ps cc :=
  ⟨f, oc, od, kV, doc, pm, an, ct, sl, l, c, k, PySem.W.mg_of X G a, (fun_mk l c k).binds b⟩
theorem none_mk (X : K.In h) (G : h.Ns mainGlobals mg) (a : PySem.W.nsIn K mainGlobals x = some none) : mg x = none := PySem.W.mg_none_of X G a
end
/-- a def of the text that asks of the heap, as a function of its own -/
theorem fn_ofH {P : Program} {w : World} {K : PySem.W.Frag} {mg : Str → Option Value} {base : Heap} {k : Nat} {x : Str} {st : Stmt} {N ps : List Str} {f : Addr} {fd : FuncData} {ι : Type} {wd : ι → Wd} {args : ι → List AV} {pre : ι → Hp → Prop} {res : ι → AV} (F : Fun K x x st f fd) (S : FnScope N ps (defScope st)) (hl : ∀ i, (args i).length = ps.length) (ho : ∀ i, ((args i).any AV.ownB) = false)
    (body : ∀ (cdv : Value) (A : Around) (outer : List Env) (s : Shared) (H : Hp) (E : XK) (vs : List V) (i : ι), Room k (A.deeper (PyProof.Rows.envOfC x (defScope st) s.heap.objs.size f cdv)) → RsOks K (wd i) H H vs (args i) → pre i H →
      XSs (cxOf CX0 P w K mg base N x (defScope st) f cdv A outer s H E).nox ⟨wd i, H, prs vs (args i), []⟩ (slots vs (args i) ++ List.replicate (N.length - (args i).length) .un) (defBody st) { nx := fun _ => RsOk K (wd i) H H .non (res i) ∧ (res i).ownB = false, rt := res i }) :
    FnOk P w K mg base CX0 (k + 1) f fd ps (spH K wd args pre res) := by
  refine F.ok S (fun vs H Q E ⟨i, h, _⟩ => h.len.trans (hl i)) (fun cdv A outer s H vs Q E hr ⟨i, h, hp, hj, hq⟩ => ⟨_, body cdv A outer s H E vs i hr h hp, ?_⟩)
  have hN : (args i).length ≤ N.length := by
    rw [hl i, ← S.pre, List.length_take]
    exact Nat.min_le_right _ _
  refine ⟨at_start (ho i) h hj hN, fun ss' σ' H' ⟨n, n2⟩ a => hq .non H' a.gr a.j ?_, fun v H' g j ok => hq v H' g j ok, fun _ _ _ z _ => z.elim, fun _ _ _ z _ => z.elim⟩
  exact RsOk.mono hj a.gr n
def spLaw (K : PySem.W.Frag) (T : List (Addr × Str)) : Sp := spH K (fun _ => w0 T) (fun i : Addr × List Int => [.val (.ref i.1)]) (fun i H => Scr K H i.1 i.2 ∧ i.2.length ≤ 63) (fun _ => .dat true)
theorem sp_law {K : PySem.W.Frag} {T : List (Addr × Str)} {H : Hp} {a : Addr} {ns : List Int} (hS : SqL K H a (ns.map V.int)) (hl : ns.length ≤ 63) (hT : ∀ p ∈ T, H p.1 = some (.tbl #[])) : spLaw K T [.ref a] H (fun v _ => v = .bl true) fun _ _ _ => False :=
  ⟨(a, ns), ⟨rfl, trivial⟩, ⟨hS, hl⟩, (fun p hp => ⟨#[], hT p hp, trivial, fun pos cv z => by cases z⟩ : Tabs T H), fun v H' _ _ ⟨b, h, e⟩ => by
    have e : b = true := e
    subst e
    exact h⟩
/-- with one table -/
theorem law_at {l : PySem.W.OpenLaw} {w : World} {K : PySem.W.Frag} {h : Heap} {mg : Str → Option Value} {st : Stmt} {f fa cc PP : Addr} {q : Str} {k : Nat} {oc kV doc pm cd ct : Value} {od an : Option Addr} {sl : Array (Option Value)} (X : K.In h) (G : h.Ns mainGlobals mg) (hfa : mg "law" = some (.ref fa))
    (a : PySem.W.nsIn K mainGlobals "law" = some (some (.ref f))) (l1 : K.lookup f = some ⟨oc, od, .func (PySem.W.fnOf "law" "law" (defArgs st) (defBody st) (defScope st) .none kV doc pm an cd ct), sl⟩) (c : PySem.W.codeIn K cd "law" = true) (kp : PySem.W.keepIn K (.ref f) = true)
    (hT : h.get? PP = some { cls := .none, data := .fields #[] }) (nP : K.lookup PP = none) (hc : PySem.W.codeHdIn K cc PP = true)
    (hb : ∀ (s : Shared) (u : Value), BindsTo s (PySem.W.fnOf "law" "law" (defArgs st) (defBody st) (defScope st) .none kV doc pm an cd ct) ⟨[u], []⟩ [("script", u)])
    (F : ∀ base : Heap, TabB base mg cc PP → Fun K "law" "law" st f (PySem.W.fnOf "law" "law" (defArgs st) (defBody st) (defScope st) .none kV doc pm an cd ct) → FnOk l.prog w K mg base CX0 k f (PySem.W.fnOf "law" "law" (defArgs st) (defBody st) (defScope st) .none kV doc pm an cd ct) ["script"] (spLaw K [(PP, q)])) : LawAtS l w K CX0 k 63 "script" mg fa h := by
  have e := hfa.symm.trans (PySem.W.mg_of X G a)
  cases e
  refine ⟨_, [(cc, PP)], spLaw K [(PP, q)], fun p hp => ?_, fun p hp => ?_, fun p hp => ?_, hb, fun H a' ns hl _ hH hS => sp_law hS hl (fun p hp => ?_), fun base _ _ hTB => F base (hTB _ (List.mem_singleton.mpr rfl)) (fun_mk l1 c kp)⟩
  · obtain rfl := List.mem_singleton.mp hp
    exact hT
  · obtain rfl := List.mem_singleton.mp hp
    exact nP
  · obtain rfl := List.mem_singleton.mp hp
    exact PySem.W.codeHd_of_K X hc
  · obtain rfl := List.mem_singleton.mp hp
    exact hH (cc, PP) (List.mem_singleton.mpr rfl)
end Ab

/-! AbL: drawn lists and pairs as results; isinstance; displays of drawn things. -/
namespace Ab
open PySem L2 LamX
open Ab.Rp (rp)
open Ab.Dt (toD)
section
variable {X : Cx} {c : Ctx} {ss : List AV} {D : AE} {a b d e tg iter : Expr} {es : List Expr} {body rest : List Stmt} {pos p p1 p2 pos' : Pos} {α β γ : Type} [Rp α] [Rp β] [Rp γ] {xs : List α} {y : β}
theorem xn_xe {P : List α → Prop} (h : XN X c ss e P) : XE X c ss e (.ownE P) := h.wk fun σ H Q q => ⟨q.1, fun v H' zs a g pz ⟨p, vs, e1, n, k, r⟩ => q.2 v H' a g ⟨p, vs, zs, e1, n, k, r, pz⟩⟩
theorem xe_xn {P : List α → Prop} (h : XE X c ss e (.ownE P)) : XN X c ss e P := h.wk fun σ H Q q => ⟨q.1, fun v H' a g ⟨p, vs, zs, e1, n, k, r, pz⟩ => q.2 v H' zs a g pz ⟨p, vs, e1, n, k, r⟩⟩
theorem xn_imp {P P' : List α → Prop} (h : XN X c ss e P) (k : ∀ zs, P zs → P' zs) : XN X c ss e P' := h.wk fun σ H Q q => ⟨q.1, fun v H' zs a g pz ok => q.2 v H' zs a g (k zs pz) ok⟩
/-- [e, ..] of drawn things -/
theorem x_listN {P : α → Prop} (n : Nat) (hl : n ≤ 1000) (ha : XA X c ss es (List.replicate n (.ex P))) : XN X c ss (.List es pos) (fun zs => zs.length = n ∧ ∀ z ∈ zs, P z) := by
  have key : ∀ {H H' : Hp} {m : Nat} {vs : List V}, RsOks X.K c.w H H' vs (List.replicate m (.ex P)) → ∃ zs : List α, Rps X.K H' vs zs ∧ zs.length = m ∧ ∀ z ∈ zs, P z := fun {H H' m} => by
    induction m with
    | zero => intro vs h; cases vs with
      | nil => exact ⟨[], .nil, rfl, fun z hz => absurd hz List.not_mem_nil⟩
      | cons v vs => exact h.elim
    | succ m ih => intro vs h; cases vs with
      | nil => exact h.elim
      | cons v vs =>
        obtain ⟨⟨x, h1, h2⟩, h3⟩ := h
        obtain ⟨zs, r, l, q⟩ := ih h3
        exact ⟨x :: zs, .cons h1 r, by rw [List.length_cons, l], fun z hz => (List.mem_cons.mp hz).elim (fun e => by rw [e]; exact h2) (q z)⟩
  exact (pe_lst ha).wk fun σ H Q q => ⟨q.1, fun vs H1 a1 g1 k1 => ⟨by
    rw [k1.len, List.length_replicate]
    exact Nat.le_of_lt (small1000 hl), fun p hp => by
      obtain ⟨zs, r, l, h⟩ := key k1
      exact q.2 (.ref p) _ zs (a1.new hp) (g1.trans (Gr.new hp)) ⟨l, h⟩ ⟨p, vs, rfl, g1.fresh (Nf.of hp), upd_same, r.mono (Tu.new hp)⟩⟩⟩
/-- xs + drawn ones -/
theorem x_catN {P : List α → Prop} (hl : ∀ ys, P ys → xs.length + ys.length ≤ 100000) (ha : XE X c ss a (.lst xs)) (hb : XN X c ss b P) : XN X c ss (.BinOp a .Add b pos) (fun zs => ∃ ys, P ys ∧ zs = xs ++ ys) :=
  (pe_op op_cat ha (xn_xe hb)).wk fun σ H Q q => ⟨q.1, fun x H1 a1 g1 k1 => ⟨a1, fun y H2 a2 g2 k2 => by
    obtain ⟨p, vs, e, n, h, r⟩ := k1.mono q.1.j g2
    obtain ⟨p2, us, ys, e2, n2, h2, r2, py⟩ := k2
    have g := g1.trans g2
    exact ⟨p, p2, vs, us, e, e2, h, h2, by rw [r.len, r2.len]; exact Nat.le_trans (hl ys py) (by decide), fun l hlz => q.2 (.ref l) _ _ (a2.new hlz) (g.trans (Gr.new hlz)) ⟨ys, py, rfl⟩ ⟨l, _, rfl, g.fresh (Nf.of hlz), upd_same, (r.append r2).mono (Tu.new hlz)⟩⟩⟩⟩
/-- return of a pair of a list of one's own and a datum -/
theorem s_retTwo {x : Str} {k : Nat} (i : Nat) (hr : D.rt = .two xs y) (he : XE X c ss e (.dat y)) (e0 : ss[i]? = some (.own xs) := by rfl) (hN : X.N[i]? = some x := by rfl) (hv : Vis X.env.scope x := by first | exact Or.inl rfl | exact Or.inr (Or.inl rfl) | exact Or.inr (Or.inr rfl))
    (hd : (x == ("__debug__" : Str)) = false := by decide) (hcd : (x == ("__classdict__" : Str)) = false := by decide) (hs1 : starEach (.Name x p1 :: [e]) X.env = (false, eval (.Name x p1) X.env) :: starEach [e] X.env := by rfl) (hs2 : starEach (e :: []) X.env = (false, eval e X.env) :: starEach [] X.env := by rfl) :
    XSs X c ss (.Return (some (.Tuple [.Name x p1, e] k p2)) pos :: rest) D :=
  (pss_cons (ps_ret (pe_tup (pa_cons (pe_var hN hv hd hcd) (pa_cons he pa_nil hs2) hs1))) (pss_never (sts := rest))).wk fun De σ H q => by
    obtain ⟨p, vs, h1, h2, h3, h4, h5⟩ := q.1.varL e0
    refine ⟨.ref p, h1, q.1, fun u H1 a1 g1 ⟨y', hy, ey⟩ => ⟨by show 2 ≤ sizeLine; decide, fun t ht => ?_⟩⟩
    have ey : y' = y := ey
    subst ey
    have a2 := a1.new (o := .tup [.ref p, u]) ht
    refine q.2.2.1 (.ref t) _ a2.gr a2.j ?_
    rw [hr]
    have hp : H1 p = some (.lst vs) := rd_gr g1 h2 h3
    exact ⟨t, p, vs, u, rfl, .inl (.inl upd_same), h5, by rw [upd_ne (ne_of_none hp ht)]; exact hp, (h4.mono g1.tu).mono (Tu.new ht), Rp.mono (Tu.new ht) hy⟩
/-- xs, y = e -/
theorem q_two {x x2 : Str} {k : Nat} (i j : Nat) (he : XE X c ss e (.two xs y)) (h : XSs X c ((ss.set i (.own xs)).set j (.dat y)) rest D) (hij : i ≠ j := by decide) (hi : i < ss.length := by exact Nat.le_of_ble_eq_true rfl) (hj : j < ss.length := by exact Nat.le_of_ble_eq_true rfl) (hc : X.calm = true := by rfl) (hN : X.N.Nodup := by assumption) (hx : X.N[i]? = some x := by rfl) (hx2 : X.N[j]? = some x2 := by rfl)
    (hl : Loc X.env.scope x := by first | exact Or.inl rfl | exact Or.inr rfl) (hl2 : Loc X.env.scope x2 := by first | exact Or.inl rfl | exact Or.inr rfl) (hf : X.fn x = true ∨ X.env.scope.names.lookup x = some .local := by first | exact .inl rfl | exact .inr rfl) (hf2 : X.fn x2 = true ∨ X.env.scope.names.lookup x2 = some .local := by first | exact .inl rfl | exact .inr rfl)
    (hs : swapsWithSole [.Tuple [.Name x p1, .Name x2 p2] k pos'] e pos.line X.env = pure false := by rfl) (hw : swappedStores [.Tuple [.Name x p1, .Name x2 p2] k pos'] e X.env = pure none := by rfl) (h1 : (assignEach [.Tuple [.Name x p1, .Name x2 p2] k pos'] X.env).map (·.2) = [assign (.Tuple [.Name x p1, .Name x2 p2] k pos') X.env] := by rfl)
    (e1 : (assignEach [.Name x p1, .Name x2 p2] X.env).map (·.2) = assign (.Name x p1) X.env :: (assignEach [.Name x2 p2] X.env).map (·.2) := by rfl) (e2 : (assignEach [.Name x2 p2] X.env).map (·.2) = assign (.Name x2 p2) X.env :: (assignEach [] X.env).map (·.2) := by rfl) (hn : (assignEach [.Name x p1, .Name x2 p2] X.env).length = 2 := by rfl) (hst : (assignEach [.Name x p1, .Name x2 p2] X.env).findIdx? (·.1) = none := by rfl) :
    XSs X c ss (.Assign [.Tuple [.Name x p1, .Name x2 p2] k pos'] e pos :: rest) D :=
  q_seq (N := fun s => s = (ss.set i (.own xs)).set j (.dat y)) ((ps_asg he (pg_tup hc (pgs_cons (pg_name hN hx hl hf) (pgs_cons (pg_name hN hx2 hl2 hf2) pgs_nil e2) e1) hn hst) hs hw h1).wk fun De σ H q => ⟨q.1, fun v H' a g ⟨t, p, vs, u, ev, st, nf, k, r, hy⟩ => ⟨t, [.ref p, u], ev, st, rfl, .ref p, [u], rfl, u, [], rfl, rfl, by
    have z := q.1.setOwn a nf k r hi
    exact q.2.1 _ _ _ rfl (z.set (i := j) (v := u) (s := .dat y) (fun z => z) (fun _ => ⟨u, y, rfl, hy, rfl⟩) (by rw [List.length_set]; exact hj))⟩⟩) fun s z => by
    rw [z]
    exact h
/-- e[1] of such a pair -/
theorem x_twoSnd {k : Nat} (he : XE X c ss e (.two xs y)) : XE X c ss (.Subscript e (.Constant (.int 1) k p2) pos) (.dat y) :=
  x_ixR ix_tup (ra := .two xs y) (rb := .dat (1 : Int)) (R := .dat y) (fun _ _ _ H2 _ _ _ _ _ ⟨t, p, vs, u, ev, st, nf, k, r, hy⟩ ⟨m, h2, pi⟩ w => by
    have pi : m = 1 := pi
    subst pi
    exact ⟨t, [.ref p, u], 1, u, ev, h2, st, rfl, w.give ⟨y, hy, rfl⟩⟩) he x_int
/-- the type's name -/
theorem x_ty {x : Str} {T : String} (hm : X.mg x = none) (hv : bootBuiltins x = some (.type T)) (hg : Gl X x := by rfl) (hn : x ≠ "__name__" := by decide) (hd : (x == ("__debug__" : Str)) = false := by decide) : XE X c ss (.Name x pos) (.val (.ty T)) :=
  x_c (pe_bltn (v := .ty T) (u := .type T) hg hm hv rfl hn hd) fun H => rfl
/-- isinstance(b, bool) of a truth -/
theorem x_isBool {z : Bool} (hm : X.mg "isinstance" = none) (hb : X.mg "bool" = none) (ha : XE X c ss a (.dat z)) (hg : Gl X "isinstance" := by rfl) (hg2 : Gl X "bool" := by rfl) (he : starEach (a :: [.Name "bool" p1]) X.env = (false, eval a X.env) :: starEach [.Name "bool" p1] X.env := by rfl) (he2 : starEach [.Name "bool" p1] X.env = (false, eval (.Name "bool" p1) X.env) :: starEach [] X.env := by rfl) (hpl : (backTo pos (starEach [.Name "bool" p1] X.env)).any (·.1) = false := by rfl) :
    XE X c ss (.Call (.Name "isinstance" p) [a, .Name "bool" p1] [] pos) (.dat true) :=
  x_blt (R := .dat true) call_isi hm (by decide +kernel) (xa_cons ha (xa_cons (x_ty (T := "bool") hb (by decide +kernel) hg2) xa_nil he2) he) (fun σ H H1 vs Q j g ok t => by
    obtain ⟨v, u, rfl, ⟨w, hw, _⟩, hu⟩ := ok.two
    have hw : v = .bl w := hw
    have hu : u = .ty "bool" := hu
    subst hw hu
    exact ⟨.bl w, .ty "bool", .type "bool", .type "bool", true, rfl, .ty "bool", .base (.bl w), kit_ty (by decide +kernel), t.giveB⟩) hg (by decide) (by decide) he hpl
end
end Ab

/-! AbM: x = [..] on one line. -/
namespace Ab
open PySem L2 LamX
open Ab.Rp (rp)
open Ab.Dt (toD)
section
variable {K : PySem.W.Frag} {c : Ctx} {ss : List AV} {α β : Type} [Rp α] [Rp β] {xs : List α} {vs0 : List Nat}
def lcG (K : PySem.W.Frag) (c : Ctx) (ss : List AV) (vs0 : List Nat) (T : α → List AV) : TG := fun v σ H Q => ∃ x : α, At K c ss σ H ∧ RsOk K c.w H H v (.dat x) ∧ ∀ σ', At K c (T x) σ' H → L2.wipe σ' vs0 = L2.wipe σ vs0 → Q σ' H
def lcT (K : PySem.W.Frag) (c : Ctx) (xs : List α) (Pt : Nat → Bool → Prop) (T : α → List AV) : TT := fun σ H Q => ∃ (i : Nat) (x : α) (_ : xs[i]? = some x), tB K c (T x) (Pt i) σ H Q
def lcE (K : PySem.W.Frag) (c : Ctx) (xs : List α) (Pt : Nat → Bool → Prop) (Pe : Nat → β → Prop) (T : α → List AV) : TE := fun σ H Q => ∃ (i : Nat) (x : α) (_ : xs[i]? = some x) (_ : Pt i true), tX K c (T x) (.ex (Pe i)) σ H Q
theorem lc_read (I : Nat → List β → Prop) (Pt : Nat → Bool → Prop) (Pe : Nat → β → Prop) (T : α → List AV) {R : AV} (hun : ∀ i ∈ vs0, ss[i]? = some .un) (hsz : xs.length ≤ 100000)
    (h0 : I 0 []) (h1 : ∀ i zs, i < xs.length → I i zs → Pt i false → I (i + 1) zs) (h2 : ∀ i zs z, i < xs.length → I i zs → Pt i true → Pe i z → I (i + 1) (zs ++ [z])) (hR : ∀ H H' v zs, I xs.length zs → RsOk K c.w H H' v (.own zs) → RsOk K c.w H H' v R) :
    ∀ σ H Q, tX K c ss R σ H Q → tLc (tIc K c ss xs) (lcG K c ss vs0 T) (lcT K c xs Pt T) (lcE K c xs Pt Pe T) vs0 σ H Q := by
  refine fun σ H Q q => ⟨q.1, fun J H1 pr a1 g1 src w L hL => ?_⟩
  have nS : ¬ c.w.S L := a1.notS (Nf.of hL)
  have w0 : At K c ss (L2.wipe σ vs0) H1 := a1.wipe hun
  have gd : ∀ {H' : Hp}, Gr c.w H1 H' → Gd K pr H1 H' := fun g => ⟨g.tu, fun z hz => by
    obtain ⟨n, vs, e, r⟩ := src z hz
    exact ⟨vs, g.all _ _ e n (fun ps e => by cases e), r.mono g.tu⟩⟩
  refine ⟨fun i m H' => m = xs.length - i ∧ i ≤ xs.length ∧ At K c ss (L2.wipe σ vs0) H' ∧ Gr c.w H1 H' ∧ ∃ acc zs, H' L = some (.lst acc) ∧ Rps K H' acc zs ∧ I i zs ∧ zs.length ≤ i,
    ⟨xs.length, rfl, Nat.zero_le _, w0.new hL, Gr.new hL, [], [], upd_same, .nil, h0, Nat.le_refl _⟩, ?_⟩
  rintro i m H' ⟨rfl, hi', a', g', acc, zs, hacc, hr, hI, hzl⟩
  by_cases hlt : i < xs.length
  · refine .inr ⟨w.go i H' (gd g') hlt, fun H2 => At K c ss (L2.wipe σ vs0) H2 ∧ Gr c.w H1 H2 ∧ ∃ acc zs, H2 L = some (.lst acc) ∧ Rps K H2 acc zs ∧ I (i + 1) zs ∧ zs.length ≤ i + 1,
      fun H2 ⟨a2, g2, k2⟩ => ⟨xs.length - (i + 1), by omega, rfl, hlt, a2, g2, k2⟩, fun x H2 y => ?_⟩
    obtain ⟨d, hd1, hd2, hH⟩ := w.yld i H' x H2 (gd g') hlt y
    have a2 : At K c ss (L2.wipe σ vs0) H2 ∧ Gr c.w H' H2 := by
      rcases hH with hH | ⟨T', vs, hT, hH⟩
      · rw [hH]
        exact ⟨a', Gr.refl _ _⟩
      · rw [hH]
        exact ⟨a'.new hT, Gr.new hT⟩
    have keep : ∀ {Ha Hb : Hp} {acc : List V}, Gr c.w Ha Hb → Ha L = some (.lst acc) → Hb L = some (.lst acc) := fun g e => g.all _ _ e nS fun ps z => by cases z
    refine ⟨d, a2.1, ⟨d, hd2, rfl⟩, fun σ3 a3 ew => ?_⟩
    have ew : L2.wipe σ3 vs0 = L2.wipe σ vs0 := by
      rw [ew, wipe_wipe]
    refine ⟨ew, i, d, hd1, a3, fun b H3 a4 g4 pb => ?_⟩
    have base : At K c ss (L2.wipe σ vs0) H3 := a2.1.mono g4 a4.j
    cases b with
    | true =>
      refine ⟨i, d, hd1, pb, a4, fun v H4 a5 g5 ⟨z, hz, pz⟩ => ?_⟩
      have g15 : Gr c.w H' H4 := (a2.2.trans g4).trans g5
      have hL4 : H4 L = some (.lst acc) := keep g15 hacc
      have base4 : At K c ss (L2.wipe σ vs0) H4 := base.mono g5 a5.j
      refine ⟨acc, hL4, by rw [hr.len]; exact Nat.lt_of_le_of_lt hzl (Nat.lt_of_lt_of_le hlt (Nat.le_trans hsz (by decide))), w0.out (Nf.of hL) base4 hL4, (g'.trans g15).put (Nf.of hL) hL4, acc ++ [v], zs ++ [z], upd_same, ?_, h2 i zs z hlt hI pb pz, by rw [List.length_append, List.length_singleton]; omega⟩
      exact ((hr.mono g15.tu).append (.one hz)).mono (Tu.put hL4)
    | false =>
      have g15 : Gr c.w H' H3 := a2.2.trans g4
      exact ⟨base, g'.trans g15, acc, zs, keep g15 hacc, hr.mono g15.tu, h1 i zs hlt hI pb, by omega⟩
  · have hi2 : i = xs.length := by omega
    subst hi2
    refine .inl ⟨w.stop _ H' (gd g') (Nat.le_refl _), q.2 (.ref L) H' (a1.mono g' a'.j) (g1.trans g') (hR H H' _ zs hI ⟨L, acc, rfl, g1.fresh (Nf.of hL), hacc, hr⟩)⟩
end
section
variable {X : Cx} {c : Ctx} {ss : List AV} {D : AE} {iter elt : Expr} {ifs : List Expr} {rest : List Stmt} {pos tpos spos py : Pos} {α β : Type} [Rp α] [Rp β] {xs : List α} {scope : Scope} {y z : Str}
/-- z = [elt for y in iter if ..], z in the k-th slot, y in the i-th -/
theorem q_lc1 (k i : Nat) (f : α → β) (g : α → Bool) (hi : XIc X c ss (.Name y tpos) iter xs) (hsz : xs.length ≤ 100000)
    (ht : ∀ (s : Shared) (H : Hp) (C : Addr) (cl : List (Str × Addr)) (fp : List Addr) (x : α), x ∈ xs → PTs (X.blk s H scope (compEnvC scope cl C X.env) fp) ifs (tB X.K c (ss.set i (.dat x)) (· = g x)))
    (he : ∀ (s : Shared) (H : Hp) (C : Addr) (cl : List (Str × Addr)) (fp : List Addr) (x : α), x ∈ xs → g x = true → PE (X.blk s H scope (compEnvC scope cl C X.env) fp) elt (tX X.K c (ss.set i (.dat x)) (.dat (f x))))
    (h : XSs X c (ss.set k (.own ((xs.filter g).map f))) rest D)
    (hk : k < ss.length := by exact Nat.le_of_ble_eq_true rfl) (hc : X.calm = true := by rfl) (hN : X.N.Nodup := by assumption) (ok : blkC X.N X.env.scope scope [(y, i)] = true := by rfl) (hun : ss[i]? = some .un := by rfl) (hx : X.N[i]? = some y := by rfl) (hz : X.N[k]? = some z := by rfl) (hzl : X.env.scope.names.lookup z = some .local := by rfl)
    (hl : ∀ (s : Shared) (H : Hp) (C : Addr) (cl : List (Str × Addr)) (fp : List Addr), (X.blk s H scope (compEnvC scope cl C X.env) fp).env.scope.names.lookup y = some .local := by intros; rfl)
    (hsw : swapsWith (.ListComp elt [⟨.Name y tpos, iter, ifs, 0⟩] scope pos) (some (.Name z py)) spos.line X.env = pure true := by exact sw_true rfl rfl rfl rfl)
    (hs : ∀ x, foldedSetIterable iter X.env x = pure x := by intro _; rfl) : XSs X c ss (.Assign [.Name z py] (.ListComp elt [⟨.Name y tpos, iter, ifs, 0⟩] scope pos) spos :: rest) D := by
  have hib := (List.getElem?_eq_some_iff.mp hun).1
  have P := ps_setLc (i := k) (y := z) (py := py) (spos := spos) (pos := pos) (g := lcG X.K c ss [i] (fun x : α => ss.set i (.dat x))) (tt := lcT X.K c xs (fun i b => ∃ x, xs[i]? = some x ∧ b = g x) (fun x : α => ss.set i (.dat x)))
    (te := lcE X.K c xs (fun i b => ∃ x, xs[i]? = some x ∧ b = g x) (fun i w => ∃ x, xs[i]? = some x ∧ w = f x) (fun x : α => ss.set i (.dat x))) (own := [(y, i)]) hc hN hz hzl hsw hi (blkOk_by ok)
    (fun s H C cl fp => PG.all fun x => g_lc1 i hib hN hx (.inl (hl s H C cl fp)) (.inr (hl s H C cl fp)))
    (fun s H C cl fp => ⟨fun pins s' σ H' Q J ⟨i, x, hx, q⟩ => (ht s H C cl fp x (List.mem_of_getElem? hx)).run pins s' σ H' Q J ⟨q.1, fun b H2 a g p => q.2 b H2 a g ⟨x, hx, p⟩⟩⟩)
    (fun s H C cl fp => PE.all fun i => PE.all fun x => PE.all fun hx => PE.all fun (⟨x', hx', p⟩ : ∃ x, xs[i]? = some x ∧ true = g x) => (he s H C cl fp x (List.mem_of_getElem? hx) (by
      rw [hx] at hx'
      cases hx'
      exact p.symm)).wk fun σ H' Q q => ⟨q.1, fun v H2 a g ⟨z, hz, e⟩ => q.2 v H2 a g ⟨z, hz, x, hx, e⟩⟩) hs
  refine q_seq (N := fun s => s = ss.set k (.own ((xs.filter g).map f))) (P.wk fun De σ H q => ?_) fun s e => by
    rw [e]
    exact h
  refine lc_read (vs0 := [i]) (R := .own ((xs.filter g).map f)) (fun i zs => zs = ((xs.take i).filter g).map f) (fun i b => ∃ x, xs[i]? = some x ∧ b = g x) (fun i w => ∃ x, xs[i]? = some x ∧ w = f x) (fun x : α => ss.set i (.dat x)) (fun j hj => by
    obtain rfl := List.mem_singleton.mp hj
    exact hun) hsz (by rw [List.take_zero]; rfl) (fun i zs hi h ⟨x, hx, e⟩ => (given_step hx h).1 e.symm) (fun i zs z hi h ⟨x, hx, e⟩ ⟨x', hx', e'⟩ => by
      rw [hx] at hx'
      cases hx'
      rw [e']
      exact (given_step hx h).2 e.symm) (fun H H' v zs h ok => by
      have h : zs = ((xs.take xs.length).filter g).map f := h
      rw [List.take_length] at h
      rw [← h]
      exact ok) σ H _ ⟨q.1, fun v H1 a1 g1 ⟨p, vs, e1, n, hp, r⟩ => ?_⟩
  subst e1
  exact q.2.1 _ _ _ rfl (q.1.setOwn a1 n hp r hk)
end
end Ab

/-! AbN: x = [..] with draws over a drawn list. -/
namespace Ab
open PySem L2 LamX
open Ab.Rp (rp)
open Ab.Dt (toD)
section
variable {K : PySem.W.Frag} {c : Ctx} {ss : List AV} {α β : Type} [Rp α] [Rp β] {vs0 : List Nat}
/-- what a comprehension walks, drawn -/
def tIcN (K : PySem.W.Frag) (c : Ctx) (ss : List AV) {α : Type} [Rp α] (P0 : List α → Prop) : TI := fun σ H R => At K c ss σ H ∧ ∀ xs J H1 (pr : List Pr), P0 xs → At K c ss σ H1 → Gr c.w H H1 → (∀ q ∈ pr, ¬ c.w.S q.p ∧ ∃ vs, H1 q.p = some (.lst vs) ∧ Rps K H1 vs q.xs) → Wk K pr H1 J xs → R J H1
abbrev XIcN (X : Cx) (c : Ctx) (ss : List AV) (tg iter : Expr) {α : Type} [Rp α] (P0 : List α → Prop) : Prop := PI X tg iter (tIcN X.K c ss P0)
def lnT (K : PySem.W.Frag) (c : Ctx) (P0 : List α → Prop) (Pt : List α → Nat → Bool → Prop) (T : α → List AV) : TT := fun σ H Q => ∃ (xs : List α) (_ : P0 xs) (i : Nat) (x : α) (_ : xs[i]? = some x), tB K c (T x) (Pt xs i) σ H Q
def lnE (K : PySem.W.Frag) (c : Ctx) (P0 : List α → Prop) (Pt : List α → Nat → Bool → Prop) (Pe : List α → Nat → β → Prop) (T : α → List AV) : TE := fun σ H Q => ∃ (xs : List α) (_ : P0 xs) (i : Nat) (x : α) (_ : xs[i]? = some x) (_ : Pt xs i true), tX K c (T x) (.ex (Pe xs i)) σ H Q
theorem ln_read (P0 : List α → Prop) (P : List β → Prop) (I : List α → Nat → List β → Prop) (Pt : List α → Nat → Bool → Prop) (Pe : List α → Nat → β → Prop) (T : α → List AV) (hun : ∀ i ∈ vs0, ss[i]? = some .un) (hsz : ∀ xs, P0 xs → xs.length ≤ 100000)
    (h0 : ∀ xs, P0 xs → I xs 0 []) (h1 : ∀ xs i zs, P0 xs → i < xs.length → I xs i zs → Pt xs i false → I xs (i + 1) zs) (h2 : ∀ xs i zs z, P0 xs → i < xs.length → I xs i zs → Pt xs i true → Pe xs i z → I xs (i + 1) (zs ++ [z])) (hR : ∀ xs zs, P0 xs → I xs xs.length zs → P zs) :
    ∀ σ H Q, tXN K c ss P σ H Q → tLc (tIcN K c ss P0) (lcG K c ss vs0 T) (lnT K c P0 Pt T) (lnE K c P0 Pt Pe T) vs0 σ H Q := by
  refine fun σ H Q q => ⟨q.1, fun xs J H1 pr px a1 g1 src w L hL => ?_⟩
  have nS : ¬ c.w.S L := a1.notS (Nf.of hL)
  have w0 : At K c ss (L2.wipe σ vs0) H1 := a1.wipe hun
  have gd : ∀ {H' : Hp}, Gr c.w H1 H' → Gd K pr H1 H' := fun g => ⟨g.tu, fun z hz => by
    obtain ⟨n, vs, e, r⟩ := src z hz
    exact ⟨vs, g.all _ _ e n (fun ps e => by cases e), r.mono g.tu⟩⟩
  refine ⟨fun i m H' => m = xs.length - i ∧ i ≤ xs.length ∧ At K c ss (L2.wipe σ vs0) H' ∧ Gr c.w H1 H' ∧ ∃ acc zs, H' L = some (.lst acc) ∧ Rps K H' acc zs ∧ I xs i zs ∧ zs.length ≤ i,
    ⟨xs.length, rfl, Nat.zero_le _, w0.new hL, Gr.new hL, [], [], upd_same, .nil, h0 xs px, Nat.le_refl _⟩, ?_⟩
  rintro i m H' ⟨rfl, hi', a', g', acc, zs, hacc, hr, hI, hzl⟩
  by_cases hlt : i < xs.length
  · refine .inr ⟨w.go i H' (gd g') hlt, fun H2 => At K c ss (L2.wipe σ vs0) H2 ∧ Gr c.w H1 H2 ∧ ∃ acc zs, H2 L = some (.lst acc) ∧ Rps K H2 acc zs ∧ I xs (i + 1) zs ∧ zs.length ≤ i + 1,
      fun H2 ⟨a2, g2, k2⟩ => ⟨xs.length - (i + 1), by omega, rfl, hlt, a2, g2, k2⟩, fun x H2 y => ?_⟩
    obtain ⟨d, hd1, hd2, hH⟩ := w.yld i H' x H2 (gd g') hlt y
    have a2 : At K c ss (L2.wipe σ vs0) H2 ∧ Gr c.w H' H2 := by
      rcases hH with hH | ⟨T', vs, hT, hH⟩
      · rw [hH]
        exact ⟨a', Gr.refl _ _⟩
      · rw [hH]
        exact ⟨a'.new hT, Gr.new hT⟩
    have keep : ∀ {Ha Hb : Hp} {acc : List V}, Gr c.w Ha Hb → Ha L = some (.lst acc) → Hb L = some (.lst acc) := fun g e => g.all _ _ e nS fun ps z => by cases z
    refine ⟨d, a2.1, ⟨d, hd2, rfl⟩, fun σ3 a3 ew => ?_⟩
    have ew : L2.wipe σ3 vs0 = L2.wipe σ vs0 := by
      rw [ew, wipe_wipe]
    refine ⟨ew, xs, px, i, d, hd1, a3, fun b H3 a4 g4 pb => ?_⟩
    have base : At K c ss (L2.wipe σ vs0) H3 := a2.1.mono g4 a4.j
    cases b with
    | true =>
      refine ⟨xs, px, i, d, hd1, pb, a4, fun v H4 a5 g5 ⟨z, hz, pz⟩ => ?_⟩
      have g15 : Gr c.w H' H4 := (a2.2.trans g4).trans g5
      have hL4 : H4 L = some (.lst acc) := keep g15 hacc
      have base4 : At K c ss (L2.wipe σ vs0) H4 := base.mono g5 a5.j
      refine ⟨acc, hL4, by rw [hr.len]; exact Nat.lt_of_le_of_lt hzl (Nat.lt_of_lt_of_le hlt (Nat.le_trans (hsz xs px) (by decide))), w0.out (Nf.of hL) base4 hL4, (g'.trans g15).put (Nf.of hL) hL4, acc ++ [v], zs ++ [z], upd_same, ?_, h2 xs i zs z px hlt hI pb pz, by rw [List.length_append, List.length_singleton]; omega⟩
      exact ((hr.mono g15.tu).append (.one hz)).mono (Tu.put hL4)
    | false =>
      have g15 : Gr c.w H' H3 := a2.2.trans g4
      exact ⟨base, g'.trans g15, acc, zs, keep g15 hacc, hr.mono g15.tu, h1 xs i zs px hlt hI pb, by omega⟩
  · have hi2 : i = xs.length := by omega
    subst hi2
    refine .inl ⟨w.stop _ H' (gd g') (Nat.le_refl _), q.2 (.ref L) H' zs (a1.mono g' a'.j) (g1.trans g') (hR xs zs px hI) ⟨L, acc, rfl, g1.fresh (Nf.of hL), hacc, hr⟩⟩
end
section
variable {X : Cx} {c : Ctx} {ss : List AV} {D : AE} {iter elt e : Expr} {ifs : List Expr} {rest : List Stmt} {pos tpos spos py p : Pos} {α β : Type} [Rp α] [Rp β] {scope : Scope} {y z : Str}
theorem i_rangeN {P : Int → Prop} (hm : X.mg "range" = none) (h : XE X c ss e (.ex P)) (hn : ∀ n, P n → 0 ≤ n ∧ n ≤ 100000) (hg : Gl X "range" := by rfl) (hs : starEach [e] X.env = [(false, eval e X.env)] := by rfl) : XIcN X c ss tg (.Call (.Name "range" p) [e] [] pos) (fun xs : List Int => ∃ n, P n ∧ xs = upFrom 0 n.toNat) :=
  (pi_range1 hg hm (xa_cons h xa_nil hs) hs).wk fun σ H R q => ⟨q.1, fun vs H1 at1 g ok => by
    obtain ⟨v, rfl, m, hv, z⟩ := ok.one
    obtain rfl : v = V.int m := hv
    have := hn m z
    exact ⟨m, rfl, by omega, by omega, q.2 _ _ H1 [] ⟨m, z, rfl⟩ at1 g (fun z hz => absurd hz (by simp)) wk_rng⟩⟩
/-- z = [elt for y in iter]: as many drawn things as iter has -/
theorem q_lcN (k i : Nat) (P0 : List α → Prop) (Pe : β → Prop) (hi : XIcN X c ss (.Name y tpos) iter P0) (hsz : ∀ xs, P0 xs → xs.length ≤ 100000)
    (he : ∀ (s : Shared) (H : Hp) (C : Addr) (cl : List (Str × Addr)) (fp : List Addr) (x : α), PE (X.blk s H scope (compEnvC scope cl C X.env) fp) elt (tX X.K c (ss.set i (.dat x)) (.ex Pe)))
    (h : ∀ zs : List β, (∀ z ∈ zs, Pe z) → (∃ xs, P0 xs ∧ zs.length = xs.length) → XSs X c (ss.set k (.own zs)) rest D)
    (hk : k < ss.length := by exact Nat.le_of_ble_eq_true rfl) (hc : X.calm = true := by rfl) (hN : X.N.Nodup := by assumption) (ok : blkC X.N X.env.scope scope [(y, i)] = true := by rfl) (hun : ss[i]? = some .un := by rfl) (hx : X.N[i]? = some y := by rfl) (hz : X.N[k]? = some z := by rfl) (hzl : X.env.scope.names.lookup z = some .local := by rfl)
    (hl : ∀ (s : Shared) (H : Hp) (C : Addr) (cl : List (Str × Addr)) (fp : List Addr), (X.blk s H scope (compEnvC scope cl C X.env) fp).env.scope.names.lookup y = some .local := by intros; rfl)
    (hsw : swapsWith (.ListComp elt [⟨.Name y tpos, iter, [], 0⟩] scope pos) (some (.Name z py)) spos.line X.env = pure true := by exact sw_true rfl rfl rfl rfl)
    (hs : ∀ x, foldedSetIterable iter X.env x = pure x := by intro _; rfl) : XSs X c ss (.Assign [.Name z py] (.ListComp elt [⟨.Name y tpos, iter, [], 0⟩] scope pos) spos :: rest) D := by
  have hib := (List.getElem?_eq_some_iff.mp hun).1
  have P := ps_setLc (i := k) (y := z) (py := py) (spos := spos) (pos := pos) (g := lcG X.K c ss [i] (fun x : α => ss.set i (.dat x))) (tt := lnT X.K c P0 (fun _ _ b => b = true) (fun x : α => ss.set i (.dat x)))
    (te := lnE X.K c P0 (fun _ _ b => b = true) (fun _ _ w => Pe w) (fun x : α => ss.set i (.dat x))) (own := [(y, i)]) hc hN hz hzl hsw hi (blkOk_by ok)
    (fun s H C cl fp => PG.all fun x => g_lc1 i hib hN hx (.inl (hl s H C cl fp)) (.inr (hl s H C cl fp)))
    (fun s H C cl fp => pts_wk pts_nil fun σ H' Q ⟨xs, px, j, x, hx, q⟩ => q.2 true H' q.1 (Gr.refl _ _) rfl)
    (fun s H C cl fp => PE.all fun xs => PE.all fun px => PE.all fun j => PE.all fun x => PE.all fun hx => PE.all fun _ => he s H C cl fp x) hs
  refine q_seq (N := fun s => ∃ zs : List β, ((∀ z ∈ zs, Pe z) ∧ ∃ xs, P0 xs ∧ zs.length = xs.length) ∧ s = ss.set k (.own zs)) (P.wk fun De σ H q => ?_) fun s ⟨zs, hp, e⟩ => by
    rw [e]
    exact h zs hp.1 hp.2
  refine ln_read (vs0 := [i]) P0 (fun zs : List β => (∀ z ∈ zs, Pe z) ∧ ∃ xs, P0 xs ∧ zs.length = xs.length) (fun xs j zs => (∀ z ∈ zs, Pe z) ∧ zs.length = j) (fun _ _ b => b = true) (fun _ _ w => Pe w) (fun x : α => ss.set i (.dat x)) (fun j hj => by
    obtain rfl := List.mem_singleton.mp hj
    exact hun) hsz (fun xs px => ⟨fun z hz => absurd hz List.not_mem_nil, rfl⟩) (fun xs j zs px hj hI hb => by cases hb) (fun xs j zs z px hj hI _ hz => ⟨fun w hw => (List.mem_append.mp hw).elim (hI.1 w) (fun e => by rw [List.mem_singleton.mp e]; exact hz), by rw [List.length_append, hI.2]; rfl⟩) (fun xs zs px hI => ⟨hI.1, xs, px, hI.2⟩) σ H _ ⟨q.1, fun v H1 zs a1 g1 pz ⟨p, vs, e1, n, hp, r⟩ => ?_⟩
  subst e1
  exact q.2.1 _ _ _ ⟨zs, pz, rfl⟩ (q.1.setOwn a1 n hp r hk)
end
end Ab

/-! M6: the law's own sinking, its sizes. -/
namespace SM
open Ab L2
open Ab.Rp (rp)
open Ab.Dt (toD)
def PairOk (p : Int × Int) : Prop := Ok (asRope p)
theorem pS_bounds : ∀ {ps : List (Int × Int)}, (∀ p ∈ ps, PairOk p) → (ps.length : Int) ≤ pS ps ∧ pS ps ≤ 1000 * (ps.length : Int)
  | [], _ => ⟨Int.le_refl _, Int.le_refl _⟩
  | p :: ps, h => by
    have ih := pS_bounds fun q hq => h q (List.mem_cons_of_mem _ hq)
    obtain ⟨_, _, h3, h4, _⟩ := h p (List.mem_cons_self ..)
    have h3 : 1 ≤ p.2 := h3
    have h4 : p.2 ≤ 1000 := h4
    unfold pS at ih ⊢
    rw [List.map_cons, List.sum_cons, List.length_cons]
    omega
theorem pD_bounds : ∀ {ps : List (Int × Int)}, (∀ p ∈ ps, PairOk p) → 0 ≤ pD ps ∧ pD ps ≤ 10000000 * (ps.length : Int)
  | [], _ => ⟨Int.le_refl _, Int.le_refl _⟩
  | p :: ps, h => by
    have ih := pD_bounds fun q hq => h q (List.mem_cons_of_mem _ hq)
    obtain ⟨h1, h2, h3, h4, _⟩ := h p (List.mem_cons_self ..)
    have h1 : 0 ≤ p.1 := h1
    have h2 : p.1 ≤ 10000 := h2
    have h3 : 1 ≤ p.2 := h3
    have h4 : p.2 ≤ 1000 := h4
    obtain ⟨m1, m2⟩ := mul_in (a := p.1) (b := p.2) (m := 10000) (k := 1000) h1 h2 (by omega) h4
    unfold pD at ih ⊢
    rw [List.map_cons, List.sum_cons, List.length_cons]
    omega
theorem take_pok {ps : List (Int × Int)} (h : ∀ p ∈ ps, PairOk p) (n : Nat) : ∀ p ∈ ps.take n, PairOk p := fun p hp => h p (List.mem_of_mem_take hp)
theorem rows_ok {rs : List Rope} (h : ∀ r ∈ rs, Ok r) : ∀ p ∈ srt (rs.map ofRope), PairOk p := fun p hp => by
  obtain ⟨r, hr, e⟩ := List.mem_map.mp ((srt_perm _).mem_iff.mp hp)
  rw [← e]
  exact ok_of (h r hr)
theorem rows_len (rs : List Rope) : (srt (rs.map ofRope)).length = rs.length := by rw [srt_len, List.length_map]
theorem lsTo_yes {l : Rat} {ps : List (Int × Int)} {j : Nat} {p : Int × Int} (hj : ps[j]? = some p) (hu : under (asRope p) (lsTo l ps j) = true) : lsTo l ps (j + 1) = some ((l + (pD (ps.take (j + 1)) : Rat)) / (pS (ps.take (j + 1)) : Rat)) := by
  rw [lsTo_succ]
  unfold lsStep
  rw [hj]
  exact if_pos hu
theorem lsTo_not {l : Rat} {ps : List (Int × Int)} {j : Nat} {p : Int × Int} (hj : ps[j]? = some p) (hu : under (asRope p) (lsTo l ps j) = false) : lsTo l ps (j + 1) = lsTo l ps j := by
  rw [lsTo_succ]
  unfold lsStep
  rw [hj]
  exact if_neg (by rw [hu]; decide)
theorem lsTo_end {l : Rat} {ps : List (Int × Int)} {j : Nat} (hj : ps[j]? = none) : lsTo l ps (j + 1) = lsTo l ps j := by
  rw [lsTo_succ]
  unfold lsStep
  rw [hj]
theorem ls_sz {ps : List (Int × Int)} {l : Rat} {n : Nat} (h : ∀ p ∈ ps, PairOk p) (hl : Sz n l) (hz : ps.length ≤ 1000) : ∀ j q, lsTo l ps j = some q → Sz (n + 41) q
  | 0, q, z => by cases z
  | j + 1, q, z => by
    cases hj : ps[j]? with
    | none =>
      rw [lsTo_end hj] at z
      exact ls_sz h hl hz j q z
    | some p =>
      cases hu : under (asRope p) (lsTo l ps j) with
      | true =>
        rw [lsTo_yes hj hu] at z
        obtain rfl := Option.some.inj z
        have hj2 : j < ps.length := (List.getElem?_eq_some_iff.mp hj).1
        have hlen : (ps.take (j + 1)).length = j + 1 := by rw [List.length_take]; omega
        have b1 := pS_bounds (take_pok h (j + 1))
        have b2 := pD_bounds (take_pok h (j + 1))
        rw [hlen] at b1 b2
        exact sz_sunk hl (by omega) (by omega) (by omega)
      | false =>
        rw [lsTo_not hj hu] at z
        exact ls_sz h hl hz j q z
theorem lawSunk_end {rs : List Rope} {l : Rat} (h : ¬ l.num = 0) : lsTo l (srt (rs.map ofRope)) (srt (rs.map ofRope)).length = lawSunk rs l := by
  unfold lawSunk
  rw [if_neg (fun z => h (by rw [z]; rfl))]
theorem lawSunk_zero {rs : List Rope} {l : Rat} (h : l.num = 0) : some 0 = lawSunk rs l := by
  unfold lawSunk
  rw [if_pos (num_zero h)]
theorem last_take {α : Type} {ps : List α} {j : Nat} {p : α} (h : ps[j]? = some p) : atI (ps.take (j + 1)) (-1) = some p := by
  have hj := (List.getElem?_eq_some_iff.mp h).1
  have hl : (ps.take (j + 1)).length = j + 1 := by rw [List.length_take]; omega
  unfold atI ixN
  rw [hl, if_neg (by omega), if_pos (by omega)]
  show (ps.take (j + 1))[(-1 + ((j + 1 : Nat) : Int)).toNat]? = _
  rw [show (-1 + ((j + 1 : Nat) : Int)).toNat = j by omega, List.getElem?_take, if_pos (by omega)]
  exact h
theorem max_pull (r : Rope) (u : Rat) (hs : 1 ≤ r.stiff) : ((max 0 (r.stiff * (u.num - r.slack * (u.den : Int))) : Int) : Rat) / ((u.den : Int) : Rat) = pullR r u := by
  by_cases h : 0 < u.num - r.slack * (u.den : Int)
  · have := Int.mul_pos (show (0 : Int) < r.stiff by omega) h
    rw [Int.max_eq_right (by omega), pull_pos h]
  · have := Int.mul_nonneg (show (0 : Int) ≤ r.stiff by omega) (show 0 ≤ -(u.num - r.slack * (u.den : Int)) by omega)
    rw [Int.mul_neg] at this
    rw [Int.max_eq_left (by omega), ← pull_not h]
    have := den_ne u
    grind
end SM

/-! M7: totals at sinkings. -/
namespace SM
open Ab L2
open Ab.Rp (rp)
open Ab.Dt (toD)
theorem pull_zero {r : Rope} (h : Ok r) : pullR r 0 = 0 := by
  unfold pullR
  have : (0 : Rat) ≤ (r.slack : Rat) := Rat.intCast_nonneg.mpr h.1
  rw [if_neg (by grind)]
theorem total_zero {rs : List Rope} (h : ∀ r ∈ rs, Ok r) : total rs 0 = 0 := by
  induction rs with
  | nil => rfl
  | cons r rs ih =>
    rw [total_cons, pull_zero (h r (List.mem_cons_self ..)), ih fun q hq => h q (List.mem_cons_of_mem _ hq)]
    grind
theorem sunk_total {rs : List Rope} {l u : Rat} (ho : ∀ r ∈ rs, Ok r) (hl : 0 ≤ l) (h : sunkBy rs l = some u) : total rs u = l := by
  by_cases h0 : l = 0
  · subst h0
    rw [sunkBy_zero] at h
    obtain rfl := Option.some.inj h
    exact total_zero ho
  · have hp : 0 < l := by grind
    by_cases hn : rs = []
    · subst hn
      rw [sunkBy_nil hp] at h
      cases h
    · obtain ⟨v, h1, h2⟩ := sunkBy_spec ho hn hp
      rw [h] at h1
      obtain rfl := Option.some.inj h1
      exact h2
theorem sz_sum : ∀ {qs : List Rat} {n : Nat}, (∀ q ∈ qs, Sz n q) → Sz ((n + 1) * qs.length + 1) qs.sum
  | [], n, _ => ⟨by show (0 : Nat) < _; exact Nat.pos_of_ne_zero (by simp), by show (1 : Nat) < _; exact Nat.one_lt_pow (by omega) (by decide)⟩
  | q :: qs, n, h => by
    rw [List.sum_cons, List.length_cons]
    exact (sz_add (h q (List.mem_cons_self ..)) (sz_sum fun z hz => h z (List.mem_cons_of_mem _ hz))).mono (by rw [Nat.mul_add]; omega)
theorem sum_take_succ {qs : List Rat} {i : Nat} {q : Rat} (h : qs[i]? = some q) : (qs.take (i + 1)).sum = (qs.take i).sum + q := by
  rw [List.take_add_one, h]
  generalize qs.take i = ys
  induction ys with
  | nil => show q + 0 = 0 + q; grind
  | cons y ys ih => rw [List.cons_append, List.sum_cons, List.sum_cons, ih]; grind
end SM

/-! M8: waves. -/
namespace SM
open Ab L2
open Ab.Rp (rp)
open Ab.Dt (toD)
open PySem (Str)
open Ab.Rp (rp)
open Ab.Dt (toD)
def left (rs : List Rope) (ns : List Str) : List Rope := rs.filter fun r => !decide (r.name ∈ ns)
theorem left_ok {rs : List Rope} {ns : List Str} (h : ∀ r ∈ rs, Ok r) : ∀ r ∈ left rs ns, Ok r := fun r hr => h r (List.mem_filter.mp hr).1
theorem left_len (rs : List Rope) (ns : List Str) : (left rs ns).length ≤ rs.length := List.length_filter_le ..
theorem left_app (rs : List Rope) (ns w : List Str) : left rs (ns ++ w) = (left rs ns).filter fun r => !decide (r.name ∈ w) := by
  unfold left
  rw [List.filter_filter]
  congr 1
  funext r
  by_cases h1 : r.name ∈ ns
  · by_cases h2 : r.name ∈ w <;> simp [h1, h2]
  · by_cases h2 : r.name ∈ w <;> simp [h1, h2]
def gives (u : Rat) (r : Rope) : Bool := decide ((r.strong : Rat) < pullR r u)
def wave (rs : List Rope) (ns : List Str) (l : Rat) : List Str := match sunkBy (left rs ns) l with
  | none => []
  | some u => ((left rs ns).filter (gives u)).map Rope.name
theorem wave_some {rs : List Rope} {ns : List Str} {l u : Rat} (h : sunkBy (left rs ns) l = some u) : wave rs ns l = ((left rs ns).filter (gives u)).map Rope.name := by unfold wave; rw [h]
theorem wave_none {rs : List Rope} {ns : List Str} {l : Rat} (h : sunkBy (left rs ns) l = none) : wave rs ns l = [] := by unfold wave; rw [h]
theorem wave_mem {rs : List Rope} {ns : List Str} {l : Rat} {n : Str} (h : n ∈ wave rs ns l) : ∃ r ∈ left rs ns, r.name = n := by
  cases hs : sunkBy (left rs ns) l with
  | none => rw [wave_none hs] at h; cases h
  | some u =>
    rw [wave_some hs] at h
    obtain ⟨r, hr, e⟩ := List.mem_map.mp h
    exact ⟨r, (List.mem_filter.mp hr).1, e⟩
theorem wave_empty {rs : List Rope} {ns : List Str} {l : Rat} (h : left rs ns = []) : wave rs ns l = [] := by
  cases hw : wave rs ns l with
  | nil => rfl
  | cons n w =>
    obtain ⟨r, hr, _⟩ := wave_mem (show n ∈ wave rs ns l by rw [hw]; exact List.mem_cons_self ..)
    rw [h] at hr
    cases hr
theorem filter_two {α : Type} (xs : List α) (p q : α → Bool) (h : ∀ x ∈ xs, p x = true → q x = false) : (xs.filter q).length + (xs.filter p).length ≤ xs.length := by
  induction xs with
  | nil => exact Nat.le_refl _
  | cons x xs ih =>
    have ih := ih fun y hy => h y (List.mem_cons_of_mem _ hy)
    have hx := h x (List.mem_cons_self ..)
    cases hp : p x with
    | true =>
      rw [List.filter_cons_of_pos hp, List.filter_cons_of_neg (by rw [hx hp]; decide), List.length_cons, List.length_cons]
      omega
    | false =>
      rw [List.filter_cons_of_neg (a := x) (p := p) (by rw [hp]; decide)]
      cases hq : q x with
      | true => rw [List.filter_cons_of_pos hq, List.length_cons, List.length_cons]; omega
      | false => rw [List.filter_cons_of_neg (by rw [hq]; decide), List.length_cons]; omega
theorem wave_len (rs : List Rope) (ns : List Str) (l : Rat) : (left rs (ns ++ wave rs ns l)).length + (wave rs ns l).length ≤ (left rs ns).length := by
  rw [left_app]
  cases hs : sunkBy (left rs ns) l with
  | none =>
    rw [wave_none hs]
    exact Nat.add_le_add_right (List.length_filter_le ..) 0
  | some u =>
    rw [wave_some hs, List.length_map]
    exact filter_two _ _ _ fun r hr hg => by
      have : r.name ∈ ((left rs ns).filter (gives u)).map Rope.name := List.mem_map.mpr ⟨r, List.mem_filter.mpr ⟨hr, hg⟩, rfl⟩
      rw [decide_eq_true this]
      rfl
theorem wave_less {rs : List Rope} {ns : List Str} {l : Rat} (h : wave rs ns l ≠ []) : (left rs (ns ++ wave rs ns l)).length < (left rs ns).length := by
  have := wave_len rs ns l
  have := List.length_pos_iff.mpr h
  omega
/-- all waves from ns on; the broken ones at the end -/
def fin (rs : List Rope) (ns : List Str) (l : Rat) : List (List Str) × List Str :=
  if h : wave rs ns l = [] then ([], ns) else (wave rs ns l :: (fin rs (ns ++ wave rs ns l) l).1, (fin rs (ns ++ wave rs ns l) l).2)
termination_by (left rs ns).length
decreasing_by all_goals exact wave_less h
theorem fin_end {rs : List Rope} {ns : List Str} {l : Rat} (h : wave rs ns l = []) : fin rs ns l = ([], ns) := by
  rw [fin, dif_pos h]
theorem fin_step {rs : List Rope} {ns : List Str} {l : Rat} (h : wave rs ns l ≠ []) : fin rs ns l = (wave rs ns l :: (fin rs (ns ++ wave rs ns l) l).1, (fin rs (ns ++ wave rs ns l) l).2) := by
  rw [fin, dif_neg h]
/-- induction along the waves -/
theorem fin_ind {rs : List Rope} {l : Rat} {p : List Str → Prop} (h0 : ∀ ns, wave rs ns l = [] → p ns) (h1 : ∀ ns, wave rs ns l ≠ [] → p (ns ++ wave rs ns l) → p ns) (ns : List Str) : p ns := by
  generalize hm : (left rs ns).length = m
  induction m using Nat.strongRecOn generalizing ns with
  | _ m ih =>
    by_cases h : wave rs ns l = []
    · exact h0 ns h
    · exact h1 ns h (ih _ (by rw [← hm]; exact wave_less h) _ rfl)
theorem fin_flat (rs : List Rope) (ns : List Str) (l : Rat) : (fin rs ns l).2 = ns ++ (fin rs ns l).1.flatten := by
  refine fin_ind (rs := rs) (l := l) (p := fun ns => (fin rs ns l).2 = ns ++ (fin rs ns l).1.flatten) (fun ns h => ?_) (fun ns h ih => ?_) ns
  · rw [fin_end h]
    exact (List.append_nil _).symm
  · rw [fin_step h]
    show (fin rs (ns ++ wave rs ns l) l).2 = ns ++ (wave rs ns l :: (fin rs (ns ++ wave rs ns l) l).1).flatten
    rw [ih, List.flatten_cons, List.append_assoc]
theorem fin_len (rs : List Rope) (ns : List Str) (l : Rat) : (fin rs ns l).1.length ≤ (left rs ns).length ∧ (fin rs ns l).2.length ≤ ns.length + (left rs ns).length := by
  refine fin_ind (rs := rs) (l := l) (p := fun ns => (fin rs ns l).1.length ≤ (left rs ns).length ∧ (fin rs ns l).2.length ≤ ns.length + (left rs ns).length) (fun ns h => ?_) (fun ns h ih => ?_) ns
  · rw [fin_end h]
    exact ⟨Nat.zero_le _, Nat.le_add_right ..⟩
  · rw [fin_step h]
    have h1 := wave_less h
    have h2 := wave_len rs ns l
    rw [List.length_append] at ih
    refine ⟨by rw [List.length_cons]; omega, by show (fin rs (ns ++ wave rs ns l) l).2.length ≤ _; omega⟩
theorem fin_mem {rs : List Rope} {l : Rat} {n : Str} (ns : List Str) : n ∈ (fin rs ns l).2 → n ∈ ns ∨ ∃ r ∈ rs, r.name = n := by
  refine fin_ind (rs := rs) (l := l) (p := fun ns => n ∈ (fin rs ns l).2 → n ∈ ns ∨ ∃ r ∈ rs, r.name = n) (fun ns h z => ?_) (fun ns h ih z => ?_) ns
  · rw [fin_end h] at z
    exact .inl z
  · rw [fin_step h] at z
    rcases ih z with z | z
    · rcases List.mem_append.mp z with z | z
      · exact .inl z
      · obtain ⟨r, hr, e⟩ := wave_mem z
        exact .inr ⟨r, (List.mem_filter.mp hr).1, e⟩
    · exact .inr z
def brokenBy (rs : List Rope) (ns : List Str) (l : Rat) : List Str := srt (fin rs ns l).2
theorem brokenBy_len (rs : List Rope) (ns : List Str) (l : Rat) : (brokenBy rs ns l).length ≤ ns.length + rs.length := by
  unfold brokenBy
  rw [srt_len]
  have := fin_len rs ns l
  have := left_len rs ns
  omega
theorem sunk_some {rs : List Rope} {l : Rat} (ho : ∀ r ∈ rs, Ok r) (hn : rs ≠ []) (hl : 0 ≤ l) : ∃ u, sunkBy rs l = some u := by
  by_cases h0 : l = 0
  · exact ⟨0, by rw [h0]; exact sunkBy_zero rs⟩
  · obtain ⟨u, h, _⟩ := sunkBy_spec ho hn (show 0 < l by grind)
    exact ⟨u, h⟩
end SM

/-! M9: ends, marks. -/
namespace SM
open Ab L2
open Ab.Rp (rp)
open Ab.Dt (toD)
open PySem (Str)
open Ab.Rp (rp)
open Ab.Dt (toD)
def endR (r : Rope) : Rat := ((r.slack * r.stiff + r.strong : Int) : Rat) / ((r.stiff : Int) : Rat)
theorem sz_end {r : Rope} (h : Ok r) : Sz 40 (endR r) := by
  have ⟨h1, h2, h3, h4, h5, h6⟩ := h
  obtain ⟨m1, m2⟩ := mul_in h1 h2 (show 0 ≤ r.stiff by omega) h4
  exact sz_div (by omega) (by omega) (by omega)
theorem end_eq {r : Rope} (h : Ok r) : endR r = (r.slack : Rat) + (r.strong : Rat) / (r.stiff : Rat) := by
  unfold endR
  have hs := stiff_pos h
  rw [Rat.intCast_add, Rat.intCast_mul]
  have : (r.stiff : Rat) ≠ 0 := by grind
  grind
def nearR : Rat := 1 / 1000000000000000000000000
theorem nearR_num : nearR.num = 1 := by decide +kernel
theorem nearR_den : (nearR.den : Int) = 1000000000000000000000000 := by decide +kernel
theorem sz_near : Sz 100 nearR := ⟨by rw [nearR_num]; decide, by have := nearR_den; have h : nearR.den = 1000000000000000000000000 := by omega
                                                                 rw [h]; decide⟩
theorem near_pos : 0 < nearR := by decide +kernel
def part (e : Rat) (o : Rope) : Rat := if endR o < e then 0 else pullR o e
def markR (rs : List Rope) (r : Rope) : Rat := (rs.map (part (endR r))).sum
theorem sz_part {o : Rope} {e : Rat} (h : Ok o) (he : Sz 40 e) : Sz 70 (part e o) := by
  unfold part
  split
  · exact sz_zero (by decide)
  · exact (sz_pull h he).mono (by decide)
theorem sz_partsum {rs : List Rope} {e : Rat} (h : ∀ r ∈ rs, Ok r) (he : Sz 40 e) (hz : rs.length ≤ 30) (i : Nat) : Sz 2200 (((rs.map (part e)).take i).sum) :=
  (sz_sum (n := 70) fun q hq => by
    obtain ⟨o, ho, rfl⟩ := List.mem_map.mp (List.mem_of_mem_take hq)
    exact sz_part (h o ho) he).mono (by rw [List.length_take, List.length_map]; omega)
theorem sum_nonneg : ∀ {qs : List Rat}, (∀ q ∈ qs, 0 ≤ q) → 0 ≤ qs.sum
  | [], _ => Rat.le_refl
  | q :: qs, h => by
    rw [List.sum_cons]
    have h1 := h q (List.mem_cons_self ..)
    have h2 := sum_nonneg fun z hz => h z (List.mem_cons_of_mem _ hz)
    grind
theorem mark_ok {rs : List Rope} (h : ∀ r ∈ rs, Ok r) (hz : rs.length ≤ 30) {r : Rope} (hr : Ok r) : 0 ≤ markR rs r ∧ Sz 2200 (markR rs r) := by
  refine ⟨sum_nonneg fun q hq => ?_, ?_⟩
  · obtain ⟨o, ho, rfl⟩ := List.mem_map.mp hq
    unfold part
    split
    · exact Rat.le_refl
    · exact pull_nonneg (h o ho) _
  · have := sz_partsum h (sz_end hr) hz (rs.map (part (endR r))).length
    rw [List.take_length] at this
    exact this
end SM

/-! M10: whatever order: one set of broken ropes. -/
namespace SM
open Ab L2
open Ab.Rp (rp)
open Ab.Dt (toD)
open PySem (Str)
open Ab.Rp (rp)
open Ab.Dt (toD)
theorem total_filter_le {rs : List Rope} (h : ∀ r ∈ rs, Ok r) (p : Rope → Bool) (u : Rat) : total (rs.filter p) u ≤ total rs u := by
  induction rs with
  | nil => exact Rat.le_refl
  | cons r rs ih =>
    have ih := ih fun q hq => h q (List.mem_cons_of_mem _ hq)
    have hr := pull_nonneg (h r (List.mem_cons_self ..)) u
    cases hp : p r with
    | true =>
      rw [List.filter_cons_of_pos hp, total_cons, total_cons]
      grind
    | false =>
      rw [List.filter_cons_of_neg (by rw [hp]; decide), total_cons]
      grind
theorem left_sub {rs : List Rope} {B S : List Str} (h : ∀ n ∈ B, n ∈ S) : left rs S = (left rs B).filter fun r => !decide (r.name ∈ S) := by
  unfold left
  rw [List.filter_filter]
  apply List.filter_congr
  intro r _
  by_cases h1 : r.name ∈ S
  · simp [h1]
  · have : r.name ∉ B := fun z => h1 (h _ z)
    simp [h1, this]
theorem mem_left {rs : List Rope} {ns : List Str} {r : Rope} : r ∈ left rs ns ↔ r ∈ rs ∧ r.name ∉ ns := by
  unfold left
  rw [List.mem_filter]
  simp
/-- with fewer ropes, or with more load, the sinking is no less -/
theorem sunk_mono {rs : List Rope} (ho : ∀ r ∈ rs, Ok r) {p : Rope → Bool} {l l' u v : Rat} (h0 : 0 ≤ l) (hl : l ≤ l') (h1 : sunkBy rs l = some u) (h2 : sunkBy (rs.filter p) l' = some v) : u ≤ v := by
  have ho' : ∀ r ∈ rs.filter p, Ok r := fun r hr => ho r (List.mem_filter.mp hr).1
  have t1 := sunk_total ho h0 h1
  have t2 := sunk_total ho' (by grind) h2
  by_cases hz : l = 0
  · subst hz
    rw [sunkBy_zero] at h1
    obtain rfl := Option.some.inj h1
    by_cases hz' : l' = 0
    · subst hz'
      rw [sunkBy_zero] at h2
      obtain rfl := Option.some.inj h2
      exact Rat.le_refl
    · apply Classical.byContradiction
      intro hv
      have hv : v < 0 := by grind
      have hm := total_mono ho' (show v ≤ 0 by grind)
      rw [total_zero ho', t2] at hm
      grind
  · apply Classical.byContradiction
    intro hv
    have hv : v < u := by grind
    have hle := total_filter_le ho p v
    rw [t2] at hle
    have := total_strict ho hv (by grind)
    grind
theorem gives_mono {r : Rope} (h : Ok r) {u v : Rat} (huv : u ≤ v) (hg : gives u r = true) : gives v r = true := by
  unfold gives at hg ⊢
  have := of_decide_eq_true hg
  have hp := pull_mono h huv
  exact decide_eq_true (by grind)
/-- nothing more gives way -/
def Stab (rs : List Rope) (S : List Str) (l : Rat) : Prop := ∀ u, sunkBy (left rs S) l = some u → ∀ r ∈ left rs S, gives u r = false
theorem wave_stab {rs : List Rope} {S : List Str} {l : Rat} (h : wave rs S l = []) : Stab rs S l := fun u hu r hr => by
  rw [wave_some hu] at h
  cases hg : gives u r with
  | false => rfl
  | true =>
    have : r.name ∈ ((left rs S).filter (gives u)).map Rope.name := List.mem_map.mpr ⟨r, List.mem_filter.mpr ⟨hr, hg⟩, rfl⟩
    rw [h] at this
    cases this
theorem stab_wave {rs : List Rope} {S : List Str} {l : Rat} (h : Stab rs S l) : wave rs S l = [] := by
  cases hs : sunkBy (left rs S) l with
  | none => exact wave_none hs
  | some u =>
    rw [wave_some hs, List.filter_eq_nil_iff.mpr fun r hr => by rw [h u hs r hr]; decide]
    rfl
/-- what gives way at B is broken in every stable S that holds B -/
theorem gives_in {rs : List Rope} (ho : ∀ r ∈ rs, Ok r) {B S : List Str} {l l' : Rat} (h0 : 0 ≤ l) (hl : l ≤ l') (hs : Stab rs S l') (hB : ∀ n ∈ B, n ∈ S) {u : Rat} (hu : sunkBy (left rs B) l = some u) {r : Rope} (hr : r ∈ left rs B) (hg : gives u r = true) : r.name ∈ S := by
  apply Classical.byContradiction
  intro hn
  have hrS : r ∈ left rs S := mem_left.mpr ⟨(mem_left.mp hr).1, hn⟩
  obtain ⟨v, hv⟩ := sunk_some (left_ok (ns := S) ho) (fun e => by rw [e] at hrS; cases hrS) (show 0 ≤ l' by grind)
  have hv' := hv
  rw [left_sub hB] at hv'
  have := gives_mono (left_ok ho r hr) (sunk_mono (left_ok ho) h0 hl hu hv') hg
  rw [hs v hv r hrS] at this
  cases this
theorem wave_in {rs : List Rope} (ho : ∀ r ∈ rs, Ok r) {B S : List Str} {l l' : Rat} (h0 : 0 ≤ l) (hl : l ≤ l') (hs : Stab rs S l') (hB : ∀ n ∈ B, n ∈ S) : ∀ n ∈ wave rs B l, n ∈ S := fun n hn => by
  cases hu : sunkBy (left rs B) l with
  | none => rw [wave_none hu] at hn; cases hn
  | some u =>
    rw [wave_some hu] at hn
    obtain ⟨r, hr, e⟩ := List.mem_map.mp hn
    rw [← e]
    exact gives_in ho h0 hl hs hB hu (List.mem_filter.mp hr).1 (List.mem_filter.mp hr).2
theorem fin_in {rs : List Rope} (ho : ∀ r ∈ rs, Ok r) {S : List Str} {l l' : Rat} (h0 : 0 ≤ l) (hl : l ≤ l') (hs : Stab rs S l') (B : List Str) : (∀ n ∈ B, n ∈ S) → ∀ n ∈ (fin rs B l).2, n ∈ S := by
  refine fin_ind (rs := rs) (l := l) (p := fun B => (∀ n ∈ B, n ∈ S) → ∀ n ∈ (fin rs B l).2, n ∈ S) (fun ns h hB n hn => ?_) (fun ns h ih hB n hn => ?_) B
  · rw [fin_end h] at hn
    exact hB n hn
  · rw [fin_step h] at hn
    refine ih (fun m hm => ?_) n hn
    rcases List.mem_append.mp hm with hm | hm
    · exact hB m hm
    · exact wave_in ho h0 hl hs hB m hm
theorem fin_stab (rs : List Rope) (l : Rat) (B : List Str) : Stab rs (fin rs B l).2 l := by
  refine fin_ind (rs := rs) (l := l) (p := fun B => Stab rs (fin rs B l).2 l) (fun ns h => ?_) (fun ns h ih => ?_) B
  · rw [fin_end h]
    exact wave_stab h
  · rw [fin_step h]
    exact ih
theorem fin_sup {rs : List Rope} {l : Rat} {B : List Str} : ∀ n ∈ B, n ∈ (fin rs B l).2 := fun n hn => by
  rw [fin_flat]
  exact List.mem_append_left _ hn
theorem left_congr {rs : List Rope} {S S' : List Str} (h : ∀ n, n ∈ S ↔ n ∈ S') : left rs S = left rs S' := by
  unfold left
  apply List.filter_congr
  intro r _
  rw [decide_eq_decide.mpr (h r.name)]
theorem stab_congr {rs : List Rope} {S S' : List Str} {l : Rat} (h : ∀ n, n ∈ S ↔ n ∈ S') (s : Stab rs S l) : Stab rs S' l := by
  unfold Stab
  rw [← left_congr h]
  exact s
theorem mem_broken {rs : List Rope} {ns : List Str} {l : Rat} {n : Str} : n ∈ brokenBy rs ns l ↔ n ∈ (fin rs ns l).2 := (srt_perm _).mem_iff
theorem broken_stab (rs : List Rope) (ns : List Str) (l : Rat) : Stab rs (brokenBy rs ns l) l := stab_congr (fun n => mem_broken.symm) (fin_stab rs l ns)
theorem broken_sup {rs : List Rope} {ns : List Str} {l : Rat} : ∀ n ∈ ns, n ∈ brokenBy rs ns l := fun n hn => mem_broken.mpr (fin_sup n hn)
theorem broken_in {rs : List Rope} (ho : ∀ r ∈ rs, Ok r) {S B : List Str} {l l' : Rat} (h0 : 0 ≤ l) (hl : l ≤ l') (hs : Stab rs S l') (hB : ∀ n ∈ B, n ∈ S) : ∀ n ∈ brokenBy rs B l, n ∈ S := fun n hn => fin_in ho h0 hl hs B hB n (mem_broken.mp hn)
/-- stable at a load: stable at every lesser one -/
theorem stab_less {rs : List Rope} (ho : ∀ r ∈ rs, Ok r) {S : List Str} {l l' : Rat} (h0 : 0 ≤ l) (hl : l ≤ l') (hs : Stab rs S l') : Stab rs S l := fun u hu r hr => by
  cases hg : gives u r with
  | false => rfl
  | true => exact absurd (gives_in ho h0 hl hs (fun n hn => hn) hu hr hg) (mem_left.mp hr).2
/-- two lots with the same members, each without doubles -/
theorem str_antisymm {a b : Str} (h1 : a.cps.toList ≤ b.cps.toList) (h2 : b.cps.toList ≤ a.cps.toList) : a = b := by
  have h := List.le_antisymm h1 h2
  cases a
  cases b
  congr
  exact Array.toList_inj.mp h
end SM

/-! M11: the told lots are alike as lists. -/
namespace SM
open Ab L2
open Ab.Rp (rp)
open Ab.Dt (toD)
open PySem (Str)
open Ab.Rp (rp)
open Ab.Dt (toD)
def sle (p q : Str) : Bool := decide (p.cps.toList ≤ q.cps.toList)
theorem sle_trans (a b c : Str) (h1 : sle a b = true) (h2 : sle b c = true) : sle a c = true := decide_eq_true (List.le_trans (of_decide_eq_true h1) (of_decide_eq_true h2))
theorem sle_total (a b : Str) : (sle a b || sle b a) = true := by
  rcases List.le_total a.cps.toList b.cps.toList with h | h
  · rw [show sle a b = true from decide_eq_true h]; rfl
  · rw [show sle b a = true from decide_eq_true h, Bool.or_true]
theorem srt_sorted (xs : List Str) : (srt xs).Pairwise fun a b => sle a b = true := by
  rw [srt_str]
  exact List.pairwise_mergeSort sle_trans sle_total xs
theorem srt_eq_of_perm {xs ys : List Str} (h : xs.Perm ys) : srt xs = srt ys :=
  List.Perm.eq_of_pairwise (le := fun a b => sle a b = true) (fun a b _ _ h1 h2 => str_antisymm (of_decide_eq_true h1) (of_decide_eq_true h2)) (srt_sorted xs) (srt_sorted ys) ((srt_perm xs).trans (h.trans (srt_perm ys).symm))
theorem srt_eq_of_mem {xs ys : List Str} (h1 : xs.Nodup) (h2 : ys.Nodup) (h : ∀ n, n ∈ xs ↔ n ∈ ys) : srt xs = srt ys := srt_eq_of_perm ((List.perm_ext_iff_of_nodup h1 h2).mpr h)
theorem nodup_names {rs : List Rope} (h : (rs.map Rope.name).Nodup) (p : Rope → Bool) : ((rs.filter p).map Rope.name).Nodup := h.sublist ((List.filter_sublist ..).map _)
theorem wave_nodup {rs : List Rope} (h : (rs.map Rope.name).Nodup) {ns : List Str} {l : Rat} (hn : ns.Nodup) : (ns ++ wave rs ns l).Nodup := by
  rw [List.nodup_append]
  refine ⟨hn, ?_, fun a ha b hb e => ?_⟩
  · cases hs : sunkBy (left rs ns) l with
    | none => rw [wave_none hs]; exact List.nodup_nil
    | some u =>
      rw [wave_some hs]
      exact nodup_names (nodup_names h _) _
  · obtain ⟨r, hr, e2⟩ := wave_mem hb
    have := (mem_left.mp hr).2
    rw [e2, ← e] at this
    exact this ha
theorem fin_nodup {rs : List Rope} (h : (rs.map Rope.name).Nodup) {l : Rat} (ns : List Str) : ns.Nodup → (fin rs ns l).2.Nodup := by
  refine fin_ind (rs := rs) (l := l) (p := fun ns => ns.Nodup → (fin rs ns l).2.Nodup) (fun ns hw hn => ?_) (fun ns hw ih hn => ?_) ns
  · rw [fin_end hw]
    exact hn
  · rw [fin_step hw]
    exact ih (wave_nodup h hn)
theorem broken_nodup {rs : List Rope} (h : (rs.map Rope.name).Nodup) {ns : List Str} {l : Rat} (hn : ns.Nodup) : (brokenBy rs ns l).Nodup := (srt_perm _).nodup_iff.mpr (fin_nodup h ns hn)
theorem srt_srt (xs : List Str) : srt (srt xs) = srt xs := srt_eq_of_perm (srt_perm xs)
theorem broken_srt (rs : List Rope) (ns : List Str) (l : Rat) : srt (brokenBy rs ns l) = brokenBy rs ns l := srt_srt _
/-- the least stable lot beyond ns is the told one -/
theorem broken_eq {rs : List Rope} (ho : ∀ r ∈ rs, Ok r) (h : (rs.map Rope.name).Nodup) {ns S : List Str} {l : Rat} (h0 : 0 ≤ l) (hn : ns.Nodup) (hS : S.Nodup) (hs : Stab rs S l) (h1 : ∀ n ∈ ns, n ∈ S) (h2 : ∀ n ∈ S, n ∈ brokenBy rs ns l) : srt S = brokenBy rs ns l := by
  unfold brokenBy
  exact srt_eq_of_mem hS (fin_nodup h ns hn) fun n => ⟨fun z => mem_broken.mp (h2 n z), fun z => broken_in ho h0 (Rat.le_refl) hs h1 n (mem_broken.mpr z)⟩
end SM

/-! AbO: int of a truth, the head of a rope, slices by told ends. -/
namespace Ab
open PySem L2 LamX
open Ab.Rp (rp)
open Ab.Dt (toD)
section
variable {X : Cx} {c : Ctx} {ss : List AV} {a b e : Expr} {es : List Expr} {pos p p2 : Pos} {α β : Type} [Rp α] [Rp β] {lo hi : Option Expr} {xs : List α}
/-- int(b) -/
theorem x_intB {z : Bool} (hm : X.mg "int" = none) (ha : XA X c ss (e :: es) [.dat z]) (hg : Gl X "int" := by rfl) (he : starEach (e :: es) X.env = (false, eval e X.env) :: starEach es X.env := by rfl) (hpl : (backTo pos (starEach es X.env)).any (·.1) = false := by rfl) :
    XE X c ss (.Call (.Name "int" p) (e :: es) [] pos) (.dat (if z = true then (1 : Int) else 0)) :=
  x_bty (R := .dat (if z = true then (1 : Int) else 0)) call_int1 hm (by decide +kernel) ha (fun σ H H1 vs Q j g ok t => by
    obtain ⟨v, rfl, w, hw, q⟩ := ok.one
    have hw : v = .bl w := hw
    have q : w = z := q
    subst hw q
    exact .inr ⟨w, rfl, t.giveI⟩) hg (by decide) (by decide) he hpl
/-- rope[:3] -/
theorem x_ropeHead {x : Rope} (ha : XE X c ss e (.dat x)) (hl : XO X c ss hi (some 3)) : XE X c ss (.Subscript e (.Slice none hi none p2) pos) (.dat (T3.mk x.name x.slack x.stiff)) :=
  (pe_slice sl_tup ha xo_none hl).wk fun σ H Q q => ⟨q.1, fun v H1 a1 g1 ok => ⟨a1, fun H2 a2 g2 => ⟨a2, fun H3 a3 g3 => by
    obtain ⟨y, hy, z⟩ := (ok.mono q.1.j (g2.trans g3))
    have z : y = x := z
    subst z
    obtain ⟨p, e, h⟩ := hy
    refine ⟨p, _, e, h, by show ¬ (HT.sIx 4 0 none = 0 ∧ HT.sIx 4 4 (some 3) = 4); decide, fun l hl => (q.go a3 ((g1.trans g2).trans g3)).2 (.ref l) _ (a3.new hl) (Gr.new hl) ⟨_, ⟨l, _, _, _, rfl, .inl (.inl upd_same), rfl, rfl, rfl⟩, rfl⟩⟩⟩⟩⟩
/-- rope[2:] -/
theorem x_ropeLast {x : Rope} (ha : XE X c ss e (.dat x)) (hl : XO X c ss lo (some 2)) : XE X c ss (.Subscript e (.Slice lo none none p2) pos) (.dat (x.stiff, x.strong)) :=
  (pe_slice sl_tup ha hl xo_none).wk fun σ H Q q => ⟨q.1, fun v H1 a1 g1 ok => ⟨a1, fun H2 a2 g2 => ⟨a2, fun H3 a3 g3 => by
    obtain ⟨y, hy, z⟩ := (ok.mono q.1.j (g2.trans g3))
    have z : y = x := z
    subst z
    obtain ⟨p, e, h⟩ := hy
    refine ⟨p, _, e, h, by show ¬ (HT.sIx 4 0 (some 2) = 0 ∧ HT.sIx 4 4 none = 4); decide, fun l hl => (q.go a3 ((g1.trans g2).trans g3)).2 (.ref l) _ (a3.new hl) (Gr.new hl) ⟨_, ⟨l, _, _, rfl, .inl (.inl upd_same), rfl, rfl⟩, rfl⟩⟩⟩⟩⟩
/-- (name, slack, stiff) + (strong,) -/
theorem x_headCons {n : Int} {y : T3 Str Int Int} (ha : XE X c ss a (.dat y)) (hb : XE X c ss b (.dat [n])) : XE X c ss (.BinOp a .Add b pos) (.dat (Rope.mk y.a y.b y.c n)) := by
  refine x_op op_catT (ra := .dat y) (rb := .dat [n]) (fun _ _ _ H2 _ _ _ _ g ⟨w, ⟨q2, u1, u2, u3, e2, h2, r1, r2, r3⟩, z2⟩ ⟨zs, ⟨q, vs, e, h, r⟩, z1⟩ t => ?_) ha hb
  have z1 : zs = [n] := z1
  have z2 : w = y := z2
  subst z1 z2
  obtain rfl := ints_of r
  obtain rfl : u1 = V.str w.a := r1
  obtain rfl : u2 = V.int w.b := r2
  obtain rfl : u3 = V.int w.c := r3
  exact ⟨q2, q, _, _, e2, e, h2, h, (fun z => by cases z), by show 3 + 1 ≤ sizeLine; decide, (fun z => by cases z), fun _ p hp => t.2 (.ref p) _ (t.1.new hp) (Gr.new hp) ⟨_, ⟨p, rfl, .inl (.inl upd_same)⟩, rfl⟩⟩
/-- (name, slack) + (stiff, strong) -/
theorem x_twoTwo {y : Str × Int} {z : Int × Int} (ha : XE X c ss a (.dat y)) (hb : XE X c ss b (.dat z)) : XE X c ss (.BinOp a .Add b pos) (.dat (Rope.mk y.1 y.2 z.1 z.2)) := by
  refine x_op op_catT (ra := .dat y) (rb := .dat z) (fun _ _ _ H2 _ _ _ _ g ⟨w, ⟨q, u1, u2, e, h, r1, r2⟩, z1⟩ ⟨o, ⟨q2, u3, u4, e2, h2, r3, r4⟩, z2⟩ t => ?_) ha hb
  have z1 : w = y := z1
  have z2 : o = z := z2
  subst z1 z2
  obtain rfl : u1 = V.str w.1 := r1
  obtain rfl : u2 = V.int w.2 := r2
  obtain rfl : u3 = V.int o.1 := r3
  obtain rfl : u4 = V.int o.2 := r4
  exact ⟨q, q2, _, _, e, e2, h, h2, (fun z => by cases z), by show 2 + 2 ≤ sizeLine; decide, (fun z => by cases z), fun _ p hp => t.2 (.ref p) _ (t.1.new hp) (Gr.new hp) ⟨_, ⟨p, rfl, .inl (.inl upd_same)⟩, rfl⟩⟩
/-- xs[n:] -/
theorem x_drop {n : Nat} (ha : XE X c ss e (.lst xs)) (hl : XO X c ss lo (some (n : Int))) : XE X c ss (.Subscript e (.Slice lo none none p2) pos) (.own (xs.drop n)) := by
  have h := x_slL (pos := pos) (p2 := p2) ha hl (xo_none (X := X) (c := c) (ss := ss))
  rw [cut_drop] at h
  exact h
end
theorem nonL {K : PySem.W.Frag} {α : Type} [Rp α] (y : List α) (H : Hp) : ¬ rp K H .non y := fun z => by
  obtain ⟨a, vs, e, _⟩ := z
  cases e
theorem nonP {K : PySem.W.Frag} {α β : Type} [Rp α] [Rp β] (y : α × β) (H : Hp) : ¬ rp K H .non y := fun z => by
  obtain ⟨a, u, v, e, _⟩ := z
  cases e
theorem num_get {α : Type} [Rp α] {xs : List α} {i : Nat} {z : Int × α} (h : (numFrom xs)[i]? = some z) : i < xs.length ∧ z.1 = (i : Int) ∧ xs[i]? = some z.2 := by
  have hi : i < xs.length := by
    have := (List.getElem?_eq_some_iff.mp h).1
    rw [numFrom_len] at this
    exact this
  have hx := List.getElem?_eq_getElem hi
  rw [numFrom_get hx] at h
  cases h
  exact ⟨hi, rfl, hx⟩
end Ab

/-! AbP: truths in a list, parts of threes, names of drawn ropes. -/
namespace Ab
open PySem L2 LamX
open Ab.Rp (rp)
open Ab.Dt (toD)
theorem _root_.Ab.RsOks.five {K : PySem.W.Frag} {w : Wd} {H H' : Hp} {r s t q z : AV} {vs : List V} (h : RsOks K w H H' vs [r, s, t, q, z]) : ∃ v u y x o, vs = [v, u, y, x, o] ∧ RsOk K w H H' v r ∧ RsOk K w H H' u s ∧ RsOk K w H H' y t ∧ RsOk K w H H' x q ∧ RsOk K w H H' o z := by
  cases vs with
  | nil => exact h.elim
  | cons v vs =>
    obtain ⟨u, y, x, o, rfl, h1, h2, h3, h4⟩ := RsOks.four (vs := vs) h.2
    exact ⟨v, u, y, x, o, rfl, h.1, h1, h2, h3, h4⟩
theorem filt_all {α : Type} (xs : List α) : (xs.filter fun _ => true) = xs := List.filter_eq_self.mpr fun _ _ => rfl
theorem eqV_bl (a b : Bool) : eqV (.bl a) (.bl b) = (a == b) := by cases a <;> cases b <;> rfl
theorem inV_bl (n : Bool) : ∀ xs : List Bool, inV (.bl n) (xs.map V.bl) = decide (n ∈ xs)
  | [] => by simp [inV]
  | y :: ys => by
    have ih := inV_bl n ys
    show (eqV (.bl y) (.bl n) || inV (.bl n) (ys.map V.bl)) = _
    rw [ih, eqV_bl]
    cases n <;> cases y <;> simp
theorem flat_bls : ∀ xs : List Bool, (xs.map V.bl).all flatV = true
  | [] => rfl
  | x :: xs => flat_bls xs
section
variable {X : Cx} {c : Ctx} {ss : List AV} {a b e : Expr} {pos p2 : Pos} {α β γ : Type} [Rp α] [Rp β] [Rp γ] {k : Nat}
/-- a call whose level is shown by hand -/
theorem x_calK {es : List Expr} {p : Pos} {ι : Type} {args : ι → List AV} {pre : ι → Prop} {res : ι → AV} {w' : ι → Wd} {j k : Nat} {x : Str} (F : Df X.prog X.w X.K X.mg X.base j x (spW X.K w' args pre res)) (i : ι) (l : (w' i).Le c.w) (hr : Room k X.A) (hp : pre i) (hjk : j ≤ k) (ha : XA X c ss (e :: es) (args i))
    (hg : Gl X x := by rfl) (hn : (args i).any AV.ownB = false := by rfl) (hl : (res i).lstB = false := by rfl) (hdb : (x == ("__debug__" : Str)) = false := by decide) (he : starEach (e :: es) X.env = (false, eval e X.env) :: starEach es X.env := by rfl) (hpl : (backTo pos (starEach es X.env)).any (·.1) = false := by rfl) :
    XE X c ss (.Call (.Name x p) (e :: es) [] pos) (res i) := x_call (F.mono hjk) i l hr hp ha hg hn hl hdb he hpl
/-- the same, of a fact at hand -/
theorem x_calR {es : List Expr} {p : Pos} {P : Program} {w : World} {K : PySem.W.Frag} {mg : Str → Option Value} {base : Heap} {ι : Type} {args : ι → List AV} {pre : ι → Prop} {res : ι → AV} {w' : ι → Wd} {j k : Nat} {x : Str} (F : Df P w K mg base j x (spW K w' args pre res)) (i : ι) (l : (w' i).Le c.w) (hr : Room k X.A) (hp : pre i) (hjk : j ≤ k) (ha : XA X c ss (e :: es) (args i))
    (e1 : X.prog = P := by rfl) (e2 : X.w = w := by rfl) (e3 : X.K = K := by rfl) (e4 : X.mg = mg := by rfl) (e5 : X.base = base := by rfl)
    (hg : Gl X x := by rfl) (hn : (args i).any AV.ownB = false := by rfl) (hl : (res i).lstB = false := by rfl) (hdb : (x == ("__debug__" : Str)) = false := by decide) (he : starEach (e :: es) X.env = (false, eval e X.env) :: starEach es X.env := by rfl) (hpl : (backTo pos (starEach es X.env)).any (·.1) = false := by rfl) :
    XE X c ss (.Call (.Name x p) (e :: es) [] pos) (res i) := by
  subst e1 e2 e3 e4 e5
  exact x_call (F.mono hjk) i l hr hp ha hg hn hl hdb he hpl
/-- b in a list of truths -/
theorem t_inB {n : Bool} {xs : List Bool} (ha : XE X c ss a (.dat n)) (hb : XE X c ss b (.lst xs)) (hm : behindInMarks .In b = false := by rfl) : XT X c ss (.Compare a [.In] [b] pos) (· = decide (n ∈ xs)) :=
  t_cmpE (P := (· = decide (n ∈ xs))) op_in_seq (ra := .dat n) (rb := .lst xs) (fun _ _ H H2 _ _ _ j _ ⟨m, h1, p⟩ ok t => by
    have p : m = n := p
    subst p
    obtain rfl : _ = V.bl m := h1
    obtain ⟨q, vs, e, _, h, r⟩ := ok
    obtain rfl := bls_of r
    subst e
    refine ⟨q, _, rfl, .inl (SqL.of h), rfl, flat_bls xs, ?_⟩
    rw [inV_bl]
    exact t.2 (.bl _) H2 t.1 (Gr.refl _ _) ⟨_, rfl, rfl⟩) ha hb hm
theorem x_3a {x : T3 α β γ} (ha : XE X c ss a (.dat x)) : XE X c ss (.Subscript a (.Constant (.int 0) k p2) pos) (.dat x.a) := x_ixT (P := fun y : T3 α β γ => y = x) (fun H v y ⟨p, u, w, z, e, h, h1, h2, h3⟩ q => ⟨p, _, u, y.a, e, h, rfl, h1, by rw [q]⟩) ha
theorem x_3b {x : T3 α β γ} (ha : XE X c ss a (.dat x)) : XE X c ss (.Subscript a (.Constant (.int 1) k p2) pos) (.dat x.b) := x_ixT (P := fun y : T3 α β γ => y = x) (fun H v y ⟨p, u, w, z, e, h, h1, h2, h3⟩ q => ⟨p, _, w, y.b, e, h, rfl, h2, by rw [q]⟩) ha
theorem x_3c {x : T3 α β γ} (ha : XE X c ss a (.dat x)) : XE X c ss (.Subscript a (.Constant (.int 2) k p2) pos) (.dat x.c) := x_ixT (P := fun y : T3 α β γ => y = x) (fun H v y ⟨p, u, w, z, e, h, h1, h2, h3⟩ q => ⟨p, _, z, y.c, e, h, rfl, h3, by rw [q]⟩) ha
theorem x_rnameE {P : Rope → Prop} (ha : XE X c ss a (.ex P)) : XE X c ss (.Subscript a (.Constant (.int 0) k p2) pos) (.ex fun n : Str => ∃ r, P r ∧ n = r.name) := x_ixT (P := P) (fun H v y ⟨p, e, h⟩ q => ⟨p, _, .str y.name, y.name, e, h, rfl, rfl, y, q, rfl⟩) ha
end
/-- a law without tables -/
theorem law_at0 {l : PySem.W.OpenLaw} {w : World} {K : PySem.W.Frag} {h : Heap} {mg : Str → Option Value} {st : Stmt} {f fa : Addr} {k : Nat} {oc kV doc pm cd ct : Value} {od an : Option Addr} {sl : Array (Option Value)} (X : K.In h) (G : h.Ns mainGlobals mg) (hfa : mg "law" = some (.ref fa))
    (a : PySem.W.nsIn K mainGlobals "law" = some (some (.ref f))) (l1 : K.lookup f = some ⟨oc, od, .func (PySem.W.fnOf "law" "law" (defArgs st) (defBody st) (defScope st) .none kV doc pm an cd ct), sl⟩) (c : PySem.W.codeIn K cd "law" = true) (kp : PySem.W.keepIn K (.ref f) = true)
    (hb : ∀ (s : Shared) (u : Value), BindsTo s (PySem.W.fnOf "law" "law" (defArgs st) (defBody st) (defScope st) .none kV doc pm an cd ct) ⟨[u], []⟩ [("script", u)])
    (F : ∀ base : Heap, Fun K "law" "law" st f (PySem.W.fnOf "law" "law" (defArgs st) (defBody st) (defScope st) .none kV doc pm an cd ct) → FnOk l.prog w K mg base CX0 k f (PySem.W.fnOf "law" "law" (defArgs st) (defBody st) (defScope st) .none kV doc pm an cd ct) ["script"] (spLaw K [])) : LawAtS l w K CX0 k 63 "script" mg fa h := by
  have e := hfa.symm.trans (PySem.W.mg_of X G a)
  cases e
  have no : ∀ {α : Type} {p : α}, p ∈ ([] : List α) → False := fun h => absurd h List.not_mem_nil
  exact ⟨_, [], spLaw K [], fun p hp => (no hp).elim, fun p hp => (no hp).elim, fun p hp => (no hp).elim, hb, fun H a' ns hl _ hH hS => sp_law hS hl (fun p hp => (no hp).elim), fun base _ _ hTB => F base (fun_mk l1 c kp)⟩
end Ab

/-! M12: an unseen slack. -/
namespace SM
open Ab L2
open Ab.Rp (rp)
open Ab.Dt (toD)
open PySem (Str)
open Ab.Rp (rp)
open Ab.Dt (toD)
theorem num_pos' {x : Rat} : 0 < x.num ↔ 0 < x := by
  have h1 := Rat.num_nonneg (q := x)
  have h2 := Rat.num_eq_zero (q := x)
  constructor
  · intro h
    have a := h1.mp (by omega)
    have b : x ≠ 0 := fun z => by have := h2.mpr z; omega
    grind
  · intro h
    have a := h1.mpr (by grind)
    have b : x.num ≠ 0 := fun z => by have := h2.mp z; grind
    omega
def posR (x : Rat) : Rat := if 0 < x then x else 0
theorem posR_nn (x : Rat) : 0 ≤ posR x := by unfold posR; split <;> grind
theorem max_pos (k : Int) (x : Rat) : ((k * max 0 x.num : Int) : Rat) / ((x.den : Int) : Rat) = (k : Rat) * posR x := by
  have hd := den_ne x
  have hn := num_eq x
  unfold posR
  by_cases h : 0 < x
  · have h1 : 0 < x.num := by
      exact num_pos'.mpr h
    rw [if_pos h, show max 0 x.num = x.num by omega, Rat.intCast_mul, hn]
    grind
  · have h1 : x.num ≤ 0 := by
      have : ¬ 0 < x.num := fun z => h (num_pos'.mp z)
      omega
    rw [if_neg h, show max 0 x.num = 0 by omega, Int.mul_zero]
    grind
/-- how hard a rope pulls where the named one's slack is s -/
def partS (nm : Str) (s u : Rat) (r : Rope) : Rat := (r.stiff : Rat) * posR (u + -(if r.name = nm then s else (r.slack : Rat)))
def doesS (rs : List Rope) (nm : Str) (s l u : Rat) : Bool := (rs.all fun r => !decide ((r.strong : Rat) < partS nm s u r)) && (decide ((rs.map (partS nm s u)).sum = l) && (decide (0 < l.num) || decide (u.num = 0)))
def unsO (os : List Rope) (own : Rope) (l u : Rat) : Option (Rat × Option Rat) :=
  if l.num = 0 then (if u.num = 0 then some (0, none) else none)
  else if os.any (gives u) = true then none
  else if (l + -total os u).num < 0 ∨ (own.strong : Rat) < l + -total os u then none
  else if (l + -total os u).num = 0 then some (u, none)
  else if (u + -((l + -total os u) / (own.stiff : Rat))).num < 0 then none
  else some (u + -((l + -total os u) / (own.stiff : Rat)), some (u + -((l + -total os u) / (own.stiff : Rat))))
theorem sum_split {α : Type} (f : α → Rat) (p : α → Bool) : ∀ rs : List α, (rs.map f).sum = ((rs.filter p).map f).sum + ((rs.filter fun r => !p r).map f).sum
  | [] => by show (0 : Rat) = 0 + 0; grind
  | r :: rs => by
    have ih := sum_split f p rs
    cases h : p r <;> simp only [List.filter_cons, h, List.map_cons, List.sum_cons, Bool.not_true, Bool.not_false, if_true, if_false, Bool.false_eq_true, ih] <;> grind
theorem filter_one : ∀ {rs : List Rope} {own : Rope}, (rs.map Rope.name).Nodup → own ∈ rs → (rs.filter fun r => decide (r.name = own.name)) = [own]
  | [], _, _, h => absurd h List.not_mem_nil
  | r :: rs, own, hn, h => by
    rw [List.map_cons, List.nodup_cons] at hn
    rcases List.mem_cons.mp h with e | h
    · subst e
      have : (rs.filter fun r => decide (r.name = own.name)) = [] := List.filter_eq_nil_iff.mpr fun q hq z => hn.1 (of_decide_eq_true z ▸ List.mem_map.mpr ⟨q, hq, rfl⟩)
      rw [List.filter_cons, if_pos (decide_eq_true rfl), this]
    · have hne : ¬ r.name = own.name := fun z => hn.1 (z ▸ List.mem_map.mpr ⟨own, h, rfl⟩)
      rw [List.filter_cons, if_neg (by rw [decide_eq_false hne]; decide)]
      exact filter_one hn.2 h
theorem part_other {nm : Str} {s u : Rat} {r : Rope} (h : ¬ r.name = nm) : partS nm s u r = pullR r u := by
  unfold partS pullR posR
  rw [if_neg h]
  by_cases hs : (r.slack : Rat) < u
  · rw [if_pos hs, if_pos (by grind)]
    grind
  · rw [if_neg hs, if_neg (by grind)]
    grind
def others (rs : List Rope) (nm : Str) : List Rope := rs.filter fun r => !decide (r.name = nm)
structure DoesO (os : List Rope) (own : Rope) (s l u : Rat) : Prop where
  w : ∀ r ∈ os, gives u r = false
  o : (own.stiff : Rat) * posR (u + -s) ≤ (own.strong : Rat)
  t : total os u + (own.stiff : Rat) * posR (u + -s) = l
  z : 0 < l.num ∨ u.num = 0
theorem part_sum {rs : List Rope} {own : Rope} {s u : Rat} (hn : (rs.map Rope.name).Nodup) (ho : own ∈ rs) : (rs.map (partS own.name s u)).sum = total (others rs own.name) u + (own.stiff : Rat) * posR (u + -s) := by
  rw [sum_split _ (fun r => decide (r.name = own.name)) rs, filter_one hn ho]
  have e1 : ([own].map (partS own.name s u)).sum = (own.stiff : Rat) * posR (u + -s) := by
    show partS own.name s u own + 0 = _
    unfold partS
    rw [if_pos rfl]
    grind
  have e2 : ((others rs own.name).map (partS own.name s u)) = (others rs own.name).map fun r => pullR r u := List.map_congr_left fun r hr => by
    have := (List.mem_filter.mp hr).2
    exact part_other (by simpa using this)
  rw [e1]
  have e3 : (rs.filter fun r => !decide (r.name = own.name)) = others rs own.name := rfl
  rw [e3, e2]
  unfold total
  grind
theorem does_iff {rs : List Rope} {own : Rope} {s l u : Rat} (hn : (rs.map Rope.name).Nodup) (ho : own ∈ rs) : doesS rs own.name s l u = true ↔ DoesO (others rs own.name) own s l u := by
  unfold doesS
  rw [Bool.and_eq_true, Bool.and_eq_true, Bool.or_eq_true, decide_eq_true_iff, decide_eq_true_iff, decide_eq_true_iff, part_sum hn ho, List.all_eq_true]
  constructor
  · rintro ⟨h1, h2, h3⟩
    refine ⟨fun r hr => ?_, ?_, h2, h3⟩
    · have hm := List.mem_filter.mp hr
      have h := h1 r hm.1
      rw [part_other (by simpa using hm.2)] at h
      unfold gives
      simpa using h
    · have h := h1 own ho
      unfold partS at h
      rw [if_pos rfl] at h
      by_cases q : (own.strong : Rat) < (own.stiff : Rat) * posR (u + -s)
      · rw [decide_eq_true q] at h
        cases h
      · grind
  · rintro ⟨h1, h2, h3, h4⟩
    refine ⟨fun r hr => ?_, h3, h4⟩
    by_cases e : r.name = own.name
    · have : r ∈ rs.filter fun r => decide (r.name = own.name) := List.mem_filter.mpr ⟨hr, decide_eq_true e⟩
      rw [filter_one hn ho] at this
      rw [List.mem_singleton.mp this]
      unfold partS
      rw [if_pos rfl, decide_eq_false (by grind)]
      rfl
    · rw [part_other e]
      have := h1 r (List.mem_filter.mpr ⟨hr, by simpa using e⟩)
      unfold gives at this
      rw [this]
      rfl
theorem num_neg {x : Rat} : x.num < 0 ↔ x < 0 := by
  have h1 := Rat.num_nonneg (q := x)
  constructor
  · intro h
    have : ¬ 0 ≤ x := fun z => by have := h1.mpr z; omega
    grind
  · intro h
    have : ¬ 0 ≤ x.num := fun z => by have := h1.mp z; grind
    omega
theorem uns_none {os : List Rope} {own : Rope} {s l u : Rat} (hk : 1 ≤ own.stiff) (h0 : 0 ≤ l) (hs : 0 ≤ s) (h : unsO os own l u = none) : ¬ DoesO os own s l u := by
  rintro ⟨d1, d2, d3, d4⟩
  have hkr : (1 : Rat) ≤ (own.stiff : Rat) := by
    have := Rat.intCast_le_intCast.mpr hk
    exact this
  unfold unsO at h
  by_cases hl : l.num = 0
  · rw [if_pos hl] at h
    by_cases hu : u.num = 0
    · rw [if_pos hu] at h
      cases h
    · rcases d4 with d4 | d4
      · omega
      · exact hu d4
  · rw [if_neg hl] at h
    by_cases hg : os.any (gives u) = true
    · obtain ⟨r, hr, g⟩ := List.any_eq_true.mp hg
      rw [d1 r hr] at g
      cases g
    · rw [if_neg hg] at h
      have hrest : l + -total os u = (own.stiff : Rat) * posR (u + -s) := by grind
      have hpn := posR_nn (u + -s)
      have hm0 : 0 ≤ (own.stiff : Rat) * posR (u + -s) := Rat.mul_nonneg (by grind) hpn
      rw [hrest] at h
      by_cases hc : ((own.stiff : Rat) * posR (u + -s)).num < 0 ∨ (own.strong : Rat) < (own.stiff : Rat) * posR (u + -s)
      · rcases hc with hc | hc
        · rw [num_neg] at hc
          grind
        · grind
      · rw [if_neg hc] at h
        by_cases hz : ((own.stiff : Rat) * posR (u + -s)).num = 0
        · rw [if_pos hz] at h
          cases h
        · rw [if_neg hz] at h
          by_cases hx : (u + -((own.stiff : Rat) * posR (u + -s) / (own.stiff : Rat))).num < 0
          · rw [num_neg] at hx
            have hp : posR (u + -s) ≠ 0 := fun z => hz (by rw [z]; simp)
            have hp2 : posR (u + -s) = u + -s := by
              unfold posR at hp ⊢
              split at hp
              · rename_i q; rw [if_pos q]
              · exact absurd rfl hp
            rw [hp2] at hx
            have : (own.stiff : Rat) * (u + -s) / (own.stiff : Rat) = u + -s := by grind
            rw [this] at hx
            grind
          · rw [if_neg hx] at h
            cases h
theorem uns_some {os : List Rope} {own : Rope} {l u lo : Rat} {hi : Option Rat} (hos : ∀ r ∈ os, Ok r) (hk : Ok own) (h0 : 0 ≤ l) (hu0 : 0 ≤ u) (h : unsO os own l u = some (lo, hi)) :
    0 ≤ lo ∧ DoesO os own lo l u ∧ (∀ h, hi = some h → h = lo) ∧ (hi = none → ∀ e, 0 ≤ e → DoesO os own (lo + e) l u) ∧ (0 < lo → ∀ e, 0 < e → ¬ DoesO os own (lo + -e) l u) ∧ ∀ h, hi = some h → ∀ e, 0 < e → ¬ DoesO os own (h + e) l u := by
  have hkr : (1 : Rat) ≤ (own.stiff : Rat) := Rat.intCast_le_intCast.mpr hk.2.2.1
  have hsr : (1 : Rat) ≤ (own.strong : Rat) := Rat.intCast_le_intCast.mpr hk.2.2.2.2.1
  unfold unsO at h
  by_cases hl : l.num = 0
  · rw [if_pos hl] at h
    have l0 : l = 0 := Rat.num_eq_zero.mp hl
    by_cases hu : u.num = 0
    · rw [if_pos hu] at h
      have u0 : u = 0 := Rat.num_eq_zero.mp hu
      cases h
      subst l0 u0
      have base : ∀ e : Rat, 0 ≤ e → DoesO os own (0 + e) 0 0 := fun e he => by
        have hp : posR (0 + -(0 + e)) = 0 := by unfold posR; rw [if_neg (by grind)]
        refine ⟨fun r hr => ?_, ?_, ?_, .inr rfl⟩
        · unfold gives
          rw [pull_zero (hos r hr)]
          have : (1 : Rat) ≤ (r.strong : Rat) := Rat.intCast_le_intCast.mpr (hos r hr).2.2.2.2.1
          exact decide_eq_false (by grind)
        · rw [hp]; grind
        · rw [hp, total_zero hos]; grind
      refine ⟨Rat.le_refl, ?_, (fun h z => by cases z), (fun _ e he => base e he), (fun z => by grind), (fun h z => by cases z)⟩
      have := base 0 Rat.le_refl
      rwa [show (0 : Rat) + 0 = 0 by grind] at this
    · rw [if_neg hu] at h
      cases h
  · rw [if_neg hl] at h
    have lp : 0 < l.num := by
      have := Rat.num_nonneg.mpr h0
      omega
    by_cases hg : os.any (gives u) = true
    · rw [if_pos hg] at h
      cases h
    · rw [if_neg hg] at h
      have hw : ∀ r ∈ os, gives u r = false := fun r hr => by
        cases g : gives u r with
        | false => rfl
        | true => exact absurd (List.any_eq_true.mpr ⟨r, hr, g⟩) hg
      generalize hR : l + -total os u = R at h
      by_cases hc : R.num < 0 ∨ (own.strong : Rat) < R
      · rw [if_pos hc] at h
        cases h
      · rw [if_neg hc] at h
        have hc1 : 0 ≤ R := by
          have : ¬ R.num < 0 := fun z => hc (.inl z)
          exact Rat.num_nonneg.mp (by omega)
        have hc2 : R ≤ (own.strong : Rat) := by
          have : ¬ (own.strong : Rat) < R := fun z => hc (.inr z)
          grind
        by_cases hz : R.num = 0
        · rw [if_pos hz] at h
          have R0 : R = 0 := Rat.num_eq_zero.mp hz
          cases h
          have base : ∀ e : Rat, 0 ≤ e → DoesO os own (u + e) l u := fun e he => by
            have hp : posR (u + -(u + e)) = 0 := by unfold posR; rw [if_neg (by grind)]
            exact ⟨hw, by rw [hp]; grind, by rw [hp]; grind, .inl lp⟩
          refine ⟨hu0, ?_, (fun h z => by cases z), (fun _ e he => base e he), (fun _ e he d => ?_), (fun h z => by cases z)⟩
          · have := base 0 Rat.le_refl
            rwa [show u + 0 = u by grind] at this
          · have t := d.t
            have hp : posR (u + -(u + -e)) = e := by unfold posR; rw [if_pos (by grind)]; grind
            rw [hp] at t
            have : 0 < (own.stiff : Rat) * e := Rat.mul_pos (by grind) he
            grind
        · rw [if_neg hz] at h
          have hRp : 0 < R := by
            have : R ≠ 0 := fun z => hz (by rw [z]; rfl)
            grind
          have hdp : 0 < R / (own.stiff : Rat) := by
            have h2 : (own.stiff : Rat) * (R / (own.stiff : Rat)) = R := by grind
            have h3 : ¬ R / (own.stiff : Rat) ≤ 0 := fun z => by
              have : 0 ≤ (own.stiff : Rat) * -(R / (own.stiff : Rat)) := Rat.mul_nonneg (by grind) (by grind)
              grind
            grind
          have hde : (own.stiff : Rat) * (R / (own.stiff : Rat)) = R := by grind
          generalize R / (own.stiff : Rat) = d at h hdp hde
          by_cases hx : (u + -d).num < 0
          · rw [if_pos hx] at h
            cases h
          · rw [if_neg hx] at h
            have hx0 : 0 ≤ u + -d := Rat.num_nonneg.mp (by omega)
            cases h
            have hp : posR (u + -(u + -d)) = d := by unfold posR; rw [if_pos (by grind)]; grind
            refine ⟨hx0, ⟨hw, by rw [hp]; grind, by rw [hp]; grind, .inl lp⟩, (fun h z => (Option.some.inj z).symm), (fun z => by cases z), (fun _ e he dd => ?_), (fun h z e he dd => ?_)⟩
            · have t := dd.t
              have hp : posR (u + -(u + -d + -e)) = d + e := by unfold posR; rw [if_pos (by grind)]; grind
              rw [hp] at t
              have : 0 < (own.stiff : Rat) * e := Rat.mul_pos (by grind) he
              grind
            · cases z
              have t := dd.t
              have : posR (u + -(u + -d + e)) < d := by unfold posR; split <;> grind
              have : 0 < (own.stiff : Rat) * (d + -posR (u + -(u + -d + e))) := Rat.mul_pos (by grind) (by grind)
              grind
end SM
namespace SM
open Ab L2
open Ab.Rp (rp)
open Ab.Dt (toD)
open PySem (Str)
open Ab.Rp (rp)
open Ab.Dt (toD)
theorem pull_low {r : Rope} (h : Ok r) {u : Rat} (hu : u ≤ 0) : pullR r u = 0 := by
  unfold pullR
  have : (0 : Rat) ≤ (r.slack : Rat) := Rat.intCast_nonneg.mpr h.1
  rw [if_neg (by grind)]
theorem total_low {rs : List Rope} (h : ∀ r ∈ rs, Ok r) {u : Rat} (hu : u ≤ 0) : total rs u = 0 := by
  induction rs with
  | nil => rfl
  | cons r rs ih =>
    rw [total_cons, pull_low (h r (List.mem_cons_self ..)) hu, ih fun q hq => h q (List.mem_cons_of_mem _ hq)]
    grind
theorem sunk_nn {rs : List Rope} {l u : Rat} (ho : ∀ r ∈ rs, Ok r) (hl : 0 ≤ l) (h : sunkBy rs l = some u) : 0 ≤ u := by
  by_cases hu : 0 ≤ u
  · exact hu
  · have t := sunk_total ho hl h
    rw [total_low ho (by grind)] at t
    rw [← t, sunkBy_zero] at h
    have := Option.some.inj h
    grind
def tinyR : Rat := 1 / 1000000000000000000000000000000
theorem tiny_num : (-tinyR).num = -1 := by decide +kernel
theorem tiny_den : ((-tinyR).den : Int) = 1000000000000000000000000000000 := by decide +kernel
theorem tiny_pos : 0 < tinyR := by decide +kernel
theorem sz_tiny : Sz 101 (-tinyR) := by
  have := tiny_den
  have h : (-tinyR).den = 1000000000000000000000000000000 := by omega
  exact ⟨by rw [tiny_num]; decide, by rw [h]; decide⟩
theorem uns_sz {os : List Rope} {own : Rope} {l u lo : Rat} {hi : Option Rat} (hk : Ok own) (hl : Sz 100 l) (hu : Sz 100 u) (ht : Sz 510 (total os u)) (h : unsO os own l u = some (lo, hi)) : Sz 725 lo := by
  unfold unsO at h
  have hR : Sz 611 (l + -total os u) := (sz_add hl (⟨by rw [Rat.neg_num, Int.natAbs_neg]; exact ht.1, by rw [Rat.neg_den]; exact ht.2⟩ : Sz 510 (-total os u))).mono (by decide)
  generalize l + -total os u = R at *
  have hkp : 0 < own.stiff := by have := hk.2.2.1; omega
  have ed : ((0 - R.num : Int) : Rat) / (((R.den : Int) * own.stiff : Int) : Rat) = -(R / (own.stiff : Rat)) := by
    have h1 := num_eq R
    have h2 := den_ne R
    have h3 : (own.stiff : Rat) ≠ 0 := fun z => by have := Rat.intCast_eq_zero_iff.mp z; omega
    rw [Rat.intCast_sub, Rat.intCast_mul, h1]
    grind
  have hsd : Sz 621 (-(R / (own.stiff : Rat))) := by
    rw [← ed]
    refine sz_div (Int.mul_pos (den_pos R) hkp) (up_abs (a := 611) ?_ (by decide)) (up_abs (mul_abs hR.d (stiff_abs hk)) (by decide))
    rw [show (0 - R.num).natAbs = R.num.natAbs by omega]
    exact hR.n
  have hss : Sz 725 (u + -(R / (own.stiff : Rat))) := (sz_add hu hsd).mono (by decide)
  split at h
  · split at h <;> cases h
    exact sz_zero (by decide)
  · split at h
    · cases h
    · split at h
      · cases h
      · split at h
        · cases h
          exact hu.mono (by decide)
        · split at h <;> cases h
          exact hss
end SM

/-! AbQ: a dict comprehension whose keys are tuples; the list of its keys. -/
namespace Ab
open PySem PySem.Spec PyProof.Rows L2 LamX
open Ab.Rp (rp)
open Ab.Dt (toD)
section
variable {X : Cx}
/-- the dict at D gets a key that is a tuple -/
theorem put_tupKey {pins : List (Addr × Obj)} {τ : L2.St} {G : Hp} {sh : Shared} {Er : Value → Shared → Prop} {D b : Addr} {ents : List (List Key × V)} {ky : List Key} {z : V} {r : Value} {Qd : Unit → Shared → Prop} (J : Inv X pins τ G sh) (hD : G D = some (.dT ents)) (hb : G b = some (.tup (ky.map kV)))
    (hlen : ents.length < sizeLine) (hroom : (tupleKind (mixKind X.prog X.w)).room X.A) (rz : RelV z r) (go : ∀ s', Inv X pins τ (upd G D (.dT (putK ents ky z))) s' → Qd () s') : wpAny (model X.prog X.w) X.A (dictSet D (.ref b) r) Qd Er sh := by
  obtain ⟨lz, nsys, trip, rl, dd⟩ := dt_of J.hok hD
  have l1 : trip.length ≤ sizeLine := by rw [← Paired.length rl]; exact lz
  have l2 := length_putK ents ky z
  refine wpAny_dictSet_heap (hsz := l1) hroom (key_of J.hok hb) dd fun hp' dd2 same => go _ ?_
  obtain ⟨ob, en, epo, o1, o2, o3, o4, _, o5⟩ := dd2
  refine d_write J (by rw [hD]; exact True.intro) same ⟨ob, o1⟩ ⟨by omega, nsys, _, (rl.put ky hb rz).keeps fun cc ys ec => ?_, ob, en, epo, o1, o2, o3, o4, o5⟩
  rw [upd_ne (ne_of ec hD fun q => nomatch q)]
  exact ec
/-- what {k: v for target in iter} asks, its keys tuples -/
def tDT (wi : TI) (g : TG) (tk tv : TE) (slots : List Nat) : TE := fun σ H Q => wi σ H fun It0 H1 => ∀ D, H1 D = none → ∃ Inv0 : Nat → Nat → Hp → Prop, (∃ m, Inv0 0 m (upd H1 D (.dT []))) ∧ ∀ i m Hi, Inv0 i m Hi →
  (It0.stop i Hi ∧ Q (.ref D) Hi) ∨ (It0.go i Hi ∧ ∃ Next : Hp → Prop, (∀ Hn, Next Hn → ∃ mm, mm < m ∧ Inv0 (i + 1) mm Hn) ∧ ∀ x Hy, It0.yld i Hi x Hy → g x (L2.wipe σ slots) Hy fun σ2 H2 => L2.wipe σ2 slots = L2.wipe σ slots ∧
    tk σ2 H2 fun y H4 => tv σ2 H4 fun z H5 => ∃ ents ky b, y = .ref b ∧ H5 b = some (.tup (ky.map kV)) ∧ H5 D = some (.dT ents) ∧ ents.length < sizeLine ∧ Next (upd H5 D (.dT (putK ents ky z))))
theorem pe_dT {kx vx tg iter : Expr} {scope : Scope} {own : List (Str × Nat)} {pos : Pos} {wi : TI} {g : TG} {tk tv : TE} (hroom : (tupleKind (mixKind X.prog X.w)).room X.A) (hcalm : X.calm = true) (hN : X.N.Nodup) (hi : PI X tg iter wi) (ok : BlkOk X.N X.env.scope scope own)
    (hg : ∀ (s : Shared) (H : Hp) (C : Addr) (cl : List (Str × Addr)) (fp : List Addr), PG (X.blk s H scope (compEnvC scope cl C X.env) fp) tg g)
    (hkx : ∀ (s : Shared) (H : Hp) (C : Addr) (cl : List (Str × Addr)) (fp : List Addr), PE (X.blk s H scope (compEnvC scope cl C X.env) fp) kx tk)
    (hvx : ∀ (s : Shared) (H : Hp) (C : Addr) (cl : List (Str × Addr)) (fp : List Addr), PE (X.blk s H scope (compEnvC scope cl C X.env) fp) vx tv) (hfold : ∀ x, foldedSetIterable iter X.env x = pure x := by intro _; rfl) :
    PE X (.DictComp kx vx [⟨tg, iter, [], 0⟩] scope pos) (tDT wi g tk tv (own.map (·.2))) := by
  refine ⟨fun pins s σ H Q I asked => ?_⟩
  rw [arm_eval_DictComp]
  have back : ∀ D C s' m H', Inv X pins σ H' s' → Q (.ref D) H' → s'.heap.Ns C m → FpOk X pins H' C → compPost (model X.prog X.w) X.A X.xe none (fun v s'' => ∃ x H'', Inv X pins σ H'' s'' ∧ RelV x v ∧ Q x H'') (.ref D) C (.ok .next) s' := fun D C s' m H' I' q hn f => ⟨m, hn, fun h'' sb => by
    obtain ⟨f0, f1, f2, f3, f4, f5⟩ := f
    exact ⟨.ref D, H', I'.turned (t' := s'.toks) (fun b o hb e => (sb.2 b hb).trans e) f0 f1 f3 f4 f5, rfl, q⟩⟩
  have frees : ∀ y ∈ scope.names, y.2 = .free → ∃ cell, X.env.cells.lookup y.1 = some cell := fun y hy e => by
    rcases ok.free y hy e with kk | kk
    · exact I.ok.has _ (.inl kk)
    · exact I.ok.has _ (.inr kk)
  refine wpAny_comprehension_free (use := none) rfl hfold (closure_ok frees) ok.kind (fun y hy e => by rw [ok.uniq y hy, e]) (thn (hi.run pins s σ H _ I asked) fun xv s1 hx => thn hx fun itv s2 h2 => ?_)
  obtain ⟨it, fp, tn, It0, H2, rfl, I2, T, st2, f2, q⟩ := h2
  refine wpAny_newObj_type (newEnv_comp ?_)
  generalize hD : s2.heap.objs.size = D
  have freshD : H2 D = none := I2.hok.fresh (Nat.le_of_eq hD)
  obtain ⟨Inv0, ⟨m0, first⟩, turn⟩ := q D freshD
  generalize hs3 : ({ s2 with heap := s2.heap.push { cls := .type "dict", data := .dict #[] } } : Shared) = s3
  have h3 : s3.heap = s2.heap.push { cls := .type "dict", data := .dict #[] } := by rw [← hs3]
  have I3 : Inv X pins σ (upd H2 D (.dT [])) s3 := by
    rw [← hs3]
    refine I2.laid (t' := s2.toks) (fun bb oo ee => Heap.get?_push_of_some _ ee) (Nat.le_of_eq hD) ?_
    rw [← hD]
    exact dt_empty s2.heap I2.big
  have below : ∀ bb ∈ fp, bb < s2.heap.objs.size := fun bb hb => by
    obtain ⟨oo, ee, _⟩ := T.obj _ _ st2 bb hb
    exact Heap.lt_size ee
  have f3 : ∀ bb ∈ fp, FpOk X pins (upd H2 D (.dT [])) bb ∧ bb < s3.heap.objs.size := fun bb hb => by
    have lo := below bb hb
    refine ⟨⟨?_, (f2 bb hb).2⟩, by rw [h3, Heap.size_push]; exact Nat.lt_succ_of_lt lo⟩
    rw [upd_ne (by rw [← hD]; exact Nat.ne_of_lt lo)]
    exact (f2 bb hb).1
  have st3 : tn 0 s3.heap := T.keep _ _ _ st2 fun bb _ oo ee => by rw [h3]; exact Heap.get?_push_of_some _ ee
  have I4 := block_start I3 ok hN f3
  have pg := hg s3 (upd H2 D (.dT [])) s3.heap.objs.size (cellsFrom (s3.heap.objs.size + 1) scope.names (cloFrom X.env.cells scope.names [])) fp
  have pk := hkx s3 (upd H2 D (.dT [])) s3.heap.objs.size (cellsFrom (s3.heap.objs.size + 1) scope.names (cloFrom X.env.cells scope.names [])) fp
  have pv := hvx s3 (upd H2 D (.dT [])) s3.heap.objs.size (cellsFrom (s3.heap.objs.size + 1) scope.names (cloFrom X.env.cells scope.names [])) fp
  have goal : codeAny (model X.prog X.w) X.A (.compStart (.DictComp kx vx [⟨tg, iter, [], 0⟩] scope pos) 0 (.ref it) (.ref D) (compEnvC scope (cellsFrom (s3.heap.objs.size + 1) scope.names (cloFrom X.env.cells scope.names [])) s3.heap.objs.size X.env)) (compPost (model X.prog X.w) X.A X.xe none (fun v s'' => ∃ x H'', Inv X pins σ H'' s'' ∧ RelV x v ∧ Q x H'') (.ref D) s3.heap.objs.size) { s3 with heap := pushCells (s3.heap.push { cls := .type "dict", data := .dict #[] }) scope.names } := by
    have empt : ∀ bb ∈ fp, (upd H2 D (.dT [])) bb = none := fun bb hb => (f3 bb hb).1.1
    generalize hce : compEnvC scope (cellsFrom (s3.heap.objs.size + 1) scope.names (cloFrom X.env.cells scope.names [])) s3.heap.objs.size X.env = ce at I4 pg pk pv ⊢
    have cL : ce.locals = s3.heap.objs.size := by subst hce; rfl
    generalize hH3 : upd H2 D (.dT []) = H3 at I3 I4 pg pk pv first empt f3
    generalize hs4 : ({ s3 with heap := pushCells (s3.heap.push { cls := .type "dict", data := .dict #[] }) scope.names } : Shared) = s4 at I4 ⊢
    have st4 : tn 0 s4.heap := T.keep _ _ _ st3 fun bb _ oo ee => by rw [← hs4]; exact pushCells_keeps _ _ _ _ (Heap.get?_push_of_some _ ee)
    have alone : ∀ {σ' : L2.St} {H' : Hp} {s' : Shared}, Inv (X.blk s3 H3 scope ce fp) [] σ' H' s' → (∀ bb ∈ fp, H' bb = none) → ∀ bb ∈ fp, FpOk (X.blk s3 H3 scope ce fp) [] H' bb := fun {σ' H' s'} I' hn bb hb =>
      ⟨hn bb hb, (I'.ok.exf bb hb).1, I'.ok.exfs bb hb, .inl hb, fun x cc ee => (I'.ok.exf bb hb).2 x cc ee, fun pp hpp => absurd (show pp ∈ ([] : List (Addr × Obj)) ++ [] from hpp) (by simp)⟩
    have loop : codeAny (model X.prog X.w) X.A (.compLoop (.DictComp kx vx [⟨tg, iter, [], 0⟩] scope pos) 0 (.ref it) (.ref D) ce) (compPost (model X.prog X.w) X.A X.xe none (fun v s'' => ∃ x H'', Inv X pins σ H'' s'' ∧ RelV x v ∧ Q x H'') (.ref D) s3.heap.objs.size) s4 := by
      refine compLoop_anyD (fun n s' => ∃ i Hn, Inv (X.blk s3 H3 scope ce fp) [] (L2.wipe σ (own.map (·.2))) Hn s' ∧ tn i s'.heap ∧ (∀ bb ∈ fp, Hn bb = none) ∧ Inv0 i n Hn) ?_ m0 ⟨0, H3, I4, st4, empt, first⟩
      rintro n s5 ⟨i, H5, I5, st5, n5, w5⟩
      rcases turn i n H5 w5 with ⟨over, told⟩ | ⟨more, Next, hNext, step⟩
      · refine thnF (T.done (X.blk s3 H3 scope ce fp) rfl rfl rfl hcalm i [] s5 _ H5 (fun _ _ => False) I5 (alone I5 n5) st5 over) fun r s6 ⟨hr, I6⟩ => ?_
        subst hr
        have I7 : Inv X pins σ H5 s6 := I3.call' (ch := fp) I6.os I6.base I6.hok I6.bare fun bb hb => ⟨(f3 bb hb).1.2.2.2.1, (f3 bb hb).1.2.1, (f3 bb hb).1.2.2.2.2.1, (f3 bb hb).1.2.2.2.2.2⟩
        have nC : H5 s3.heap.objs.size = none := by
          have zz : H5 ce.locals = none := I6.free
          rwa [cL] at zz
        obtain ⟨mm, hn, _⟩ := I6.loc
        have hn : s6.heap.Ns ce.locals mm := hn
        rw [cL] at hn
        exact back D s3.heap.objs.size s6 mm H5 I7 told hn (I3.fpOk (Nat.le_refl _) nC)
      · refine thnF (T.item (X.blk s3 H3 scope ce fp) rfl rfl rfl hcalm i [] s5 _ H5 (fun _ _ => False) I5 (alone I5 n5) st5 more) fun r s6 ⟨u, hr, h6⟩ => ?_
        subst hr
        refine thnF h6 fun _ s7 ⟨x, H7, I7, r7, y7, st7, n7⟩ => ?_
        refine thnF (pg.run _ s7 _ H7 x u _ (I7.pinned (alone I7 n7) (T.obj _ _ st7)) r7 (step x H7 y7)) fun _ s8 ⟨σ8, H8, I8, hw8, q8⟩ => ?_
        have ends : ∀ {s' : Shared} {H' : Hp}, Inv (X.blk s3 H3 scope ce fp) ([] ++ pinsAt fp s7.heap) σ8 H' s' → Next H' → ∃ m, m < n ∧ ∃ i Hn, Inv (X.blk s3 H3 scope ce fp) [] (L2.wipe σ (own.map (·.2))) Hn s' ∧ tn i s'.heap ∧ (∀ bb ∈ fp, Hn bb = none) ∧ Inv0 i m Hn := fun {s' H'} I' nx => by
          obtain ⟨mm, hmm, w'⟩ := hNext H' nx
          have pin' : ∀ bb ∈ fp, ∀ oo, s7.heap.get? bb = some oo → s'.heap.get? bb = some oo ∧ H' bb = none := fun bb hb oo ee =>
            let zz := I'.pin (bb, oo) (List.mem_append_right _ (List.mem_append_right _ (mem_pinsAt hb ee)))
            ⟨zz.1, zz.2.1⟩
          have hlw : (L2.wipe σ (own.map (·.2))).length = σ8.length := by rw [← hw8, wipe_length]
          refine ⟨mm, hmm, i + 1, H', (I'.unpinned (pins := [])).weak hlw (fun j vv ee => ?_), T.keep _ _ _ st7 fun bb hb oo ee => (pin' bb hb oo ee).1, fun bb hb => ?_, w'⟩
          · rw [← hw8] at ee
            exact (wipe_some ee).1
          · obtain ⟨oo, ee, _⟩ := T.obj _ _ st7 bb hb
            exact (pin' bb hb oo ee).2
        refine thnF ((pts_nil (X := X.blk s3 H3 scope ce fp)).run _ s8 σ8 H8 (fun b H => b = true ∧ H = H8) I8 ⟨rfl, rfl⟩) fun b9 s9 ⟨H9, I9, hb9, eH9⟩ => ?_
        subst hb9 eH9
        simp only [if_true]
        refine thnF (pk.run _ s9 σ8 H9 _ I9 q8) fun z s10 ⟨yk, H10, I10, r10, q10⟩ => ?_
        refine thnF (pv.run _ s10 σ8 H10 _ I10 q10) fun z2 s11 ⟨yv, H11, I11, r11, ents, ky, ba, ek, hba, hD11, hz11, nx⟩ => ?_
        subst ek
        cases (show z = Value.ref ba from r10)
        exact put_tupKey (X := X.blk s3 H3 scope ce fp) I11 hD11 hba hz11 hroom r11 fun s12 I12 => ends I12 nx
    exact codeAny_compStart_dict loop (T.self X.A 0 _ _ _ st4 loop)
  exact goal
end
end Ab
namespace Ab
open PySem L2 LamX
open Ab.Rp (rp)
open Ab.Dt (toD)
/-- the first of each -/
def stepU (acc : List Rat) (x : Rat) : List Rat := if x ∈ acc then acc else acc ++ [x]
def uniq (xs : List Rat) : List Rat := xs.foldl stepU []
def uniqTo (xs : List Rat) (i : Nat) : List Rat := (xs.take i).foldl stepU []
theorem uniqTo_succ {xs : List Rat} {i : Nat} {x : Rat} (h : xs[i]? = some x) : uniqTo xs (i + 1) = stepU (uniqTo xs i) x := by
  unfold uniqTo
  rw [List.take_add_one, h, List.foldl_append]
  rfl
theorem stepU_len (acc : List Rat) (x : Rat) : (stepU acc x).length ≤ acc.length + 1 := by
  unfold stepU
  split
  · omega
  · rw [List.length_append]; exact Nat.le_refl _
theorem uniqTo_len (xs : List Rat) : ∀ i, (uniqTo xs i).length ≤ i
  | 0 => by unfold uniqTo; rw [List.take_zero]; exact Nat.le_refl _
  | i + 1 => by
    by_cases h : i < xs.length
    · rw [uniqTo_succ (List.getElem?_eq_getElem h)]
      have := uniqTo_len xs i
      have := stepU_len (uniqTo xs i) xs[i]
      omega
    · have : uniqTo xs (i + 1) = uniqTo xs i := by
        unfold uniqTo
        rw [List.take_of_length_le (by omega), List.take_of_length_le (by omega)]
      rw [this]
      have := uniqTo_len xs i
      omega
/-- the entry of a key -/
def entU (q : Rat) : List Key × V := ([.inl q.num, .inl (q.den : Int)], .bl true)
theorem entU_inj {p q : Rat} (h : (entU p).1 = (entU q).1) : p = q := by
  have h : ([.inl p.num, .inl (p.den : Int)] : List Key) = [.inl q.num, .inl (q.den : Int)] := h
  injection h with h1 h2
  injection h2 with h3 h4
  injection h1 with h1
  injection h3 with h3
  exact Rat.ext h1 (by omega)
theorem putK_entU (acc : List Rat) (x : Rat) : putK (acc.map entU) (entU x).1 (.bl true) = (stepU acc x).map entU := by
  have hany : ((acc.map entU).any fun kv => decide (kv.1 = (entU x).1)) = decide (x ∈ acc) := by
    rw [List.any_map]
    induction acc with
    | nil => rfl
    | cons a acc ih =>
      rw [List.any_cons, ih]
      by_cases e : a = x
      · subst e
        simp
      · have : ¬ (entU a).1 = (entU x).1 := fun z => e (entU_inj z)
        show (decide ((entU a).1 = (entU x).1) || decide (x ∈ acc)) = _
        rw [decide_eq_false this, Bool.false_or]
        exact decide_eq_decide.mpr ⟨fun z => List.mem_cons_of_mem _ z, fun z => (List.mem_cons.mp z).resolve_left fun q => e q.symm⟩
  unfold putK stepU
  rw [hany]
  by_cases h : x ∈ acc
  · rw [if_pos (decide_eq_true h), if_pos h, List.map_map]
    refine List.map_congr_left fun q hq => ?_
    show (if (entU q).1 = (entU x).1 then ((entU q).1, V.bl true) else entU q) = entU q
    split <;> rfl
  · rw [if_neg (by rw [decide_eq_false h]; decide), if_neg h, List.map_append]
    rfl
theorem rps_keys {K : PySem.W.Frag} {H : Hp} : ∀ {acc : List Rat} {bs : List Addr}, IsKeys H (acc.map entU) bs → Rps K H (bs.map V.ref) acc
  | [], [], _ => .nil
  | a :: acc, b :: bs, h => by
    cases h with
    | cons h1 h2 => exact .cons ⟨b, rfl, h1⟩ (rps_keys h2)
  | [], _ :: _, h => by cases h
  | _ :: _, [], h => by cases h
section
variable {X : Cx} {c : Ctx} {ss : List AV} {iter : Expr} {pos tpos dpos p p1 p2 : Pos} {xs : List Rat} {scope : Scope} {y : Str} {j k : Nat}
/-- list({y: True for y in iter}) -/
theorem x_keys (i : Nat) (hr : Room k X.A) (hm : X.mg "list" = none) (hi : XIc X c ss (.Name y tpos) iter xs) (hsz : xs.length ≤ 100000)
    (hc : X.calm = true := by rfl) (hN : X.N.Nodup := by assumption) (ok : blkC X.N X.env.scope scope [(y, i)] = true := by rfl) (hun : ss[i]? = some .un := by rfl) (hx : X.N[i]? = some y := by rfl) (hl : ∀ (s : Shared) (H : Hp) (C : Addr) (cl : List (Str × Addr)) (fp : List Addr), (X.blk s H scope (compEnvC scope cl C X.env) fp).env.scope.names.lookup y = some .local := by intros; rfl)
    (hdb : (y == ("__debug__" : Str)) = false := by decide) (hcd : (y == ("__classdict__" : Str)) = false := by decide) (hg : Gl X "list" := by rfl)
    (hse : starEach [.DictComp (.Name y p1) (.Constant (.bool true) j p2) [⟨.Name y tpos, iter, [], 0⟩] scope dpos] X.env = (false, eval (.DictComp (.Name y p1) (.Constant (.bool true) j p2) [⟨.Name y tpos, iter, [], 0⟩] scope dpos) X.env) :: starEach [] X.env := by rfl) (hpl : (backTo pos (starEach [] X.env)).any (·.1) = false := by rfl)
    (hs : ∀ x, foldedSetIterable iter X.env x = pure x := by intro _; rfl) : XE X c ss (.Call (.Name "list" p) [.DictComp (.Name y p1) (.Constant (.bool true) j p2) [⟨.Name y tpos, iter, [], 0⟩] scope dpos] [] pos) (.own (uniq xs)) := by
  have hil := (List.getElem?_eq_some_iff.mp hun).1
  have hg1 : ∀ (s : Shared) (H : Hp) (C : Addr) (cl : List (Str × Addr)) (fp : List Addr), PG (X.blk s H scope (compEnvC scope cl C X.env) fp) (.Name y tpos) (fun v σ H Q => ∃ x : Rat, tGc X.K c ss [i] (.dat x) (ss.set i (.dat x)) v σ H Q) :=
    fun s H C cl fp => PG.all fun x => g_lc1 i hil hN hx (.inl (hl s H C cl fp)) (.inr (hl s H C cl fp))
  have hk1 : ∀ (s : Shared) (H : Hp) (C : Addr) (cl : List (Str × Addr)) (fp : List Addr), PE (X.blk s H scope (compEnvC scope cl C X.env) fp) (.Name y p1) (fun σ H Q => ∃ x : Rat, tX X.K c (ss.set i (.dat x)) (.dat x) σ H Q) :=
    fun s H C cl fp => PE.all fun x => x_var (X := X.blk s H scope (compEnvC scope cl C X.env) fp) i (by rw [List.getElem?_set_self hil]) hx (.inl (hl s H C cl fp)) hdb hcd
  have hv1 : ∀ (s : Shared) (H : Hp) (C : Addr) (cl : List (Str × Addr)) (fp : List Addr), PE (X.blk s H scope (compEnvC scope cl C X.env) fp) (.Constant (.bool true) j p2) (fun σ H Q => ∃ x : Rat, tX X.K c (ss.set i (.dat x)) (.dat true) σ H Q) :=
    fun s H C cl fp => PE.all fun x => x_bl
  refine (pe_callTy (call_list_dT hc) hg hm (by decide +kernel) (pa_cons (pe_dT (own := [(y, i)]) hr.units0 hc hN hi (blkOk_by ok) hg1 hk1 hv1 hs) pa_nil hse) (by decide) (by decide) hse hpl).wk fun σ H Q q => ⟨q.1, fun J H1 pr a1 g1 src w D hD => ?_⟩
  have nS : ¬ c.w.S D := a1.notS (Nf.of hD)
  have w0 : At X.K c ss (L2.wipe σ [i]) H1 := a1.wipe fun z hz => by
    obtain rfl := List.mem_singleton.mp hz
    exact hun
  have gd : ∀ {H' : Hp}, Gr c.w H1 H' → Gd X.K pr H1 H' := fun g => ⟨g.tu, fun z hz => by
    obtain ⟨n, vs, e, r⟩ := src z hz
    exact ⟨vs, g.all _ _ e n (fun ps e => by cases e), r.mono g.tu⟩⟩
  refine ⟨fun n m H' => m = xs.length - n ∧ n ≤ xs.length ∧ At X.K c ss (L2.wipe σ [i]) H' ∧ Gr c.w H1 H' ∧ H' D = some (.dT ((uniqTo xs n).map entU)), ⟨xs.length, rfl, Nat.zero_le _, w0.new hD, Gr.new hD, upd_same⟩, ?_⟩
  rintro n m H' ⟨rfl, hn', a', g', hDd⟩
  by_cases hlt : n < xs.length
  · refine .inr ⟨w.go n H' (gd g') hlt, fun H2 => At X.K c ss (L2.wipe σ [i]) H2 ∧ Gr c.w H1 H2 ∧ H2 D = some (.dT ((uniqTo xs (n + 1)).map entU)), fun H2 ⟨a2, g2, k2⟩ => ⟨xs.length - (n + 1), by omega, rfl, hlt, a2, g2, k2⟩, fun x H2 yy => ?_⟩
    obtain ⟨d, hd1, hd2, hH⟩ := w.yld n H' x H2 (gd g') hlt yy
    have a2 : At X.K c ss (L2.wipe σ [i]) H2 ∧ Gr c.w H' H2 := by
      rcases hH with hH | ⟨T', vs, hT, hH⟩
      · rw [hH]
        exact ⟨a', Gr.refl _ _⟩
      · rw [hH]
        exact ⟨a'.new hT, Gr.new hT⟩
    refine ⟨d, a2.1, ⟨d, hd2, rfl⟩, fun σ3 a3 ew => ⟨(show L2.wipe σ3 [i] = L2.wipe σ [i] from ew.trans wipe_wipe), d, a3, fun v H4 a4 g4 ⟨d', hd', ed⟩ => ⟨d, a4, fun v5 H5 a5 g5 ⟨bb, hbb, eb⟩ => ?_⟩⟩⟩
    have ed : d' = d := ed
    have eb : bb = true := eb
    subst ed eb
    obtain ⟨b, rfl, hb⟩ := hd'
    have hbb : v5 = .bl true := hbb
    subst hbb
    have g25 : Gr c.w H' H5 := (a2.2.trans g4).trans g5
    have hD5 : H5 D = some (.dT ((uniqTo xs n).map entU)) := g25.all _ _ hDd nS fun ps z => by cases z
    have base5 : At X.K c ss (L2.wipe σ [i]) H5 := (a2.1.mono (g4.trans g5) a5.j)
    refine ⟨(uniqTo xs n).map entU, (entU d').1, b, rfl, g5.tup _ _ hb, hD5, by rw [List.length_map]; have := uniqTo_len xs n; exact Nat.lt_of_le_of_lt (Nat.le_trans this (Nat.le_trans hn' hsz)) (by decide), w0.outO (Nf.of hD) base5 hD5 (fun z => z), (g'.trans g25).putO (Nf.of hD), ?_⟩
    rw [upd_same, putK_entU, uniqTo_succ hd1]
  · have hi2 : n = xs.length := by omega
    subst hi2
    refine .inl ⟨w.stop _ H' (gd g') (Nat.le_refl _), D, (uniqTo xs xs.length).map entU, rfl, .inl hDd, fun P bs hP hk => ?_⟩
    have e : uniqTo xs xs.length = uniq xs := by unfold uniqTo uniq; rw [List.take_length]
    rw [e] at hk
    exact q.2 (.ref P) _ ((a1.mono g' a'.j).new hP) ((g1.trans g').trans (Gr.new hP)) ⟨P, _, rfl, (g1.trans g').fresh (Nf.of hP), upd_same, (rps_keys hk).mono (Tu.new hP)⟩
end
end Ab

/-! AbR: xs.remove(x) over data. -/
namespace Ab
open PySem PySem.Spec PyProof.Rows L2 LamX
open Ab.Rp (rp)
open Ab.Dt (toD)
section
variable {X : Cx}
def rRemD (K : PySem.W.Frag) : V → List V → Hp → VK → Prop := fun x vs H Q => ∃ (l : Addr) (xs : List V) (y : V) (ds : List PyData) (d : PyData) (j : Nat), x = .ref l ∧ vs = [y] ∧ H l = some (.lst xs) ∧ DpAll K H xs ds ∧ Dp K H y d ∧ PyData.plainAll ds = true ∧ d.plain = true ∧ d.depth ≤ 60 ∧
  PySem.SeqAt.dataPlace ds d = some j ∧ Q .non (upd H l (.lst (xs.eraseIdx j)))
theorem mt_removeD (hu : X.A.units + 64 < cLine) : MtM X "list.remove" (rRemD X.K) := by
  intro pins s σ H x xs v us Q I rx rxs h
  obtain ⟨l, vs, y, ds, d, j, rfl, rfl, hH, hds, hd, pl, pd, dep, place, q⟩ := h
  cases rx
  obtain ⟨u, rfl, ru⟩ := rxs.one
  obtain ⟨z, its, n, r, hl, e⟩ := I.lstM hH
  obtain ⟨as, rs⟩ := Dp.readsAll I ds vs its hds r
  obtain ⟨bs, rd⟩ := Dp.reads I d y u hd ru
  have hmin : min (PyData.depthAll ds) d.depth ≤ 60 := Nat.le_trans (Nat.min_le_right _ _) dep
  refine PySem.SeqAt.remove_list_data (vs := its.toArray) ⟨_, e, rfl, n, rfl⟩ (by rw [List.toList_toArray]; exact rs) rd pl pd (by omega) place (by rw [List.size_toArray]; omega) ?_
  refine ⟨.non, _, I.lset (its' := its.eraseIdx j) (t' := s.toks) hH e ?_ (r.eraseIdx j) ?_, rfl, q⟩
  · show its.toArray.eraseIdxIfInBounds j = (its.eraseIdx j).toArray
    rw [List.eraseIdxIfInBounds_toArray]
  · have := List.length_eraseIdx_le its j
    have := List.length_eraseIdx_le vs j
    omega
end
theorem Rps.eraseIdx {K : PySem.W.Frag} {H : Hp} {α : Type} [Rp α] {vs : List V} {xs : List α} (h : Rps K H vs xs) (j : Nat) : Rps K H (vs.eraseIdx j) (xs.eraseIdx j) := by
  induction h generalizing j with
  | nil => exact .nil
  | cons a h ih =>
    cases j with
    | zero => exact h
    | succ j => exact .cons a (ih j)
section
variable {X : Cx} {c : Ctx} {ss : List AV} {D : AE} {e : Expr} {rest : List Stmt} {pos : Pos} {α : Type} [Dt α] [DecidableEq α] {xs : List α} {x : α}
theorem place_of {j : Nat} (h : xs.findIdx? (fun y => decide (y = x)) = some j) : PySem.SeqAt.dataPlace (xs.map Dt.toD) (Dt.toD x) = some j := by
  unfold PySem.SeqAt.dataPlace
  rw [List.findIdx?_map]
  rw [← h]
  congr 1
  funext y
  exact eqv_dec y x
/-- xs.remove(x), x there -/
theorem q_remove {k : Nat} (i : Nat) {y : Str} {j : Nat} {ap p1 p2 : Pos} (hr : Room k X.A) (he : XA X c ss [e] [.dat x]) (hj : xs.findIdx? (fun y => decide (y = x)) = some j) (ox : ∀ z ∈ xs, Dt.ok z) (o1 : Dt.ok x) (h : XSs X c (ss.set i (.own (xs.eraseIdx j))) rest D) (hdp : Dt.dpt α ≤ 60 := by decide) (hx : ss[i]? = some (.own xs) := by rfl)
    (hN : X.N[i]? = some y := by rfl) (hv : Vis X.env.scope y := by first | exact Or.inl rfl | exact Or.inr (Or.inl rfl) | exact Or.inr (Or.inr rfl)) (hd : (y == ("__debug__" : Str)) = false := by decide) (hcd : (y == ("__classdict__" : Str)) = false := by decide)
    (hs : swapsWith (.Call (.Attribute (.Name y p1) "remove" ap) [e] [] p2) none pos.line X.env = pure false := by rfl)
    (hbase : attributeBase (.Name y p1) "remove" X.env (eval (.Name y p1) X.env) = eval (.Name y p1) X.env := by rfl)
    (hfew : ((backTo p2 (starEach [e] X.env)).all (fun x => !x.1) && (backToKw p2 (keywordEach [] X.env)).all (fun x => x.1.isSome)
      && decide ([e].length + ([] : List Keyword).length + (if ([] : List Keyword).isEmpty then 0 else 1) < 30)) = true := by rfl)
    (hline : (ap.endLine == p2.line) = true := by rfl) (hst : starEach [e] X.env = (false, eval e X.env) :: starEach [] X.env := by rfl) : XSs X c ss (.Expr (.Call (.Attribute (.Name y p1) "remove" ap) [e] [] p2) pos :: rest) D :=
  q_seq (N := fun ss' => ss' = ss.set i (.own (xs.eraseIdx j))) ((ps_expr (pe_bm PySem.F.plainAttrs_list PySem.F.slot_list_remove PySem.F.type_list_remove (mt_removeD hr.units) (pe_var hN hv hd hcd) he hbase hfew hline hst) hs).wk fun De σ H q => by
    obtain ⟨p, vs, e1, n, e2, r, h0⟩ := q.1.varL hx
    refine ⟨.ref p, e1, .inl ⟨rfl, vs, SqL.of e2⟩, q.1, fun us H1 a1 g1 ok => ?_⟩
    obtain ⟨v, rfl, z, hz2, hzx⟩ := ok.one
    have hzx : z = x := hzx
    subst hzx
    obtain ⟨p', vs', f1, f2, fr, put⟩ := a1.put (ys := xs.eraseIdx j) hx
    have ep : p' = p := V.ref.inj (Option.some.inj (Option.some.inj (f1.symm.trans e1)))
    subst ep
    refine ⟨p', vs', v, xs.map Dt.toD, Dt.toD z, j, rfl, rfl, f2, dpAll fr, Dt.dp hz2, ?_, ?_, Nat.le_trans (Dt.dep _) hdp, place_of hj, ?_⟩
    · exact PyData.plainAll_of_canLay0 _ (layAll ox)
    · exact PyData.plain_of_canLay0 _ (Dt.lay _ o1)
    · exact q.2.1 _ _ _ rfl (put _ (fr.eraseIdx j)).1) fun ss' z => by
    rw [z]
    exact h
end
end Ab
namespace Ab
open PySem L2
open Ab.Rp (rp)
open Ab.Dt (toD)
theorem atI_at {α : Type} {xs : List α} {k : Nat} {x : α} (h : xs[k]? = some x) : atI xs (k : Int) = some x := by
  have hk := (List.getElem?_eq_some_iff.mp h).1
  unfold atI ixN
  rw [if_pos (by omega), if_pos (by omega)]
  exact h
theorem atI_head {α : Type} {x : α} {xs : List α} : atI (x :: xs) 0 = some x := atI_at (k := 0) rfl
theorem atI_last {α : Type} {xs : List α} {x : α} (h : xs.getLast? = some x) : atI xs (-1) = some x := by
  rw [List.getLast?_eq_getElem?] at h
  have hl := (List.getElem?_eq_some_iff.mp h).1
  unfold atI ixN
  rw [if_neg (by omega), if_pos (by omega)]
  show xs[(-1 + (xs.length : Int)).toNat]? = some x
  rw [show (-1 + (xs.length : Int)).toNat = xs.length - 1 by omega]
  exact h
end Ab

/-! AbT: loops that look at a list of one's own; lists seen as of another kind; z = [.. for a, b in ..]. -/
namespace Ab
open PySem L2 LamX
open Ab.Rp (rp)
open Ab.Dt (toD)
section
variable {X : Cx} {c : Ctx} {ss : List AV} {D : AE} {tg iter : Expr} {body rest : List Stmt} {pos : Pos} {α β : Type} [Rp α] [Rp β] {xs : List α} {zs : List β}
/-- for over what is made of a list of one's own in the j-th slot; the turns may read it -/
theorem q_forG (j : Nat) (S : Addr → Nat → List AV) (T : Addr → Nat → β → List AV) (hc : X.calm = true) (hi : ∀ q tu, XI X (c.add [⟨q, xs⟩] tu) (S q 0) tg iter zs) (h0 : ∀ p, ss.set j (.val (.ref p)) = S p 0) (hg : ∀ c' q i x, zs[i]? = some x → XG X c' (S q i) tg (.dat x) (T q i x))
    (hb : ∀ q tu0 pr tu i x, zs[i]? = some x → XSs X ((c.add [⟨q, xs⟩] tu0).add pr tu) (T q i x) body { nx := fun s => s = S q (i + 1), ct := fun s => s = S q (i + 1), bk := fun _ => False, rt := D.rt }) (hj : ∀ q, (S q zs.length)[j]? = some (.val (.ref q))) {s1 : List AV} (h1 : ∀ q, (S q zs.length).set j (.own xs) = s1) (hd : XSs X c s1 rest D)
    (e0 : ss[j]? = some (.own xs) := by rfl) (hp : PassesOwn (model X.prog X.w) X.A X.env X.xe := by exact PassesOwn.never) (hs : ∀ y, foldedSetIterable iter X.env y = pure y := by intro _; rfl) : XSs X c ss (.For tg iter body [] pos :: rest) D := by
  refine q_with j (fun s => s = s1) (fun q tu => ?_) (fun s z => by rw [z]; exact hd) e0
  rw [h0 q]
  exact s_forS (S q) (T q) hc (hi q tu) rfl (fun c' i x hx => hg c' q i x hx) (fun pr tu' i y hy => hb q tu pr tu' i y hy) ⟨hj q, h1 q⟩ hp hs
/-- for x in a list of one's own -/
theorem q_forL {x : Str} {p : Pos} (j : Nat) (S : Addr → Nat → List AV) (T : Addr → Nat → α → List AV) (hc : X.calm = true) (h0 : ∀ p, ss.set j (.val (.ref p)) = S p 0) (hg : ∀ c' q i x, xs[i]? = some x → XG X c' (S q i) tg (.dat x) (T q i x))
    (hb : ∀ q tu0 pr tu i x, xs[i]? = some x → XSs X ((c.add [⟨q, xs⟩] tu0).add pr tu) (T q i x) body { nx := fun s => s = S q (i + 1), ct := fun s => s = S q (i + 1), bk := fun _ => False, rt := D.rt }) (hj : ∀ q, (S q xs.length)[j]? = some (.val (.ref q))) {s1 : List AV} (h1 : ∀ q, (S q xs.length).set j (.own xs) = s1) (hd : XSs X c s1 rest D)
    (e0 : ss[j]? = some (.own xs) := by rfl) (hN : X.N[j]? = some x := by rfl) (hv : Vis X.env.scope x := by first | exact Or.inl rfl | exact Or.inr (Or.inl rfl) | exact Or.inr (Or.inr rfl)) (hdb : (x == ("__debug__" : Str)) = false := by decide) (hcd : (x == ("__classdict__" : Str)) = false := by decide)
    (hp : PassesOwn (model X.prog X.w) X.A X.env X.xe := by exact PassesOwn.never) (hs : ∀ y, foldedSetIterable (.Name x p) X.env y = pure y := by intro _; rfl) : XSs X c ss (.For tg (.Name x p) body [] pos :: rest) D := by
  have hjl : j < ss.length := (List.getElem?_eq_some_iff.mp e0).1
  refine q_forG j S T hc (fun q tu => i_pr (List.mem_append_left _ (List.mem_singleton.mpr rfl)) (x_varV j ?_ hN hv hdb hcd)) h0 hg hb hj h1 hd e0 hp hs
  rw [← h0 q, List.getElem?_set_self hjl]
/-- a list of one's own as a list of another kind -/
theorem rps_as {K : PySem.W.Frag} {H : Hp} {F : α → β} (hF : ∀ v x, rp K H v x → rp K H v (F x)) {vs : List V} {xs : List α} (h : Rps K H vs xs) : Rps K H vs (xs.map F) := by
  induction h with
  | nil => exact .nil
  | cons a _ ih => exact .cons (hF _ _ a) ih
theorem x_ownAs {e : Expr} {F : α → β} (hF : ∀ (K : PySem.W.Frag) (H : Hp) v x, rp K H v x → rp K H v (F x)) (h : XE X c ss e (.own xs)) : XE X c ss e (.own (xs.map F)) := x_conv h fun _ _ _ _ ⟨p, vs, e, n, k, r⟩ => ⟨p, vs, e, n, k, rps_as (fun v x => hF _ _ v x) r⟩
theorem s_as {F : α → β} (i : Nat) (hF : ∀ (K : PySem.W.Frag) (H : Hp) v x, rp K H v x → rp K H v (F x)) (h : XSs X c (ss.set i (.own (xs.map F))) body D) (e : ss[i]? = some (.own xs) := by rfl) : XSs X c ss body D := s_weak h fun σ H a =>
  a.weak (List.length_set ..) fun j t et => by
    have hi := (List.getElem?_eq_some_iff.mp e).1
    by_cases h : i = j
    · subst h
      rw [List.getElem?_set_self hi] at et
      cases et
      exact ⟨_, e, fun _ => trivial, fun o ad ⟨vs, q1, q2, q3, q4⟩ => ⟨vs, q1, q2, rps_as (fun v x => hF _ _ v x) q3, q4⟩⟩
    · rw [List.getElem?_set_ne h] at et
      exact ⟨t, et, id, fun _ _ => id⟩
end
/-- pairs and texts together -/
instance {α β : Type} [Rp α] [Rp β] : Rp ((α × β) ⊕ Str) := ⟨fun K H v x => match x with | .inl y => rp K H v y | .inr s => v = .str s, fun {_ _ _ _ x} t h => by
  cases x with
  | inl y => exact Rp.mono t h
  | inr s => exact h⟩
instance {α β : Type} [Dt α] [Dt β] : Dt ((α × β) ⊕ Str) where
  toD := fun x => match x with | .inl y => toD y | .inr s => .str s
  ok := fun x => match x with | .inl y => Dt.ok y | .inr s => PySem.PyData.strOk s = true
  dpt := Dt.dpt (α × β)
  dp := fun {K H v x} q => by
    cases x with
    | inl y => exact Dt.dp (α := α × β) q
    | inr s =>
      have q : v = .str s := q
      subst q
      exact .str s
  lay := fun x q => by
    cases x with
    | inl y => exact Dt.lay y q
    | inr s => exact q
  dep := fun x => by
    cases x with
    | inl y => exact Dt.dep y
    | inr s => exact Nat.zero_le _
  eqv := fun x y => by
    cases x with
    | inl a => cases y with
      | inl b => exact (Dt.eqv a b).trans ⟨fun h => by rw [h], fun h => by injection h⟩
      | inr s =>
        constructor
        · intro h
          have h : PyData.eqv (.tuple [toD a.1, toD a.2]) (.str s) = true := h
          simp [PyData.eqv] at h
        · intro h; cases h
    | inr t => cases y with
      | inl b =>
        constructor
        · intro h
          have h : PyData.eqv (.str t) (.tuple [toD b.1, toD b.2]) = true := h
          simp [PyData.eqv] at h
        · intro h; cases h
      | inr s => exact (Dt.eqv t s).trans ⟨fun h => by rw [h], fun h => by injection h⟩
  nn := true
  no := fun _ x => by
    cases x with
    | inl y => exact fun z => by cases z
    | inr s => exact fun z => by cases z
section
variable {X : Cx} {c : Ctx} {ss : List AV} {D : AE} {iter elt : Expr} {ifs : List Expr} {rest : List Stmt} {pos tpos spos py p1 p2 : Pos} {α β γ : Type} [Rp α] [Rp β] [Rp γ] {xs : List (α × γ)} {scope : Scope} {y y2 z : Str} {kk : Nat}
/-- z = [elt for y, y2 in iter if ..], z in the k-th slot, y in the i-th, y2 in the j-th -/
theorem q_lc2 (k i j : Nat) (f : α × γ → β) (g : α × γ → Bool) (hi : XIc X c ss (.Tuple [.Name y p1, .Name y2 p2] kk tpos) iter xs) (hsz : xs.length ≤ 100000)
    (ht : ∀ (s : Shared) (H : Hp) (C : Addr) (cl : List (Str × Addr)) (fp : List Addr) (x : α × γ), x ∈ xs → PTs (X.blk s H scope (compEnvC scope cl C X.env) fp) ifs (tB X.K c ((ss.set i (.dat x.1)).set j (.dat x.2)) (· = g x)))
    (he : ∀ (s : Shared) (H : Hp) (C : Addr) (cl : List (Str × Addr)) (fp : List Addr) (x : α × γ), x ∈ xs → g x = true → PE (X.blk s H scope (compEnvC scope cl C X.env) fp) elt (tX X.K c ((ss.set i (.dat x.1)).set j (.dat x.2)) (.dat (f x))))
    (h : XSs X c (ss.set k (.own ((xs.filter g).map f))) rest D)
    (hij : i ≠ j := by decide) (hk : k < ss.length := by exact Nat.le_of_ble_eq_true rfl) (hc : X.calm = true := by rfl) (hN : X.N.Nodup := by assumption) (ok : blkC X.N X.env.scope scope [(y, i), (y2, j)] = true := by rfl) (hun : ss[i]? = some .un := by rfl) (hun2 : ss[j]? = some .un := by rfl) (hx : X.N[i]? = some y := by rfl) (hx2 : X.N[j]? = some y2 := by rfl) (hz : X.N[k]? = some z := by rfl) (hzl : X.env.scope.names.lookup z = some .local := by rfl)
    (hl : ∀ (s : Shared) (H : Hp) (C : Addr) (cl : List (Str × Addr)) (fp : List Addr), (X.blk s H scope (compEnvC scope cl C X.env) fp).env.scope.names.lookup y = some .local := by intros; rfl) (hl2 : ∀ (s : Shared) (H : Hp) (C : Addr) (cl : List (Str × Addr)) (fp : List Addr), (X.blk s H scope (compEnvC scope cl C X.env) fp).env.scope.names.lookup y2 = some .local := by intros; rfl)
    (e1 : ∀ (s : Shared) (H : Hp) (C : Addr) (cl : List (Str × Addr)) (fp : List Addr), (assignEach [.Name y p1, .Name y2 p2] (X.blk s H scope (compEnvC scope cl C X.env) fp).env).map (·.2) = assign (.Name y p1) (X.blk s H scope (compEnvC scope cl C X.env) fp).env :: (assignEach [.Name y2 p2] (X.blk s H scope (compEnvC scope cl C X.env) fp).env).map (·.2) := by intros; rfl)
    (e2 : ∀ (s : Shared) (H : Hp) (C : Addr) (cl : List (Str × Addr)) (fp : List Addr), (assignEach [.Name y2 p2] (X.blk s H scope (compEnvC scope cl C X.env) fp).env).map (·.2) = assign (.Name y2 p2) (X.blk s H scope (compEnvC scope cl C X.env) fp).env :: (assignEach [] (X.blk s H scope (compEnvC scope cl C X.env) fp).env).map (·.2) := by intros; rfl)
    (hsw : swapsWith (.ListComp elt [⟨.Tuple [.Name y p1, .Name y2 p2] kk tpos, iter, ifs, 0⟩] scope pos) (some (.Name z py)) spos.line X.env = pure true := by exact sw_true rfl rfl rfl rfl)
    (hs : ∀ x, foldedSetIterable iter X.env x = pure x := by intro _; rfl) : XSs X c ss (.Assign [.Name z py] (.ListComp elt [⟨.Tuple [.Name y p1, .Name y2 p2] kk tpos, iter, ifs, 0⟩] scope pos) spos :: rest) D := by
  have hib := (List.getElem?_eq_some_iff.mp hun).1
  have hjb := (List.getElem?_eq_some_iff.mp hun2).1
  have P := ps_setLc (i := k) (y := z) (py := py) (spos := spos) (pos := pos) (g := lcG X.K c ss [i, j] (fun x : α × γ => (ss.set i (.dat x.1)).set j (.dat x.2))) (tt := lcT X.K c xs (fun n b => ∃ x, xs[n]? = some x ∧ b = g x) (fun x : α × γ => (ss.set i (.dat x.1)).set j (.dat x.2)))
    (te := lcE X.K c xs (fun n b => ∃ x, xs[n]? = some x ∧ b = g x) (fun n w => ∃ x, xs[n]? = some x ∧ w = f x) (fun x : α × γ => (ss.set i (.dat x.1)).set j (.dat x.2))) (own := [(y, i), (y2, j)]) hc hN hz hzl hsw hi (blkOk_by ok)
    (fun s H C cl fp => PG.all fun x => g_lc2 i j hc hij hib hjb hN hx hx2 (.inl (hl s H C cl fp)) (.inl (hl2 s H C cl fp)) (.inr (hl s H C cl fp)) (.inr (hl2 s H C cl fp)) (e1 s H C cl fp) (e2 s H C cl fp))
    (fun s H C cl fp => ⟨fun pins s' σ H' Q J ⟨n, x, hx, q⟩ => (ht s H C cl fp x (List.mem_of_getElem? hx)).run pins s' σ H' Q J ⟨q.1, fun b H2 a g p => q.2 b H2 a g ⟨x, hx, p⟩⟩⟩)
    (fun s H C cl fp => PE.all fun n => PE.all fun x => PE.all fun hx => PE.all fun (⟨x', hx', p⟩ : ∃ x, xs[n]? = some x ∧ true = g x) => (he s H C cl fp x (List.mem_of_getElem? hx) (by
      rw [hx] at hx'
      cases hx'
      exact p.symm)).wk fun σ H' Q q => ⟨q.1, fun v H2 a g ⟨z, hz, e⟩ => q.2 v H2 a g ⟨z, hz, x, hx, e⟩⟩) hs
  refine q_seq (N := fun s => s = ss.set k (.own ((xs.filter g).map f))) (P.wk fun De σ H q => ?_) fun s e => by
    rw [e]
    exact h
  refine lc_read (vs0 := [i, j]) (R := .own ((xs.filter g).map f)) (fun i zs => zs = ((xs.take i).filter g).map f) (fun n b => ∃ x, xs[n]? = some x ∧ b = g x) (fun n w => ∃ x, xs[n]? = some x ∧ w = f x) (fun x : α × γ => (ss.set i (.dat x.1)).set j (.dat x.2)) (fun n hn => by
    rcases List.mem_cons.mp hn with rfl | hn
    · exact hun
    · obtain rfl := List.mem_singleton.mp hn
      exact hun2) hsz (by rw [List.take_zero]; rfl) (fun i zs hi h ⟨x, hx, e⟩ => (given_step hx h).1 e.symm) (fun i zs z hi h ⟨x, hx, e⟩ ⟨x', hx', e'⟩ => by
      rw [hx] at hx'
      cases hx'
      rw [e']
      exact (given_step hx h).2 e.symm) (fun H H' v zs h ok => by
      have h : zs = ((xs.take xs.length).filter g).map f := h
      rw [List.take_length] at h
      rw [← h]
      exact ok) σ H _ ⟨q.1, fun v H1 a1 g1 ⟨p, vs, e1, n, hp, r⟩ => ?_⟩
  subst e1
  exact q.2.1 _ _ _ rfl (q.1.setOwn a1 n hp r hk)
end
end Ab

/-! AbU: sorted(t) of a tuple. -/
namespace Ab
open PySem PySem.W PySem.Spec PyProof.Rows L2 LamX
open Ab.Rp (rp)
open Ab.Dt (toD)
section
variable {pg : Program} {wd : World} {Ar : Around} {Er : Value → Shared → Prop}
theorem collect_tup {s : Shared} {l : Addr} {vs : List Value} {Qc : List Value → Shared → Prop} (ht : s.heap.IsTuple l vs.toArray) (small : vs.length ≤ sizeLine)
    (go : Qc vs { s with heap := (s.heap.push (seqObj "list" #[] 0)).update s.heap.objs.size (Obj.mapSeq (· ++ vs.toArray)) }) : wpAny (model pg wd) Ar (collect (.ref l)) Qc Er s := by
  obtain ⟨ob, at0, cl, cnt, dat⟩ := id ht
  have at1 : (s.heap.push (seqObj "list" #[] 0)).get? l = some ob := Heap.get?_push_of_some _ at0
  have new1 : (s.heap.push (seqObj "list" #[] 0)).get? s.heap.objs.size = some (seqObj "list" #[] 0) := Heap.get?_push_size _ rfl
  have room : ((#[] : Array Value) ++ vs.toArray).size ≤ sizeLine + 1 := by
    rw [Array.size_append, List.size_toArray]
    show 0 + vs.length ≤ _
    omega
  have isT : (Value.type "tuple" == Value.type "tuple") = true := rfl
  have last : wpAny (model pg wd) Ar (load s.heap.objs.size >>= fun ol => match ol.data with | .seq ys _ => pure ys.toList | _ => unsupported "internal:collect") Qc Er { s with heap := (s.heap.push (seqObj "list" #[] 0)).update s.heap.objs.size (Obj.mapSeq (· ++ vs.toArray)) } :=
    wpAny_bind (wpAny_load (get?_update_seq new1 _) (wpAny_pure (by simpa using go)))
  unfold collect
  exact wpAny_bind (wpAny_runValue (codeAny_builtin entry_proto_collect' (wpAny_bind (wpAny_newList (wpAny_pure ⟨Code.quiet_builtin _ (by decide +kernel), codeAny_builtin entry_list_iadd' (by
    show wpAny _ _ (Builtin.List.listExtendWith (.ref s.heap.objs.size) (.ref l) (.ref s.heap.objs.size)) _ _ { s with heap := s.heap.push (seqObj "list" #[] 0) }
    unfold Builtin.List.listExtendWith
    refine wpAny_bind (wpAny_typeOf (T := "tuple") ⟨ob, at1, cl⟩ ?_)
    rw [isT, Bool.or_true, if_pos rfl]
    exact wpAny_bind (listItems_at at1 dat (wpAny_bind (listItems_at new1 rfl (by
      rw [if_neg (by simp)]
      exact wpAny_bind (listUpdate_at new1 rfl (wpAny_pure last) (Nat.zero_le _) room))))))⟩)))))
/-- sorted(t) sorts a new list of its items -/
theorem sorted_tupB {s : Shared} {l : Addr} {vs : List Value} {Qs : Value → Shared → Prop} (ht : s.heap.IsTuple l vs.toArray) (small : vs.length ≤ sizeLine)
    (sorts : ∀ Eo : Value → Shared → Prop, wpAny (model pg wd) Ar.in1.in1 (Builtin.«list.sort» ⟨[.ref (s.heap.objs.size + 1)], []⟩) (fun f sh => f = .done (.ret .none) ∧ Qs (.ref (s.heap.objs.size + 1)) sh) Eo { s with heap := copyHeap s.heap vs }) : wpAny (model pg wd) Ar (call (.builtin "sorted") [.ref l]) Qs Er s := by
  have place : ((s.heap.push (seqObj "list" #[] 0)).update s.heap.objs.size (Obj.mapSeq (· ++ vs.toArray))).objs.size = s.heap.objs.size + 1 := (Heap.size_update ..).trans (size_push' ..)
  have told : wpAny (model pg wd) Ar (call (.builtin "sorted") [.ref l] []) Qs Er s := by
    refine call_function_entry_kw kind_sorted plain_sorted entry_sorted (args_sorted1 (.ref l)) (?_ : _)
    unfold Builtin.«sorted»
    exact wpAny_bind (m := checkCount "sorted" 1 1 _) (wpAny_pure (wpAny_bind (collect_tup ht small (wpAny_bind (wpAny_newList (by
      show wpAny _ _ _ _ _ ({ s with heap := copyHeap s.heap vs } : Shared)
      rw [place]
      refine wpAny_bind (wpAny_holding (wpAny_call_entry_kw slot_list_sort ⟨_, copyHeap_at s.heap vs, rfl⟩ entry_list_sort ?inner (args_list_sort (.ref (s.heap.objs.size + 1)))))
      case inner => exact wpAny_mono (sorts _) (fun f sh ⟨e1, e2⟩ => by
        subst e1
        exact ⟨_, rfl, wpAny_pure ⟨_, rfl, e2⟩⟩) fun _ _ z => z) small)))))
  exact told
theorem sorted_tupD {s : Shared} {β : Type} {vs : List Value} {bs : List β} {enc : β → PyData} {R : Value → β → Prop} {l : Addr} {Qs : Value → Shared → Prop} (ht : s.heap.IsTuple l vs.toArray) (e : PySem.W.EachIs R vs bs) (er : PySem.W.EachIs (fun v b => ∃ as, Reads s.heap v (enc b) as) vs bs) (hal : PySem.W.AllAlike (bs.map enc)) (hk : PySem.W.Sortable (bs.map enc)) (hL : bs.length ≤ sizeLine)
    (hu : ∀ b, b ∈ bs → Ar.units + 2 + (enc b).depth < cLine) (go : ∀ out, out.length = bs.length → PySem.W.EachIs R out (bs.mergeSort (PySem.W.dataLe false enc)) → Qs (.ref (s.heap.objs.size + 1)) { s with heap := sortedAll s.heap vs (List.toArray out) }) :
    wpAny (model pg wd) Ar (call (.builtin "sorted") [.ref l]) Qs Er s := by
  have er2 : PySem.W.EachIs (fun v b => ∃ as, Reads (sortingHeap (copyHeap s.heap vs) (s.heap.objs.size + 1) vs) v (enc b) as) vs bs := er.mono fun _ _ ⟨as, rd⟩ => ⟨as, PyProof.Rows.Reads.keeps (fun _ _ => sorting_copy_old) rd⟩
  have so := SortsAt.data (prog := pg) (w := wd) (A := Ar.in1.in1) (s := { s with heap := sortingHeap (copyHeap s.heap vs) (s.heap.objs.size + 1) vs }) (each_map (R := fun v d => ∃ as, Reads (sortingHeap (copyHeap s.heap vs) (s.heap.objs.size + 1) vs) v d as) enc er2) hal hk (bound_map hu)
  have lv : vs.length ≤ sizeLine := by rw [e.length]; exact hL
  exact sorted_tupB ht lv fun _ => list_sort_vals (s := { s with heap := copyHeap s.heap vs }) (copyHeap_at s.heap vs) so lv ⟨rfl, go _ ((sortVals_length false rfl).trans e.length) (sortVals_data false e er2 hal)⟩
end
section
variable {X : Cx} {c : Ctx} {ss : List AV} {e : Expr} {p0 pos : Pos}
/-- sorted(t) of a tuple of texts -/
theorem x_sortedT {xs : List Str} (hr : Room 3 X.A) (hm : X.mg "sorted" = none) (he : XA X c ss [e] [.dat xs]) (hsz : xs.length ≤ 100000)
    (hg : Gl X "sorted" := by rfl) (hst : starEach [e] X.env = (false, eval e X.env) :: starEach [] X.env := by rfl) (hpl : (backTo pos (starEach [] X.env)).any (·.1) = false := by rfl) : XE X c ss (.Call (.Name "sorted" p0) [e] [] pos) (.own (srt xs)) := by
  refine ⟨fun pins s σ H Q I q => wpAny_Call_Name_kw (ld_blt I hg hm PyProof.Rows.boot_sorted ?_ (by decide) (by decide))⟩
  refine PyProof.Rows.callWith_builtin1 (thn (he.run pos pins s σ H _ I ⟨q.1, fun us H1 a1 g1 ok => (⟨a1, g1, ok⟩ : At X.K c ss σ H1 ∧ Gr c.w H H1 ∧ RsOks X.K c.w H H1 us [.dat xs])⟩) fun us s1 ⟨vs, H1, I1, r1, a1, g1, ok⟩ => ?_) hst hpl
  obtain ⟨v, rfl, ys, hy, eyx⟩ := ok.one
  have eyx : ys = xs := eyx
  subst eyx
  obtain ⟨l, ws, rfl, hl, hrs⟩ := hy
  obtain ⟨u0, rfl, hu0⟩ : ∃ u0, us = [u0] ∧ RelV (.ref l) u0 := by
    cases r1 with
    | cons r rr =>
      cases rr
      exact ⟨_, rfl, r⟩
  cases hu0
  obtain ⟨its, rv, hp1, hz⟩ := I1.tuple hl
  obtain ⟨hE, hD⟩ := rel_data I1 hrs rv
  have hzl : (ws.zip ys).length = ys.length := by rw [List.length_zip, hrs.len, Nat.min_self]
  have hn1 : H1 (s1.heap.objs.size + 1) = none := I1.hok.fresh (Nat.le_succ _)
  refine sorted_tupD (enc := fun z : V × Str => Dt.toD z.2) hp1 hE hD (PySem.W.AllAlike.of fun a b => rfl) (PySem.W.Sortable.others fun b => ⟨(fun z => by cases z), (fun _ z => by cases z)⟩) (by rw [hzl]; exact Nat.le_trans hsz (by decide)) (fun b hb => ?_) (fun out hlen hout => ?_)
  · have := hr.un
    show X.A.units + 2 + 0 < cLine
    omega
  · obtain ⟨o1, o2⟩ := out_data (K := X.K) (H := H1) (fun v z h => ⟨h.1, h.2⟩) hout
    have es : ((ws.zip ys).mergeSort (PySem.W.dataLe false fun z : V × Str => Dt.toD z.2)).map Prod.snd = srt ys := by
      have z := PySem.W.sort_maps (r := PySem.W.dataLe false fun z : V × Str => Dt.toD z.2) (s := PySem.W.dataLe false Dt.toD) Prod.snd (l := ws.zip ys) (fun a _ b _ => rfl)
      rw [z, zip_snd hrs.len]
      rfl
    rw [es] at o2
    obtain ⟨ep, hat⟩ := PyProof.Rows.sortedAll_at s1.heap its (List.toArray out)
    refine ⟨.ref (s1.heap.objs.size + 1), upd H1 (s1.heap.objs.size + 1) (.lst _), I1.laid (t' := s1.toks) (fun _ _ => PyProof.Rows.sortedAll_old) (Nat.le_succ _) ⟨?_, out, ep, o1, hat⟩, rfl, ?_⟩
    · rw [o2.len, srt_len]
      exact Nat.le_trans hsz (by decide)
    · exact q.2 _ _ (a1.new hn1) (g1.trans (Gr.new hn1)) ⟨_, _, rfl, g1.fresh (Nf.of hn1), upd_same, o2.mono (Tu.new hn1)⟩
end
end Ab

/-! M13: unlike fractions in order. -/
namespace SM
open Ab L2
open Ab.Rp (rp)
open Ab.Dt (toD)
open PySem (Str)
open Ab.Rp (rp)
open Ab.Dt (toD)
def rle (p q : Rat) : Bool := decide (p ≤ q)
theorem rle_trans (a b c : Rat) (h1 : rle a b = true) (h2 : rle b c = true) : rle a c = true := decide_eq_true (Rat.le_trans (of_decide_eq_true h1) (of_decide_eq_true h2))
theorem rle_total (a b : Rat) : (rle a b || rle b a) = true := by
  rcases Rat.le_total (a := a) (b := b) with h | h
  · rw [show rle a b = true from decide_eq_true h]; rfl
  · rw [show rle b a = true from decide_eq_true h, Bool.or_true]
def msort (xs : List Rat) : List Rat := xs.mergeSort rle
theorem msort_perm (xs : List Rat) : (msort xs).Perm xs := List.mergeSort_perm ..
theorem msort_sorted (xs : List Rat) : (msort xs).Pairwise fun a b => rle a b = true := List.pairwise_mergeSort rle_trans rle_total xs
theorem sorted_eq {xs ys : List Rat} (h1 : xs.Pairwise fun a b => rle a b = true) (h2 : ys.Pairwise fun a b => rle a b = true) (h : xs.Perm ys) : xs = ys :=
  List.Perm.eq_of_pairwise (le := fun a b => rle a b = true) (fun a b _ _ h1 h2 => Rat.le_antisymm (of_decide_eq_true h1) (of_decide_eq_true h2)) h1 h2 h
theorem perm_erase {m : Rat} : ∀ {zs : List Rat} {j : Nat}, zs[j]? = some m → (m :: zs.eraseIdx j).Perm zs
  | [], j, h => by simp at h
  | z :: zs, 0, h => by
    have h : z = m := by simpa using h
    subst h
    exact List.Perm.refl _
  | z :: zs, j + 1, h => by
    have h : zs[j]? = some m := by simpa using h
    exact (List.Perm.swap z m _).trans ((perm_erase h).cons z)
theorem msort_step {zs : List Rat} {m : Rat} {j : Nat} (hj : zs[j]? = some m) (hmin : ∀ x ∈ zs, m ≤ x) : msort zs = m :: msort (zs.eraseIdx j) := by
  have hp : (m :: zs.eraseIdx j).Perm zs := perm_erase hj
  refine sorted_eq (msort_sorted zs) (List.pairwise_cons.mpr ⟨fun x hx => ?_, msort_sorted _⟩) ((msort_perm zs).trans (hp.symm.trans ((msort_perm _).symm.cons m)))
  exact decide_eq_true (hmin x (hp.mem_iff.mp (List.mem_cons_of_mem _ ((msort_perm _).mem_iff.mp hx))))
def ordR (xs : List Rat) : List Rat := msort (uniq xs)
theorem uniqTo_nodup (xs : List Rat) : ∀ i, i ≤ xs.length → (uniqTo xs i).Nodup ∧ ∀ q, q ∈ uniqTo xs i ↔ q ∈ xs.take i
  | 0, _ => by
    unfold uniqTo
    rw [List.take_zero]
    exact ⟨List.nodup_nil, fun q => Iff.rfl⟩
  | i + 1, hi => by
    have ih := uniqTo_nodup xs i (by omega)
    have hx := List.getElem?_eq_getElem (show i < xs.length by omega)
    rw [uniqTo_succ hx, List.take_add_one, hx]
    unfold stepU
    by_cases h : xs[i] ∈ uniqTo xs i
    · rw [if_pos h]
      refine ⟨ih.1, fun q => ?_⟩
      rw [List.mem_append, ih.2]
      constructor
      · exact fun z => .inl z
      · rintro (z | z)
        · exact z
        · rw [show q = xs[i] from List.mem_singleton.mp z]
          exact (ih.2 _).mp h
    · rw [if_neg h]
      refine ⟨?_, fun q => by rw [List.mem_append, List.mem_append, ih.2]; rfl⟩
      rw [List.nodup_append]
      refine ⟨ih.1, List.nodup_cons.mpr ⟨List.not_mem_nil, List.nodup_nil⟩, fun a ha b hb e => ?_⟩
      rw [List.mem_singleton.mp hb] at e
      exact h (e ▸ ha)
theorem uniq_eq (xs : List Rat) : uniq xs = uniqTo xs xs.length := by unfold uniq uniqTo; rw [List.take_length]
theorem uniq_nodup (xs : List Rat) : (uniq xs).Nodup := by rw [uniq_eq]; exact (uniqTo_nodup xs _ (Nat.le_refl _)).1
theorem uniq_mem {xs : List Rat} {q : Rat} : q ∈ uniq xs ↔ q ∈ xs := by rw [uniq_eq, (uniqTo_nodup xs _ (Nat.le_refl _)).2, List.take_length]
theorem uniq_len (xs : List Rat) : (uniq xs).length ≤ xs.length := by rw [uniq_eq]; exact uniqTo_len xs _
theorem ord_mem {xs : List Rat} {q : Rat} : q ∈ ordR xs ↔ q ∈ xs := by unfold ordR; rw [(msort_perm _).mem_iff, uniq_mem]
theorem ord_lt (xs : List Rat) : (ordR xs).Pairwise fun a b => a < b := by
  have h1 := msort_sorted (uniq xs)
  have h2 : (msort (uniq xs)).Nodup := (msort_perm _).nodup_iff.mpr (uniq_nodup xs)
  refine (List.pairwise_and_iff.mpr ⟨h1, h2⟩).imp fun {a b} ⟨h, n⟩ => ?_
  have := of_decide_eq_true h
  grind
theorem ord_len (xs : List Rat) : (ordR xs).length ≤ xs.length := by unfold ordR; rw [(msort_perm _).length_eq]; exact uniq_len xs
theorem ord_ne {xs : List Rat} (h : xs ≠ []) : ordR xs ≠ [] := fun z => by
  obtain ⟨q, hq⟩ := List.exists_mem_of_ne_nil xs h
  have := ord_mem.mpr hq
  rw [z] at this
  exact absurd this List.not_mem_nil
/-- the least so far -/
def minTo (z0 : Rat) (zs : List Rat) (i : Nat) : Rat := (zs.take i).foldl (fun m x => if x < m then x else m) z0
theorem minTo_succ {z0 : Rat} {zs : List Rat} {i : Nat} {x : Rat} (h : zs[i]? = some x) : minTo z0 zs (i + 1) = if x < minTo z0 zs i then x else minTo z0 zs i := by
  unfold minTo
  rw [List.take_add_one, h, List.foldl_append]
  rfl
theorem minTo_spec {z0 : Rat} {zs : List Rat} (h0 : z0 ∈ zs) : ∀ i, i ≤ zs.length → minTo z0 zs i ∈ zs ∧ minTo z0 zs i ≤ z0 ∧ ∀ x ∈ zs.take i, minTo z0 zs i ≤ x
  | 0, _ => by
    unfold minTo
    rw [List.take_zero]
    exact ⟨h0, Rat.le_refl, fun x hx => absurd hx List.not_mem_nil⟩
  | i + 1, hi => by
    obtain ⟨a, b, c⟩ := minTo_spec h0 i (by omega)
    have hx := List.getElem?_eq_getElem (show i < zs.length by omega)
    rw [minTo_succ hx, List.take_add_one, hx]
    by_cases h : zs[i] < minTo z0 zs i
    · rw [if_pos h]
      refine ⟨List.getElem_mem _, by grind, fun x hx => ?_⟩
      rcases List.mem_append.mp hx with hx | hx
      · have := c x hx; grind
      · rw [show x = zs[i] from List.mem_singleton.mp hx]; exact Rat.le_refl
    · rw [if_neg h]
      refine ⟨a, b, fun x hx => ?_⟩
      rcases List.mem_append.mp hx with hx | hx
      · exact c x hx
      · rw [show x = zs[i] from List.mem_singleton.mp hx]; grind
end SM

/-! M14: what breaks when a load grows. -/
namespace SM
open Ab L2
open Ab.Rp (rp)
open Ab.Dt (toD)
open PySem (Str)
open Ab.Rp (rp)
open Ab.Dt (toD)
theorem end_mul {r : Rope} (h : Ok r) : (r.stiff : Rat) * (endR r + -(r.slack : Rat)) = (r.strong : Rat) := by
  rw [end_eq h]
  have := stiff_pos h
  grind
theorem end_gt {r : Rope} (h : Ok r) : (r.slack : Rat) < endR r := by
  have h1 := end_mul h
  have h2 := stiff_pos h
  have h3 : (1 : Rat) ≤ (r.strong : Rat) := Rat.intCast_le_intCast.mpr h.2.2.2.2.1
  apply Classical.byContradiction
  intro z
  have : 0 ≤ (r.stiff : Rat) * -(endR r + -(r.slack : Rat)) := Rat.mul_nonneg (by grind) (by grind)
  grind
theorem end_pull {r : Rope} (h : Ok r) : pullR r (endR r) = (r.strong : Rat) := by
  unfold pullR
  rw [if_pos (end_gt h)]
  have := end_mul h
  grind
theorem end_pos {r : Rope} (h : Ok r) : 0 < endR r := by
  have h1 := end_gt h
  have h2 : (0 : Rat) ≤ (r.slack : Rat) := Rat.intCast_nonneg.mpr h.1
  grind
theorem gives_end {r : Rope} (h : Ok r) (u : Rat) : gives u r = decide (endR r < u) := by
  unfold gives
  refine decide_eq_decide.mpr ⟨fun z => ?_, fun z => ?_⟩
  · apply Classical.byContradiction
    intro y
    have := pull_mono h (u := u) (v := endR r) (by grind)
    rw [end_pull h] at this
    grind
  · have := pull_strict h z (by rw [end_pull h]; exact Rat.intCast_pos.mpr (by have := h.2.2.2.2.1; omega))
    rw [end_pull h] at this
    exact this
/-- the least end -/
def minE (qs : List Rope) : Rat := ((ordR (qs.map endR)).head?).getD 0
theorem minE_spec {qs : List Rope} (hn : qs ≠ []) : (∃ r ∈ qs, endR r = minE qs) ∧ ∀ r ∈ qs, minE qs ≤ endR r := by
  have h1 : ordR (qs.map endR) ≠ [] := ord_ne (fun e => hn (List.map_eq_nil_iff.mp e))
  have hlt := ord_lt (qs.map endR)
  have hm := fun q => (ord_mem (xs := qs.map endR) (q := q))
  unfold minE
  cases ho : ordR (qs.map endR) with
  | nil => exact absurd ho h1
  | cons a t =>
    rw [ho] at hlt hm
    show (∃ r ∈ qs, endR r = a) ∧ ∀ r ∈ qs, a ≤ endR r
    refine ⟨?_, fun r hr => ?_⟩
    · obtain ⟨r, hr, e⟩ := List.mem_map.mp ((hm a).mp (List.mem_cons_self ..))
      exact ⟨r, hr, e⟩
    · rcases List.mem_cons.mp ((hm (endR r)).mpr (List.mem_map.mpr ⟨r, hr, rfl⟩)) with e | e
      · rw [e]; exact Rat.le_refl
      · have := (List.pairwise_cons.mp hlt).1 _ e
        grind
theorem minE_head {qs : List Rope} (hn : qs ≠ []) : ∃ t, ordR (qs.map endR) = minE qs :: t := by
  have h1 : ordR (qs.map endR) ≠ [] := ord_ne (fun e => hn (List.map_eq_nil_iff.mp e))
  unfold minE
  cases ho : ordR (qs.map endR) with
  | nil => exact absurd ho h1
  | cons a t => exact ⟨t, rfl⟩
/-- the load above which something more breaks -/
def PL (qs : List Rope) : Rat := total qs (minE qs)
theorem pull_lt {r : Rope} (h : Ok r) {x y : Rat} (hxy : x < y) (hy : (r.slack : Rat) < y) : pullR r x < pullR r y := by
  have hs := stiff_pos h
  unfold pullR
  rw [if_pos hy]
  by_cases hx : (r.slack : Rat) < x
  · rw [if_pos hx]
    have : 0 < (r.stiff : Rat) * (y + -x) := Rat.mul_pos hs (by grind)
    grind
  · rw [if_neg hx]
    exact Rat.mul_pos hs (by grind)
theorem total_lt {qs : List Rope} (ho : ∀ r ∈ qs, Ok r) {r : Rope} (hr : r ∈ qs) {x y : Rat} (hxy : x < y) (hy : (r.slack : Rat) < y) : total qs x < total qs y := by
  induction qs with
  | nil => cases hr
  | cons q qs ih =>
    rw [total_cons, total_cons]
    have h0 : ∀ r ∈ qs, Ok r := fun r hr => ho r (List.mem_cons_of_mem _ hr)
    have m1 := total_mono h0 (show x ≤ y by grind)
    have m2 := pull_mono (ho q (List.mem_cons_self ..)) (show x ≤ y by grind)
    rcases List.mem_cons.mp hr with e | hr
    · subst e
      have := pull_lt (ho r (List.mem_cons_self ..)) hxy hy
      grind
    · have := ih h0 hr
      grind
theorem PL_lt {qs : List Rope} (ho : ∀ r ∈ qs, Ok r) (hn : qs ≠ []) {x y : Rat} (hxy : x < y) (hy : minE qs ≤ y) : total qs x < total qs y := by
  obtain ⟨⟨r, hr, e⟩, _⟩ := minE_spec hn
  have := end_gt (ho r hr)
  exact total_lt ho hr hxy (by grind)
theorem PL_pos {qs : List Rope} (ho : ∀ r ∈ qs, Ok r) (hn : qs ≠ []) : 0 < PL qs := by
  obtain ⟨⟨r, hr, e⟩, _⟩ := minE_spec hn
  have hp := end_pos (ho r hr)
  have := PL_lt ho hn (show (0 : Rat) < minE qs by grind) Rat.le_refl
  rw [total_zero ho] at this
  exact this
theorem le_PL {qs : List Rope} (ho : ∀ r ∈ qs, Ok r) (hn : qs ≠ []) {l u : Rat} (h0 : 0 ≤ l) (hu : sunkBy qs l = some u) : (l ≤ PL qs ↔ u ≤ minE qs) ∧ (l < PL qs ↔ u < minE qs) := by
  have ht := sunk_total ho h0 hu
  have a : u < minE qs → l < PL qs := fun h => by rw [← ht]; exact PL_lt ho hn h Rat.le_refl
  have b : minE qs < u → PL qs < l := fun h => by rw [← ht]; exact PL_lt ho hn h (by grind)
  have c : u = minE qs → l = PL qs := fun h => by rw [← ht, h]; rfl
  refine ⟨⟨fun h => ?_, fun h => ?_⟩, ⟨fun h => ?_, a⟩⟩
  · apply Classical.byContradiction
    intro z
    have := b (by grind)
    grind
  · by_cases e : u = minE qs
    · rw [c e]; exact Rat.le_refl
    · have := a (by grind)
      grind
  · apply Classical.byContradiction
    intro z
    by_cases e : u = minE qs
    · have := c e; grind
    · have := b (by grind)
      grind
theorem stab_iff {rs : List Rope} (ho : ∀ r ∈ rs, Ok r) {S : List Str} (hn : left rs S ≠ []) {l : Rat} (h0 : 0 ≤ l) : Stab rs S l ↔ l ≤ PL (left rs S) := by
  have hol := left_ok (ns := S) ho
  obtain ⟨u, hu⟩ := sunk_some hol hn h0
  obtain ⟨⟨r0, hr0, e0⟩, hmin⟩ := minE_spec hn
  rw [(le_PL hol hn h0 hu).1]
  constructor
  · intro h
    have := h u hu r0 hr0
    rw [gives_end (hol r0 hr0)] at this
    have := of_decide_eq_false this
    grind
  · intro h u' hu' r hr
    rw [hu] at hu'
    obtain rfl := Option.some.inj hu'
    rw [gives_end (hol r hr)]
    have := hmin r hr
    exact decide_eq_false (by grind)
/-- nothing more breaks a little above -/
def StabS (rs : List Rope) (S : List Str) (l : Rat) : Prop := ∀ u, sunkBy (left rs S) l = some u → ∀ r ∈ left rs S, u < endR r
theorem stabS_iff {rs : List Rope} (ho : ∀ r ∈ rs, Ok r) {S : List Str} (hn : left rs S ≠ []) {l : Rat} (h0 : 0 ≤ l) : StabS rs S l ↔ l < PL (left rs S) := by
  have hol := left_ok (ns := S) ho
  obtain ⟨u, hu⟩ := sunk_some hol hn h0
  obtain ⟨⟨r0, hr0, e0⟩, hmin⟩ := minE_spec hn
  rw [(le_PL hol hn h0 hu).2]
  constructor
  · intro h
    have := h u hu r0 hr0
    grind
  · intro h u' hu' r hr
    rw [hu] at hu'
    obtain rfl := Option.some.inj hu'
    have := hmin r hr
    grind
/-- what breaks at once a little above -/
def wave2 (rs : List Rope) (B : List Str) (l : Rat) : List Str := match sunkBy (left rs B) l with
  | none => []
  | some u => ((left rs B).filter fun r => !decide (u < endR r)).map Rope.name
theorem wave2_some {rs : List Rope} {B : List Str} {l u : Rat} (h : sunkBy (left rs B) l = some u) : wave2 rs B l = ((left rs B).filter fun r => !decide (u < endR r)).map Rope.name := by unfold wave2; rw [h]
theorem wave2_mem {rs : List Rope} {B : List Str} {l : Rat} {n : Str} (h : n ∈ wave2 rs B l) : ∃ r ∈ left rs B, r.name = n ∧ ∃ u, sunkBy (left rs B) l = some u ∧ ¬ u < endR r := by
  unfold wave2 at h
  cases hs : sunkBy (left rs B) l with
  | none => rw [hs] at h; cases h
  | some u =>
    rw [hs] at h
    obtain ⟨r, hr, e⟩ := List.mem_map.mp h
    have hm := List.mem_filter.mp hr
    exact ⟨r, hm.1, e, u, rfl, by simpa using hm.2⟩
theorem wave2_nil {rs : List Rope} {B : List Str} {l : Rat} (h : left rs B = []) : wave2 rs B l = [] := by
  unfold wave2
  rw [h]
  cases sunkBy [] l <;> rfl
theorem wave2_stab {rs : List Rope} {B : List Str} {l : Rat} (h : wave2 rs B l = []) : StabS rs B l := fun u hu r hr => by
  rw [wave2_some hu] at h
  have := List.filter_eq_nil_iff.mp (List.map_eq_nil_iff.mp h) r hr
  simpa using this
theorem left_less {rs : List Rope} {B w : List Str} {r : Rope} (hr : r ∈ left rs B) (hw : r.name ∈ w) : (left rs (srt (B ++ w))).length < (left rs B).length := by
  have e : left rs (srt (B ++ w)) = (left rs B).filter fun q => !decide (q.name ∈ w) := by
    rw [left_congr (S' := B ++ w) (fun n => (srt_perm _).mem_iff), left_app]
  rw [e]
  have : ∀ {qs : List Rope}, r ∈ qs → (qs.filter fun q => !decide (q.name ∈ w)).length < qs.length := fun {qs} => by
    induction qs with
    | nil => intro h; cases h
    | cons q qs ih =>
      intro h
      by_cases hq : q.name ∈ w
      · rw [List.filter_cons, if_neg (by simpa using hq)]
        exact Nat.lt_succ_of_le (List.length_filter_le ..)
      · rw [List.filter_cons, if_pos (by simpa using hq)]
        rcases List.mem_cons.mp h with e | h
        · subst e; exact absurd hw hq
        · have := ih h
          rw [List.length_cons, List.length_cons]
          omega
  exact this hr
def beyondT (rs : List Rope) (B : List Str) (l : Rat) : List Str :=
  if h : wave2 rs B l = [] then B else beyondT rs (srt (B ++ wave2 rs B l)) l
termination_by (left rs B).length
decreasing_by
  obtain ⟨n, hn⟩ := List.exists_mem_of_ne_nil _ h
  obtain ⟨r, hr, e, _⟩ := wave2_mem hn
  exact left_less hr (e ▸ hn)
theorem beyond_end {rs : List Rope} {B : List Str} {l : Rat} (h : wave2 rs B l = []) : beyondT rs B l = B := by rw [beyondT, dif_pos h]
theorem beyond_step {rs : List Rope} {B : List Str} {l : Rat} (h : wave2 rs B l ≠ []) : beyondT rs B l = beyondT rs (srt (B ++ wave2 rs B l)) l := by rw [beyondT, dif_neg h]
theorem beyond_ind {rs : List Rope} {l : Rat} {p : List Str → Prop} (h0 : ∀ B, wave2 rs B l = [] → p B) (h1 : ∀ B, wave2 rs B l ≠ [] → p (srt (B ++ wave2 rs B l)) → p B) : ∀ (n : Nat) (B : List Str), (left rs B).length ≤ n → p B
  | 0, B, hn => h0 B (wave2_nil (List.length_eq_zero_iff.mp (by omega)))
  | n + 1, B, hn => by
    by_cases h : wave2 rs B l = []
    · exact h0 B h
    · obtain ⟨m, hm⟩ := List.exists_mem_of_ne_nil _ h
      obtain ⟨r, hr, e, _⟩ := wave2_mem hm
      have := left_less hr (w := wave2 rs B l) (e ▸ hm)
      exact h1 B h (beyond_ind h0 h1 n _ (by omega))
theorem beyond_stab {rs : List Rope} {l : Rat} (B : List Str) : StabS rs (beyondT rs B l) l :=
  beyond_ind (p := fun B => StabS rs (beyondT rs B l) l) (fun B h => by rw [beyond_end h]; exact wave2_stab h) (fun B h ih => by rw [beyond_step h]; exact ih) _ B (Nat.le_refl _)
theorem mem_srt {xs : List Str} {n : Str} : n ∈ srt xs ↔ n ∈ xs := (srt_perm _).mem_iff
theorem beyond_sup {rs : List Rope} {l : Rat} (B : List Str) : ∀ n ∈ B, n ∈ beyondT rs B l :=
  beyond_ind (p := fun B => ∀ n ∈ B, n ∈ beyondT rs B l) (fun B h n hn => by rw [beyond_end h]; exact hn) (fun B h ih n hn => by rw [beyond_step h]; exact ih n (mem_srt.mpr (List.mem_append_left _ hn))) _ B (Nat.le_refl _)
theorem wave2_in {rs : List Rope} (ho : ∀ r ∈ rs, Ok r) {B S : List Str} {l : Rat} (h0 : 0 ≤ l) (hs : StabS rs S l) (hB : ∀ n ∈ B, n ∈ S) : ∀ n ∈ wave2 rs B l, n ∈ S := fun n hn => by
  obtain ⟨r, hr, e, u, hu, hlt⟩ := wave2_mem hn
  apply Classical.byContradiction
  intro z
  have hrS : r ∈ left rs S := mem_left.mpr ⟨(mem_left.mp hr).1, by rw [e]; exact z⟩
  obtain ⟨v, hv⟩ := sunk_some (left_ok (ns := S) ho) (fun e => by rw [e] at hrS; cases hrS) h0
  have hv' := hv
  rw [left_sub hB] at hv'
  have h1 := sunk_mono (left_ok ho) h0 Rat.le_refl hu hv'
  have h2 := hs v hv r hrS
  grind
theorem beyond_least {rs : List Rope} (ho : ∀ r ∈ rs, Ok r) {S : List Str} {l : Rat} (h0 : 0 ≤ l) (hs : StabS rs S l) (B : List Str) : (∀ n ∈ B, n ∈ S) → ∀ n ∈ beyondT rs B l, n ∈ S :=
  beyond_ind (p := fun B => (∀ n ∈ B, n ∈ S) → ∀ n ∈ beyondT rs B l, n ∈ S) (fun B h hB n hn => hB n (by rw [beyond_end h] at hn; exact hn)) (fun B h ih hB n hn => by
    rw [beyond_step h] at hn
    refine ih (fun m hm => ?_) n hn
    rcases List.mem_append.mp (mem_srt.mp hm) with hm | hm
    · exact hB m hm
    · exact wave2_in ho h0 hs hB m hm) _ B (Nat.le_refl _)
theorem beyond_srt {rs : List Rope} {l : Rat} (B : List Str) : srt B = B → srt (beyondT rs B l) = beyondT rs B l :=
  beyond_ind (p := fun B => srt B = B → srt (beyondT rs B l) = beyondT rs B l) (fun B h hB => by rw [beyond_end h]; exact hB) (fun B h ih hB => by rw [beyond_step h]; exact ih (srt_srt _)) _ B (Nat.le_refl _)
theorem beyond_nodup {rs : List Rope} {l : Rat} (hd : (rs.map Rope.name).Nodup) (B : List Str) : B.Nodup → (beyondT rs B l).Nodup :=
  beyond_ind (p := fun B => B.Nodup → (beyondT rs B l).Nodup) (fun B h hB => by rw [beyond_end h]; exact hB) (fun B h ih hB => by
    rw [beyond_step h]
    refine ih ((srt_perm _).nodup_iff.mpr ?_)
    rw [List.nodup_append]
    refine ⟨hB, ?_, fun a ha b hb e => ?_⟩
    · unfold wave2
      cases sunkBy (left rs B) l with
      | none => exact List.nodup_nil
      | some u =>
        show (((left rs B).filter _).map Rope.name).Nodup
        unfold left
        rw [List.filter_filter]
        exact nodup_names hd _
    · subst e
      obtain ⟨r, hr, e, _⟩ := wave2_mem hb
      exact (mem_left.mp hr).2 (e ▸ ha)) _ B (Nat.le_refl _)
theorem beyond_names {rs : List Rope} {l : Rat} (B : List Str) : (∀ n ∈ B, n ∈ rs.map Rope.name) → ∀ n ∈ beyondT rs B l, n ∈ rs.map Rope.name :=
  beyond_ind (p := fun B => (∀ n ∈ B, n ∈ rs.map Rope.name) → ∀ n ∈ beyondT rs B l, n ∈ rs.map Rope.name) (fun B h hB n hn => hB n (by rw [beyond_end h] at hn; exact hn)) (fun B h ih hB n hn => by
    rw [beyond_step h] at hn
    refine ih (fun m hm => ?_) n hn
    rcases List.mem_append.mp (mem_srt.mp hm) with hm | hm
    · exact hB m hm
    · obtain ⟨r, hr, e, _⟩ := wave2_mem hm
      exact e ▸ List.mem_map.mpr ⟨r, (mem_left.mp hr).1, rfl⟩) _ B (Nat.le_refl _)
/-- broken behind k steps -/
def Bk (rs : List Rope) (B : List Str) : Nat → List Str
  | 0 => B
  | k + 1 => beyondT rs (Bk rs B k) (PL (left rs (Bk rs B k)))
def Ld (rs : List Rope) (B : List Str) (k : Nat) : Rat := PL (left rs (Bk rs B k))
theorem Bk_succ (rs : List Rope) (B : List Str) (k : Nat) : Bk rs B (k + 1) = beyondT rs (Bk rs B k) (Ld rs B k) := rfl
def stepAt (rs : List Rope) (B : List Str) (k : Nat) : Rat × List Str := (Ld rs B k, (Bk rs B (k + 1)).filter fun n => !decide (n ∈ Bk rs B k))
def kEnd (rs : List Rope) (B : List Str) : Nat := (List.range (rs.length + 1)).findIdx fun k => decide (left rs (Bk rs B k) = [])
def stepsR (rs : List Rope) (B : List Str) : List (Rat × List Str) := (List.range (kEnd rs B)).map (stepAt rs B)
section
variable {rs : List Rope} (ho : ∀ r ∈ rs, Ok r) {B : List Str}
include ho
theorem Ld_pos {k : Nat} (hn : left rs (Bk rs B k) ≠ []) : 0 < Ld rs B k := PL_pos (left_ok ho) hn
theorem step_more {k : Nat} (hn : left rs (Bk rs B k) ≠ []) : ∃ n, n ∈ Bk rs B (k + 1) ∧ n ∉ Bk rs B k ∧ n ∈ rs.map Rope.name := by
  obtain ⟨⟨r, hr, e⟩, _⟩ := minE_spec hn
  obtain ⟨u, hu⟩ := sunk_some (left_ok ho) hn (show 0 ≤ Ld rs B k by have := Ld_pos ho hn; grind)
  have h1 := (le_PL (left_ok ho) hn (by have := Ld_pos ho hn; grind) hu).2
  have hnot : ¬ u < endR r := fun z => by
    rw [e] at z
    have := h1.mpr z
    have e2 : Ld rs B k = PL (left rs (Bk rs B k)) := rfl
    grind
  have hw : r.name ∈ wave2 rs (Bk rs B k) (Ld rs B k) := by
    rw [wave2_some hu]
    exact List.mem_map.mpr ⟨r, List.mem_filter.mpr ⟨hr, by simpa using hnot⟩, rfl⟩
  have hne : wave2 rs (Bk rs B k) (Ld rs B k) ≠ [] := fun z => by rw [z] at hw; cases hw
  refine ⟨r.name, ?_, (mem_left.mp hr).2, List.mem_map.mpr ⟨r, (mem_left.mp hr).1, rfl⟩⟩
  rw [Bk_succ, beyond_step hne]
  exact beyond_sup _ _ (mem_srt.mpr (List.mem_append_right _ hw))
theorem left_shrinks {k : Nat} (hn : left rs (Bk rs B k) ≠ []) : (left rs (Bk rs B (k + 1))).length < (left rs (Bk rs B k)).length := by
  obtain ⟨n, h1, h2, h3⟩ := step_more ho hn
  obtain ⟨r, hr, e⟩ := List.mem_map.mp h3
  have hr2 : r ∈ left rs (Bk rs B k) := mem_left.mpr ⟨hr, by rw [e]; exact h2⟩
  have e1 : left rs (Bk rs B (k + 1)) = left rs (srt (Bk rs B k ++ Bk rs B (k + 1))) := left_congr fun m => by
    rw [mem_srt, List.mem_append]
    exact ⟨fun z => .inr z, fun z => z.elim (fun z => by rw [Bk_succ]; exact beyond_sup _ _ z) id⟩
  rw [e1]
  exact left_less hr2 (by rw [e]; exact h1)
theorem left_bound : ∀ k, (∀ j, j < k → left rs (Bk rs B j) ≠ []) → (left rs (Bk rs B k)).length + k ≤ rs.length
  | 0, _ => left_len rs _
  | k + 1, h => by
    have := left_bound k fun j hj => h j (by omega)
    have := left_shrinks ho (h k (by omega))
    omega
theorem kEnd_spec : left rs (Bk rs B (kEnd rs B)) = [] ∧ (∀ j, j < kEnd rs B → left rs (Bk rs B j) ≠ []) ∧ kEnd rs B ≤ rs.length := by
  have hex : ∃ k, k ≤ rs.length ∧ left rs (Bk rs B k) = [] := by
    apply Classical.byContradiction
    intro z
    have := left_bound ho (B := B) (rs.length + 1) fun j hj e => z ⟨j, by omega, e⟩
    omega
  obtain ⟨k, hk, he⟩ := hex
  have hlt : kEnd rs B < (List.range (rs.length + 1)).length := List.findIdx_lt_length_of_exists ⟨k, List.mem_range.mpr (by omega), decide_eq_true he⟩
  have hat := List.findIdx_getElem (w := hlt)
  refine ⟨?_, fun j hj e => ?_, by rw [List.length_range] at hlt; omega⟩
  · have hg : (List.range (rs.length + 1))[kEnd rs B]'hlt = kEnd rs B := List.getElem_range ..
    have this : left rs (Bk rs B ((List.range (rs.length + 1))[kEnd rs B]'hlt)) = [] := of_decide_eq_true hat
    rw [hg] at this
    exact this
  · have := List.not_of_lt_findIdx (p := fun k => decide (left rs (Bk rs B k) = [])) (xs := List.range (rs.length + 1)) hj
    rw [List.getElem_range] at this
    rw [decide_eq_true e] at this
    cases this
theorem kEnd_of {k : Nat} (h1 : left rs (Bk rs B k) = []) (h2 : ∀ j, j < k → left rs (Bk rs B j) ≠ []) : kEnd rs B = k := by
  obtain ⟨a, b, c⟩ := kEnd_spec ho (B := B)
  rcases Nat.lt_trichotomy (kEnd rs B) k with h | h | h
  · exact absurd a (h2 _ h)
  · exact h
  · exact absurd h1 (b _ h)
omit ho in
theorem Bk_mono (k : Nat) : ∀ n ∈ Bk rs B k, n ∈ Bk rs B (k + 1) := fun n hn => by rw [Bk_succ]; exact beyond_sup _ n hn
omit ho in
theorem Bk_base : ∀ k, ∀ n ∈ B, n ∈ Bk rs B k
  | 0, n, hn => hn
  | k + 1, n, hn => Bk_mono k n (Bk_base k n hn)
theorem Ld_lt {k : Nat} (h1 : left rs (Bk rs B k) ≠ []) (h2 : left rs (Bk rs B (k + 1)) ≠ []) : Ld rs B k < Ld rs B (k + 1) := by
  have hp := Ld_pos ho h1
  exact (stabS_iff ho h2 (by grind)).mp (beyond_stab _)
/-- a load no greater: no more is broken -/
theorem upto_in {k : Nat} (hn : left rs (Bk rs B k) ≠ []) {l : Rat} (h0 : 0 ≤ l) (hl : l ≤ Ld rs B k) : ∀ n ∈ brokenBy rs B l, n ∈ Bk rs B k :=
  broken_in ho h0 Rat.le_refl ((stab_iff ho hn h0).mpr hl) (Bk_base k)
/-- a load that is greater: so much is -/
theorem above_sup {l : Rat} (h0 : 0 ≤ l) {C : List Str} (hC : ∀ n ∈ B, n ∈ C) (hst : Stab rs C l) : ∀ k, left rs (Bk rs B k) ≠ [] → (∀ j, j < k → left rs (Bk rs B j) ≠ []) → Ld rs B k < l → ∀ n ∈ Bk rs B (k + 1), n ∈ C
  | k, hn, hj, hl => by
    have hk : ∀ n ∈ Bk rs B k, n ∈ C := by
      cases k with
      | zero => exact hC
      | succ k =>
        have h1 := hj k (by omega)
        have := Ld_lt ho h1 hn
        exact above_sup h0 hC hst k h1 (fun j hj2 => hj j (by omega)) (by grind)
    have hp := Ld_pos ho hn
    refine beyond_least ho (by show 0 ≤ Ld rs B k; grind) (fun u hu r hr => ?_) _ hk
    have hne : left rs C ≠ [] := fun e => by rw [e] at hr; cases hr
    have h1 := (stab_iff ho hne h0).mp hst
    exact (stabS_iff ho hne (by show 0 ≤ Ld rs B k; grind)).mpr (by show Ld rs B k < _; grind) u hu r hr
theorem above_in {l : Rat} (h0 : 0 ≤ l) {k : Nat} (hk : k < kEnd rs B) (hl : Ld rs B k < l) : ∀ n ∈ Bk rs B (k + 1), n ∈ brokenBy rs B l := by
  obtain ⟨_, b, _⟩ := kEnd_spec ho (B := B)
  exact above_sup ho h0 broken_sup (broken_stab rs B l) k (b k hk) (fun j hj => b j (by omega)) hl
/-- between two steps -/
theorem at_step (hd : (rs.map Rope.name).Nodup) (hB : B.Nodup) (hs : srt B = B) {l : Rat} (h0 : 0 ≤ l) {k : Nat} (hk : k ≤ kEnd rs B) (h1 : ∀ j, j + 1 = k → Ld rs B j < l) (h2 : k < kEnd rs B → l ≤ Ld rs B k) (hB2 : ∀ n ∈ B, n ∈ rs.map Rope.name) : brokenBy rs B l = Bk rs B k := by
  obtain ⟨a, b, _⟩ := kEnd_spec ho (B := B)
  have hsr : ∀ k, srt (Bk rs B k) = Bk rs B k := fun k => by
    induction k with
    | zero => exact hs
    | succ k ih => rw [Bk_succ]; exact beyond_srt _ ih
  have hno : ∀ k, (Bk rs B k).Nodup := fun k => by
    induction k with
    | zero => exact hB
    | succ k ih => rw [Bk_succ]; exact beyond_nodup hd _ ih
  have hnm : ∀ k, ∀ n ∈ Bk rs B k, n ∈ rs.map Rope.name := fun k => by
    induction k with
    | zero => exact hB2
    | succ k ih => rw [Bk_succ]; exact beyond_names _ ih
  rw [← broken_srt, ← hsr k]
  refine srt_eq_of_mem (broken_nodup hd hB) (hno k) fun n => ⟨fun hn => ?_, fun hn => ?_⟩
  · by_cases hlt : k < kEnd rs B
    · exact upto_in ho (b k hlt) h0 (h2 hlt) n hn
    · have : k = kEnd rs B := by omega
      rw [this]
      have hm : n ∈ rs.map Rope.name := by
        rcases fin_mem B (mem_broken.mp hn) with z | ⟨r, hr, e⟩
        · exact hB2 n z
        · exact e ▸ List.mem_map.mpr ⟨r, hr, rfl⟩
      obtain ⟨r, hr, e⟩ := List.mem_map.mp hm
      apply Classical.byContradiction
      intro z
      have : r ∈ left rs (Bk rs B (kEnd rs B)) := mem_left.mpr ⟨hr, by rw [e]; exact z⟩
      rw [a] at this
      cases this
  · cases k with
    | zero => exact broken_sup n hn
    | succ k => exact above_in ho h0 (by omega) (h1 k rfl) n hn
end
end SM

/-! M15: whole till a load. -/
namespace SM
open Ab L2
open Ab.Rp (rp)
open Ab.Dt (toD)
open PySem (Str)
open Ab.Rp (rp)
open Ab.Dt (toD)
def wtList (rs : List Rope) (B : List Str) (nm : Str) : List Rat := ((stepsR rs B).filter fun z => decide (nm ∈ z.2)).map Prod.fst
def wtR (rs : List Rope) (B : List Str) (nm : Str) : Rat := ((wtList rs B nm).head?).getD 0
theorem step_mem {rs : List Rope} {B : List Str} {z : Rat × List Str} (h : z ∈ stepsR rs B) : ∃ k, k < kEnd rs B ∧ z = stepAt rs B k := by
  obtain ⟨k, hk, e⟩ := List.mem_map.mp h
  exact ⟨k, List.mem_range.mp hk, e.symm⟩
theorem in_step {rs : List Rope} {B : List Str} {k : Nat} {n : Str} : n ∈ (stepAt rs B k).2 ↔ n ∈ Bk rs B (k + 1) ∧ n ∉ Bk rs B k := by
  show n ∈ (Bk rs B (k + 1)).filter _ ↔ _
  rw [List.mem_filter]
  simp
section
variable {rs : List Rope} (ho : ∀ r ∈ rs, Ok r) {B : List Str} {nm : Str}
include ho
theorem wt_some (h1 : nm ∈ rs.map Rope.name) (h2 : nm ∉ B) : ∃ k t, k < kEnd rs B ∧ wtList rs B nm = Ld rs B k :: t ∧ wtR rs B nm = Ld rs B k ∧ nm ∉ Bk rs B k ∧ nm ∈ Bk rs B (k + 1) := by
  obtain ⟨a, b, _⟩ := kEnd_spec ho (B := B)
  have hlast : nm ∈ Bk rs B (kEnd rs B) := by
    apply Classical.byContradiction
    intro z
    obtain ⟨r, hr, e⟩ := List.mem_map.mp h1
    have : r ∈ left rs (Bk rs B (kEnd rs B)) := mem_left.mpr ⟨hr, by rw [e]; exact z⟩
    rw [a] at this
    cases this
  have hex : ∀ m, m ≤ kEnd rs B → nm ∈ Bk rs B m → ∃ k, k < m ∧ nm ∉ Bk rs B k ∧ nm ∈ Bk rs B (k + 1) := fun m => by
    induction m with
    | zero => exact fun _ h => absurd h h2
    | succ m ih =>
      intro hm h
      by_cases hz : nm ∈ Bk rs B m
      · obtain ⟨k, h1, h2⟩ := ih (by omega) hz
        exact ⟨k, by omega, h2⟩
      · exact ⟨m, by omega, hz, h⟩
  obtain ⟨k0, hk0, h3, h4⟩ := hex _ (Nat.le_refl _) hlast
  have hmem : stepAt rs B k0 ∈ (stepsR rs B).filter fun z => decide (nm ∈ z.2) := List.mem_filter.mpr ⟨List.mem_map.mpr ⟨k0, List.mem_range.mpr hk0, rfl⟩, decide_eq_true (in_step.mpr ⟨h4, h3⟩)⟩
  cases hf : (stepsR rs B).filter fun z => decide (nm ∈ z.2) with
  | nil => rw [hf] at hmem; cases hmem
  | cons z t =>
    have hz : z ∈ (stepsR rs B).filter fun z => decide (nm ∈ z.2) := by rw [hf]; exact List.mem_cons_self ..
    obtain ⟨k, hk, e⟩ := step_mem (List.mem_filter.mp hz).1
    have hn := of_decide_eq_true (List.mem_filter.mp hz).2
    rw [e] at hn
    obtain ⟨n1, n2⟩ := in_step.mp hn
    have hl : wtList rs B nm = Ld rs B k :: t.map Prod.fst := by
      unfold wtList
      rw [hf, e]
      rfl
    exact ⟨k, _, hk, hl, by unfold wtR; rw [hl]; rfl, n2, n1⟩
theorem wt_nn (h1 : nm ∈ rs.map Rope.name) (h2 : nm ∉ B) : 0 ≤ wtR rs B nm := by
  obtain ⟨k, t, hk, _, e, _⟩ := wt_some ho h1 h2
  have := Ld_pos ho ((kEnd_spec ho (B := B)).2.1 k hk)
  rw [e]
  grind
theorem wt_whole (h1 : nm ∈ rs.map Rope.name) (h2 : nm ∉ B) : nm ∉ brokenBy rs B (wtR rs B nm) := fun z => by
  obtain ⟨k, t, hk, _, e, n1, n2⟩ := wt_some ho h1 h2
  have hn := (kEnd_spec ho (B := B)).2.1 k hk
  have := Ld_pos ho hn
  rw [e] at z
  exact n1 (upto_in ho hn (by grind) Rat.le_refl nm z)
theorem wt_broken (h1 : nm ∈ rs.map Rope.name) (h2 : nm ∉ B) {l : Rat} (hl : wtR rs B nm < l) : nm ∈ brokenBy rs B l := by
  obtain ⟨k, t, hk, _, e, n1, n2⟩ := wt_some ho h1 h2
  have := Ld_pos ho ((kEnd_spec ho (B := B)).2.1 k hk)
  rw [e] at hl
  exact above_in ho (by grind) hk hl nm n2
/-- ropes gone never help -/
theorem wt_less (h1 : nm ∈ rs.map Rope.name) {C : List Str} (h2 : nm ∉ C) (hBC : ∀ n ∈ B, n ∈ C) : ¬ wtR rs B nm < wtR rs C nm := fun z => by
  have hB : nm ∉ B := fun y => h2 (hBC nm y)
  have hnn := wt_nn ho h1 h2
  have hb := wt_broken ho h1 hB z
  have hin := broken_in ho hnn Rat.le_refl (broken_stab rs C (wtR rs C nm)) (fun n hn => broken_sup n (hBC n hn)) nm hb
  exact wt_whole ho h1 h2 hin
end
def gRow (rs : List Rope) (one : Str) (others : List Str) : List (Str × Str) := (others.filter fun other => !decide (other = one) && decide (wtR rs [one] other < wtR rs [] other)).map fun other => (one, other)
def guardsR (rs : List Rope) : List (Str × Str) := ((rs.map Rope.name).map fun one => gRow rs one (rs.map Rope.name)).flatten
theorem gRow_succ {rs : List Rope} {one other : Str} {ns : List Str} {i : Nat} (h : ns[i]? = some other) : gRow rs one (ns.take (i + 1)) = gRow rs one (ns.take i) ++ if (!decide (other = one) && decide (wtR rs [one] other < wtR rs [] other)) = true then [(one, other)] else [] := by
  unfold gRow
  rw [List.take_add_one, h, List.filter_append, List.map_append]
  congr 1
  by_cases e : (!decide (other = one) && decide (wtR rs [one] other < wtR rs [] other)) = true
  · simp only [Option.toList, List.filter_cons, e, if_true, List.filter_nil, List.map_cons, List.map_nil]
  · simp only [Option.toList, List.filter_cons, e, if_false, List.filter_nil, List.map_nil, Bool.false_eq_true]
theorem gRow_len (rs : List Rope) (one : Str) (ns : List Str) : (gRow rs one ns).length ≤ ns.length := by
  unfold gRow
  rw [List.length_map]
  exact List.length_filter_le ..
theorem guards_len (rs : List Rope) (ns : List Str) (i : Nat) : (((ns.take i).map fun one => gRow rs one ns).flatten).length ≤ ns.length * ns.length := by
  rw [List.length_flatten, List.map_map]
  have : ∀ os : List Str, ((os.map (List.length ∘ fun one => gRow rs one ns)).sum) ≤ os.length * ns.length := fun os => by
    induction os with
    | nil => exact Nat.zero_le _
    | cons o os ih =>
      rw [List.map_cons, List.sum_cons, List.length_cons, Nat.succ_mul]
      have := gRow_len rs o ns
      show (gRow rs o ns).length + _ ≤ _
      omega
  have h := this (ns.take i)
  have h2 : (ns.take i).length ≤ ns.length := by rw [List.length_take]; omega
  exact Nat.le_trans h (Nat.mul_le_mul_right _ h2)
end SM

/-! M16: the greatest load; how far steps stand apart. -/
namespace SM
open Ab L2
open Ab.Rp (rp)
open Ab.Dt (toD)
open PySem (Str)
open Ab.Rp (rp)
open Ab.Dt (toD)
def atE (rs : List Rope) (e : Rat) : List Rope := rs.filter fun r => !decide (endR r < e)
def loadAt (rs : List Rope) (e : Rat) : Rat := total (atE rs e) e
def tableR (rs : List Rope) : List (Rat × Rat) := (ordR (rs.map endR)).map fun e => (e, loadAt rs e)
def bestR (rs : List Rope) : Rat := ((ordR ((tableR rs).map Prod.snd)).getLast?).getD 0
theorem table_len (rs : List Rope) : (tableR rs).length ≤ rs.length := by
  unfold tableR
  rw [List.length_map]
  have := ord_len (rs.map endR)
  rw [List.length_map] at this
  exact this
theorem best_last {rs : List Rope} (hn : rs ≠ []) : (ordR ((tableR rs).map Prod.snd)).getLast? = some (bestR rs) := by
  have h1 : ordR ((tableR rs).map Prod.snd) ≠ [] := ord_ne fun e => by
    have h2 : ordR (rs.map endR) ≠ [] := ord_ne fun e => hn (List.map_eq_nil_iff.mp e)
    unfold tableR at e
    rw [List.map_map] at e
    exact h2 (List.map_eq_nil_iff.mp e)
  unfold bestR
  cases h : (ordR ((tableR rs).map Prod.snd)).getLast? with
  | none => exact absurd (List.getLast?_eq_none_iff.mp h) h1
  | some q => rfl
theorem best_mem {rs : List Rope} (hn : rs ≠ []) : bestR rs ∈ (tableR rs).map Prod.snd := ord_mem.mp (List.mem_of_getLast? (best_last hn))
theorem last_max {xs : List Rat} (h : xs.Pairwise fun a b => a < b) {q : Rat} (hl : xs.getLast? = some q) : ∀ x ∈ xs, x ≤ q := by
  induction xs with
  | nil => intro x hx; cases hx
  | cons a t ih =>
    intro x hx
    cases t with
    | nil =>
      have : a = q := by simpa using hl
      rw [List.mem_singleton.mp hx, this]
      exact Rat.le_refl
    | cons b t =>
      rw [List.getLast?_cons_cons] at hl
      rcases List.mem_cons.mp hx with e | hx
      · have h1 := (List.pairwise_cons.mp h).1 b (List.mem_cons_self ..)
        have h2 := ih (List.pairwise_cons.mp h).2 hl b (List.mem_cons_self ..)
        rw [e]
        grind
      · exact ih (List.pairwise_cons.mp h).2 hl x hx
theorem best_max {rs : List Rope} (hn : rs ≠ []) : ∀ q ∈ (tableR rs).map Prod.snd, q ≤ bestR rs := fun q hq => last_max (ord_lt _) (best_last hn) q (ord_mem.mpr hq)
theorem load_le_best {rs : List Rope} {r : Rope} (hr : r ∈ rs) : loadAt rs (endR r) ≤ bestR rs := by
  refine best_max (fun e => by rw [e] at hr; cases hr) _ ?_
  unfold tableR
  rw [List.map_map]
  exact List.mem_map.mpr ⟨endR r, ord_mem.mpr (List.mem_map.mpr ⟨r, hr, rfl⟩), rfl⟩
theorem best_is {rs : List Rope} (hn : rs ≠ []) : ∃ r ∈ rs, bestR rs = loadAt rs (endR r) := by
  have h := best_mem hn
  unfold tableR at h
  rw [List.map_map] at h
  obtain ⟨e, he, h⟩ := List.mem_map.mp h
  obtain ⟨r, hr, rfl⟩ := List.mem_map.mp (ord_mem.mp he)
  exact ⟨r, hr, h.symm⟩
/-- the names of those whose ends are less -/
def below (rs : List Rope) (e : Rat) : List Str := (rs.filter fun r => decide (endR r < e)).map Rope.name
theorem name_inj {rs : List Rope} (hd : (rs.map Rope.name).Nodup) {p q : Rope} (hp : p ∈ rs) (hq : q ∈ rs) (h : p.name = q.name) : p = q := by
  have h1 := filter_one hd hp
  have h2 : q ∈ rs.filter fun r => decide (r.name = p.name) := List.mem_filter.mpr ⟨hq, decide_eq_true h.symm⟩
  rw [h1] at h2
  exact (List.mem_singleton.mp h2).symm
theorem left_below {rs : List Rope} (hd : (rs.map Rope.name).Nodup) (e : Rat) : left rs (below rs e) = atE rs e := by
  unfold left atE
  refine List.filter_congr fun r hr => ?_
  congr 1
  refine decide_eq_decide.mpr ⟨fun z => ?_, fun z => List.mem_map.mpr ⟨r, List.mem_filter.mpr ⟨hr, decide_eq_true z⟩, rfl⟩⟩
  obtain ⟨q, hq, e2⟩ := List.mem_map.mp z
  have := name_inj hd (List.mem_filter.mp hq).1 hr e2
  rw [← this]
  exact of_decide_eq_true (List.mem_filter.mp hq).2
theorem minE_at {rs : List Rope} {r : Rope} (hr : r ∈ rs) : atE rs (endR r) ≠ [] ∧ minE (atE rs (endR r)) = endR r := by
  have hm : r ∈ atE rs (endR r) := List.mem_filter.mpr ⟨hr, by rw [decide_eq_false (by grind)]; rfl⟩
  have hn : atE rs (endR r) ≠ [] := fun e => by rw [e] at hm; cases hm
  obtain ⟨⟨q, hq, e⟩, h2⟩ := minE_spec hn
  refine ⟨hn, ?_⟩
  have h3 := h2 r hm
  have h4 := (List.mem_filter.mp hq).2
  have h4 : ¬ endR q < endR r := by simpa using h4
  grind
section
variable {rs : List Rope} (ho : ∀ r ∈ rs, Ok r) (hd : (rs.map Rope.name).Nodup) (hn : rs ≠ [])
include ho hd hn
theorem best_pos : 0 < bestR rs := by
  obtain ⟨r, hr, e⟩ := best_is hn
  obtain ⟨h1, h2⟩ := minE_at hr
  have := PL_pos (qs := atE rs (endR r)) (fun q hq => ho q (List.mem_filter.mp hq).1) h1
  unfold PL at this
  rw [h2] at this
  rw [e]
  exact this
theorem best_bears : left rs (brokenBy rs [] (bestR rs)) ≠ [] := by
  obtain ⟨r, hr, e⟩ := best_is hn
  obtain ⟨h1, h2⟩ := minE_at hr
  have hp := best_pos ho hd hn
  have hl := left_below hd (endR r)
  have hst : Stab rs (below rs (endR r)) (bestR rs) := by
    refine (stab_iff ho (by rw [hl]; exact h1) (by grind)).mpr ?_
    rw [hl, e]
    unfold PL
    rw [h2]
    exact Rat.le_refl
  have hin := broken_in ho (B := []) (by grind) Rat.le_refl hst (fun n hn => absurd hn List.not_mem_nil)
  obtain ⟨q, hq⟩ := List.exists_mem_of_ne_nil _ h1
  rw [← hl] at hq
  have hq2 := mem_left.mp hq
  exact fun z => by
    have : q ∈ left rs (brokenBy rs [] (bestR rs)) := mem_left.mpr ⟨hq2.1, fun y => hq2.2 (hin _ y)⟩
    rw [z] at this
    cases this
theorem best_not {l : Rat} (hl : bestR rs < l) : left rs (brokenBy rs [] l) = [] := by
  apply Classical.byContradiction
  intro hne
  have hp := best_pos ho hd hn
  have h1 := (stab_iff ho hne (show 0 ≤ l by grind)).mp (broken_stab rs [] l)
  obtain ⟨⟨r, hr, e⟩, h2⟩ := minE_spec hne
  have hr1 := (mem_left.mp hr).1
  have h3 : left rs (brokenBy rs [] l) = (atE rs (endR r)).filter fun q => !decide (q.name ∈ brokenBy rs [] l) := by
    unfold left atE
    rw [List.filter_filter]
    refine List.filter_congr fun q hq => ?_
    by_cases z : q.name ∈ brokenBy rs [] l
    · simp [z]
    · have := h2 q (mem_left.mpr ⟨hq, z⟩)
      rw [← e] at this
      have : ¬ endR q < endR r := by grind
      simp [z, this]
  have h4 : total (left rs (brokenBy rs [] l)) (endR r) ≤ loadAt rs (endR r) := by
    rw [h3]
    exact total_filter_le (fun q hq => ho q (List.mem_filter.mp hq).1) _ _
  have h5 := load_le_best hr1
  unfold PL at h1
  rw [← e] at h1
  grind
theorem best_eq : 0 < kEnd rs [] ∧ bestR rs = Ld rs [] (kEnd rs [] - 1) := by
  obtain ⟨a, b, _⟩ := kEnd_spec ho (B := [])
  have hk : 0 < kEnd rs [] := by
    apply Classical.byContradiction
    intro z
    have : kEnd rs [] = 0 := by omega
    rw [this] at a
    have : left rs [] = rs := List.filter_eq_self.mpr fun r hr => by simp
    exact hn (this ▸ a)
  refine ⟨hk, ?_⟩
  have hbp := best_pos ho hd hn
  have hlast := b (kEnd rs [] - 1) (by omega)
  have hLp := Ld_pos ho hlast
  rcases (by grind : bestR rs < Ld rs [] (kEnd rs [] - 1) ∨ bestR rs = Ld rs [] (kEnd rs [] - 1) ∨ Ld rs [] (kEnd rs [] - 1) < bestR rs) with h | h | h
  · exfalso
    have h1 := best_not ho hd hn h
    have h2 := upto_in ho hlast (l := Ld rs [] (kEnd rs [] - 1)) (by grind) Rat.le_refl
    obtain ⟨r, hr⟩ := List.exists_mem_of_ne_nil _ hlast
    have hr2 := mem_left.mp hr
    have : r ∈ left rs (brokenBy rs [] (Ld rs [] (kEnd rs [] - 1))) := mem_left.mpr ⟨hr2.1, fun y => hr2.2 (h2 _ y)⟩
    rw [h1] at this
    cases this
  · exact h
  · exfalso
    have h1 := above_in ho (B := []) (l := bestR rs) (by grind) (k := kEnd rs [] - 1) (by omega) h
    rw [show kEnd rs [] - 1 + 1 = kEnd rs [] by omega] at h1
    obtain ⟨r, hr⟩ := List.exists_mem_of_ne_nil _ (best_bears ho hd hn)
    have hr2 := mem_left.mp hr
    have : r ∈ left rs (Bk rs [] (kEnd rs [])) := mem_left.mpr ⟨hr2.1, fun y => hr2.2 (h1 _ y)⟩
    rw [a] at this
    cases this
end
/-- the loads of steps are whole numbers by a stiffness -/
theorem PL_int {qs : List Rope} (ho : ∀ r ∈ qs, Ok r) (hn : qs ≠ []) : ∃ s n : Int, 1 ≤ s ∧ s ≤ 1000 ∧ (s : Rat) * PL qs = (n : Rat) := by
  obtain ⟨⟨r, hr, e⟩, _⟩ := minE_spec hn
  have hk := ho r hr
  refine ⟨r.stiff, ?_⟩
  have hm : ((r.stiff : Int) : Rat) * minE qs = ((r.slack * r.stiff + r.strong : Int) : Rat) := by
    have := end_mul hk
    rw [← e, Rat.intCast_add, Rat.intCast_mul]
    grind
  have htot : ∀ ps : List Rope, ∃ n : Int, ((r.stiff : Int) : Rat) * total ps (minE qs) = (n : Rat) := fun ps => by
    induction ps with
    | nil => exact ⟨0, by rw [total_nil]; show _ = (0 : Rat); grind⟩
    | cons p ps ih =>
      obtain ⟨n, hn⟩ := ih
      rw [total_cons]
      by_cases h : (p.slack : Rat) < minE qs
      · refine ⟨p.stiff * ((r.slack * r.stiff + r.strong) - p.slack * r.stiff) + n, ?_⟩
        unfold pullR
        rw [if_pos h, Rat.intCast_add, Rat.intCast_mul, Rat.intCast_sub, ← hm, Rat.intCast_mul]
        grind
      · refine ⟨n, ?_⟩
        unfold pullR
        rw [if_neg h]
        grind
  obtain ⟨n, h⟩ := htot qs
  exact ⟨n, hk.2.2.1, hk.2.2.2.1, h⟩
theorem apart {x y : Rat} {s t m n : Int} (hs : 1 ≤ s ∧ s ≤ 1000) (ht : 1 ≤ t ∧ t ≤ 1000) (hx : (s : Rat) * x = (m : Rat)) (hy : (t : Rat) * y = (n : Rat)) (hxy : x < y) : x + nearR ≤ y := by
  have s1 : (1 : Rat) ≤ (s : Rat) := Rat.intCast_le_intCast.mpr hs.1
  have s2 : (s : Rat) ≤ (1000 : Rat) := Rat.intCast_le_intCast.mpr hs.2
  have t1 : (1 : Rat) ≤ (t : Rat) := Rat.intCast_le_intCast.mpr ht.1
  have t2 : (t : Rat) ≤ (1000 : Rat) := Rat.intCast_le_intCast.mpr ht.2
  have st1 : 0 < (s : Rat) * (t : Rat) := Rat.mul_pos (by grind) (by grind)
  have st2 : (s : Rat) * (t : Rat) ≤ 1000000 := by
    have a : 0 ≤ (s : Rat) * ((1000 : Rat) + -(t : Rat)) := Rat.mul_nonneg (by grind) (by grind)
    grind
  have hd : (s : Rat) * (t : Rat) * (y + -x) = ((s * n - t * m : Int) : Rat) := by
    rw [Rat.intCast_sub, Rat.intCast_mul, Rat.intCast_mul, ← hx, ← hy]
    grind
  have hp : 0 < (s : Rat) * (t : Rat) * (y + -x) := Rat.mul_pos st1 (by grind)
  rw [hd] at hp
  have hi : 1 ≤ s * n - t * m := by
    have := Rat.intCast_pos.mp hp
    omega
  have hi2 : (1 : Rat) ≤ (s : Rat) * (t : Rat) * (y + -x) := by
    rw [hd]
    exact Rat.intCast_le_intCast.mpr hi
  have hq : (1 : Rat) ≤ 1000000 * (y + -x) := by
    have : 0 ≤ ((1000000 : Rat) + -((s : Rat) * (t : Rat))) * (y + -x) := Rat.mul_nonneg (by grind) (by grind)
    grind
  have hn : nearR ≤ 1 / 1000000 := by decide +kernel
  grind
theorem near_step {rs : List Rope} (ho : ∀ r ∈ rs, Ok r) {B : List Str} {k : Nat} (h1 : left rs (Bk rs B k) ≠ []) (h2 : left rs (Bk rs B (k + 1)) ≠ []) : Ld rs B k + nearR ≤ Ld rs B (k + 1) := by
  obtain ⟨s, m, a1, a2, a3⟩ := PL_int (left_ok ho) h1
  obtain ⟨t, n, b1, b2, b3⟩ := PL_int (left_ok ho) h2
  exact apart ⟨a1, a2⟩ ⟨b1, b2⟩ a3 b3 (Ld_lt ho h1 h2)
end SM

/-! M17: the steps of a bundle, told one by one. -/
namespace SM
open Ab L2
open Ab.Rp (rp)
open Ab.Dt (toD)
open PySem (Str)
open Ab.Rp (rp)
open Ab.Dt (toD)
theorem few_left {rs : List Rope} (hd : (rs.map Rope.name).Nodup) {B : List Str} (hB : B.Nodup) (hs : ∀ n ∈ B, n ∈ rs.map Rope.name) : (left rs B).length + B.length = rs.length := by
  have hl : ((left rs B).map Rope.name).Nodup := nodup_names hd _
  have hp : ((left rs B).map Rope.name ++ B).Perm (rs.map Rope.name) := by
    refine (List.perm_ext_iff_of_nodup ?_ hd).mpr fun n => ?_
    · rw [List.nodup_append]
      refine ⟨hl, hB, fun a ha b hb e => ?_⟩
      obtain ⟨r, hr, rfl⟩ := List.mem_map.mp ha
      exact (mem_left.mp hr).2 (e ▸ hb)
    · rw [List.mem_append]
      constructor
      · rintro (h | h)
        · obtain ⟨r, hr, rfl⟩ := List.mem_map.mp h
          exact List.mem_map.mpr ⟨r, (mem_left.mp hr).1, rfl⟩
        · exact hs n h
      · intro h
        by_cases hb : n ∈ B
        · exact .inr hb
        · obtain ⟨r, hr, rfl⟩ := List.mem_map.mp h
          exact .inl (List.mem_map.mpr ⟨r, mem_left.mpr ⟨hr, hb⟩, rfl⟩)
  have := hp.length_eq
  rw [List.length_append, List.length_map, List.length_map] at this
  exact this
theorem srt_of_sorted {xs : List Str} (h : xs.Pairwise fun a b => sle a b = true) : srt xs = xs :=
  List.Perm.eq_of_pairwise (le := fun a b => sle a b = true) (fun a b _ _ h1 h2 => str_antisymm (of_decide_eq_true h1) (of_decide_eq_true h2)) (srt_sorted xs) h (srt_perm xs)
theorem Bk_srt (rs : List Rope) : ∀ k, srt (Bk rs [] k) = Bk rs [] k
  | 0 => by show srt [] = []; exact List.Perm.eq_nil (srt_perm [])
  | k + 1 => by rw [Bk_succ]; exact beyond_srt _ (Bk_srt rs k)
theorem Bk_nd {rs : List Rope} (hd : (rs.map Rope.name).Nodup) : ∀ k, (Bk rs [] k).Nodup
  | 0 => List.nodup_nil
  | k + 1 => by rw [Bk_succ]; exact beyond_nodup hd _ (Bk_nd hd k)
theorem Bk_in (rs : List Rope) : ∀ k, ∀ n ∈ Bk rs [] k, n ∈ rs.map Rope.name
  | 0 => fun n hn => absurd hn List.not_mem_nil
  | k + 1 => by rw [Bk_succ]; exact beyond_names _ (Bk_in rs k)
def soFar (rs : List Rope) (i : Nat) : List Str := (((stepsR rs []).take i).map Prod.snd).flatten
theorem steps_get {rs : List Rope} {i : Nat} (h : i < kEnd rs []) : (stepsR rs [])[i]? = some (stepAt rs [] i) := by
  unfold stepsR
  rw [List.getElem?_map, List.getElem?_range h]
  rfl
theorem steps_size (rs : List Rope) : (stepsR rs []).length = kEnd rs [] := by unfold stepsR; rw [List.length_map, List.length_range]
theorem soFar_succ {rs : List Rope} {i : Nat} (h : i < kEnd rs []) : soFar rs (i + 1) = soFar rs i ++ (stepAt rs [] i).2 := by
  unfold soFar
  rw [List.take_add_one, steps_get h, List.map_append, List.flatten_append]
  show _ ++ ((stepAt rs [] i).2 ++ []) = _
  rw [List.append_nil]
theorem soFar_spec {rs : List Rope} (hd : (rs.map Rope.name).Nodup) : ∀ i, i ≤ kEnd rs [] → (soFar rs i).Nodup ∧ ∀ n, n ∈ soFar rs i ↔ n ∈ Bk rs [] i
  | 0, _ => ⟨by unfold soFar; rw [List.take_zero]; exact List.nodup_nil, fun n => by unfold soFar; rw [List.take_zero]; exact Iff.rfl⟩
  | i + 1, hi => by
    obtain ⟨a, b⟩ := soFar_spec hd i (by omega)
    rw [soFar_succ (by omega)]
    refine ⟨?_, fun n => ?_⟩
    · rw [List.nodup_append]
      refine ⟨a, (Bk_nd hd (i + 1)).sublist List.filter_sublist, fun x hx y hy e => ?_⟩
      subst e
      exact (in_step.mp hy).2 ((b x).mp hx)
    · rw [List.mem_append, b, in_step]
      constructor
      · rintro (z | z)
        · exact Bk_mono i n z
        · exact z.1
      · intro z
        by_cases y : n ∈ Bk rs [] i
        · exact .inl y
        · exact .inr ⟨z, y⟩
theorem soFar_srt {rs : List Rope} (hd : (rs.map Rope.name).Nodup) {i : Nat} (h : i ≤ kEnd rs []) : srt (soFar rs i) = Bk rs [] i := by
  obtain ⟨a, b⟩ := soFar_spec hd i h
  rw [← Bk_srt rs i]
  exact srt_eq_of_mem a (Bk_nd hd i) b
theorem soFar_len {rs : List Rope} (hd : (rs.map Rope.name).Nodup) {i : Nat} (h : i ≤ kEnd rs []) : (soFar rs i).length ≤ rs.length := by
  rw [← srt_len, soFar_srt hd h]
  have := few_left hd (Bk_nd hd i) (Bk_in rs i)
  omega
section
variable {rs : List Rope} (ho : ∀ r ∈ rs, Ok r) (hd : (rs.map Rope.name).Nodup)
include ho hd
theorem Bk_all (hs : srt (rs.map Rope.name) = rs.map Rope.name) : Bk rs [] (kEnd rs []) = rs.map Rope.name := by
  obtain ⟨a, _, _⟩ := kEnd_spec ho (B := [])
  rw [← Bk_srt rs, ← hs]
  refine srt_eq_of_mem (Bk_nd hd _) hd fun n => ⟨Bk_in rs _ n, fun h => ?_⟩
  apply Classical.byContradiction
  intro z
  obtain ⟨r, hr, e⟩ := List.mem_map.mp h
  have : r ∈ left rs (Bk rs [] (kEnd rs [])) := mem_left.mpr ⟨hr, by rw [e]; exact z⟩
  rw [a] at this
  cases this
theorem step_names {i : Nat} (hi : i < kEnd rs []) : (stepAt rs [] i).2 ≠ [] ∧ srt (stepAt rs [] i).2 = (stepAt rs [] i).2 := by
  obtain ⟨_, b, _⟩ := kEnd_spec ho (B := [])
  obtain ⟨n, h1, h2, _⟩ := step_more ho (b i hi)
  refine ⟨fun e => ?_, srt_of_sorted ?_⟩
  · have := in_step.mpr ⟨h1, h2⟩
    rw [e] at this
    cases this
  · have h := srt_sorted (Bk rs [] (i + 1))
    rw [Bk_srt] at h
    exact h.sublist List.filter_sublist
theorem step_at {i : Nat} (hi : i < kEnd rs []) : brokenBy rs [] (Ld rs [] i) = Bk rs [] i := by
  obtain ⟨_, b, _⟩ := kEnd_spec ho (B := [])
  have hp := Ld_pos ho (b i hi)
  refine at_step ho hd List.nodup_nil (List.Perm.eq_nil (srt_perm [])) (by grind) (by omega) (fun j hj => ?_) (fun _ => Rat.le_refl) (fun n hn => absurd hn List.not_mem_nil)
  subst hj
  exact Ld_lt ho (b j (by omega)) (b (j + 1) hi)
theorem step_above {i : Nat} (hi : i < kEnd rs []) {l : Rat} (h1 : Ld rs [] i < l) (h2 : i + 1 < kEnd rs [] → l ≤ Ld rs [] (i + 1)) : brokenBy rs [] l = Bk rs [] (i + 1) := by
  obtain ⟨_, b, _⟩ := kEnd_spec ho (B := [])
  have hp := Ld_pos ho (b i hi)
  exact at_step ho hd List.nodup_nil (List.Perm.eq_nil (srt_perm [])) (by grind) (by omega) (fun j hj => by
    have : j = i := by omega
    rw [this]
    exact h1) h2 (fun n hn => absurd hn List.not_mem_nil)
end
end SM

/-! AbV: a dict of fractions by fractions: made, then read. -/
namespace Ab
open PySem L2 LamX
open Ab.Rp (rp)
open Ab.Dt (toD)
def AV.celB : AV → Bool
  | .cel _ => true
  | _ => false
section
variable {K : PySem.W.Frag} {c : Ctx} {ss : List AV} {σ : L2.St} {H : Hp}
theorem At.celAt (a : At K c ss σ H) {i : Nat} {C : Cel} (e : ss[i]? = some (.cel C)) : ∃ p u, σ[i]? = some (some (.ref p)) ∧ H p = some u ∧ C.P K H u ∧ Nf c.H0 p ∧ ¬ c.w.S p := by
  obtain ⟨ad, h1, _⟩ := a.sl
  obtain ⟨u, q1, q2, q3, q4, q5⟩ := h1 i _ e
  exact ⟨_, u, q1, q2, q3, q4, q5⟩
/-- the object of the one slot of its kind is written -/
theorem At.putAt (a : At K c ss σ H) {i : Nat} {C : Cel} {p : Addr} {u u' : HO} {s' : AV} (e : ss[i]? = some (.cel C)) (hone : ((ss.set i .un).all fun s => !s.celB) = true) (e1 : σ[i]? = some (some (.ref p))) (h : H p = some u) (hP : C.P K H u) (h0 : Nf c.H0 p) (nS : ¬ c.w.S p) (ns : ¬ s'.isOwn) (hs : SlOk K c (upd H p u') σ[i]? p s') : At K c (ss.set i s') σ (upd H p u') := by
  obtain ⟨n1, n2, n3⟩ := C.nl hP
  have t : Tu H (upd H p u') := Tu.putO h (fun xs z => n3 (by rw [z]; trivial)) (fun q u z => n3 (by rw [z]; trivial))
  have hi := (List.getElem?_eq_some_iff.mp e).1
  refine ⟨by rw [List.length_set]; exact a.len, a.gr.putO h0, c.w.putO a.j h n3 nS, fun z hz => (a.tu z hz).trans t, fun q hq => ?_, ?_⟩
  · obtain ⟨m, vs, g, r⟩ := a.pr q hq
    refine ⟨m, vs, ?_, r.mono t⟩
    rw [upd_ne (fun z => by rw [z, h] at g; exact n1 _ (Option.some.inj g))]
    exact g
  · obtain ⟨ad, g1, g2, g3⟩ := a.sl
    obtain ⟨u2, r1, _⟩ := g1 i _ e
    have ep : ad i = p := V.ref.inj (Option.some.inj (Option.some.inj (r1.symm.trans e1)))
    refine ⟨ad, fun k s es => ?_, fun k l s x es ex o1 o2 hkl => ?_, fun k s es o q hq => ?_⟩
    · by_cases hk : k = i
      · subst hk
        rw [List.getElem?_set_self hi] at es
        cases es
        rw [ep]
        exact hs
      · have eu : (ss.set i .un)[k]? = some s := by
          rw [List.getElem?_set_ne (Ne.symm hk)] at es ⊢
          exact es
        rw [List.getElem?_set_ne (Ne.symm hk)] at es
        have q := g1 k s es
        cases s with
        | un => exact trivial
        | ex P =>
          obtain ⟨v, x, q1, q2, q3⟩ := q
          exact ⟨v, x, q1, Rp.mono t q2, q3⟩
        | own zs =>
          obtain ⟨ws, q1, q2, q3, q4, q5⟩ := q
          exact ⟨ws, q1, by rw [upd_ne (fun z => by rw [z, h] at q2; exact n1 _ (Option.some.inj q2))]; exact q2, q3.mono t, q4, q5⟩
        | lst zs => exact q
        | val v => exact q
        | ownE P => exact q
        | two a b => exact q
        | cel C' =>
          have := List.all_eq_true.mp hone _ (List.mem_of_getElem? eu)
          cases this
    · have ho : ∀ {k : Nat} {s : AV}, (ss.set i s')[k]? = some s → s.isOwn → ss[k]? = some s := fun {k s} es o => by
        by_cases hk : k = i
        · subst hk
          rw [List.getElem?_set_self hi] at es
          cases es
          exact absurd o ns
        · rw [List.getElem?_set_ne (Ne.symm hk)] at es
          exact es
      exact g2 k l s x (ho es o1) (ho ex o2) o1 o2 hkl
    · by_cases hk : k = i
      · subst hk
        rw [List.getElem?_set_self hi] at es
        cases es
        exact absurd o ns
      · rw [List.getElem?_set_ne (Ne.symm hk)] at es
        exact g3 k s es o q hq
/-- a slot gets a new object -/
theorem At.setCel {Hb : Hp} (b : At K c ss σ Hb) (a : At K c ss σ H) {i : Nat} {p : Addr} {u : HO} {C : Cel} (n : Nf Hb p) (h : H p = some u) (hP : C.P K H u) (hi : i < ss.length) : At K c (ss.set i (.cel C)) (σ.set i (some (.ref p))) H := by
  refine ⟨by rw [List.length_set, List.length_set]; exact a.len, a.gr, a.j, a.tu, a.pr, ?_⟩
  obtain ⟨ad, h1, h2, h3⟩ := a.sl
  have hσ : i < σ.length := by rw [a.len]; exact hi
  have hk : ∀ {k : Nat} {s : AV}, (ss.set i (.cel C))[k]? = some s → s.isOwn → k ≠ i ∧ ss[k]? = some s := fun {k s} es o => by
    by_cases z : k = i
    · subst z
      rw [List.getElem?_set_self hi] at es
      cases es
      exact absurd o (fun z => z)
    · rw [List.getElem?_set_ne (Ne.symm z)] at es
      exact ⟨z, es⟩
  refine ⟨fun k => if k = i then p else ad k, fun k s es => ?_, fun k l s x es ex o1 o2 hkl => ?_, fun k s es o q hq => ?_⟩
  · by_cases z : k = i
    · subst z
      rw [List.getElem?_set_self hi] at es
      cases es
      rw [List.getElem?_set_self hσ]
      show SlOk K c H _ (if k = k then p else ad k) _
      rw [if_pos rfl]
      exact ⟨u, rfl, h, hP, b.gr.fresh n, b.notS n⟩
    · rw [List.getElem?_set_ne (Ne.symm z)] at es ⊢
      show SlOk K c H _ (if k = i then p else ad k) _
      rw [if_neg z]
      exact h1 k s es
  · obtain ⟨z1, e1⟩ := hk es o1
    obtain ⟨z2, e2⟩ := hk ex o2
    show (if k = i then p else ad k) ≠ (if l = i then p else ad l)
    rw [if_neg z1, if_neg z2]
    exact h2 k l s x e1 e2 o1 o2 hkl
  · obtain ⟨z1, e1⟩ := hk es o
    show (if k = i then p else ad k) ≠ q.p
    rw [if_neg z1]
    exact h3 k s e1 o q hq
end
/-! ### fractions by fractions -/
def keyR (q : Rat) : List Key := [.inl q.num, .inl (q.den : Int)]
theorem keyR_inj {p q : Rat} (h : keyR p = keyR q) : p = q := entU_inj (p := p) (q := q) h
inductive Ents (K : PySem.W.Frag) (H : Hp) : List (List Key × V) → List (Rat × Rat) → Prop
  | nil : Ents K H [] []
  | cons {v : V} {ws : List (List Key × V)} {e x : Rat} {kvs : List (Rat × Rat)} : rp K H v x → Ents K H ws kvs → Ents K H ((keyR e, v) :: ws) ((e, x) :: kvs)
theorem Ents.mono {K : PySem.W.Frag} {H H' : Hp} (t : Tu H H') {ws : List (List Key × V)} {kvs : List (Rat × Rat)} (h : Ents K H ws kvs) : Ents K H' ws kvs := by
  induction h with
  | nil => exact .nil
  | cons a _ ih => exact .cons (Rp.mono t a) ih
theorem Ents.len {K : PySem.W.Frag} {H : Hp} {ws : List (List Key × V)} {kvs : List (Rat × Rat)} (h : Ents K H ws kvs) : ws.length = kvs.length := by
  induction h with
  | nil => rfl
  | cons _ _ ih => rw [List.length_cons, List.length_cons, ih]
def putR (kvs : List (Rat × Rat)) (e x : Rat) : List (Rat × Rat) := if (kvs.any fun p => decide (p.1 = e)) = true then kvs.map (fun p => if p.1 = e then (p.1, x) else p) else kvs ++ [(e, x)]
theorem Ents.any {K : PySem.W.Frag} {H : Hp} {ws : List (List Key × V)} {kvs : List (Rat × Rat)} (h : Ents K H ws kvs) (e : Rat) : (ws.any fun kv => decide (kv.1 = keyR e)) = kvs.any fun p => decide (p.1 = e) := by
  induction h with
  | nil => rfl
  | @cons v ws e' x kvs _ _ ih =>
    rw [List.any_cons, List.any_cons, ih]
    congr 1
    exact decide_eq_decide.mpr ⟨fun z => keyR_inj z, fun z => by rw [show e' = e from z]⟩
theorem Ents.putM {K : PySem.W.Frag} {H : Hp} {ws : List (List Key × V)} {kvs : List (Rat × Rat)} (h : Ents K H ws kvs) {v : V} {e x : Rat} (hv : rp K H v x) : Ents K H (ws.map fun kv => if kv.1 = keyR e then (kv.1, v) else kv) (kvs.map (fun p => if p.1 = e then (p.1, x) else p)) := by
  induction h with
  | nil => exact .nil
  | @cons v' ws e' x' kvs a _ ih =>
    rw [List.map_cons, List.map_cons]
    by_cases z : e' = e
    · subst z
      rw [if_pos rfl, if_pos rfl]
      exact .cons hv ih
    · rw [if_neg (show ¬ keyR e' = keyR e from fun y => z (keyR_inj y)), if_neg (show ¬ e' = e from z)]
      exact .cons a ih
theorem Ents.putA {K : PySem.W.Frag} {H : Hp} {ws : List (List Key × V)} {kvs : List (Rat × Rat)} (h : Ents K H ws kvs) {v : V} {e x : Rat} (hv : rp K H v x) : Ents K H (ws ++ [(keyR e, v)]) (kvs ++ [(e, x)]) := by
  induction h with
  | nil => exact .cons hv .nil
  | cons a _ ih => exact .cons a ih
theorem Ents.put {K : PySem.W.Frag} {H : Hp} {ws : List (List Key × V)} {kvs : List (Rat × Rat)} (h : Ents K H ws kvs) {v : V} {e x : Rat} (hv : rp K H v x) : Ents K H (putK ws (keyR e) v) (putR kvs e x) := by
  unfold putK putR
  rw [h.any e]
  split
  · exact h.putM hv
  · exact h.putA hv
def lookR (kvs : List (Rat × Rat)) (e : Rat) : Option Rat := (kvs.find? fun p => decide (p.1 = e)).map Prod.snd
theorem Ents.val {K : PySem.W.Frag} {H : Hp} {ws : List (List Key × V)} {kvs : List (Rat × Rat)} (h : Ents K H ws kvs) {e x : Rat} (hl : lookR kvs e = some x) : ∃ v, valV ws (keyR e) = some v ∧ rp K H v x := by
  induction h with
  | nil => cases hl
  | @cons v' ws e' x' kvs a _ ih =>
    by_cases z : e' = e
    · subst z
      have hl : some x' = some x := by simpa [lookR] using hl
      cases hl
      exact ⟨v', valV_pos rfl, a⟩
    · have hl : lookR kvs e = some x := by simpa [lookR, List.find?_cons, z] using hl
      obtain ⟨v, h1, h2⟩ := ih hl
      exact ⟨v, by rw [valV_neg (fun y => z (keyR_inj y))]; exact h1, h2⟩
def DkC (kvs : List (Rat × Rat)) : Cel where
  P := fun K H o => ∃ ws, o = .dT ws ∧ Ents K H ws kvs
  mono := fun t ⟨ws, e, h⟩ => ⟨ws, e, h.mono t⟩
  nl := fun ⟨ws, e, h⟩ => by
    subst e
    exact ⟨fun xs z => (by cases z), fun ps z => (by cases z), fun z => z⟩
/-- the same, told for good -/
structure DkR where
  kvs : List (Rat × Rat)
instance : Rp DkR := ⟨fun K H v x => ∃ d od ws, v = .ref d ∧ H d = some (.frz od (.dT ws)) ∧ Ents K H ws x.kvs, fun t ⟨d, od, ws, e, h, r⟩ => ⟨d, od, ws, e, t.2.2 _ _ _ h, r.mono t⟩⟩
section
variable {X : Cx} {c : Ctx} {ss : List AV} {D : AE} {a b e value idx : Expr} {body rest : List Stmt} {pos pos' p1 : Pos} {kvs : List (Rat × Rat)} {k : Nat}
/-- {} -/
theorem x_dnewR : XE X c ss (.Dict [] [] pos) (.cel (DkC [])) := pe_dnewT.wk fun σ H Q q p hp => q.2 (.ref p) _ (q.1.new hp) (Gr.new hp) ⟨p, _, rfl, Nf.of hp, upd_same, [], rfl, .nil⟩
/-- x = a new object -/
theorem q_setC {C : Cel} (i : Nat) {x : Str} (he : XE X c ss e (.cel C)) (h : XSs X c (ss.set i (.cel C)) rest D) (hi : i < ss.length := by exact Nat.le_of_ble_eq_true rfl) (hN : X.N.Nodup := by assumption) (hx : X.N[i]? = some x := by rfl) (hl : Loc X.env.scope x := by first | exact Or.inl rfl | exact Or.inr rfl)
    (hs : swapsWith e (some (.Name x pos')) pos.line X.env = pure false := by rfl) (hf : X.fn x = true ∨ X.env.scope.names.lookup x = some .local := by first | exact .inl rfl | exact .inr rfl) : XSs X c ss (.Assign [.Name x pos'] e pos :: rest) D :=
  q_seq (N := fun ss' => ss' = ss.set i (.cel C)) ((ps_set hN hx hl he hs hf).wk fun De σ H q => ⟨q.1, fun v H' a g ⟨p, u, e1, n, k, r⟩ => by
    subst e1
    exact q.2.1 _ _ _ rfl (q.1.setCel a n k r hi)⟩) fun ss' z => by
    rw [z]
    exact h
/-- rows[e] = x -/
theorem q_dputR (i : Nat) {x : Str} {q z : Rat} (hr : Room k X.A) (hv : XE X c ss value (.dat z)) (hk : XE X c ss idx (.dat q)) (hl : kvs.length < 100000) (h : XSs X c (ss.set i (.cel (DkC (putR kvs q z)))) rest D) (e0 : ss[i]? = some (.cel (DkC kvs)) := by rfl) (hone : ((ss.set i .un).all fun s => !s.celB) = true := by rfl)
    (hN : X.N[i]? = some x := by rfl) (hvis : Vis X.env.scope x := by first | exact Or.inl rfl | exact Or.inr (Or.inl rfl) | exact Or.inr (Or.inr rfl)) (hd : (x == ("__debug__" : Str)) = false := by decide) (hcd : (x == ("__classdict__" : Str)) = false := by decide)
    (hs : swapsWith value (some (.Subscript (.Name x p1) idx pos')) pos.line X.env = pure false := by rfl) : XSs X c ss (.Assign [.Subscript (.Name x p1) idx pos'] value pos :: rest) D :=
  q_seq (N := fun ss' => ss' = ss.set i (.cel (DkC (putR kvs q z)))) ((ps_dput (Nat.lt_of_le_of_lt (by omega) hr.units) (pe_var hN hvis hd hcd) hk hv hs).wk fun De σ H w => by
    refine ⟨w.1, fun v H1 a1 g1 ⟨z', hz, ez⟩ => ?_⟩
    obtain ⟨p, u, e1, e2, ⟨ws, rfl, r⟩, n0, nS⟩ := a1.celAt e0
    refine ⟨.ref p, e1, a1, fun y H3 a3 g3 ⟨q', hq, eq⟩ => ?_⟩
    have ez : z' = z := ez
    have eq : q' = q := eq
    subst ez eq
    obtain ⟨p', u', f1, f2, ⟨ws', rfl, r'⟩, n0', nS'⟩ := a3.celAt e0
    have ep : p' = p := V.ref.inj (Option.some.inj (Option.some.inj (f1.symm.trans e1)))
    subst ep
    obtain ⟨bb, rfl, hbb⟩ := hq
    have hz3 : rp X.K H3 v z' := Rp.mono g3.tu hz
    have t : Tu H3 (upd H3 p' (.dT (putK ws' (keyR q') v))) := Tu.putO f2 (fun xs z => by cases z) (fun q u z => by cases z)
    exact ⟨p', _, rfl, DPut.t (k := keyR q') f2 (show H3 bb = some (.tup ((keyR q').map kV)) from hbb) (by rw [r'.len]; exact Nat.lt_of_lt_of_le hl (by decide)), w.2.1 _ _ _ rfl (a3.putAt e0 hone f1 f2 ⟨ws', rfl, r'⟩ n0' nS' (fun z => z) ⟨_, f1, upd_same, ⟨_, rfl, (r'.put hz3).mono t⟩, n0', nS'⟩)⟩) fun ss' z => by
    rw [z]
    exact h
/-- from here on it is read only -/
theorem s_freezeR (i : Nat) (h : XSs X c (ss.set i (.dat (DkR.mk kvs))) body D) (e0 : ss[i]? = some (.cel (DkC kvs)) := by rfl) (hone : ((ss.set i .un).all fun s => !s.celB) = true := by rfl) : XSs X c ss body D := ⟨fun pins s σ H De I q => by
  obtain ⟨p, u, e1, e2, ⟨ws, rfl, r⟩, n0, nS⟩ := q.1.celAt e0
  obtain ⟨od, I2⟩ := I.lock e2 (mu := trivial)
  have t : Tu H (upd H p (.frz od (.dT ws))) := Tu.putO e2 (fun xs z => by cases z) (fun q u z => by cases z)
  exact h.run pins s σ _ De I2 (q.at_ (q.1.putAt e0 hone e1 e2 ⟨ws, rfl, r⟩ n0 nS (fun z => z) ⟨.ref p, DkR.mk kvs, e1, ⟨p, od, ws, rfl, upd_same, r.mono t⟩, rfl⟩))⟩
/-- rows[e] -/
theorem x_dgetR {q z : Rat} (hr : Room k X.A) (hl : lookR kvs q = some z) (ha : XE X c ss a (.dat (DkR.mk kvs))) (hb : XE X c ss b (.dat q)) (hs : NoSl b := by exact fun _ _ => rfl) : XE X c ss (.Subscript a b pos) (.dat z) :=
  (pe_dget (Nat.lt_of_le_of_lt (by omega) hr.units) ha hb hs).wk fun σ H Q w => ⟨w.1, fun v H1 a1 g1 ⟨y, ⟨d, od, ws, e1, h1, r1⟩, ey⟩ => ⟨a1, fun u H2 a2 g2 ⟨q', hq, eq⟩ => by
    have eq : q' = q := eq
    have ey : y = DkR.mk kvs := ey
    subst eq ey
    obtain ⟨bb, rfl, hbb⟩ := hq
    have h2 := g2.frz _ _ _ h1
    obtain ⟨v2, k1, k2⟩ := (r1.mono g2.tu).val hl
    exact ⟨d, v2, e1, .inr ⟨ws, keyR q', bb, .inr ⟨od, h2⟩, rfl, hbb, k1.symm⟩, (w.go a2 (g1.trans g2)).2 v2 H2 a2 (Gr.refl _ _) ⟨z, k2, rfl⟩⟩⟩⟩
theorem Ents.get {K : PySem.W.Frag} {H : Hp} {ws : List (List Key × V)} {kvs : List (Rat × Rat)} (h : Ents K H ws kvs) {i : Nat} {ky : List Key} {v : V} (e : ws[i]? = some (ky, v)) : ∃ q, (kvs.map Prod.fst)[i]? = some q ∧ ky = keyR q := by
  induction h generalizing i with
  | nil => simp at e
  | @cons v' ws e' x' kvs a _ ih =>
    cases i with
    | zero =>
      have e : (keyR e', v') = (ky, v) := by simpa using e
      cases e
      exact ⟨e', rfl, rfl⟩
    | succ i => exact ih (by simpa using e)
theorem wk_keysR {K : PySem.W.Frag} {H1 : Hp} {d : Addr} {od : Obj} {ws : List (List Key × V)} (h : H1 d = some (.frz od (.dT ws))) (r : Ents K H1 ws kvs) : Wk K [] H1 (Itkt d od ws) (kvs.map Prod.fst) where
  go := fun i H g hi => ⟨g.1.2.2 _ _ _ h, by rw [r.len, ← List.length_map (f := Prod.fst)]; exact hi⟩
  yld := fun i H x H' g hi y => by
    obtain ⟨rfl, ky, v, q, e1, rfl, e3⟩ := y
    obtain ⟨q', h1, rfl⟩ := r.get e1
    exact ⟨q', h1, ⟨q, rfl, e3⟩, .inl rfl⟩
  stop := fun i H g hi => ⟨g.1.2.2 _ _ _ h, by rw [r.len, ← List.length_map (f := Prod.fst)]; exact hi⟩
/-- for q in rows -/
theorem i_keysR {tg : Expr} (h : XE X c ss e (.dat (DkR.mk kvs))) : XI X c ss tg e (kvs.map Prod.fst) := (pi_keys h).wk fun σ H R q => ⟨q.1, fun v H1 a g ⟨y, ⟨d, od, ws, e1, h1, r1⟩, ey⟩ => by
  have ey : y = DkR.mk kvs := ey
  subst ey
  exact ⟨d, od, e1, .inr ⟨ws, h1, q.2 _ H1 [] (a.addpr (fun z hz => absurd hz (by simp)) fun i s es o z hz => absurd hz (by simp)) g (wk_keysR h1 r1)⟩⟩⟩
end
end Ab

/-! M18: the table by hand. -/
namespace SM
open Ab L2
open Ab.Rp (rp)
open Ab.Dt (toD)
open PySem (Str)
open Ab.Rp (rp)
open Ab.Dt (toD)
theorem sum_part (rs : List Rope) (e : Rat) : (rs.map (part e)).sum = loadAt rs e := by
  unfold loadAt atE
  induction rs with
  | nil => rfl
  | cons r rs ih =>
    rw [List.map_cons, List.sum_cons, ih, List.filter_cons]
    unfold part
    by_cases h : endR r < e
    · rw [if_pos h, decide_eq_true h, if_neg (by decide)]
      grind
    · rw [if_neg h, decide_eq_false h, if_pos (by decide), total_cons]
def rowsTo (rs : List Rope) (i : Nat) : List (Rat × Rat) := (uniqTo (rs.map endR) i).map fun e => (e, loadAt rs e)
theorem rowsTo_succ {rs : List Rope} {i : Nat} {r : Rope} (h : rs[i]? = some r) : putR (rowsTo rs i) (endR r) (loadAt rs (endR r)) = rowsTo rs (i + 1) := by
  have hx : (rs.map endR)[i]? = some (endR r) := by rw [List.getElem?_map, h]; rfl
  unfold rowsTo
  rw [uniqTo_succ hx]
  unfold putR stepU
  have ha : ((uniqTo (rs.map endR) i).map fun e => (e, loadAt rs e)).any (fun p => decide (p.1 = endR r)) = decide (endR r ∈ uniqTo (rs.map endR) i) := by
    rw [List.any_map]
    by_cases z : endR r ∈ uniqTo (rs.map endR) i
    · rw [decide_eq_true z, List.any_eq_true]
      exact ⟨_, z, decide_eq_true rfl⟩
    · rw [decide_eq_false z, List.any_eq_false]
      intro x hx hy
      exact z (of_decide_eq_true hy ▸ hx)
  rw [ha]
  by_cases z : endR r ∈ uniqTo (rs.map endR) i
  · rw [decide_eq_true z, if_pos rfl, if_pos z, List.map_map]
    refine List.map_congr_left fun x hx => ?_
    show (if (x, loadAt rs x).1 = endR r then ((x, loadAt rs x).1, loadAt rs (endR r)) else (x, loadAt rs x)) = _
    by_cases y : x = endR r
    · subst y
      rw [if_pos rfl]
    · rw [if_neg y]
  · rw [decide_eq_false z, if_neg (by decide), if_neg z, List.map_append]
    rfl
theorem rowsTo_len (rs : List Rope) (i : Nat) : (rowsTo rs i).length ≤ i := by
  unfold rowsTo
  rw [List.length_map]
  exact uniqTo_len _ _
theorem rowsTo_all (rs : List Rope) : rowsTo rs rs.length = (uniq (rs.map endR)).map fun e => (e, loadAt rs e) := by
  unfold rowsTo
  rw [uniq_eq, List.length_map]
theorem look_map {us : List Rat} {f : Rat → Rat} {e : Rat} (h : e ∈ us) : lookR (us.map fun e => (e, f e)) e = some (f e) := by
  induction us with
  | nil => cases h
  | cons u us ih =>
    unfold lookR
    rw [List.map_cons, List.find?_cons]
    by_cases z : u = e
    · subst z
      rw [show decide ((u, f u).1 = u) = true from decide_eq_true rfl]
      rfl
    · rw [show decide ((u, f u).1 = e) = false from decide_eq_false z]
      rcases List.mem_cons.mp h with y | h
      · exact absurd y.symm z
      · exact ih h
/-- how many are less -/
def cnt (us : List Rat) (e : Rat) : Nat := (us.filter fun x => decide (x < e)).length
theorem cnt_le {us : List Rat} {a b : Rat} (h : a ≤ b) : cnt us a ≤ cnt us b := by
  unfold cnt
  induction us with
  | nil => exact Nat.le_refl _
  | cons u us ih =>
    rw [List.filter_cons, List.filter_cons]
    by_cases z : u < a
    · rw [decide_eq_true z, decide_eq_true (show u < b by grind), if_pos rfl, if_pos rfl, List.length_cons, List.length_cons]
      omega
    · rw [decide_eq_false z, if_neg (by decide)]
      split
      · rw [List.length_cons]
        omega
      · exact ih
theorem cnt_lt {us : List Rat} {a b : Rat} (hm : a ∈ us) (h : a < b) : cnt us a < cnt us b := by
  unfold cnt
  induction us with
  | nil => cases hm
  | cons u us ih =>
    rw [List.filter_cons, List.filter_cons]
    rcases List.mem_cons.mp hm with z | hm
    · subst z
      rw [decide_eq_false (show ¬ a < a by grind), if_neg (by decide), decide_eq_true h, if_pos rfl, List.length_cons]
      have := cnt_le (us := us) (show a ≤ b by grind)
      unfold cnt at this
      omega
    · have ih := ih hm
      by_cases z : u < a
      · rw [decide_eq_true z, decide_eq_true (show u < b by grind), if_pos rfl, if_pos rfl, List.length_cons, List.length_cons]
        omega
      · rw [decide_eq_false z, if_neg (by decide)]
        split
        · rw [List.length_cons]
          omega
        · exact ih
def row3 (rs : List Rope) (us : List Rat) (e : Rat) : T3 Int Rat Rat := ⟨(cnt us e : Int), e, loadAt rs e⟩
theorem row3_le {rs : List Rope} {us : List Rat} {a b : Rat} (ha : a ∈ us) (hb : b ∈ us) : rle a b = PySem.W.dataLe false Dt.toD (row3 rs us a) (row3 rs us b) := by
  show rle a b = !PySem.W.dataLt (Dt.toD (row3 rs us b)) (Dt.toD (row3 rs us a))
  by_cases z : a = b
  · subst z
    rw [show PySem.W.dataLt (Dt.toD (row3 rs us a)) (Dt.toD (row3 rs us a)) = false from PyProof.Rows.lex_irrefl _]
    exact decide_eq_true Rat.le_refl
  · have e : PySem.W.dataLt (Dt.toD (row3 rs us b)) (Dt.toD (row3 rs us a)) = decide ((cnt us b : Int) < (cnt us a : Int)) := by
      show PySem.W.dataLt (.tuple [.int (cnt us b : Int), Dt.toD b, Dt.toD (loadAt rs b)]) (.tuple [.int (cnt us a : Int), Dt.toD a, Dt.toD (loadAt rs a)]) = _
      rw [PySem.W.dataLt_tuple, PySem.W.dataLt_cons (by simp [PySem.W.alike]), PySem.W.dataLt_int]
      have hne : ¬ (cnt us b : Int) = (cnt us a : Int) := fun y => by
        rcases (by grind : a < b ∨ b < a) with h | h
        · have := cnt_lt ha h; omega
        · have := cnt_lt hb h; omega
      rw [if_neg]
      intro y
      simp only [PySem.PyData.eqv, beq_iff_eq] at y
      exact hne y
    rw [e]
    unfold rle
    rcases (by grind : a < b ∨ b < a) with h | h
    · have := cnt_lt ha h
      rw [decide_eq_true (show a ≤ b by grind), decide_eq_false (by omega)]
      rfl
    · have := cnt_lt hb h
      rw [decide_eq_false (show ¬ a ≤ b by grind), decide_eq_true (by omega)]
      rfl
theorem row3_srt (rs : List Rope) : srt ((uniq (rs.map endR)).map (row3 rs (uniq (rs.map endR)))) = (ordR (rs.map endR)).map (row3 rs (uniq (rs.map endR))) := by
  have z := PySem.W.sort_maps (r := rle) (s := PySem.W.dataLe false Dt.toD) (row3 rs (uniq (rs.map endR))) (l := uniq (rs.map endR)) (fun a ha b hb => row3_le ha hb)
  exact z.symm
/-- a lesser load is borne, where a greater one is -/
theorem bears_less {rs : List Rope} (ho : ∀ r ∈ rs, Ok r) {l l' : Rat} (h0 : 0 ≤ l) (hl : l ≤ l') (h : left rs (brokenBy rs [] l') ≠ []) : left rs (brokenBy rs [] l) ≠ [] := fun z => by
  obtain ⟨q, hq⟩ := List.exists_mem_of_ne_nil _ h
  obtain ⟨hq1, hq2⟩ := mem_left.mp hq
  have hin := broken_in ho h0 hl (broken_stab rs [] l') (fun n hn => absurd hn List.not_mem_nil)
  have : q ∈ left rs (brokenBy rs [] l) := mem_left.mpr ⟨hq1, fun y => hq2 (hin _ y)⟩
  rw [z] at this
  cases this
end SM

/-! AbW: x not in [data ..]; (a, b, c)[1:]. -/
namespace Ab
open PySem L2 LamX
open Ab.Rp (rp)
open Ab.Dt (toD)
section
variable {X : Cx} {c : Ctx} {ss : List AV} {D : AE} {a b e : Expr} {lo : Option Expr} {pos p2 : Pos} {k : Nat}
section
variable {α : Type} [Dt α] [DecidableEq α] {x : α} {xs : List α}
theorem any_eqv (x : α) (xs : List α) : ((xs.map Dt.toD).any fun z => PyData.eqv z (Dt.toD x)) = decide (x ∈ xs) := by
  rw [List.any_map]
  by_cases h : x ∈ xs
  · rw [decide_eq_true h, List.any_eq_true]
    exact ⟨x, h, (Dt.eqv x x).mpr rfl⟩
  · rw [decide_eq_false h, List.any_eq_false]
    intro y hy z
    exact h ((Dt.eqv y x).mp z ▸ hy)
theorem o_niD (ox : Dt.ok x) (oy : ∀ x ∈ xs, Dt.ok x) (hd : Dt.dpt α ≤ 60) : Op2 X.K c (rNotInD X.K) (.dat x) (.lst xs) (.dat (!decide (x ∈ xs))) := fun _ _ _ _ _ _ _ _ _ ⟨x', h1, p⟩ ⟨q, us, e2, _, h2, r2⟩ t => by
  have p : x' = x := p
  subst p
  refine ⟨Dt.toD x', xs.map Dt.toD, Dt.dp h1, by rw [e2]; exact .lst (SqL.of h2) (dpAll r2), shaped_of (Dt.lay _ ox) (Nat.le_trans (Dt.dep _) (by omega)), shaped_of (layAll oy) (by
    show PyData.depthAll _ + 1 ≤ 64
    have := depAll xs
    omega), ?_⟩
  rw [any_eqv]
  exact t.giveB
theorem t_niD (hr : Room k X.A) (ha : XE X c ss a (.dat x)) (hb : XE X c ss b (.lst xs)) (ox : Dt.ok x) (oy : ∀ x ∈ xs, Dt.ok x) (hd : Dt.dpt α ≤ 60 := by decide) (hm : behindInMarks .NotIn b = false := by rfl) : XT X c ss (.Compare a [.NotIn] [b] pos) (· = !decide (x ∈ xs)) := t_cmpE (op_notInD (by have := hr.un; omega)) (o_niD ox oy hd) ha hb hm
end
/-- (a, b, c)[1:] -/
theorem x_tail3 {α β γ : Type} [Rp α] [Rp β] [Rp γ] {x : T3 α β γ} (ha : XE X c ss e (.dat x)) (hl : XO X c ss lo (some 1)) : XE X c ss (.Subscript e (.Slice lo none none p2) pos) (.dat (x.b, x.c)) :=
  (pe_slice sl_tup ha hl xo_none).wk fun σ H Q q => ⟨q.1, fun v H1 a1 g1 ok => ⟨a1, fun H2 a2 g2 => ⟨a2, fun H3 a3 g3 => by
    obtain ⟨y, ⟨p, u, w, z, e, h, h1, h2, h3⟩, zz⟩ := (ok.mono q.1.j (g2.trans g3))
    have zz : y = x := zz
    subst zz
    refine ⟨p, _, e, h, by show ¬ (HT.sIx 3 0 (some 1) = 0 ∧ HT.sIx 3 3 none = 3); decide, fun l hl => ?_⟩
    have t : Tu H3 (upd H3 l (.tup [w, z])) := (Gr.new (w := c.w) hl).tu
    exact (q.go a3 ((g1.trans g2).trans g3)).2 (.ref l) _ (a3.new hl) (Gr.new hl) ⟨(y.b, y.c), ⟨l, w, z, rfl, .inl (.inl upd_same), Rp.mono t h2, Rp.mono t h3⟩, rfl⟩⟩⟩⟩
end
end Ab

/-! AbX: sets of texts: set(t), sorted(s) (told after the library's walk of sets of whole numbers). -/
namespace Ab
open PySem PySem.Spec PyProof.Rows L2 LamX
open Ab.Rp (rp)
open Ab.Dt (toD)
def keyT (e : Int × Value) : Str := match e.2 with | .str k _ => k | _ => Str.empty
def GoodT (w : World) (e : Int × Value) : Prop := ∃ k tk, e.2 = Value.str k tk ∧ e.1 = hashStr w k
/-- the set of the texts of L at a -/
def SetT (w : World) (h : Heap) (a : Addr) (L : List Str) : Prop :=
  ∃ o es ep t, h.get? a = some o ∧ o.ExactSet ∧ o.data = .set es ep t ∧ (∀ e ∈ es.toList, GoodT w e) ∧ (es.toList.map keyT).Nodup ∧ (∀ k, k ∈ L ↔ k ∈ es.toList.map keyT) ∧
    es.size ≤ L.length ∧ t.fits es.size = true ∧ Ris t.place.toList ∧ (w.params.followText "set-order" = true ∨ t.led = true)
section
variable {P : Program} {w : World} {h h' : Heap} {a : Addr} {L : List Str}
theorem SetT.at (R : SetT w h a L) (k : ∀ o, h.get? a = some o → h'.get? a = some o) : SetT w h' a L := by
  obtain ⟨o, es, ep, t, ho, r⟩ := R
  exact ⟨o, es, ep, t, k o ho, r⟩
theorem good_elemsT {l : List (Int × Value)} (g : ∀ e ∈ l, GoodT w e) : ElemsOf (PySem.strKind P w) l := fun e he => by
  obtain ⟨k, tk, h1, h2⟩ := g e he
  exact ⟨⟨k, by rw [h1]; exact strKind_is P w k tk, h2⟩, by rw [h1] <;> rfl⟩
theorem good_isT {e : Int × Value} (g : GoodT w e) (k : Str) : (PySem.strKind P w).is k e.2 = true ↔ keyT e = k := by
  obtain ⟨k0, tk, h1, _⟩ := g
  unfold keyT
  rw [h1]
  show ((k0 == k) = true) ↔ k0 = k
  exact beq_iff_eq
theorem good_memT {l : List (Int × Value)} (g : ∀ e ∈ l, GoodT w e) (k : Str) : k ∈ l.map keyT ↔ ∃ e ∈ l, (PySem.strKind P w).is k e.2 = true := by
  rw [List.mem_map]
  constructor
  · rintro ⟨e, he, q⟩
    exact ⟨e, he, (good_isT (g e he) k).2 q⟩
  · rintro ⟨e, he, q⟩
    exact ⟨e, he, (good_isT (g e he) k).1 q⟩
end
section
variable {P : Program} {w : World} {A : Around} {E : Value → Shared → Prop} {s : Shared} {a : Addr} {L : List Str}
theorem setT_tail {g : Bool → Sem Unit} (hg : ∀ (b : Bool) (s₁ : Shared) (Q' : Unit → Shared → Prop), Q' () s₁ → wpAny (model P w) A (g b) Q' E s₁)
    {o : Obj} {es : Array (Int × Value)} {ep : Nat} {t : SetTable} (ho : s.heap.get? a = some o) (hex : o.ExactSet) (hd : o.data = .set es ep t)
    {es1 : Array (Int × Value)} {t2 : SetTable} {L' : List Str} (g1 : ∀ e ∈ es1.toList, GoodT w e) (nd1 : (es1.toList.map keyT).Nodup) (m1 : ∀ k, k ∈ L' ↔ k ∈ es1.toList.map keyT)
    (hb1 : es1.size < scanBound) (hL : es1.size ≤ L'.length) (hf2 : t2.fits es1.size = true) (hr : Ris t2.place.toList) (hl : w.params.followText "set-order" = true ∨ t2.led = true) {wasDummy : Bool} {R : Option Bool → Shared → Prop}
    (hR : ∀ h', Heap.SameBut a s.heap h' → SetT w h' a L' → R (some true) { s with heap := h' }) :
    wpAny (model P w) A (do
        storeSet a es1 t2
        if (!wasDummy && t2.tooFull) = true then do
            g (relayAll t2 es1 (SetTable.grown es1.size)).2.2
            storeSet a (relayAll t2 es1 (SetTable.grown es1.size)).1 (relayAll t2 es1 (SetTable.grown es1.size)).2.1
            pure (some true)
          else pure (some true)) R E s := by
  refine wpAny_bind (wpAny_storeSet_of ho hd ?_ (fits_of_scanBound hb1))
  have ho1 := store_at (es' := es1) (t' := t2) ho hd
  have sb1 := Heap.SameBut.update s.heap a (Obj.putSet es1 t2)
  split
  · have pm := relayAll_perm t2 es1 (SetTable.grown es1.size)
    have hf3 := relayAll_fits t2 es1 (SetTable.grown es1.size)
    have hr3 := relayAll_ris t2 es1 (SetTable.grown es1.size)
    have hl3 := relayAll_led t2 es1 (SetTable.grown es1.size)
    generalize relayAll t2 es1 (SetTable.grown es1.size) = Z at pm hf3 hr3 hl3 ⊢
    obtain ⟨es2, t3, gave⟩ := Z
    dsimp only at pm hf3 hr3 hl3 ⊢
    have hsz : es2.size = es1.size := by rw [← Array.length_toList, pm.length_eq, Array.length_toList]
    have hb2 : es2.size < scanBound := by rw [hsz]; exact hb1
    refine wpAny_bind (hg _ _ _ ?_)
    refine wpAny_bind (wpAny_storeSet_of ho1 rfl ?_ (fits_of_scanBound hb2))
    have ho2 := store_at (es' := es2) (t' := t3) ho1 rfl
    refine wpAny_pure (hR _ (sb1.trans (Heap.SameBut.update _ a _)) ?_)
    exact ⟨_, es2, _, t3, ho2, hex, rfl, fun e he => g1 e (pm.mem_iff.mp he), (pm.map keyT).nodup_iff.mpr nd1, fun k => (m1 k).trans (pm.map keyT).mem_iff.symm, by rw [hsz]; exact hL, hf3, hr3,
      hl.imp id fun z => by rw [hl3]; exact z⟩
  · exact wpAny_pure (hR _ sb1 ⟨_, es1, _, t2, ho1, hex, rfl, g1, nd1, m1, hL, hf2, hr, hl⟩)
theorem setT_add {k : Str} {tk : Tok} {Q : Bool → Shared → Prop} (R : SetT w s.heap a L) (room : L.length + 1 < scanBound)
    (hQ : ∀ b h', Heap.SameBut a s.heap h' → SetT w h' a (L ++ [k]) → Q b { s with heap := h' }) :
    wpAny (model P w) A (setAddHashed a (.str k tk) ((PySem.strKind P w).hash k)) Q E s := by
  obtain ⟨o, es, ep, t, ho, hex, hd, g, nd, hm, hn, hf, hr, hl⟩ := R
  have hkey : (PySem.strKind P w).is k (.str k tk) = true := strKind_is P w k tk
  have hsc : (Value.str k tk).scannable = true := rfl
  have hel : ElemsOf (PySem.strKind P w) es.toList := good_elemsT g
  have hb : es.size < scanBound := by omega
  unfold setAddHashed setAddHashedIn
  refine wpAny_holding (wpAny_bind (wpAny_setState_of ho hd hf ?_))
  dsimp only
  rw [byScan_of hsc hb hel]
  simp only [↓reduceIte]
  unfold setAddByScan
  refine wpAny_bind ?_
  refine wpAny_bind (wpAny_rule ?_)
  refine wpAny_bind (wpAny_setScan_of hkey ho hd hf hel ?_)
  cases hfi : List.findIdx? (fun e => (PySem.strKind P w).is k e.2) es.toList with
  | some j =>
    dsimp only
    obtain ⟨hj, pj, _⟩ := List.findIdx?_eq_some_iff_getElem.mp hfi
    have hSk : k ∈ L := (hm k).2 ((good_memT (P := P) (w := w) g k).2 ⟨es.toList[j], List.getElem_mem hj, pj⟩)
    refine wpAny_pure (wpAny_pure ?_)
    exact hQ _ s.heap (Heap.SameBut.refl a s.heap) ⟨o, es, ep, t, ho, hex, hd, g, nd, fun i => by
      rw [List.mem_append, ← hm i]
      exact ⟨fun z => z.elim id (fun e => List.mem_singleton.mp e ▸ hSk), .inl⟩, by rw [List.length_append]; omega, hf, hr, hl⟩
  | none =>
    dsimp only
    have hnk : k ∉ es.toList.map keyT := fun z => by
      obtain ⟨e, he, q⟩ := (good_memT (P := P) (w := w) g k).1 z
      have c := List.findIdx?_eq_none_iff.mp hfi e he
      rw [q] at c
      cases c
    have hgw : ∀ (b : Bool) {s₁ : Shared} {Q' : Unit → Shared → Prop}, Q' () s₁ → wpAny (model P w) A (match b with | true => rule "set.scan.the-table-gave-way" | false => pure ()) Q' E s₁ :=
      fun b s₁ Q' q => by cases b <;> first | exact wpAny_pure q | exact wpAny_rule q
    have pm := layNew_perm t es ((PySem.strKind P w).hash k) (.str k tk)
    have hf1 := layNew_fits t es ((PySem.strKind P w).hash k) (.str k tk)
    have hr1 := layNew_ris t es ((PySem.strKind P w).hash k) (.str k tk) hr
    have hl1 := layNew_led t es ((PySem.strKind P w).hash k) (.str k tk)
    generalize layNew t es ((PySem.strKind P w).hash k) (.str k tk) = Z at pm hf1 hr1 hl1 ⊢
    obtain ⟨es1, t1, wasDummy, gave⟩ := Z
    dsimp only at pm hf1 hr1 hl1 ⊢
    rw [Array.toList_push] at pm
    have pc : es1.toList.Perm (((PySem.strKind P w).hash k, Value.str k tk) :: es.toList) := pm.trans (List.perm_append_singleton _ _)
    have pk : (es1.toList.map keyT).Perm (k :: es.toList.map keyT) := pc.map keyT
    have g1 : ∀ e ∈ es1.toList, GoodT w e := fun e he => by
      rcases List.mem_cons.mp (pc.mem_iff.mp he) with z | z
      · rw [z]; exact ⟨k, tk, rfl, rfl⟩
      · exact g e z
    have nd1 : (es1.toList.map keyT).Nodup := pk.nodup_iff.mpr (List.nodup_cons.mpr ⟨hnk, nd⟩)
    have m1 : ∀ i, i ∈ L ++ [k] ↔ i ∈ es1.toList.map keyT := fun i => by
      rw [List.mem_append, List.mem_singleton, hm i, pk.mem_iff, List.mem_cons]
      exact Or.comm
    have hsz : es1.size = es.size + 1 := by rw [← Array.length_toList, pc.length_eq, List.length_cons, Array.length_toList]
    have hLl : es1.size ≤ (L ++ [k]).length := by
      rw [hsz, List.length_append]
      show es.size + 1 ≤ L.length + 1
      omega
    have hb1 : es1.size < scanBound := by omega
    have hled : w.params.followText "set-order" = true ∨ t1.led = true := hl.imp id fun z => by rw [hl1]; exact z
    refine wpAny_bind (hgw _ ?_)
    split
    · refine wpAny_bind ?_
      rw [hashByValue_scannable 8 hsc]
      refine wpAny_pure ?_
      refine setT_tail ?_ ho hex hd g1 nd1 m1 hb1 hLl ?_ ?_ ?_ ?_
      · intro b s₁ Q' q; cases b <;> first | exact wpAny_pure q | exact wpAny_rule q
      · first | (split <;> first | exact hf1 | exact SetTable.fits_plain_off hf1) | exact hf1
      · first | (split <;> exact hr1) | exact hr1
      · first | (split <;> exact hled) | exact hled
      · intro h' sb r; dsimp only; exact wpAny_pure (hQ _ h' sb r)
    · refine wpAny_bind (wpAny_pure ?_)
      simp only [↓reduceIte]
      refine setT_tail ?_ ho hex hd g1 nd1 m1 hb1 hLl hf1 hr1 hled ?_
      · intro b s₁ Q' q; cases b <;> first | exact wpAny_pure q | exact wpAny_rule q
      · intro h' sb r; dsimp only; exact wpAny_pure (hQ _ h' sb r)
end
section
variable {prog : Program} {w : World} {A : Around} {R : Result → Shared → Prop} {I : Addr} {fp wr : List Addr} {G : Array GenState → Array GenState → Prop} {n : Nat} {P : Nat → Value → Prop} {St : Nat → Shared → Prop}
theorem loopT (W : WalksS prog w A.in1 I fp wr G n P St) (S : Addr) (hSf : S ∉ fp) (xs : List Str) (hsz : xs.length = n) (hb : n + 1 < scanBound)
    (hval : ∀ i v, P i v → ∃ t, v = .str (xs.getD i Str.empty) t) :
    ∀ (k i : Nat) (s : Shared), n - i = k → i ≤ n → St i s → SetT w s.heap S (xs.take i) →
      (∀ s', Moved (S :: wr) G s s' → SetT w s'.heap S xs → R (.ok (.ret .none)) s') →
      codeAny (model prog w) A (.builtin "set.update.loop" ⟨[.ref S, .ref I], []⟩) R s := by
  have hSw : S ∉ wr := fun h => hSf (W.sub _ h)
  have hsub : ∀ b ∈ wr, b ∈ S :: wr := fun b hb => List.mem_cons_of_mem _ hb
  intro k
  induction k with
  | zero =>
    intro i s hk hi hst hS hR
    have hin : i = n := by omega
    subst hin
    refine codeAny_builtin PyProof.Rows.F.entry_set_update_loop ?_
    rw [Around.under_plainId PyProof.Rows.F.plain_set_update_loop _]
    show wpAny _ A.in1 (pyNext (.ref I) >>= _) _ _ s
    refine wpAny_bind (W.done s _ _ hst fun s' hm => ?_)
    show wpAny _ A.in1 (ret Value.none) _ _ s'
    rw [List.take_of_length_le (by omega)] at hS
    exact wpAny_pure (hR s' (hm.mono hsub) (hS.at fun o e => hm.heap S o hSw e))
  | succ k ih =>
    intro i s hk hi hst hS hR
    have hlt : i < n := by omega
    refine codeAny_builtin PyProof.Rows.F.entry_set_update_loop ?_
    rw [Around.under_plainId PyProof.Rows.F.plain_set_update_loop _]
    show wpAny _ A.in1 (pyNext (.ref I) >>= _) _ _ s
    refine wpAny_bind (W.item i s _ _ hlt hst fun v s' hP hst' hm => ?_)
    obtain ⟨t, rfl⟩ := hval i v hP
    have hS' : SetT w s'.heap S (xs.take i) := hS.at fun o e => hm.heap S o hSw e
    show wpAny _ A.in1 (holding [Value.str (xs.getD i Str.empty) t] (setAdd S (.str (xs.getD i Str.empty) t)) >>= _) _ _ s'
    refine wpAny_bind (wpAny_holding ?_)
    unfold setAdd
    refine wpAny_holding ?_
    refine wpAny_bind ((PySem.strKind prog w).pyHash (k := xs.getD i Str.empty) (strKind_is _ _ _ _) ?_)
    refine setT_add (s := { s' with toks := s'.toks + 1 }) hS' (by rw [List.length_take]; omega) fun b h' hsb hS2 => ?_
    have hg : xs[i]? = some (xs.getD i Str.empty) := by
      rw [List.getD_eq_getElem?_getD, List.getElem?_eq_getElem (by omega)]
      rfl
    have hSi : SetT w h' S (xs.take (i + 1)) := by
      rw [List.take_add_one, hg]
      exact hS2
    refine wpAny_pure ⟨plainId_quiet PyProof.Rows.F.plain_set_update_loop _, ih (i + 1) _ (by omega) hlt (W.frame _ s' _ _ hst' (Nat.le_succ _) fun b hb o e => ?_) hSi fun s'' hm'' hS'' => ?_⟩
    · rw [hsb.2 b (fun h : b = S => hSf (by rw [← h]; exact hb))]; exact e
    · refine hR s'' (Moved.trans W.gtrans ((hm.mono hsub).then_heap (Nat.le_succ _) fun b o hb e => ?_) hm'') hS''
      rw [hsb.2 b (fun h : b = S => hb (by rw [h]; exact List.mem_cons_self))]; exact e
end
theorem setT_fresh {h : Heap} {a : Addr} {w : World} (ho : h.get? a = some { cls := .type "set", dict := none, data := .set #[] 0 (.fresh 0 0 (!w.params.followText "set-order")) }) : SetT w h a [] :=
  ⟨_, #[], 0, _, ho, ⟨rfl, rfl, rfl⟩, rfl, (fun e he => by simp at he), (by simp), (fun k => by simp), (Nat.zero_le _), (by rfl), List.Pairwise.nil, by
    show _ ∨ (!w.params.followText "set-order") = true
    cases w.params.followText "set-order"
    · exact .inr rfl
    · exact .inl rfl⟩
section
variable {prog : Program} {w : World} {A : Around} {E : Value → Shared → Prop} {s : Shared}
/-- set(t) of a tuple of texts -/
theorem call_setT {l : Addr} {items : Array Value} {xs : List Str} {Q : Value → Shared → Prop}
    (hh : A.handled = none) (hl : s.heap.IsTuple l items) (hi : PyProof.Rows.StrsAre items.toList xs) (hb : xs.length + 1 < scanBound)
    (h : ∀ (h' : Heap) (tk : Nat), SetT w h' s.heap.objs.size xs →
      (∀ b o, b < s.heap.objs.size → s.heap.get? b = some o → h'.get? b = some o) → Q (.ref s.heap.objs.size) { s with heap := h', toks := tk }) :
    wpAny (model prog w) A (call (.type "set") [.ref l]) Q E s := by
  obtain ⟨c, tl, hmro⟩ := PySem.F.called_set.mro
  have hmade := PySem.F.called_set.made
  have hsub := PySem.F.called_set.sub
  refine wpAny_call (codeAny_of_tree ?_)
  show wpAny _ _ (callAny (.type "set") _) _ _ _
  refine wpAny_pure ⟨Code.quiet_builtin _ (by decide +kernel), codeAny_builtin PySem.F.entry_type_call ?_⟩
  rw [Around.under_plain (weight_type_call_type "set" [.ref l] []) rfl]
  have h1 := PySem.F.called_set.notType
  have h2 := PySem.F.called_set.canCreate
  have hct := PySem.F.typeCall_set_1 (.ref l)
  repeat (any_goals (first | assumption | wp_step))
  refine codeAny_mono (code_set_led1 (.ref l) (E := E) (Q₁ := fun obj s₁ => obj = .ref s.heap.objs.size ∧ s₁ = { s with heap := s.heap.push { cls := .type "set", dict := none, data := .set #[] 0 (.fresh 0 0 (!w.params.followText "set-order")) } }) ⟨rfl, rfl⟩) fun r s₁ hr => ?_
  cases r with
  | error e => exact hr
  | ok fl =>
    cases fl with
    | ret obj =>
      obtain ⟨rfl, rfl⟩ := hr
      have hS : (s.heap.push { cls := .type "set", dict := none, data := .set #[] 0 (.fresh 0 0 (!w.params.followText "set-order")) }).get? s.heap.objs.size = some { cls := .type "set", dict := none, data := .set #[] 0 (.fresh 0 0 (!w.params.followText "set-order")) } := Heap.get?_push_size _ rfl
      have hT : Shared.TypeIs { s with heap := s.heap.push { cls := .type "set", dict := none, data := .set #[] 0 (.fresh 0 0 (!w.params.followText "set-order")) } } (.ref s.heap.objs.size) "set" := ⟨_, hS, rfl⟩
      have hli := PySem.F.called_set.init.lookup
      have hbi := PySem.F.called_set.init.bind (.ref s.heap.objs.size)
      repeat (any_goals (first | assumption | wp_step))
      refine codeAny_mono (codeAny_call_builtin (R := wants (fun r s₂ => r = .none ∧ ∃ h' tk, s₂ = { s with heap := h', toks := tk } ∧
          SetT w h' s.heap.objs.size xs ∧
          (∀ b o, b < s.heap.objs.size → s.heap.get? b = some o → h'.get? b = some o)) E) PySem.F.called_set.init.plain PySem.F.entry_set_init (check_set_init_1 hT ?_)) fun r₂ s₂ hr₂ => ?_
      · obtain ⟨ol, hol, hcl, nl, hdl⟩ := hl
        obtain ⟨ocls, odict, odata, oslots⟩ := ol
        simp only at hcl hdl
        subst hcl; subst hdl
        have hol' : (s.heap.push { cls := .type "set", dict := none, data := .set #[] 0 (.fresh 0 0 (!w.params.followText "set-order")) }).get? l = some { cls := .type "tuple", dict := odict, data := .seq items nl, slots := oslots } := Heap.get?_push_of_some _ hol
        have hsls := PySem.F.sub_tuple_set
        have hslf := PySem.F.sub_tuple_frozenset
        have hne : (Value.type "tuple" == Value.type "dict") = false := by decide
        have hl1 : (s.heap.push { cls := .type "set", dict := none, data := .set #[] 0 (.fresh 0 0 (!w.params.followText "set-order")) }).IsTuple l items := ⟨_, hol', rfl, nl, rfl⟩
        unfold Builtin.«set.__init__» noKeywords Builtin.Frozenset.updateFrom
        generalize hPI : pyIter = PI
        wp_walk
        subst hPI
        refine wpAny_pyIter_tuple hl1 ?_
        refine wpAny_bind (wpAny_runValue ?_)
        have hlS : l < s.heap.objs.size := Heap.lt_size hol
        have hh3 : A.in1.in1.in1.handled = none := by simp [hh]
        have hneI : l ≠ (s.heap.push { cls := .type "set", dict := none, data := .set #[] 0 (.fresh 0 0 (!w.params.followText "set-order")) }).objs.size := by
          rw [Heap.size_push]; exact Nat.ne_of_lt (Nat.lt_succ_of_lt hlS)
        have hSf : s.heap.objs.size ∉ [(s.heap.push { cls := .type "set", dict := none, data := .set #[] 0 (.fresh 0 0 (!w.params.followText "set-order")) }).objs.size, l] := by
          rw [Heap.size_push]; simp only [List.mem_cons, List.mem_singleton, List.not_mem_nil, or_false, not_or]
          exact ⟨Nat.ne_of_lt (Nat.lt_succ_self _), Nat.ne_of_gt hlS⟩
        have hsz : xs.length = items.size := by rw [← StrsAre.len_eq hi, Array.length_toList]
        have hval : ∀ (i : Nat) (v : Value), items[i]? = some v → ∃ t, v = .str (xs.getD i Str.empty) t := fun i v hv => SS.strs_at hi i v (by rw [Array.getElem?_toList]; exact hv)
        refine loopT ((Walks.tuple hh3 _ l hneI items).toS) s.heap.objs.size
          hSf xs hsz (by rw [← hsz]; exact hb) hval (items.size - 0) 0 _ (by omega) (Nat.zero_le _)
          ⟨⟨_, Heap.get?_push_size _ rfl, rfl, rfl⟩, (hl1.push _)⟩ ?hS0 ?hR
        case hS0 =>
          have hget : ((s.heap.push { cls := .type "set", dict := none, data := .set #[] 0 (.fresh 0 0 (!w.params.followText "set-order")) }).push { cls := .type "tuple_iterator", data := .fields #[.ref l, .int 0 0] }).get? s.heap.objs.size
              = some { cls := .type "set", dict := none, data := .set #[] 0 (.fresh 0 0 (!w.params.followText "set-order")) } := Heap.get?_push_of_some _ hS
          exact setT_fresh hget
        case hR =>
          intro s' hm hS'
          obtain ⟨h', g', d', tk', os'⟩ := s'
          have eg : g' = s.gens := hm.gens
          have ed : d' = s.drawn := hm.drawn
          have eo : os' = s.os := hm.os
          subst eg; subst ed; subst eo
          show wpAny _ _ _ _ _ _
          refine wpAny_pure ?_
          show wpAny _ _ (ret Value.none) _ _ _
          refine wpAny_pure ⟨rfl, h', tk', rfl, hS', fun b o hb e => ?_⟩
          have hb1 : b ≠ s.heap.objs.size := Nat.ne_of_lt hb
          have hb2 : b ≠ (s.heap.push { cls := .type "set", dict := none, data := .set #[] 0 (.fresh 0 0 (!w.params.followText "set-order")) }).objs.size := by
            rw [Heap.size_push]; exact Nat.ne_of_lt (Nat.lt_succ_of_lt hb)
          exact hm.heap b o (by simp only [List.mem_cons, List.mem_singleton, List.not_mem_nil, or_false, not_or]; exact ⟨hb1, hb2⟩) (Heap.get?_push_of_some _ (Heap.get?_push_of_some _ e))
      · cases r₂ with
        | error e => exact hr₂
        | ok fl₂ =>
          cases fl₂ with
          | ret r =>
            obtain ⟨rfl, h', tk, rfl, hS', hk'⟩ := hr₂
            repeat (any_goals (first | assumption | wp_step))
            exact h _ _ hS' hk'
          | _ => exact hr₂.elim
    | _ => exact hr.elim
end
end Ab

/-! AbY: sorted(s) of a set of texts; as rules. -/
namespace Ab
open PySem PySem.W PySem.Spec PyProof.Rows L2 LamX
open Ab.Rp (rp)
open Ab.Dt (toD)
section
variable {prog : Program} {w : World} {A : Around} {E : Value → Shared → Prop} {s : Shared}
/-- sorted(s) of a set of texts -/
theorem sorted_setT {a : Addr} {L : List Str} {Q : Value → Shared → Prop} (R : SetT w s.heap a L) (hh : A.handled = none) (hL : L.length < scanBound) (hu : A.units + 2 < cLine)
    (hQ : ∀ s' p (out : Array Value) (c : Nat) (ns : List Str), (∀ b o, s.heap.get? b = some o → s'.heap.get? b = some o) → s'.gens = s.gens → s'.os = s.os → s.heap.objs.size ≤ p →
      s'.heap.get? p = some (seqObj "list" out c) → PySem.W.EachIs (fun v x => ∃ t, v = .str x t) out.toList (srt ns) → ns.Nodup → (∀ k, k ∈ ns ↔ k ∈ L) → ns.length ≤ L.length → Q (.ref p) s') :
    wpAny (model prog w) A (call (.builtin "sorted") [.ref a]) Q E s := by
  obtain ⟨o, es, ep, t, ho, hex, hd, g, nd, hm, hn, hf, hr, hl⟩ := R
  refine Calls.call_function_entry kind_sorted plain_sorted entry_sorted (args_sorted1 _) ?_
  unfold Builtin.«sorted»
  refine wpAny_bind (m := checkCount "sorted" 1 1 _) (wpAny_pure ?_)
  refine wpAny_bind (collect_set (A := A.in1) hh ⟨o, ho, hex.1, hd⟩ hf (by omega) hr hl fun s1 vs k1 hz g1 o1 pm => ?_)
  have hvl : vs.length = es.size := by rw [pm.length_eq, List.length_map, Array.length_toList]
  have hsl : vs.length ≤ sizeLine := by
    rw [hvl]
    have : es.size < 4096 := by unfold scanBound at hL; omega
    exact Nat.le_trans (Nat.le_of_lt this) (by decide)
  have hI : ∀ v ∈ vs, ∃ x t, v = Value.str x t := fun v hv => by
    obtain ⟨e, he, q⟩ := List.mem_map.mp (pm.mem_iff.mp hv)
    obtain ⟨k, tk, h1, _⟩ := g e he
    exact ⟨k, tk, by rw [← q]; exact h1⟩
  have each : ∀ us : List Value, (∀ v ∈ us, ∃ x t, v = Value.str x t) → PySem.W.EachIs (fun v x => ∃ t, v = Value.str x t) us (us.map fun v => keyT (0, v)) := fun us => by
    induction us with
    | nil => intro _; exact .nil
    | cons v us ih =>
      intro hv
      obtain ⟨x, t, e⟩ := hv v List.mem_cons_self
      subst e
      exact .cons ⟨t, rfl⟩ (ih fun u hu => hv u (List.mem_cons_of_mem _ hu))
  have pk : (vs.map fun v => keyT (0, v)).Perm (es.toList.map keyT) := by
    have q := pm.map fun v => keyT (0, v)
    rw [List.map_map] at q
    exact q
  refine wpAny_bind (wpAny_newList ?_ hsl)
  have hoL : (s1.heap.push (seqObj "list" vs.toArray 0)).get? s1.heap.objs.size = some (seqObj "list" vs.toArray 0) := Heap.get?_push_size _ rfl
  have eE := each vs hI
  have er : PySem.W.EachIs (fun v (b : Str) => ∃ as, Reads (sortingHeap (s1.heap.push (seqObj "list" vs.toArray 0)) s1.heap.objs.size vs) v (Dt.toD b) as) vs (vs.map fun v => keyT (0, v)) := eE.mono fun v x ⟨t, e⟩ => by
    subst e
    exact ⟨_, .str x t⟩
  have so := SortsAt.data (prog := prog) (w := w) (A := A.in1.in1) (s := { s1 with heap := sortingHeap (s1.heap.push (seqObj "list" vs.toArray 0)) s1.heap.objs.size vs }) (PySem.W.each_map (R := fun v d => ∃ as, Reads (sortingHeap (s1.heap.push (seqObj "list" vs.toArray 0)) s1.heap.objs.size vs) v d as) Dt.toD er) (PySem.W.AllAlike.of fun a b => rfl) (PySem.W.Sortable.others fun b => ⟨(fun z => by cases z), (fun _ z => by cases z)⟩) (PySem.W.bound_map fun b hb => by
    show A.units + 2 + 0 < cLine
    omega)
  refine wpAny_bind (wpAny_holding (wpAny_call_entry slot_list_sort ⟨_, hoL, rfl⟩ entry_list_sort (list_sort_vals (s := { s1 with heap := s1.heap.push (seqObj "list" vs.toArray 0) }) hoL so hsl ⟨_, rfl, ?_⟩) (args_list_sort _)))
  have hout := PySem.W.sortVals_data (R := fun v (x : Str) => ∃ t, v = Value.str x t) false eE er (PySem.W.AllAlike.of fun a b => rfl)
  generalize hov : (PySem.W.sortVals (PySem.W.dataKind (sortingHeap (s1.heap.push (seqObj "list" vs.toArray 0)) s1.heap.objs.size vs) ((vs.map fun v => keyT (0, v)).map Dt.toD)) false vs vs) = out at hout ⊢
  obtain ⟨c, hc⟩ := sortedHeap_at (vs := vs) (out := out.toArray) hoL
  refine wpAny_pure ⟨_, rfl, hQ _ s1.heap.objs.size out.toArray c (vs.map fun v => keyT (0, v)) (fun b u e => ?_) g1 o1 hz hc ?_ (pk.nodup_iff.mpr nd) (fun k => by rw [pk.mem_iff, ← hm k]) ?_⟩
  · have q := k1 b u e
    have hlt := Heap.lt_size q
    show (sortedHeap (s1.heap.push (seqObj "list" vs.toArray 0)) s1.heap.objs.size vs out.toArray).get? b = some u
    rw [sortedHeap_old (Nat.ne_of_lt hlt) (by rw [size_push']; exact Nat.lt_succ_of_lt hlt)]
    exact Heap.get?_push_of_some _ q
  · rw [List.toList_toArray]
    exact hout
  · rw [List.length_map, hvl]
    exact hn
end
/-- as a heap object -/
def SetTO (w : World) (a : Addr) (L : List Str) : HO := .ext fun h => SetT w h a L
theorem setTO_new {P : Program} {w : World} {H : Hp} {h : Heap} {a : Addr} {L : List Str} (R : SetT w h a L) : ObjOk P w H h a (SetTO w a L) := by
  have ⟨o, _, _, _, ho, _⟩ := R
  exact ⟨R, ⟨o, ho⟩, fun h1 h2 p k => SetT.at p k⟩
theorem vals_of_each {out : List Value} {ns : List Str} (e : PySem.W.EachIs (fun v x => ∃ t, v = Value.str x t) out ns) : Vals (ns.map V.str) out := by
  induction e with
  | nil => exact .nil
  | cons a _ ih => exact .cons a ih
theorem strsAre_vals : ∀ {xs : List Str} {us : List Value}, Vals (xs.map V.str) us → StrsAre us xs
  | [], _, .nil => .nil
  | x :: xs, _, .cons r t => by
    obtain ⟨k, rfl⟩ := r
    exact .cons x k (strsAre_vals t)
section
variable {X : Cx}
def rSetT (K : PySem.W.Frag) (w : World) : List V → Hp → VK → Prop := fun xs H Q => ∃ (l : Addr) (ns : List Str), xs = [V.ref l] ∧ SqT K H l (ns.map V.str) ∧ ns.length + 1 < scanBound ∧ ∀ a, H a = none → Q (.ref a) (upd H a (SetTO w a ns))
theorem cr_setT (hc : X.calm = true) : CallR X (.type "set") (rSetT X.K X.w) := by
  intro pins s σ H xs us Q I r h
  obtain ⟨l, ns, rfl, hl, hb, q⟩ := h
  rw [Vals.ref1 r]
  obtain ⟨its, rv, pl, hz⟩ := I.tuple hl
  have hn : H s.heap.objs.size = none := I.hok.fresh (Nat.le_refl _)
  refine call_setT (I.ok.hd hc) pl (by simpa using strsAre_vals rv) hb fun h' tk R k => ?_
  exact ⟨.ref s.heap.objs.size, upd H s.heap.objs.size (SetTO X.w s.heap.objs.size ns), I.laid (t' := tk) (fun b o e => k b o (Heap.lt_size e) e) (Nat.le_refl _) (setTO_new R), rfl, q _ hn⟩
def rSortT (w : World) : List V → Hp → VK → Prop := fun vs H Q => ∃ (a : Addr) (L : List Str), vs = [V.ref a] ∧ H a = some (SetTO w a L) ∧ L.length < scanBound ∧
  ∀ (ns : List Str) (p : Addr), ns.Nodup → (∀ k, k ∈ ns ↔ k ∈ L) → H p = none → Q (.ref p) (upd H p (.lst ((srt ns).map V.str)))
theorem cr_sortT (hc : X.calm = true) (hu : X.A.units + 2 < cLine) : CallR X (.builtin "sorted") (rSortT X.w) := by
  intro pins s σ H vs us Q I r h
  obtain ⟨a, L, rfl, ha, hb, q⟩ := h
  have R : SetT X.w s.heap a L := (I.hok a _ ha).1
  rw [Vals.ref1 r]
  refine sorted_setT R (I.ok.hd hc) hb hu fun s' p out c ns k g o hp hg hout nd hm hl => ?_
  have hlen : ((srt ns).map V.str).length ≤ sizeLine := by
    rw [List.length_map, srt_len]
    have : L.length < 4096 := hb
    exact Nat.le_trans (show ns.length ≤ 4096 by omega) (by decide)
  have hn : H p = none := I.hok.fresh hp
  have J : Inv X pins σ (upd H p (.lst ((srt ns).map V.str))) { s with heap := s'.heap, gens := s'.gens, drawn := s'.drawn, toks := s'.toks } :=
    I.call (ch := []) (Un.laid k hp hn) (I.hok.laid k hp ⟨hlen, out.toList, c, vals_of_each hout, hg⟩) (by rw [g]; exact I.bare) (fun _ z => nomatch z)
  have e : s' = { s with heap := s'.heap, gens := s'.gens, drawn := s'.drawn, toks := s'.toks } := by
    cases s'
    cases s
    cases o
    rfl
  rw [e]
  exact ⟨.ref p, _, J, rfl, q ns p nd hm hn⟩
end
theorem strs_dat {K : PySem.W.Frag} {H : Hp} : ∀ {vs : List V} {xs : List Str}, Rps K H vs xs → vs = xs.map V.str
  | _, _, .nil => rfl
  | _, _, .cons h t => by
    rw [strs_dat t, show _ = _ from h]
    rfl
theorem strs_rps {K : PySem.W.Frag} {H : Hp} : ∀ xs : List Str, Rps K H (xs.map V.str) xs
  | [] => .nil
  | x :: xs => .cons rfl (strs_rps xs)
section
variable {X : Cx} {c : Ctx} {ss : List AV} {e : Expr} {p0 p1 p2 pos : Pos}
/-- sorted(set(t)), t a tuple of texts -/
theorem x_sortedSetN {P : List Str → Prop} (hc : X.calm = true) (hr : Room 3 X.A) (hm : X.mg "sorted" = none) (hm2 : X.mg "set" = none) (he : XA X c ss [e] [.ex P]) (hl : ∀ xs, P xs → xs.length + 1 < 4096)
    (hg : Gl X "sorted" := by rfl) (hg2 : Gl X "set" := by rfl)
    (hst : starEach [e] X.env = (false, eval e X.env) :: starEach [] X.env := by rfl) (hpl : (backTo p2 (starEach [] X.env)).any (·.1) = false := by rfl)
    (hst2 : starEach [.Call (.Name "set" p1) [e] [] p2] X.env = (false, eval (.Call (.Name "set" p1) [e] [] p2) X.env) :: starEach [] X.env := by rfl) (hpl2 : (backTo pos (starEach [] X.env)).any (·.1) = false := by rfl) :
    XN X c ss (.Call (.Name "sorted" p0) [.Call (.Name "set" p1) [e] [] p2] [] pos) (fun zs => ∃ xs ns, P xs ∧ ns.Nodup ∧ (∀ k, k ∈ ns ↔ k ∈ xs) ∧ zs = srt ns) :=
  (pe_callB (cr_sortT hc (by have := hr.un; omega)) hg hm PyProof.Rows.boot_sorted (pa_cons (pe_callTy (cr_setT hc) hg2 hm2 (by decide +kernel) he (by decide) (by decide) hst hpl) pa_nil hst2) (by decide) (by decide) hst2 hpl2).wk fun σ H Q q => ⟨q.1, fun us H1 a1 g1 ok => by
    obtain ⟨v, rfl, zs, ⟨l, vs, e1, h1, r1⟩, pz⟩ := ok.one
    subst e1
    rw [strs_dat r1] at h1
    have := hl zs pz
    refine ⟨l, zs, rfl, h1, this, fun a ha => ⟨a, zs, rfl, upd_same, by unfold scanBound; omega, fun ns p nd hm hp => ?_⟩⟩
    have n1 : Nf H1 a := Nf.of ha
    have a2 := a1.new (o := SetTO X.w a zs) ha
    have g2 := g1.trans (Gr.new (o := SetTO X.w a zs) ha)
    exact q.2 _ _ (srt ns) (a2.new hp) (g2.trans (Gr.new hp)) ⟨zs, ns, pz, nd, hm, rfl⟩ ⟨_, _, rfl, g2.fresh (Nf.of hp), upd_same, strs_rps _⟩⟩
end
end Ab

/-! AbZ: dict([(text, fraction) ..]), read. -/
namespace Ab
open PySem L2 LamX
open Ab.Rp (rp)
open Ab.Dt (toD)
inductive EntS (K : PySem.W.Frag) (H : Hp) : List (Key × V) → List (Str × Rat) → Prop
  | nil : EntS K H [] []
  | cons {v : V} {ws : List (Key × V)} {e : Str} {x : Rat} {kvs : List (Str × Rat)} : rp K H v x → EntS K H ws kvs → EntS K H ((.inr e, v) :: ws) ((e, x) :: kvs)
theorem EntS.mono {K : PySem.W.Frag} {H H' : Hp} (t : Tu H H') {ws : List (Key × V)} {kvs : List (Str × Rat)} (h : EntS K H ws kvs) : EntS K H' ws kvs := by
  induction h with
  | nil => exact .nil
  | cons a _ ih => exact .cons (Rp.mono t a) ih
theorem EntS.keys {K : PySem.W.Frag} {H : Hp} {ws : List (Key × V)} {kvs : List (Str × Rat)} (h : EntS K H ws kvs) : ws.map Prod.fst = (kvs.map Prod.fst).map Sum.inr := by
  induction h with
  | nil => rfl
  | cons _ _ ih => rw [List.map_cons, List.map_cons, List.map_cons, ih]
def lookS (kvs : List (Str × Rat)) (e : Str) : Option Rat := (kvs.find? fun p => decide (p.1 = e)).map Prod.snd
theorem EntS.val {K : PySem.W.Frag} {H : Hp} {ws : List (Key × V)} {kvs : List (Str × Rat)} (h : EntS K H ws kvs) {e : Str} {x : Rat} (hl : lookS kvs e = some x) : ∃ v, valV ws (.inr e) = some v ∧ rp K H v x := by
  induction h with
  | nil => cases hl
  | @cons v' ws e' x' kvs a _ ih =>
    by_cases z : e' = e
    · subst z
      have hl : some x' = some x := by simpa [lookS] using hl
      cases hl
      exact ⟨v', valV_pos rfl, a⟩
    · have hl : lookS kvs e = some x := by simpa [lookS, List.find?_cons, z] using hl
      obtain ⟨v, h1, h2⟩ := ih hl
      exact ⟨v, by rw [valV_neg (fun y => z (Sum.inr.inj y))]; exact h1, h2⟩
theorem putK_new {kvs : List (Key × V)} {k : Key} {v : V} (h : k ∉ kvs.map Prod.fst) : putK kvs k v = kvs ++ [(k, v)] := by
  unfold putK
  rw [if_neg]
  intro z
  obtain ⟨kv, h1, h2⟩ := List.any_eq_true.mp z
  exact h (List.mem_map.mpr ⟨kv, h1, of_decide_eq_true h2⟩)
theorem mergeK_new : ∀ (more kvs : List (Key × V)), ((kvs ++ more).map Prod.fst).Nodup → mergeK kvs more = kvs ++ more
  | [], kvs, _ => by rw [List.append_nil]; rfl
  | m :: more, kvs, h => by
    have h1 : m.1 ∉ kvs.map Prod.fst := fun z => by
      rw [List.map_append, List.nodup_append] at h
      exact h.2.2 _ z _ (List.mem_map.mpr ⟨m, List.mem_cons_self, rfl⟩) rfl
    have e : mergeK kvs (m :: more) = mergeK (putK kvs m.1 m.2) more := rfl
    rw [e, putK_new h1, mergeK_new more (kvs ++ [(m.1, m.2)]) (by rw [List.append_assoc]; exact h), List.append_assoc]
    rfl
def DsC (kvs : List (Str × Rat)) : Cel where
  P := fun K H o => ∃ ws, o = .dK ws ∧ EntS K H ws kvs
  mono := fun t ⟨ws, e, h⟩ => ⟨ws, e, h.mono t⟩
  nl := fun ⟨ws, e, h⟩ => by
    subst e
    exact ⟨fun xs z => (by cases z), fun ps z => (by cases z), fun z => z⟩
structure DkS where
  kvs : List (Str × Rat)
instance : Rp DkS := ⟨fun K H v x => ∃ d od ws, v = .ref d ∧ H d = some (.frz od (.dK ws)) ∧ EntS K H ws x.kvs, fun t ⟨d, od, ws, e, h, r⟩ => ⟨d, od, ws, e, t.2.2 _ _ _ h, r.mono t⟩⟩
theorem pairs_rps {K : PySem.W.Frag} {H : Hp} : ∀ {us : List V} {xs : List (Str × Rat)}, Rps K H us xs → ∃ (ps : List Addr) (ws : List (Key × V)), us = ps.map V.ref ∧ Paired (fun p kv => SqT K H p [kV kv.1, kv.2]) ps ws ∧ EntS K H ws xs
  | _, _, .nil => ⟨[], [], rfl, .nil, .nil⟩
  | _, _, .cons ⟨a, u, w, e, h, h1, h2⟩ t => by
    obtain ⟨ps, ws, e1, e2, e3⟩ := pairs_rps t
    refine ⟨a :: ps, (.inr _, w) :: ws, by rw [e, e1]; rfl, .cons ?_ e2, .cons h2 e3⟩
    rw [show u = _ from h1] at h
    exact h
section
variable {X : Cx} {c : Ctx} {ss : List AV} {D : AE} {a b e : Expr} {body rest : List Stmt} {pos p0 : Pos} {kvs : List (Str × Rat)} {k : Nat}
/-- dict([(text, fraction) ..]) -/
theorem x_dictS (hc : X.calm = true) (hm : X.mg "dict" = none) (he : XE X c ss e (.lst kvs)) (hn : (kvs.map Prod.fst).Nodup) (hg : Gl X "dict" := by rfl) (hst : starEach [e] X.env = (false, eval e X.env) :: starEach [] X.env := by rfl) (hpl : (backTo pos (starEach [] X.env)).any (·.1) = false := by rfl) :
    XE X c ss (.Call (.Name "dict" p0) [e] [] pos) (.cel (DsC kvs)) :=
  (pe_callTy (call_dictP hc) hg hm (by decide +kernel) (pa_cons he pa_nil hst) (by decide) (by decide) hst hpl).wk fun σ H Q q => ⟨q.1, fun v H1 a1 g1 ⟨p, us, e1, nS, h1, r1⟩ => by
    obtain ⟨ps, ws, e2, e3, e4⟩ := pairs_rps r1
    subst e1 e2
    refine ⟨p, ps, ws, rfl, SqL.of h1, e3, fun d hd => ?_⟩
    rw [mergeK_new ws [] (by
      rw [List.nil_append, e4.keys]
      exact List.Pairwise.map _ (fun a b h z => h (Sum.inr.inj z)) hn)]
    have t : Tu H1 (upd H1 d (.dK ([] ++ ws))) := (Gr.new (w := c.w) hd).tu
    exact q.2 _ _ (a1.new hd) (g1.trans (Gr.new hd)) ⟨d, _, rfl, g1.fresh (Nf.of hd), upd_same, ws, rfl, e4.mono t⟩⟩
/-- from here on it is read only -/
theorem s_freezeS (i : Nat) (h : XSs X c (ss.set i (.dat (DkS.mk kvs))) body D) (e0 : ss[i]? = some (.cel (DsC kvs)) := by rfl) (hone : ((ss.set i .un).all fun s => !s.celB) = true := by rfl) : XSs X c ss body D := ⟨fun pins s σ H De I q => by
  obtain ⟨p, u, e1, e2, ⟨ws, rfl, r⟩, n0, nS⟩ := q.1.celAt e0
  obtain ⟨od, I2⟩ := I.lock e2 (mu := trivial)
  have t : Tu H (upd H p (.frz od (.dK ws))) := Tu.putO e2 (fun xs z => by cases z) (fun q u z => by cases z)
  exact h.run pins s σ _ De I2 (q.at_ (q.1.putAt e0 hone e1 e2 ⟨ws, rfl, r⟩ n0 nS (fun z => z) ⟨.ref p, DkS.mk kvs, e1, ⟨p, od, ws, rfl, upd_same, r.mono t⟩, rfl⟩))⟩
/-- strong[name] -/
theorem x_dgetS {q : Str} {z : Rat} (hr : Room k X.A) (hl : lookS kvs q = some z) (ha : XE X c ss a (.dat (DkS.mk kvs))) (hb : XE X c ss b (.dat q)) (hs : NoSl b := by exact fun _ _ => rfl) : XE X c ss (.Subscript a b pos) (.dat z) :=
  (pe_dget (Nat.lt_of_le_of_lt (by omega) hr.units) ha hb hs).wk fun σ H Q w => ⟨w.1, fun v H1 a1 g1 ⟨y, ⟨d, od, ws, e1, h1, r1⟩, ey⟩ => ⟨a1, fun u H2 a2 g2 ⟨q', hq, eq⟩ => by
    have eq : q' = q := eq
    have ey : y = DkS.mk kvs := ey
    subst eq ey
    have hq : u = V.str q' := hq
    have h2 := g2.frz _ _ _ h1
    obtain ⟨v2, k1, k2⟩ := (r1.mono g2.tu).val hl
    exact ⟨d, v2, e1, .inl ⟨ws, .inr q', .inr ⟨od, h2⟩, hq, k1.symm⟩, (w.go a2 (g1.trans g2)).2 v2 H2 a2 (Gr.refl _ _) ⟨z, k2, rfl⟩⟩⟩⟩
end
section
variable {X : Cx} {c : Ctx} {ss : List AV} {D : AE} {a b e tg : Expr} {rest : List Stmt} {pos p1 p2 p3 : Pos} {α : Type} [Rp α] {xs : List α} {k : Nat}
/-- xs[::-1] -/
theorem x_revL (ha : XE X c ss e (.lst xs)) : XE X c ss (.Subscript e (.Slice none none (some (.UnaryOp .USub (.Constant (.int 1) k p1) p2)) p3) pos) (.own xs.reverse) :=
  (pe_revL ha).wk fun σ H Q q => ⟨q.1, fun v H1 a1 g1 ⟨p, us, e1, nS, h1, r1⟩ => ⟨p, us, e1, SqL.of h1, fun l hl => (q.go a1 g1).giveL hl r1.reverse⟩⟩
/-- t + u, u drawn -/
theorem x_catTE {P : List α → Prop} (hl : ∀ ys, P ys → xs.length + ys.length ≤ 100000) (ha : XE X c ss a (.dat xs)) (hb : XE X c ss b (.ex P)) : XE X c ss (.BinOp a .Add b pos) (.ex fun zs => ∃ ys, P ys ∧ zs = xs ++ ys) := by
  refine x_op op_catA (ra := .dat xs) (rb := .ex P) (fun _ _ _ H2 _ _ _ _ g ⟨zs, ⟨q, vs, e, h, r⟩, z1⟩ ⟨ws, ⟨q2, us, e2, h2, r2⟩, pw⟩ t => ?_) ha hb
  have z1 : zs = xs := z1
  subst z1
  refine ⟨q, q2, vs, us, e, e2, h, h2, by rw [r.len, r2.len]; exact Nat.le_trans (hl ws pw) (by decide), fun z => ?_, fun _ z => ?_, fun _ _ p hp => ?_⟩
  · subst z
    cases r
    exact t.give ⟨ws, ⟨q2, us, rfl, h2, r2⟩, ws, pw, rfl⟩
  · subst z
    cases r2
    exact t.give ⟨zs, ⟨q, vs, rfl, h, r⟩, [], pw, by rw [List.append_nil]⟩
  · have tu : Tu H2 (upd H2 p (.tup (vs ++ us))) := (Gr.new (w := c.w) hp).tu
    exact t.2 _ _ (t.1.new hp) (Gr.new hp) ⟨zs ++ ws, ⟨p, _, rfl, .inl (.inl upd_same), (r.append r2).mono tu⟩, ws, pw, rfl⟩
/-- a told iterable as a drawn one -/
theorem xin_of (h : XI X c ss tg e xs) : XIN X c ss tg e (· = xs) := h.wk fun σ H R q => ⟨q.1, fun J H1 pr a1 g1 w => q.2 xs J H1 pr rfl a1 g1 w⟩
/-- xs.append(e), e drawn -/
theorem q_appendE {P : α → Prop} (i : Nat) {y : Str} {ap p1 p2 : Pos} (he : XA X c ss [e] [.ex P]) (h : ∀ x, P x → XSs X c (ss.set i (.own (xs ++ [x]))) rest D) (hz : xs.length < 100000) (hx : ss[i]? = some (.own xs) := by rfl)
    (hN : X.N[i]? = some y := by rfl) (hv : Vis X.env.scope y := by first | exact Or.inl rfl | exact Or.inr (Or.inl rfl) | exact Or.inr (Or.inr rfl)) (hd : (y == ("__debug__" : Str)) = false := by decide) (hcd : (y == ("__classdict__" : Str)) = false := by decide)
    (hs : swapsWith (.Call (.Attribute (.Name y p1) "append" ap) [e] [] p2) none pos.line X.env = pure false := by rfl)
    (hbase : attributeBase (.Name y p1) "append" X.env (eval (.Name y p1) X.env) = eval (.Name y p1) X.env := by rfl)
    (hfew : ((backTo p2 (starEach [e] X.env)).all (fun x => !x.1) && (backToKw p2 (keywordEach [] X.env)).all (fun x => x.1.isSome)
      && decide ([e].length + ([] : List Keyword).length + (if ([] : List Keyword).isEmpty then 0 else 1) < 30)) = true := by rfl)
    (hline : (ap.endLine == p2.line) = true := by rfl) (hst : starEach [e] X.env = (false, eval e X.env) :: starEach [] X.env := by rfl) : XSs X c ss (.Expr (.Call (.Attribute (.Name y p1) "append" ap) [e] [] p2) pos :: rest) D :=
  q_seq (N := fun ss' => ∃ x, P x ∧ ss' = ss.set i (.own (xs ++ [x]))) ((ps_expr (pe_bm PySem.F.plainAttrs_list PySem.F.slot_list_append PySem.F.type_list_append mt_append (pe_var hN hv hd hcd) he hbase hfew hline hst) hs).wk fun De σ H q => by
    obtain ⟨p, vs, e1, n, e2, r, h0⟩ := q.1.varL hx
    refine ⟨.ref p, e1, .inl ⟨rfl, vs, SqL.of e2⟩, q.1, fun us H1 a1 g1 ok => ?_⟩
    obtain ⟨v, rfl, z, hz2, hzx⟩ := ok.one
    obtain ⟨p', vs', f1, f2, fr, put⟩ := a1.put (ys := xs ++ [z]) hx
    have ep : p' = p := V.ref.inj (Option.some.inj (Option.some.inj (f1.symm.trans e1)))
    subst ep
    refine ⟨p', vs', v, rfl, rfl, f2, by rw [fr.len]; exact Nat.lt_of_lt_of_le hz (by decide), ?_⟩
    exact q.2.1 _ _ _ ⟨z, hzx, rfl⟩ (put _ (fr.append (.one hz2))).1) fun ss' ⟨x, px, z⟩ => by
    rw [z]
    exact h x px
end
end Ab

/-! M19: one by one; the greatest of some loads. -/
namespace SM
open Ab L2
open Ab.Rp (rp)
open Ab.Dt (toD)
open PySem (Str)
open Ab.Rp (rp)
open Ab.Dt (toD)
/-- behind the told lot, a load that is not less -/
theorem broken_up {rs : List Rope} (ho : ∀ r ∈ rs, Ok r) (hd : (rs.map Rope.name).Nodup) {m l : Rat} (h0 : 0 ≤ m) (hl : m ≤ l) : brokenBy rs (brokenBy rs [] m) l = brokenBy rs [] l := by
  have hs := broken_stab rs [] l
  have h1 := broken_in ho (B := []) h0 hl hs (fun n hn => absurd hn List.not_mem_nil)
  have h2 := broken_in ho (B := brokenBy rs [] m) (by grind) Rat.le_refl hs h1
  have hn := broken_nodup (l := l) hd (broken_nodup (l := m) hd List.nodup_nil)
  rw [← broken_eq ho hd (by grind) List.nodup_nil hn (broken_stab rs (brokenBy rs [] m) l) (fun n hn => absurd hn List.not_mem_nil) h2, broken_srt]
theorem broken_down {rs : List Rope} (ho : ∀ r ∈ rs, Ok r) {m l : Rat} (h0 : 0 ≤ l) (hl : l ≤ m) : brokenBy rs (brokenBy rs [] m) l = brokenBy rs [] m := by
  have hs := stab_less ho h0 hl (broken_stab rs [] m)
  have hw := stab_wave hs
  show srt (fin rs (brokenBy rs [] m) l).2 = _
  rw [fin_end hw]
  exact broken_srt rs [] m
def grTo (z0 : Rat) (ls : List Rat) (i : Nat) : Rat := (ls.take i).foldl (fun m x => if m < x then x else m) z0
theorem grTo_succ {z0 : Rat} {ls : List Rat} {i : Nat} {x : Rat} (h : ls[i]? = some x) : grTo z0 ls (i + 1) = if grTo z0 ls i < x then x else grTo z0 ls i := by
  unfold grTo
  rw [List.take_add_one, h, List.foldl_append]
  rfl
theorem grTo_spec {z0 : Rat} {ls : List Rat} : ∀ i, i ≤ ls.length → (grTo z0 ls i = z0 ∨ grTo z0 ls i ∈ ls) ∧ z0 ≤ grTo z0 ls i ∧ ∀ x ∈ ls.take i, x ≤ grTo z0 ls i
  | 0, _ => by
    unfold grTo
    rw [List.take_zero]
    exact ⟨.inl rfl, Rat.le_refl, fun x hx => absurd hx List.not_mem_nil⟩
  | i + 1, hi => by
    obtain ⟨a, b, c⟩ := grTo_spec (z0 := z0) (ls := ls) i (by omega)
    have hx := List.getElem?_eq_getElem (show i < ls.length by omega)
    rw [grTo_succ hx, List.take_add_one, hx]
    by_cases h : grTo z0 ls i < ls[i]
    · rw [if_pos h]
      refine ⟨.inr (List.getElem_mem _), by grind, fun x hx => ?_⟩
      rcases List.mem_append.mp hx with hx | hx
      · have := c x hx; grind
      · rw [show x = ls[i] from List.mem_singleton.mp hx]; exact Rat.le_refl
    · rw [if_neg h]
      refine ⟨a, b, fun x hx => ?_⟩
      rcases List.mem_append.mp hx with hx | hx
      · exact c x hx
      · rw [show x = ls[i] from List.mem_singleton.mp hx]; grind
def gr (ls : List Rat) : Rat := grTo (ls.headD 0) ls ls.length
theorem gr_spec {ls : List Rat} (h : ls ≠ []) : gr ls ∈ ls ∧ ∀ x ∈ ls, x ≤ gr ls := by
  obtain ⟨a, b, c⟩ := grTo_spec (z0 := ls.headD 0) (ls := ls) ls.length (Nat.le_refl _)
  rw [List.take_length] at c
  refine ⟨?_, c⟩
  rcases a with a | a
  · unfold gr
    rw [a]
    cases ls with
    | nil => exact absurd rfl h
    | cons x t => exact List.mem_cons_self
  · exact a
theorem gr_of {ls : List Rat} {m : Rat} (h : m ∈ ls) (hm : ∀ x ∈ ls, x ≤ m) : gr ls = m := by
  obtain ⟨a, b⟩ := gr_spec (ls := ls) (fun z => by rw [z] at h; cases h)
  exact Rat.le_antisymm (hm _ a) (b _ h)
/-- the lot behind a row of loads -/
def lotTo (rs : List Rope) (ls : List Rat) (i : Nat) : List Str := (ls.take i).foldl (fun B l => brokenBy rs B l) []
theorem lotTo_succ {rs : List Rope} {ls : List Rat} {i : Nat} {l : Rat} (h : ls[i]? = some l) : lotTo rs ls (i + 1) = brokenBy rs (lotTo rs ls i) l := by
  unfold lotTo
  rw [List.take_add_one, h, List.foldl_append]
  rfl
theorem lotTo_spec {rs : List Rope} (ho : ∀ r ∈ rs, Ok r) (hd : (rs.map Rope.name).Nodup) {ls : List Rat} (h0 : ∀ l ∈ ls, 0 ≤ l) : ∀ i, i + 1 ≤ ls.length → ∃ m ∈ ls.take (i + 1), (∀ x ∈ ls.take (i + 1), x ≤ m) ∧ lotTo rs ls (i + 1) = brokenBy rs [] m
  | 0, hi => by
    have hx := List.getElem?_eq_getElem (show 0 < ls.length by omega)
    rw [lotTo_succ hx, List.take_add_one, hx]
    exact ⟨ls[0], List.mem_append_right _ (List.mem_singleton.mpr rfl), fun x hx => by
      rw [show x = ls[0] from List.mem_singleton.mp hx]
      exact Rat.le_refl, rfl⟩
  | i + 1, hi => by
    obtain ⟨m, a, b, c⟩ := lotTo_spec ho hd h0 i (by omega)
    have hx := List.getElem?_eq_getElem (show i + 1 < ls.length by omega)
    have hm0 := h0 m (List.mem_of_mem_take a)
    have hl0 := h0 ls[i + 1] (List.getElem_mem _)
    rw [lotTo_succ hx, c, List.take_add_one (i := i + 1), hx]
    by_cases h : m ≤ ls[i + 1]
    · refine ⟨ls[i + 1], List.mem_append_right _ (List.mem_singleton.mpr rfl), fun x hx => ?_, broken_up ho hd hm0 h⟩
      rcases List.mem_append.mp hx with hx | hx
      · have := b x hx; grind
      · rw [show x = ls[i + 1] from List.mem_singleton.mp hx]; exact Rat.le_refl
    · refine ⟨m, List.mem_append_left _ a, fun x hx => ?_, broken_down ho hl0 (by grind)⟩
      rcases List.mem_append.mp hx with hx | hx
      · exact b x hx
      · rw [show x = ls[i + 1] from List.mem_singleton.mp hx]; grind
theorem lot_all {rs : List Rope} (ho : ∀ r ∈ rs, Ok r) (hd : (rs.map Rope.name).Nodup) {ls : List Rat} (h0 : ∀ l ∈ ls, 0 ≤ l) (hn : ls ≠ []) : lotTo rs ls ls.length = brokenBy rs [] (gr ls) := by
  have hp := List.length_pos_iff.mpr hn
  obtain ⟨m, a, b, c⟩ := lotTo_spec ho hd h0 (ls.length - 1) (by omega)
  rw [show ls.length - 1 + 1 = ls.length by omega, List.take_length] at a b
  rw [show ls.length - 1 + 1 = ls.length by omega] at c
  rw [c, gr_of a b]
theorem gr_rev {ls : List Rat} (hn : ls ≠ []) : gr ls.reverse = gr ls := by
  obtain ⟨a, b⟩ := gr_spec hn
  exact gr_of (List.mem_reverse.mpr a) fun x hx => b x (List.mem_reverse.mp hx)
/-! ### one by one -/
structure Obo (rs : List Rope) (ns : List Str) (l : Rat) (i : Nat) (B : List Str) : Prop where
  nd : B.Nodup
  sup : ∀ n ∈ ns, n ∈ B
  sub : ∀ n ∈ B, n ∈ brokenBy rs ns l
  far : wave rs B l = [] ∨ B.length = ns.length + i
theorem Obo.zero {rs : List Rope} {ns : List Str} {l : Rat} (hn : ns.Nodup) : Obo rs ns l 0 ns := ⟨hn, fun n h => h, fun n h => broken_sup n h, .inr rfl⟩
theorem Obo.same {rs : List Rope} {ns B : List Str} {l : Rat} {i : Nat} (o : Obo rs ns l i B) (h : wave rs B l = []) : Obo rs ns l (i + 1) B := ⟨o.nd, o.sup, o.sub, .inl h⟩
theorem Obo.more {rs : List Rope} (ho : ∀ r ∈ rs, Ok r) {ns B : List Str} {l : Rat} {i : Nat} (h0 : 0 ≤ l) (o : Obo rs ns l i B) {n : Str} (h : n ∈ wave rs B l) : Obo rs ns l (i + 1) (B ++ [n]) := by
  obtain ⟨r, hr, e⟩ := wave_mem h
  have hb : n ∉ B := by rw [← e]; exact (mem_left.mp hr).2
  refine ⟨?_, fun m hm => List.mem_append_left _ (o.sup m hm), fun m hm => ?_, ?_⟩
  · rw [List.nodup_append]
    refine ⟨o.nd, List.nodup_cons.mpr ⟨List.not_mem_nil, List.nodup_nil⟩, fun a ha b hb2 z => ?_⟩
    rw [List.mem_singleton.mp hb2] at z
    exact hb (z ▸ ha)
  · rcases List.mem_append.mp hm with hm | hm
    · exact o.sub m hm
    · rw [List.mem_singleton.mp hm]
      exact wave_in ho h0 Rat.le_refl (broken_stab rs ns l) o.sub n h
  · rcases o.far with z | z
    · rw [z] at h
      cases h
    · rw [List.length_append, z]
      exact .inr (by show ns.length + i + 1 = ns.length + (i + 1); omega)
theorem Obo.last {rs : List Rope} (ho : ∀ r ∈ rs, Ok r) (hd : (rs.map Rope.name).Nodup) {ns B : List Str} {l : Rat} (h0 : 0 ≤ l) (hn : ns.Nodup) (hs : ∀ n ∈ ns, n ∈ rs.map Rope.name) (o : Obo rs ns l rs.length B) : srt B = brokenBy rs ns l := by
  have hB : ∀ n ∈ B, n ∈ rs.map Rope.name := fun n hn => by
    rcases fin_mem ns (mem_broken.mp (o.sub n hn)) with z | ⟨r, hr, e⟩
    · exact hs n z
    · exact List.mem_map.mpr ⟨r, hr, e⟩
  have hw : wave rs B l = [] := by
    rcases o.far with z | z
    · exact z
    · have := few_left hd o.nd hB
      exact wave_empty (List.length_eq_zero_iff.mp (by omega))
  exact broken_eq ho hd h0 hn o.nd (wave_stab hw) o.sup o.sub
def strongs (rs : List Rope) : List (Str × Rat) := rs.map fun r => (r.name, (r.strong : Rat))
def over (rs : List Rope) (z : Str × Rat) : Bool := decide (((lookS (strongs rs) z.1).getD 0) < z.2)
theorem look_strong {rs : List Rope} (hd : (rs.map Rope.name).Nodup) {r : Rope} (hr : r ∈ rs) : lookS (strongs rs) r.name = some (r.strong : Rat) := by
  induction rs with
  | nil => cases hr
  | cons q rs ih =>
    rw [List.map_cons, List.nodup_cons] at hd
    unfold lookS strongs
    rw [List.map_cons, List.find?_cons]
    rcases List.mem_cons.mp hr with z | hr
    · subst z
      rw [show decide ((r.name, (r.strong : Rat)).1 = r.name) = true from decide_eq_true rfl]
      rfl
    · have hne : ¬ q.name = r.name := fun z => hd.1 (z ▸ List.mem_map.mpr ⟨r, hr, rfl⟩)
      rw [show decide ((q.name, (q.strong : Rat)).1 = r.name) = false from decide_eq_false hne]
      exact ih hd.2 hr
/-- who pulls more than it is strong -/
theorem over_wave {rs : List Rope} (hd : (rs.map Rope.name).Nodup) {B : List Str} {l u : Rat} (hs : sunkBy (left rs B) l = some u) : (((left rs B).map fun r => (r.name, pullR r u)).filter (over rs)).map Prod.fst = wave rs B l := by
  rw [wave_some hs, List.filter_map, List.map_map]
  have e : (left rs B).filter (over rs ∘ fun r => (r.name, pullR r u)) = (left rs B).filter (gives u) := List.filter_congr fun r hr => by
    show decide (((lookS (strongs rs) r.name).getD 0) < pullR r u) = decide ((r.strong : Rat) < pullR r u)
    rw [look_strong hd (mem_left.mp hr).1]
    rfl
  rw [e]
  rfl
end SM

/-! M20: where two bundles part. -/
namespace SM
open Ab L2
open Ab.Rp (rp)
open Ab.Dt (toD)
open PySem (Str)
open Ab.Rp (rp)
open Ab.Dt (toD)
def stateR (rs : List Rope) (l : Rat) : Option Rat := sunkBy (left rs (brokenBy rs [] l)) l
def turnsAt (rs : List Rope) (k : Nat) : List Rat := Ld rs [] k :: (left rs (Bk rs [] k)).map fun r => total (left rs (Bk rs [] k)) (r.slack : Rat)
def turnsTo (rs : List Rope) (i : Nat) : List Rat := 0 :: ((List.range i).map (turnsAt rs)).flatten
def turnsR (rs : List Rope) : List Rat := turnsTo rs (kEnd rs [])
theorem turns_zero (rs : List Rope) : (0 : Rat) ∈ turnsR rs := List.mem_cons_self
theorem turns_Ld {rs : List Rope} {k : Nat} (h : k < kEnd rs []) : Ld rs [] k ∈ turnsR rs := List.mem_cons_of_mem _ (List.mem_flatten.mpr ⟨_, List.mem_map.mpr ⟨k, List.mem_range.mpr h, rfl⟩, List.mem_cons_self⟩)
theorem turns_tot {rs : List Rope} {k : Nat} (h : k < kEnd rs []) {r : Rope} (hr : r ∈ left rs (Bk rs [] k)) : total (left rs (Bk rs [] k)) (r.slack : Rat) ∈ turnsR rs :=
  List.mem_cons_of_mem _ (List.mem_flatten.mpr ⟨_, List.mem_map.mpr ⟨k, List.mem_range.mpr h, rfl⟩, List.mem_cons_of_mem _ (List.mem_map.mpr ⟨r, hr, rfl⟩)⟩)
/-- no turn stands between -/
def Same (rs : List Rope) (l l' : Rat) : Prop := ∀ t ∈ turnsR rs, t ≠ l' ∧ (t < l' ↔ t < l)
theorem total_drawn {qs : List Rope} {u : Rat} (p : Rope → Bool) (h : ∀ r ∈ qs, p r = false → u ≤ (r.slack : Rat)) : total qs u = total (qs.filter p) u := by
  induction qs with
  | nil => rfl
  | cons r qs ih =>
    have ih := ih fun q hq => h q (List.mem_cons_of_mem _ hq)
    rw [total_cons, List.filter_cons]
    cases hp : p r with
    | true => rw [if_pos rfl, total_cons, ih]
    | false =>
      have := h r List.mem_cons_self hp
      rw [if_neg (by decide), ih]
      unfold pullR
      rw [if_neg (by grind)]
      grind
/-- between turns: nothing borne, or a straight line -/
theorem straight {rs : List Rope} (ho : ∀ r ∈ rs, Ok r) (hd : (rs.map Rope.name).Nodup) {l : Rat} (h0 : 0 < l) (hl : ∀ t ∈ turnsR rs, t ≠ l) : (∀ l', Same rs l l' → stateR rs l' = none) ∨ ∃ s d : Rat, 0 < s ∧ ∀ l', Same rs l l' → stateR rs l' = some ((l' + d) / s) := by
  obtain ⟨kA, kB, kC⟩ := kEnd_spec ho (B := [])
  obtain ⟨k, hk, h1, h2⟩ : ∃ k, k ≤ kEnd rs [] ∧ (∀ j, j < k → Ld rs [] j < l) ∧ (k < kEnd rs [] → l < Ld rs [] k) := by
    have : ∀ n, n ≤ kEnd rs [] → (∃ k, k ≤ n ∧ (∀ j, j < k → Ld rs [] j < l) ∧ (k < kEnd rs [] → l < Ld rs [] k)) ∨ ∀ j, j < n → Ld rs [] j < l := fun n => by
      induction n with
      | zero => exact fun _ => .inr fun j hj => absurd hj (by omega)
      | succ n ih =>
        intro hn
        rcases ih (by omega) with ⟨k, a, b, c⟩ | h
        · exact .inl ⟨k, by omega, b, c⟩
        · by_cases z : Ld rs [] n < l
          · refine .inr fun j hj => ?_
            by_cases e : j = n
            · rw [e]; exact z
            · exact h j (by omega)
          · have := hl _ (turns_Ld (show n < kEnd rs [] by omega))
            exact .inl ⟨n, by omega, h, fun _ => by grind⟩
    rcases this (kEnd rs []) (Nat.le_refl _) with ⟨k, a, b, c⟩ | h
    · exact ⟨k, a, b, c⟩
    · exact ⟨kEnd rs [], Nat.le_refl _, h, fun z => absurd z (by omega)⟩
  have hpos : ∀ l', Same rs l l' → 0 < l' := fun l' hs => (hs 0 (turns_zero rs)).2.mpr h0
  have hbk : ∀ l', Same rs l l' → brokenBy rs [] l' = Bk rs [] k := fun l' hs => by
    have hp := hpos l' hs
    refine at_step ho hd List.nodup_nil (Bk_srt rs 0) (by grind) hk (fun j hj => ?_) (fun hkk => ?_) (fun n hn => absurd hn List.not_mem_nil)
    · exact (hs _ (turns_Ld (show j < kEnd rs [] by omega))).2.mpr (h1 j (by omega))
    · obtain ⟨a, b⟩ := hs _ (turns_Ld hkk)
      have := h2 hkk
      have : ¬ Ld rs [] k < l' := fun z => by
        have := b.mp z
        grind
      grind
  by_cases hkk : k < kEnd rs []
  · have hne := kB k hkk
    have hoq := left_ok (ns := Bk rs [] k) ho
    right
    generalize hqs : left rs (Bk rs [] k) = qs at hne hoq
    have hD : ∀ l', Same rs l l' → ∃ u, stateR rs l' = some u ∧ l' = (sumS (qs.filter fun r => decide (total qs (r.slack : Rat) < l)) : Rat) * u - (sumD (qs.filter fun r => decide (total qs (r.slack : Rat) < l)) : Rat) := fun l' hs => by
      have hp := hpos l' hs
      obtain ⟨u, hu⟩ := sunk_some hoq hne (show 0 ≤ l' by grind)
      have ht := sunk_total hoq (show 0 ≤ l' by grind) hu
      have ht : total qs u = l' := ht
      refine ⟨u, by unfold stateR; rw [hbk l' hs, hqs]; exact hu, ?_⟩
      have hiff : ∀ r ∈ qs, ((r.slack : Rat) < u ↔ total qs (r.slack : Rat) < l) := fun r hr => by
        have hm : total qs (r.slack : Rat) ∈ turnsR rs := by
          rw [← hqs]
          exact turns_tot hkk (by rw [hqs]; exact hr)
        rw [← (hs _ hm).2]
        constructor
        · intro z
          have := total_lt hoq hr z z
          rw [ht] at this
          exact this
        · intro z
          apply Classical.byContradiction
          intro y
          have := total_mono hoq (show u ≤ (r.slack : Rat) by grind)
          rw [ht] at this
          grind
      rw [← ht, total_drawn (fun r => decide (total qs (r.slack : Rat) < l)) (fun r hr hf => by
        have := of_decide_eq_false hf
        have := fun z => this ((hiff r hr).mp z)
        grind)]
      refine total_all fun r hr => ?_
      obtain ⟨a, b⟩ := List.mem_filter.mp hr
      have := (hiff r a).mpr (of_decide_eq_true b)
      grind
    obtain ⟨u0, hu0, hl0⟩ := hD l (fun t ht => ⟨hl t ht, Iff.rfl⟩)
    have hDne : (qs.filter fun r => decide (total qs (r.slack : Rat) < l)) ≠ [] := fun z => by
      rw [z] at hl0
      have e1 : ((sumS ([] : List Rope) : Int) : Rat) = 0 := rfl
      have e2 : ((sumD ([] : List Rope) : Int) : Rat) = 0 := rfl
      rw [e1, e2] at hl0
      grind
    have hS := sumS_pos (rs := qs.filter fun r => decide (total qs (r.slack : Rat) < l)) (fun r hr => hoq r (List.mem_filter.mp hr).1) hDne
    have hSr : (0 : Rat) < ((sumS (qs.filter fun r => decide (total qs (r.slack : Rat) < l)) : Int) : Rat) := Rat.intCast_pos.mpr hS
    generalize ((sumS (qs.filter fun r => decide (total qs (r.slack : Rat) < l)) : Int) : Rat) = S at hD hSr
    generalize ((sumD (qs.filter fun r => decide (total qs (r.slack : Rat) < l)) : Int) : Rat) = D at hD
    refine ⟨S, D, hSr, fun l' hs => ?_⟩
    obtain ⟨u, hu, e⟩ := hD l' hs
    rw [hu]
    congr 1
    have : S ≠ 0 := by grind
    grind
  · left
    intro l' hs
    unfold stateR
    rw [hbk l' hs, show k = kEnd rs [] by omega, kA]
    have := hpos l' hs
    exact sunkBy_nil this
/-! ### gaps -/
def gaps : List Rat → List (Rat × Rat)
  | [] => []
  | [a] => [(a, a + 1)]
  | a :: b :: t => (a, b) :: gaps (b :: t)
theorem gap_of {l : Rat} : ∀ (ps : List Rat), ps.Pairwise (fun a b => a < b) → l ∉ ps → (∃ a ∈ ps.head?, a ≤ l) → ∃ z ∈ gaps ps, z.1 < z.2 ∧ z.1 < l ∧ (∀ t ∈ ps, t ≤ z.1 ∨ z.2 ≤ t) ∧ (l < z.2 ∨ ∀ t ∈ ps, t ≤ z.1)
  | [], _, _, h => by
    obtain ⟨a, h, _⟩ := h
    cases h
  | [a], _, hn, h => by
    obtain ⟨a', h, hl⟩ := h
    have h : a = a' := by simpa using h
    subst h
    have hne : ¬ l = a := fun z => hn (List.mem_singleton.mpr z)
    refine ⟨(a, a + 1), List.mem_singleton.mpr rfl, by show a < a + 1; grind, by show a < l; grind, fun t ht => ?_, .inr fun t ht => ?_⟩
    · rw [List.mem_singleton.mp ht]
      exact .inl Rat.le_refl
    · rw [List.mem_singleton.mp ht]
      exact Rat.le_refl
  | a :: b :: t, hp, hn, h => by
    obtain ⟨a', h, hl⟩ := h
    have h : a = a' := by simpa using h
    subst h
    obtain ⟨p1, p2⟩ := List.pairwise_cons.mp hp
    have hab := p1 b List.mem_cons_self
    have hne : ¬ l = a := fun z => hn (z ▸ List.mem_cons_self)
    have hnb : ¬ l = b := fun z => hn (z ▸ List.mem_cons_of_mem _ List.mem_cons_self)
    by_cases z : l < b
    · refine ⟨(a, b), List.mem_cons_self, hab, by show a < l; grind, fun x hx => ?_, .inl z⟩
      rcases List.mem_cons.mp hx with e | hx
      · rw [e]
        exact .inl Rat.le_refl
      · rcases List.mem_cons.mp hx with e | hx
        · rw [e]
          exact .inr Rat.le_refl
        · have := (List.pairwise_cons.mp p2).1 x hx
          exact .inr (by show b ≤ x; grind)
    · obtain ⟨y, y1, y2, y3, y4, y5⟩ := gap_of (b :: t) p2 (fun q => hn (List.mem_cons_of_mem _ q)) ⟨b, rfl, by grind⟩
      have hb1 : b ≤ y.1 ∨ y.2 ≤ b := y4 b List.mem_cons_self
      have hby : b ≤ y.1 := by
        rcases hb1 with q | q
        · exact q
        · rcases y5 with r | r
          · grind
          · exact r b List.mem_cons_self
      refine ⟨y, List.mem_cons_of_mem _ y1, y2, y3, fun x hx => ?_, ?_⟩
      · rcases List.mem_cons.mp hx with e | hx
        · rw [e]
          exact .inl (by grind)
        · exact y4 x hx
      · rcases y5 with q | q
        · exact .inl q
        · refine .inr fun x hx => ?_
          rcases List.mem_cons.mp hx with e | hx
          · rw [e]
            grind
          · exact q x hx
theorem line_eq {s s' d d' a b l : Rat} (s0 : 0 < s) (s0' : 0 < s') (hab : a < b) (h1 : (a + d) / s = (a + d') / s') (h2 : (b + d) / s = (b + d') / s') : (l + d) / s = (l + d') / s' := by
  have n1 : s ≠ 0 := by grind
  have n2 : s' ≠ 0 := by grind
  have e1 : (a + d) * s' = (a + d') * s := by
    have : (a + d) / s * (s * s') = (a + d') / s' * (s * s') := by rw [h1]
    have f1 : (a + d) / s * (s * s') = (a + d) * s' := by grind
    have f2 : (a + d') / s' * (s * s') = (a + d') * s := by grind
    grind
  have e2 : (b + d) * s' = (b + d') * s := by
    have : (b + d) / s * (s * s') = (b + d') / s' * (s * s') := by rw [h2]
    have f1 : (b + d) / s * (s * s') = (b + d) * s' := by grind
    have f2 : (b + d') / s' * (s * s') = (b + d') * s := by grind
    grind
  have e3 : (b + -a) * (s' + -s) = 0 := by grind
  have e4 : s' = s := by
    rcases Rat.mul_eq_zero.mp e3 with z | z
    · grind
    · grind
  subst e4
  have e5 : (d + -d') * s' = 0 := by grind
  have e6 : d = d' := by
    rcases Rat.mul_eq_zero.mp e5 with z | z
    · grind
    · grind
  rw [e6]
/-- asked at turns and twice between them: alike at every load -/
theorem part_all {ps qs : List Rope} (hop : ∀ r ∈ ps, Ok r) (hoq : ∀ r ∈ qs, Ok r) (hdp : (ps.map Rope.name).Nodup) (hdq : (qs.map Rope.name).Nodup)
    (h1 : ∀ l ∈ ordR (turnsR ps ++ turnsR qs), stateR ps l = stateR qs l) (h2 : ∀ z ∈ gaps (ordR (turnsR ps ++ turnsR qs)), stateR ps ((z.1 * 2 + z.2) / 3) = stateR qs ((z.1 * 2 + z.2) / 3) ∧ stateR ps ((z.1 + z.2 * 2) / 3) = stateR qs ((z.1 + z.2 * 2) / 3)) {l : Rat} (h0 : 0 ≤ l) : stateR ps l = stateR qs l := by
  by_cases hm : l ∈ ordR (turnsR ps ++ turnsR qs)
  · exact h1 l hm
  have hz : (0 : Rat) ∈ ordR (turnsR ps ++ turnsR qs) := ord_mem.mpr (List.mem_append_left _ (turns_zero ps))
  have hlt := ord_lt (turnsR ps ++ turnsR qs)
  have hmem : ∀ t, (t ∈ turnsR ps ∨ t ∈ turnsR qs) → t ∈ ordR (turnsR ps ++ turnsR qs) := fun t h => ord_mem.mpr (List.mem_append.mpr h)
  generalize ordR (turnsR ps ++ turnsR qs) = ts at h1 h2 hm hz hlt hmem
  have hhead : ∃ a ∈ ts.head?, a ≤ l := by
    cases ts with
    | nil => cases hz
    | cons a t =>
      refine ⟨a, rfl, ?_⟩
      rcases List.mem_cons.mp hz with e | hz
      · grind
      · have := (List.pairwise_cons.mp hlt).1 0 hz
        grind
  have hl0 : 0 < l := by
    have : ¬ l = 0 := fun z => hm (z ▸ hz)
    grind
  obtain ⟨z, g1, g2, g3, g4, g5⟩ := gap_of ts hlt hm hhead
  obtain ⟨m1, m2⟩ := h2 z g1
  obtain ⟨lo, hi⟩ := z
  have g2 : lo < hi := g2
  have g3 : lo < l := g3
  have same : ∀ rs, (∀ t ∈ turnsR rs, t ∈ ts) → ∀ m, lo < m → m < hi → Same rs l m := fun rs hrs m a b t ht => by
    have hts := hrs t ht
    have hne : ¬ t = l := fun y => hm (y ▸ hts)
    rcases g4 t hts with q | q
    · have q : t ≤ lo := q
      exact ⟨by grind, ⟨fun _ => by grind, fun _ => by grind⟩⟩
    · have q : hi ≤ t := q
      rcases g5 with r | r
      · have r : l < hi := r
        exact ⟨by grind, ⟨fun _ => by grind, fun _ => by grind⟩⟩
      · have r : t ≤ lo := r t hts
        grind
  have sp := same ps fun t h => hmem t (.inl h)
  have sq := same qs fun t h => hmem t (.inr h)
  have selfS : ∀ rs, (∀ t ∈ turnsR rs, t ∈ ts) → Same rs l l := fun rs hrs t ht => ⟨fun y => hm (y ▸ hrs t ht), Iff.rfl⟩
  have np : ∀ t ∈ turnsR ps, t ≠ l := fun t ht y => hm (y ▸ hmem t (.inl ht))
  have nq : ∀ t ∈ turnsR qs, t ≠ l := fun t ht y => hm (y ▸ hmem t (.inr ht))
  have a1 : lo < (lo * 2 + hi) / 3 := by grind
  have a2 : (lo * 2 + hi) / 3 < hi := by grind
  have b1 : lo < (lo + hi * 2) / 3 := by grind
  have b2 : (lo + hi * 2) / 3 < hi := by grind
  have m1 : stateR ps ((lo * 2 + hi) / 3) = stateR qs ((lo * 2 + hi) / 3) := m1
  have m2 : stateR ps ((lo + hi * 2) / 3) = stateR qs ((lo + hi * 2) / 3) := m2
  have lp := selfS ps fun t h => hmem t (.inl h)
  have lq := selfS qs fun t h => hmem t (.inr h)
  rcases straight hop hdp hl0 np with hp | ⟨s, d, s0, hp⟩
  · rcases straight hoq hdq hl0 nq with hq | ⟨s', d', s0', hq⟩
    · rw [hp l lp, hq l lq]
    · rw [hp _ (sp _ a1 a2), hq _ (sq _ a1 a2)] at m1
      cases m1
  · rcases straight hoq hdq hl0 nq with hq | ⟨s', d', s0', hq⟩
    · rw [hp _ (sp _ a1 a2), hq _ (sq _ a1 a2)] at m1
      cases m1
    · rw [hp _ (sp _ a1 a2), hq _ (sq _ a1 a2)] at m1
      rw [hp _ (sp _ b1 b2), hq _ (sq _ b1 b2)] at m2
      have m1 := Option.some.inj m1
      have m2 := Option.some.inj m2
      rw [hp l lp, hq l lq]
      congr 1
      exact line_eq s0 s0' (show (lo * 2 + hi) / 3 < (lo + hi * 2) / 3 by grind) m1 m2
end SM

/-! AbEn: enumerate(t) of a tuple (told after the library's walk over lists). -/
namespace Ab
open PySem PySem.Spec PyProof.Rows L2 LamX
open Ab.Rp (rp)
open Ab.Dt (toD)
theorem meets_enumT (t : Addr) (items : Array Value) : Meets (Builtin.«enumerate.__new__» ⟨[.type "enumerate", .ref t], []⟩) (fun _ R s => s.heap.IsTuple t items ∧
      R (.ok (.ret (.ref (s.heap.push { cls := .type "tuple_iterator", data := .fields #[.ref t, .int 0 0] }).objs.size))) { s with heap := (s.heap.push { cls := .type "tuple_iterator", data := .fields #[.ref t, .int 0 0] }).push { cls := .type "enumerate", data := .fields #[.none, .bool false, .ref s.heap.objs.size, rawInt 0, .none, .none] } }) :=
  .of_wp fun prog w A R s h => by
    obtain ⟨hp, g, d, tk, os⟩ := s; obtain ⟨h1, h⟩ := h
    have hsub := sub_enumerate
    have q1 : ∀ {A' : Around} {E : Value → Shared → Prop} {Q : Value → Shared → Prop}, Q (.ref hp.objs.size) ⟨hp.push { cls := .type "tuple_iterator", data := .fields #[.ref t, .int 0 0] }, g, d, tk, os⟩ → wpAny (model prog w) A' (pyIter (.ref t)) Q E ⟨hp, g, d, tk, os⟩ :=
      fun q => (begins_tuple t items).iter prog w _ _ ⟨hp, g, d, tk, os⟩ _ h1 q
    wp_walk using q1
    refine wpAny_stack_any fun st => wpAny_pure ?_
    split
    · rename_i c _ _ _ _ _
      cases (c == Value.type "enumerate")
      · wp_walk using q1
        exact ⟨_, rfl, h⟩
      · wp_walk using q1
        exact ⟨_, rfl, h⟩
    · wp_walk using q1
      exact ⟨_, rfl, h⟩
section
variable {prog : Program} {w : World} {A : Around} {E : Value → Shared → Prop} {s : Shared}
theorem call_enumT {t : Addr} {items : Array Value} {Q : Value → Shared → Prop} (h1 : s.heap.IsTuple t items)
    (h : ∀ h', IsEnum h' (s.heap.objs.size + 1) s.heap.objs.size 0 .none → h'.IsTupleIter s.heap.objs.size t 0 → h'.objs.size = s.heap.objs.size + 2 →
      (∀ b o, s.heap.get? b = some o → h'.get? b = some o) → Q (.ref (s.heap.objs.size + 1)) { s with heap := h' }) :
    wpAny (model prog w) A (call (.type "enumerate") [.ref t]) Q E s := by
  refine callType_new F.called_enumerate (by decide) (F.typeCall_enumerate_1 _) (F.newCall_enumerate_1 _) (fun obj => F.args_object_init_2 obj _) F.entry_enumerate_new
    (meets_enumT t items) ⟨h1, ?_⟩
  have hz : (s.heap.push { cls := .type "tuple_iterator", data := .fields #[.ref t, .int 0 0] }).objs.size = s.heap.objs.size + 1 := Heap.size_push ..
  show _ ∧ _
  rw [hz]
  have he : IsEnum ((s.heap.push { cls := .type "tuple_iterator", data := .fields #[.ref t, .int 0 0] }).push
      { cls := .type "enumerate", data := .fields #[.none, .bool false, .ref s.heap.objs.size, rawInt 0, .none, .none] }) (s.heap.objs.size + 1) s.heap.objs.size 0 .none := by
    have := Heap.get?_push_size (s.heap.push { cls := .type "tuple_iterator", data := .fields #[.ref t, .int 0 0] })
      (o := { cls := .type "enumerate", data := .fields #[.none, .bool false, .ref s.heap.objs.size, rawInt 0, .none, .none] }) rfl
    rw [hz] at this; exact this
  exact ⟨⟨_, he, rfl⟩, h _ he ⟨_, Heap.get?_push_of_some _ (Heap.get?_push_size _ rfl), rfl, rfl⟩ (by rw [Heap.size_push, hz]) fun b o x => Heap.get?_push_of_some _ (Heap.get?_push_of_some _ x)⟩
end
/-- the tuple at a as it stands at each turn, each item in a new pair -/
def Iten (K : PySem.W.Frag) (a : Addr) : It :=
  ⟨fun i H => ∃ (xs : List V) (x : V), SqT K H a xs ∧ xs[i]? = some x, fun i H v H' => ∃ T x, v = .ref T ∧ H T = none ∧ H' = upd H T (.tup [.int (i : Nat), x]) ∧ ∀ xs, SqT K H a xs → xs[i]? = some x, fun i H => ∃ xs : List V, SqT K H a xs ∧ xs.length ≤ i⟩
theorem turn_enumT {P : Program} {w : World} {K : PySem.W.Frag} {elts : List Expr} {kk : Nat} {tpos : Pos} (a e it : Addr) (hai : a ≠ it) (hea : e ≠ a) :
    Turn P w K (.Tuple elts kk tpos) (Iten K a) [e, it] e (fun i h => (∃ old, IsEnum h e it ((i : Nat) : Int) old) ∧ h.IsTupleIter it a i ∧ e ≠ it) where
  mem := by simp
  obj := fun i h st b hb => by
    obtain ⟨⟨old, he⟩, ⟨o, ho, hc, hd⟩, _⟩ := st
    have e' : b = e ∨ b = it := by simpa using hb
    rcases e' with z | z
    · rw [z]; exact ⟨_, he, fun v q => nomatch q⟩
    · rw [z]; exact ⟨o, ho, fun v q => by rw [hd] at q; cases q⟩
  keep := fun i h h' st k => let ⟨⟨old, he⟩, hi, hne⟩ := st; ⟨⟨old, k e (by simp) _ he⟩, hi.at fun o q => k it (by simp) o q, hne⟩
  item := by
    intro X hP hw hK hc i pins s σ H E I hf st hg
    subst hP hw hK
    obtain ⟨⟨old, he⟩, hit, hne⟩ := st
    obtain ⟨xs, x, hq, hx⟩ := hg
    obtain ⟨its, rv, p, hz⟩ := I.tuple hq
    obtain ⟨u, hu, ru⟩ := rv.get hx
    have hel : e < s.heap.objs.size := Heap.lt_size he
    have hil : it < s.heap.objs.size := by obtain ⟨_, q, _⟩ := hit; exact Heap.lt_size q
    have hil2 : i < its.toArray.size := by
      have := (List.getElem?_eq_some_iff.mp hu).1
      simpa using this
    have D := Draws.tuple (prog := X.prog) (w := X.w) (A := X.A.in1) (by have := I.ok.hd hc; simpa using this) it a hai its.toArray
    refine wpAny_pyNext_enum_itemD D he ⟨hit, p⟩ hil2 hne (by simp [hne, hea]) fun x' h' tk hx' ho st' hT hsz hk => ?_
    have ex : x' = u := by
      have hu' : its.toArray[i]? = some u := by simpa using hu
      exact Option.some.inj (hx'.symm.trans hu')
    subst ex
    refine ⟨_, rfl, wpAny_letOwnedTupleGo_enum (s := { s with heap := h', toks := tk + 1 }) ho fun h'' he' sb => ?_⟩
    have hT2 : h''.get? s.heap.objs.size = some { cls := .type "tuple", data := .seq #[.int i tk, x'] } := (sb.2 _ (Nat.ne_of_gt hel)).trans hT
    have new : ObjOk X.prog X.w (upd H s.heap.objs.size (.tup [.int (i : Nat), x])) h'' s.heap.objs.size (.tup [.int (i : Nat), x]) :=
      ⟨by show 2 ≤ sizeLine; decide, [.int i tk, x'], .cons ⟨_, rfl⟩ (.cons ru .nil), ⟨_, hT2, rfl, _, rfl⟩⟩
    have I1 : Inv X pins σ (upd H s.heap.objs.size (.tup [.int (i : Nat), x])) { s with heap := h'', toks := tk + 1 } :=
      I.turnedNew (ch := [e, it]) (fun b ob hb q => (sb.2 b (fun z => hb (by simp [z]))).trans (hk b ob (fun z => hb (by simp [z])) (fun z => hb (by simp [z])) q)) hf (Nat.le_refl _) new
    refine ⟨.ref s.heap.objs.size, _, I1, rfl, ⟨_, x, rfl, I.hok.fresh (Nat.le_refl _), rfl, fun ys hy => ?_⟩, ⟨⟨x', ?_⟩, st'.1.at fun o q => (sb.2 it (Ne.symm hne)).trans q, hne⟩, fun b hb => ?_⟩
    · rw [I.tuple_inj hy hq]
      exact hx
    · have e1 : ((i + 1 : Nat) : Int) = (i : Int) + 1 := by omega
      rw [e1]; exact he'
    · have hb' : b < s.heap.objs.size := by
        have e' : b = e ∨ b = it := by simpa using hb
        rcases e' with z | z
        · rw [z]; exact hel
        · rw [z]; exact hil
      rw [upd_ne (Nat.ne_of_lt hb')]
      exact (hf b hb).1
  done := by
    intro X hP hw hK hc i pins s σ H E I hf st hg
    subst hP hw hK
    obtain ⟨⟨old, he⟩, hit, hne⟩ := st
    obtain ⟨xs, hq, hx⟩ := hg
    obtain ⟨its, rv, p, hz⟩ := I.tuple hq
    obtain ⟨f0, f1, f2, f3, f4, f5⟩ := hf it (by simp)
    have hl := rv.length
    have hT : s.TypeIs (.ref e) "enumerate" := ⟨_, he, rfl⟩
    unfold pyNext
    refine wpAny_bind (wpAny_attempt (wpAny_callSpecial?_slot (name := Str.ofString "__next__") hT F.slot_enumerate_next
      (wpAny_call_entry F.slot_enumerate_next hT F.entry_enumerate_next ?_ (F.args_enumerate_next_1 _))))
    show wpAny _ _ (field (.ref e) 2 >>= _) _ _ _
    refine wpAny_bind (wpAny_field he rfl (x := .ref it) rfl ?_)
    refine wpAny_bind (wpAny_nextOf_tuple_end (by have := I.ok.hd hc; simpa using this) hit p (by simp; omega) fun h' x he' hx' => ?_)
    obtain ⟨o, ho, hcl⟩ := hx'
    refine wpAny_bind (wpAny_isInstance (T := "StopIteration") (b := true) ⟨o, ho, hcl⟩ isSubtype_stop ?_)
    exact wpAny_pure ⟨rfl, I.turned (t' := s.toks) (fun b o hb q => he' b o hb q) f0 f1 f3 f4 f5⟩
  self := fun A i s Q E st h => let ⟨⟨_, he⟩, _⟩ := st; wpAny_pyIter_enum he h
def iEnumT (K : PySem.W.Frag) (ta : TA) : TI := fun σ H R => ta σ H fun vs H1 => ∃ a xs, vs = [.ref a] ∧ SqT K H1 a xs ∧ R (Iten K a) H1
theorem pi_enumT {X : Cx} {e : Expr} {ta : TA} {p pos tpos : Pos} {elts : List Expr} {kk : Nat} (hg : Gl X "enumerate") (hm : X.mg "enumerate" = none) (ha : PA X [e] ta) (hs : starEach [e] X.env = [(false, eval e X.env)] := by rfl) :
    PI X (.Tuple elts kk tpos) (.Call (.Name "enumerate" p) [e] [] pos) (iEnumT X.K ta) := by
  refine ⟨fun pins s σ H R I h => ?_⟩
  refine Call_ (ld_blt I hg hm boot_enumerate (PyProof.Rows.callWith_type1 (thn (ha.run pos pins s σ H _ I h) fun us s1 ⟨vs, H1, I1, r1, q1⟩ => ?_) hs rfl))
  obtain ⟨a, xs, ex, hq, q⟩ := q1
  subst ex
  cases r1 with
  | cons r rr =>
    cases rr
    cases r
    obtain ⟨its, rv, p', hz⟩ := I1.tuple hq
    have hlt : a < s1.heap.objs.size := by obtain ⟨o, ho, _⟩ := p'; exact Heap.lt_size ho
    refine call_enumT p' fun h' he hit hsz hk => wpAny_pyIter_enum he ?_
    have I2 : Inv X pins σ H1 { s1 with heap := h' } := I1.kept (t' := s1.toks) hk
    refine ⟨s1.heap.objs.size + 1, [s1.heap.objs.size + 1, s1.heap.objs.size], _, _, H1, rfl, I2, turn_enumT a (s1.heap.objs.size + 1) s1.heap.objs.size (Nat.ne_of_lt hlt) (Nat.ne_of_gt (Nat.lt_succ_of_lt hlt)), ⟨⟨.none, he⟩, hit, Nat.succ_ne_self _⟩, fun b hb => ?_, q⟩
    have e' : b = s1.heap.objs.size + 1 ∨ b = s1.heap.objs.size := by simpa using hb
    have hle : s1.heap.objs.size ≤ b := by
      rcases e' with z | z
      · rw [z]; exact Nat.le_add_right _ _
      · rw [z]; exact Nat.le_refl _
    exact I1.fpOk hle (I1.hok.fresh hle)
section
variable {K : PySem.W.Frag} {H1 : Hp} {α : Type} [Rp α]
theorem wk_enumT {p : Addr} {vs : List V} {xs : List α} (h : SqT K H1 p vs) (r : Rps K H1 vs xs) : Wk K [] H1 (Iten K p) (numFrom xs) where
  go := fun i H g hi => by
    rw [numFrom_len] at hi
    have hi2 : i < vs.length := by rw [r.len]; exact hi
    exact ⟨vs, vs[i], g.1.sq h, List.getElem?_eq_getElem hi2⟩
  yld := fun i H x H' g hi y => by
    rw [numFrom_len] at hi
    obtain ⟨T, x', rfl, hT, rfl, y⟩ := y
    obtain ⟨d, h1, h2⟩ := (r.mono g.1).getV (y vs (g.1.sq h))
    exact ⟨_, numFrom_get h1, ⟨T, _, _, rfl, .inl (.inl upd_same), rfl, Rp.mono (Tu.new hT) h2⟩, .inr ⟨T, _, hT, rfl⟩⟩
  stop := fun i H g hi => by
    rw [numFrom_len] at hi
    exact ⟨vs, g.1.sq h, by rw [r.len]; exact hi⟩
end
section
variable {X : Cx} {c : Ctx} {ss : List AV} {D : AE} {e e2 i : Expr} {rest : List Stmt} {pos p p1 p2 p3 : Pos} {α β : Type} [Rp α] [Rp β] {xs : List α} {ys : List β}
/-- for i, x in enumerate(t) -/
theorem i_enumT {elts : List Expr} {kk : Nat} {tpos : Pos} (hm : X.mg "enumerate" = none) (h : XA X c ss [e] [.dat xs]) (hg : Gl X "enumerate" := by rfl) (hs : starEach [e] X.env = [(false, eval e X.env)] := by rfl) :
    XI X c ss (.Tuple elts kk tpos) (.Call (.Name "enumerate" p) [e] [] pos) (numFrom xs) :=
  (pi_enumT hg hm h hs).wk fun σ H R q => ⟨q.1, fun vs H1 at1 g ok => by
    obtain ⟨v, rfl, zs, ⟨a, us, rfl, h1, r⟩, ez⟩ := ok.one
    have ez : zs = xs := ez
    subst ez
    exact ⟨a, us, rfl, h1, q.2 _ H1 [] (at1.addpr (fun z hz => absurd hz (by simp)) fun i s es o z hz => absurd hz (by simp)) g (wk_enumT h1 r)⟩⟩
/-- for x, y in zip(xs, ys): the one locked, the other new -/
theorem i_zipP {a : Addr} {elts : List Expr} {kk : Nat} {tpos : Pos} (m : Pr.mk a xs ∈ c.pr) (hm : X.mg "zip" = none) (h : XA X c ss [e, e2] [.val (.ref a), .own ys]) (hg : Gl X "zip" := by rfl) (hs : starEach [e, e2] X.env = (false, eval e X.env) :: starEach [e2] X.env := by rfl) (hpl : (backTo pos (starEach [e2] X.env)).any (·.1) = false := by rfl) :
    XI X c ss (.Tuple elts kk tpos) (.Call (.Name "zip" p) [e, e2] [] pos) (xs.zip ys) :=
  (RZ.pi_zipA hg hm h hs hpl).wk fun σ H R q => ⟨q.1, fun vs H1 at1 g ok => by
    obtain ⟨v, u, rfl, hv, hu⟩ := ok.two
    have hv : v = .ref a := hv
    subst hv
    obtain ⟨b, ws, rfl, n2, h2, r2⟩ := hu
    obtain ⟨n, us, h1, r⟩ := at1.pr _ m
    refine ⟨a, b, us, ws, rfl, .inl ⟨SqL.of h1, SqL.of h2, q.2 _ H1 [⟨a, xs⟩, ⟨b, ys⟩] (at1.addpr (fun z hz => ?_) fun i s es o z hz w => ?_) g wk_zip⟩⟩
    · rcases List.mem_cons.mp hz with hz | hz
      · obtain rfl := hz
        exact ⟨n, us, h1, r⟩
      · obtain rfl := List.mem_singleton.mp hz
        exact ⟨q.1.notS n2, ws, h2, r2⟩
    · rcases List.mem_cons.mp hz with hz | hz
      · obtain rfl := hz
        obtain ⟨ad, k1, k2, k3⟩ := at1.sl
        cases s with
        | own ys =>
          obtain ⟨_, e1, _⟩ := k1 i _ es
          have ep : ad i = a := V.ref.inj (Option.some.inj (Option.some.inj (e1.symm.trans w)))
          exact k3 i _ es trivial _ m ep
        | _ => exact o.elim
      · obtain rfl := List.mem_singleton.mp hz
        obtain ⟨p', vs', e1, e2⟩ := q.1.own_at es o
        have ep : p' = b := V.ref.inj (Option.some.inj (Option.some.inj (e1.symm.trans w)))
        rw [ep] at e2
        exact n2.noL e2⟩
/-- xs[i] = e -/
theorem q_item {j : Nat} {n : Int} {x : α} (k : Nat) {y : Str} (he : XE X c ss e (.dat x)) (hi : XE X c ss i (.dat n)) (hj : ixN xs.length n = some j) (h : XSs X c (ss.set k (.own (xs.set j x))) rest D) (hx : ss[k]? = some (.own xs) := by rfl)
    (hN : X.N[k]? = some y := by rfl) (hv : Vis X.env.scope y := by first | exact Or.inl rfl | exact Or.inr (Or.inl rfl) | exact Or.inr (Or.inr rfl)) (hd : (y == ("__debug__" : Str)) = false := by decide) (hcd : (y == ("__classdict__" : Str)) = false := by decide)
    (hs : swapsWithSole [.Subscript (.Name y p1) i p3] e pos.line X.env = pure false := by rfl) (hsw : swappedStores [.Subscript (.Name y p1) i p3] e X.env = pure none := by rfl)
    (h1 : (assignEach [.Subscript (.Name y p1) i p3] X.env).map (·.2) = [assign (.Subscript (.Name y p1) i p3) X.env] := by rfl)
    (hsub : ∀ v, assign (.Subscript (.Name y p1) i p3) X.env v = (do
      let ov ← holding [v] (eval (.Name y p1) X.env)
      let iv ← holding [v, ov] (eval i X.env)
      standAt p3
      holding [v, ov, iv] (setItem ov iv v)
      release [v, ov, iv] []) := by intro _; rfl) :
    XSs X c ss (.Assign [.Subscript (.Name y p1) i p3] e pos :: rest) D :=
  q_seq (N := fun s => s = ss.set k (.own (xs.set j x))) ((ps_asg he (pg_sub (pe_var hN hv hd hcd) hi set_list hsub) hs hsw h1).wk fun De σ H q => ⟨q.1, fun v H1 a1 g1 ⟨z, hz, ez⟩ => by
    have ez : z = x := ez
    subst ez
    obtain ⟨p, vs, e1, n1, e2, r, h0⟩ := a1.varL hx
    refine ⟨.ref p, e1, a1, fun y H3 a3 g3 ⟨m, hm, em⟩ => ?_⟩
    have em : m = n := em
    subst em
    have hm : y = V.int m := hm
    have hz3 : rp X.K H3 v z := Rp.mono g3.tu hz
    obtain ⟨p', vs', f1, f2, fr, put⟩ := a3.put (ys := xs.set j z) hx
    have ep : p' = p := V.ref.inj (Option.some.inj (Option.some.inj (f1.symm.trans e1)))
    subst ep
    exact ⟨p', vs', m, j, rfl, hm, f2, by rw [fr.len]; exact hj, q.2.1 _ _ _ rfl (put _ (fr.set hz3 j)).1⟩⟩) fun s z => by
    rw [z]
    exact h
end
end Ab

/-! AbIx: xs.index(x) over data; drawn comprehensions as values; a list is not None. -/
namespace Ab
open PySem L2 LamX
open Ab.Rp (rp)
open Ab.Dt (toD)
section
variable {X : Cx} {c : Ctx} {ss : List AV} {D : AE} {e o iter elt : Expr} {pos tpos cpos ap : Pos} {α β : Type} [Rp α] [Rp β] {scope : Scope} {y : Str} {k : Nat}
/-- xs.index(x), x there -/
theorem x_indexD {γ : Type} [Dt γ] [DecidableEq γ] {xs : List γ} {x : γ} {j : Nat} (hr : Room k X.A) (ho : XE X c ss o (.lst xs)) (ha : XA X c ss [e] [.dat x]) (hj : xs[j]? = some x) (hno : ∀ m z, m < j → xs[m]? = some z → z ≠ x) (ox : ∀ z ∈ xs, Dt.ok z) (hdp : Dt.dpt γ ≤ 60 := by decide)
    (hbase : attributeBase o "index" X.env (eval o X.env) = eval o X.env := by rfl)
    (hfew : ((backTo cpos (starEach [e] X.env)).all (fun x => !x.1) && (backToKw cpos (keywordEach [] X.env)).all (fun x => x.1.isSome)
      && decide ([e].length + ([] : List Keyword).length + (if ([] : List Keyword).isEmpty then 0 else 1) < 30)) = true := by rfl)
    (hline : (ap.endLine == cpos.line) = true := by rfl) (hst : starEach [e] X.env = (false, eval e X.env) :: starEach [] X.env := by rfl) (hpl : (backTo cpos (starEach [] X.env)).any (·.1) = false := by rfl) :
    XE X c ss (.Call (.Attribute o "index" ap) [e] [] cpos) (.dat (j : Int)) :=
  (pe_bm PySem.F.plainAttrs_list PySem.F.slot_list_index PySem.F.type_list_index (mt_indexD (by have := hr.un; omega)) ho ha hbase hfew hline hst hpl).wk fun σ H Q q => ⟨q.1, fun v H1 a1 g1 ok => by
    obtain ⟨p, us, e1, nS, h1, r1⟩ := id ok
    subst e1
    refine ⟨.inl ⟨rfl, us, SqL.of h1⟩, a1, fun ws H2 a2 g2 ok2 => ?_⟩
    obtain ⟨u, rfl, z, hz, ez⟩ := ok2.one
    have ez : z = x := ez
    subst ez
    obtain ⟨p', us', e1', nS', h2, r2⟩ := ok.mono q.1.j g2
    have ep : p = p' := V.ref.inj e1'
    subst ep
    refine ⟨p, u, Dt.toD z, xs.map Dt.toD, j, Dt.toD z, rfl, rfl, .lst (SqL.of h2) (dpAll r2), Dt.dp hz, shaped_of (layAll ox) (by
      show PyData.depthAll _ + 1 ≤ 64
      have := depAll xs
      omega), shaped_of (Dt.lay _ (ox z (List.mem_of_getElem? hj))) (Nat.le_trans (Dt.dep _) (by omega)), by rw [List.getElem?_map, hj]; rfl, (Dt.eqv z z).mpr rfl, fun m z' hm hz' => ?_, ?_⟩
    · rw [List.getElem?_map] at hz'
      obtain ⟨w, hw, e⟩ := Option.map_eq_some_iff.mp hz'
      subst e
      have hne := hno m w hm hw
      cases hq : PyData.eqv (Dt.toD w) (Dt.toD z) with
      | false => rfl
      | true => exact absurd ((Dt.eqv w z).mp hq) hne
    · exact (q.go a2 (g1.trans g2)).give ⟨_, rfl, rfl⟩⟩
/-- a list is not None -/
theorem t_isNL {xs : List α} (ha : XE X c ss e (.lst xs)) {k2 : Nat} {p2 : Pos} : XT X c ss (.Compare e [.Is] [.Constant .none k2 p2] pos) (· = false) :=
  t_cmpE op_isN (ra := .lst xs) (rb := .dat (none : Option Int)) (fun _ _ _ H2 _ _ _ _ _ ⟨p, us, e1, nS, h1, r1⟩ ⟨z, h2, q⟩ t => by
    subst e1 q
    exact ⟨h2, t.give ⟨false, rfl, rfl⟩⟩) ha x_non
theorem xicn_of {xs : List α} {tg : Expr} (h : XIc X c ss tg iter xs) : XIcN X c ss tg iter (· = xs) := h.wk fun σ H R q => ⟨q.1, fun J H1 pr a1 g1 src w => q.2 xs J H1 pr rfl a1 g1 src w⟩
/-- [elt for y in iter], as many drawn things as iter has -/
theorem x_lcV (i : Nat) (P0 : List α → Prop) (Pe : β → Prop) (hi : XIcN X c ss (.Name y tpos) iter P0) (hsz : ∀ xs, P0 xs → xs.length ≤ 100000)
    (he : ∀ (s : Shared) (H : Hp) (C : Addr) (cl : List (Str × Addr)) (fp : List Addr) (x : α), PE (X.blk s H scope (compEnvC scope cl C X.env) fp) elt (tX X.K c (ss.set i (.dat x)) (.ex Pe)))
    (hc : X.calm = true := by rfl) (hN : X.N.Nodup := by assumption) (ok : blkC X.N X.env.scope scope [(y, i)] = true := by rfl) (hun : ss[i]? = some .un := by rfl) (hx : X.N[i]? = some y := by rfl)
    (hl : ∀ (s : Shared) (H : Hp) (C : Addr) (cl : List (Str × Addr)) (fp : List Addr), (X.blk s H scope (compEnvC scope cl C X.env) fp).env.scope.names.lookup y = some .local := by intros; rfl)
    (hs : ∀ x, foldedSetIterable iter X.env x = pure x := by intro _; rfl) : XN X c ss (.ListComp elt [⟨.Name y tpos, iter, [], 0⟩] scope pos) (fun zs : List β => (∀ z ∈ zs, Pe z) ∧ ∃ xs, P0 xs ∧ zs.length = xs.length) := by
  have hib := (List.getElem?_eq_some_iff.mp hun).1
  refine (pe_lc (pos := pos) (g := lcG X.K c ss [i] (fun x : α => ss.set i (.dat x))) (tt := lnT X.K c P0 (fun _ _ b => b = true) (fun x : α => ss.set i (.dat x)))
    (te := lnE X.K c P0 (fun _ _ b => b = true) (fun _ _ w => Pe w) (fun x : α => ss.set i (.dat x))) (own := [(y, i)]) hc hN hi (blkOk_by ok)
    (fun s H C cl fp => PG.all fun x => g_lc1 i hib hN hx (.inl (hl s H C cl fp)) (.inr (hl s H C cl fp)))
    (fun s H C cl fp => pts_wk pts_nil fun σ H' Q ⟨xs, px, j, x, hx, q⟩ => q.2 true H' q.1 (Gr.refl _ _) rfl)
    (fun s H C cl fp => PE.all fun xs => PE.all fun px => PE.all fun j => PE.all fun x => PE.all fun hx => PE.all fun _ => he s H C cl fp x) hs).wk ?_
  exact ln_read (vs0 := [i]) P0 (fun zs : List β => (∀ z ∈ zs, Pe z) ∧ ∃ xs, P0 xs ∧ zs.length = xs.length) (fun xs j zs => (∀ z ∈ zs, Pe z) ∧ zs.length = j) (fun _ _ b => b = true) (fun _ _ w => Pe w) (fun x : α => ss.set i (.dat x)) (fun j hj => by
    obtain rfl := List.mem_singleton.mp hj
    exact hun) hsz (fun xs px => ⟨fun z hz => absurd hz List.not_mem_nil, rfl⟩) (fun xs j zs px hj hI hb => by cases hb) (fun xs j zs z px hj hI _ hz => ⟨fun w hw => (List.mem_append.mp hw).elim (hI.1 w) (fun e => by rw [List.mem_singleton.mp e]; exact hz), by rw [List.length_append, hI.2]; rfl⟩) (fun xs zs px hI => ⟨hI.1, xs, px, hI.2⟩)
end
end Ab

/-! AbPd: things of any kind. -/
namespace Ab
open PySem L2
open Ab.Rp (rp)
open Ab.Dt (toD)
section
variable {K : PySem.W.Frag} {h : Heap} {mg : Str → Option Value} {x : Str} {t : Tok}
theorem int_mk {n : Int} (X : K.In h) (G : h.Ns mainGlobals mg) (a : PySem.W.nsIn K mainGlobals x = some (some (.int n t))) : ∃ t, mg x = some (.int n t) := ⟨t, PySem.W.mg_of X G a⟩
theorem str_mk {n : Str} (X : K.In h) (G : h.Ns mainGlobals mg) (a : PySem.W.nsIn K mainGlobals x = some (some (.str n t))) : ∃ t, mg x = some (.str n t) := ⟨t, PySem.W.mg_of X G a⟩
end
inductive PD
  | non
  | bl (b : Bool)
  | int (n : Int)
  | str (s : Str)
  | tup (xs : List PD)
  | lst (xs : List PD)
mutual
/-- a value that stands for a thing; its lists are frozen -/
inductive Pd (K : PySem.W.Frag) (H : Hp) : V → PD → Prop
  | non : Pd K H .non .non
  | bl {b : Bool} : Pd K H (.bl b) (.bl b)
  | int {n : Int} : Pd K H (.int n) (.int n)
  | str {s : Str} : Pd K H (.str s) (.str s)
  | tup {a : Addr} {vs : List V} {xs : List PD} : SqT K H a vs → Pds K H vs xs → Pd K H (.ref a) (.tup xs)
  | lst {a : Addr} {o : Obj} {vs : List V} {xs : List PD} : H a = some (.frz o (.lst vs)) → Pds K H vs xs → Pd K H (.ref a) (.lst xs)
inductive Pds (K : PySem.W.Frag) (H : Hp) : List V → List PD → Prop
  | nil : Pds K H [] []
  | cons {v : V} {vs : List V} {x : PD} {xs : List PD} : Pd K H v x → Pds K H vs xs → Pds K H (v :: vs) (x :: xs)
end
section
variable {K : PySem.W.Frag} {H H' : Hp}
mutual
theorem Pd.mono (t : Tu H H') : ∀ {v : V} {x : PD}, Pd K H v x → Pd K H' v x
  | _, _, .non => .non
  | _, _, .bl => .bl
  | _, _, .int => .int
  | _, _, .str => .str
  | _, _, .tup h k => .tup (t.sq h) (Pds.mono t k)
  | _, _, .lst h k => .lst (t.2.2 _ _ _ h) (Pds.mono t k)
theorem Pds.mono (t : Tu H H') : ∀ {vs : List V} {xs : List PD}, Pds K H vs xs → Pds K H' vs xs
  | _, _, .nil => .nil
  | _, _, .cons a k => .cons (Pd.mono t a) (Pds.mono t k)
end
end
instance : Rp PD := ⟨fun K H v x => Pd K H v x, fun t h => Pd.mono t h⟩
theorem Pds.rps {K : PySem.W.Frag} {H : Hp} : ∀ {vs : List V} {xs : List PD}, Pds K H vs xs → Rps K H vs xs
  | _, _, .nil => .nil
  | _, _, .cons a k => .cons a (Pds.rps k)
theorem Pds.of {K : PySem.W.Frag} {H : Hp} : ∀ {vs : List V} {xs : List PD}, Rps K H vs xs → Pds K H vs xs
  | _, _, .nil => .nil
  | _, _, .cons a k => .cons a (Pds.of k)
mutual
def PD.bd (n : Nat) : PD → Prop
  | .non => True
  | .bl _ => True
  | .int i => i.natAbs ≤ 10 ^ 30 + 1000 * n
  | .str s => s.length ≤ n
  | .tup xs => xs.length ≤ n ∧ PD.bds n xs
  | .lst xs => xs.length ≤ n ∧ PD.bds n xs
def PD.bds (n : Nat) : List PD → Prop
  | [] => True
  | x :: xs => PD.bd n x ∧ PD.bds n xs
end
theorem PD.bds_iff {n : Nat} : ∀ {xs : List PD}, PD.bds n xs ↔ ∀ x ∈ xs, x.bd n
  | [] => ⟨fun _ _ h => absurd h List.not_mem_nil, fun _ => trivial⟩
  | x :: xs => by
    show (x.bd n ∧ PD.bds n xs) ↔ _
    rw [PD.bds_iff (xs := xs)]
    exact ⟨fun ⟨a, b⟩ y hy => by
      rcases List.mem_cons.mp hy with e | hy
      · rw [e]
        exact a
      · exact b y hy, fun h => ⟨h x (List.mem_cons_self ..), fun y hy => h y (List.mem_cons_of_mem _ hy)⟩⟩
theorem PD.bd_tup {n : Nat} {xs : List PD} : (PD.tup xs).bd n ↔ xs.length ≤ n ∧ ∀ x ∈ xs, x.bd n := by
  show (xs.length ≤ n ∧ PD.bds n xs) ↔ _
  rw [PD.bds_iff]
theorem PD.bd_lst {n : Nat} {xs : List PD} : (PD.lst xs).bd n ↔ xs.length ≤ n ∧ ∀ x ∈ xs, x.bd n := by
  show (xs.length ≤ n ∧ PD.bds n xs) ↔ _
  rw [PD.bds_iff]
mutual
theorem PD.bd_mono {n m : Nat} (h : n ≤ m) : ∀ {x : PD}, x.bd n → x.bd m
  | .non, _ => trivial
  | .bl _, _ => trivial
  | .int i, k => by
    have k : i.natAbs ≤ 10 ^ 30 + 1000 * n := k
    show i.natAbs ≤ 10 ^ 30 + 1000 * m
    omega
  | .str s, k => Nat.le_trans k h
  | .tup xs, k => ⟨Nat.le_trans k.1 h, PD.bds_mono h k.2⟩
  | .lst xs, k => ⟨Nat.le_trans k.1 h, PD.bds_mono h k.2⟩
theorem PD.bds_mono {n m : Nat} (h : n ≤ m) : ∀ {xs : List PD}, PD.bds n xs → PD.bds m xs
  | [], _ => trivial
  | x :: xs, k => ⟨PD.bd_mono h k.1, PD.bds_mono h k.2⟩
end
section
variable {X : Cx} {c : Ctx} {ss : List AV} {a b d e e1 e2 e3 : Expr} {es : List Expr} {pos p p1 p2 : Pos} {α β : Type} [Rp α] [Rp β]
theorem x_glob {x : Str} {v : V} {u : Value} {r : AV} (hm : X.mg x = some u) (q : RelV v u) (k : ∀ H, RsOk X.K c.w H H v r) (hg : Gl X x := by rfl) (hd : (x == ("__debug__" : Str)) = false := by decide) : XE X c ss (.Name x pos) r := x_c (pe_glob hg hm q hd) k
theorem x_globI {x : Str} {n : Int} (hm : ∃ t, X.mg x = some (.int n t)) (hg : Gl X x := by rfl) (hd : (x == ("__debug__" : Str)) = false := by decide) : XE X c ss (.Name x pos) (.dat n) := by
  obtain ⟨t, hm⟩ := hm
  exact x_glob (v := .int n) hm ⟨t, rfl⟩ (fun _ => ⟨n, rfl, rfl⟩) hg hd
theorem x_globS {x : Str} {n : Str} (hm : ∃ t, X.mg x = some (.str n t)) (hg : Gl X x := by rfl) (hd : (x == ("__debug__" : Str)) = false := by decide) : XE X c ss (.Name x pos) (.dat n) := by
  obtain ⟨t, hm⟩ := hm
  exact x_glob (v := .str n) hm ⟨t, rfl⟩ (fun _ => ⟨n, rfl, rfl⟩) hg hd
/-- i <= j <= k -/
theorem x_chain {i j k : Int} (ha : XE X c ss a (.dat i)) (hb : XE X c ss b (.dat j)) (hd : XE X c ss d (.dat k)) (hm : lastMarks [.LtE, .LtE] [b, d] = false := by with_unfolding_all rfl) : XE X c ss (.Compare a [.LtE, .LtE] [b, d] pos) (.dat (decide (i ≤ j) && decide (j ≤ k))) :=
  (pe_chain op_le op_le ha hb hd hm).wk fun σ H Q q => ⟨q.1, fun x H1 a1 g1 ⟨i', h1, p1⟩ => ⟨a1, fun y H2 a2 g2 ⟨j', h2, p2⟩ => by
    subst p1 p2
    have g := g1.trans g2
    refine ⟨i', j', h1, h2, decide (i' ≤ j'), rfl, ?_⟩
    by_cases hij : i' ≤ j'
    · rw [if_pos (decide_eq_true hij)]
      exact ⟨a2, fun z H3 a3 g3 ⟨k', h3, p3⟩ => by
        subst p3
        refine ⟨j', k', h2, h3, ?_⟩
        have z := (q.go a3 (g.trans g3)).giveB
        rw [decide_eq_true hij, Bool.true_and] at z
        exact z⟩
    · rw [if_neg (by rw [decide_eq_false hij]; decide)]
      have z := (q.go a2 g).giveB
      rw [decide_eq_false hij, Bool.false_and] at z
      exact z⟩⟩
theorem t_chain {i j k : Int} (ha : XE X c ss a (.dat i)) (hb : XE X c ss b (.dat j)) (hd : XE X c ss d (.dat k)) (hm : lastMarks [.LtE, .LtE] [b, d] = false := by with_unfolding_all rfl) : XT X c ss (.Compare a [.LtE, .LtE] [b, d] pos) (· = (decide (i ≤ j) && decide (j ≤ k))) :=
  (pt_chain op_le op_le ha hb hd hm).wk fun σ H Q q => ⟨q.1, fun x H1 a1 g1 ⟨i', h1, p1⟩ => ⟨a1, fun y H2 a2 g2 ⟨j', h2, p2⟩ => by
    subst p1 p2
    have g := g1.trans g2
    refine ⟨i', j', h1, h2, decide (i' ≤ j'), rfl, ?_⟩
    by_cases hij : i' ≤ j'
    · rw [if_pos (decide_eq_true hij)]
      exact ⟨a2, fun z H3 a3 g3 ⟨k', h3, p3⟩ => by
        subst p3
        exact ⟨j', k', h2, h3, decide (j' ≤ k'), rfl, q.2 _ H3 a3 (g.trans g3) (by rw [decide_eq_true hij, Bool.true_and])⟩⟩
    · rw [if_neg (by rw [decide_eq_false hij]; decide)]
      exact ⟨false, rfl, q.2 _ H2 a2 g (by rw [decide_eq_false hij, Bool.false_and])⟩⟩⟩
/-- a text walked sign by sign -/
def signs (s : Str) : List Str := s.cps.toList.map fun c => ⟨#[c]⟩
theorem wk_str {K : PySem.W.Frag} {H1 : Hp} {s : Str} : Wk K [] H1 (Its s) (signs s) where
  go := fun i H g hi => by
    unfold signs at hi
    rw [List.length_map, Array.length_toList] at hi
    exact hi
  yld := fun i H x H' g hi y => by
    obtain ⟨e, c, h1, h2⟩ := y
    subst e
    refine ⟨⟨#[c]⟩, ?_, h2, .inl rfl⟩
    unfold signs
    rw [List.getElem?_map, Array.getElem?_toList, h1]
    rfl
  stop := fun i H g hi => by
    unfold signs at hi
    rw [List.length_map, Array.length_toList] at hi
    exact hi
theorem i_str {s : Str} {tg : Expr} (h : XE X c ss e (.dat s)) : XI X c ss tg e (signs s) := (pi_str h).wk fun σ H R q => ⟨q.1, fun v H1 a g ⟨y, h1, e1⟩ => by
  subst e1
  exact ⟨y, h1, q.2 _ H1 [] (a.addpr (fun q hq => absurd hq List.not_mem_nil) (fun _ _ _ _ q hq => absurd hq List.not_mem_nil)) g wk_str⟩⟩
/-- a sign in a text -/
def inStr (s t : Str) : Bool := !(Builtin.Str.occurrences t s 0 t.length 1).isEmpty
theorem o_inStr {s t : Str} : Op2 X.K c (fun x y H Q => ∃ i j, x = .str i ∧ y = .str j ∧ Q (.bl (!(Builtin.Str.occurrences j i 0 j.length 1).isEmpty)) H) (.dat s) (.dat t) (.dat (inStr s t)) := fun _ _ _ _ _ _ _ _ _ ⟨s', h1, q1⟩ ⟨t', h2, q2⟩ z => by
  subst q1 q2
  exact ⟨s', t', h1, h2, z.giveB⟩
theorem x_inStr {s t : Str} (ha : XE X c ss a (.dat s)) (hb : XE X c ss b (.dat t)) (hm : behindInMarks .In b = false := by rfl) : XE X c ss (.Compare a [.In] [b] pos) (.dat (inStr s t)) := x_cmp op_in_str o_inStr ha hb hm
theorem t_niStr {s t : Str} (ha : XE X c ss a (.dat s)) (hb : XE X c ss b (.dat t)) (hm : behindInMarks .NotIn b = false := by rfl) : XT X c ss (.Compare a [.NotIn] [b] pos) (· = !inStr s t) :=
  t_cmpE op_notin_str (ra := .dat s) (rb := .dat t) (P := (· = !inStr s t)) (fun _ _ _ _ _ _ _ _ _ ⟨s', h1, q1⟩ ⟨t', h2, q2⟩ z => by
    subst q1 q2
    exact ⟨s', t', h1, h2, z.giveB⟩) ha hb hm
def ltStr (s t : Str) : Bool := decide (s.cps.toList < t.cps.toList)
theorem x_ltStr {s t : Str} (ha : XE X c ss a (.dat s)) (hb : XE X c ss b (.dat t)) : XE X c ss (.Compare a [.Lt] [b] pos) (.dat (ltStr s t)) :=
  x_cmp op_lt_str (ra := .dat s) (rb := .dat t) (R := .dat (ltStr s t)) (fun _ _ _ _ _ _ _ _ _ ⟨s', h1, q1⟩ ⟨t', h2, q2⟩ z => by
    subst q1 q2
    exact ⟨s', t', h1, h2, z.giveB⟩) ha hb
theorem x_lenStr {s : Str} (hs : s.length ≤ sizeLine) (hm : X.mg "len" = none) (ha : XA X c ss [e] [.dat s]) (hg : Gl X "len" := by rfl) (he : starEach [e] X.env = (false, eval e X.env) :: starEach [] X.env := by rfl) (hpl : (backTo pos (starEach [] X.env)).any (·.1) = false := by rfl) :
    XE X c ss (.Call (.Name "len" p) [e] [] pos) (.dat (s.length : Int)) :=
  x_blt (R := .dat (s.length : Int)) call_len_str hm boot_len ha (fun σ H H1 vs Q j g ok t => by
    obtain ⟨v, rfl, s', h, q⟩ := ok.one
    subst q
    exact ⟨s', by rw [show v = V.str s' from h], hs, t.giveI⟩) hg (by decide) (by decide) he hpl
end
/-! ### what a thing is -/
def PD.ty : PD → String
  | .non => "NoneType"
  | .bl _ => "bool"
  | .int _ => "int"
  | .str _ => "str"
  | .tup _ => "tuple"
  | .lst _ => "list"
theorem Pd.tyX {K : PySem.W.Frag} {H : Hp} {v : V} {x : PD} (h : Pd K H v x) : TyX K H v (.type x.ty) := by
  cases h with
  | non => exact .base .non
  | bl => exact .base (.bl _)
  | int => exact .base (.int _)
  | str => exact .base (.str _)
  | lst h k => exact .base (.frz h)
  | tup h k =>
    rcases h with (h | ⟨o, h⟩) | ⟨o, its, n, h1, h2, _⟩
    · exact .base (.tup h)
    · exact .fTuple h
    · exact .kTuple h1 h2
def tyIs (a T : String) : Bool := a == T || (a == "bool" && T == "int")
def PD.isT (x : PD) (T : String) : Bool := tyIs x.ty T
theorem kitB_all : ∀ a ∈ ["NoneType", "bool", "int", "str", "tuple", "list"], ∀ T ∈ ["int", "bool", "str", "tuple"], kitB a T = some (tyIs a T) := by decide +kernel
theorem kitB_isT (x : PD) : ∀ T ∈ ["int", "bool", "str", "tuple"], kitB x.ty T = some (x.isT T) := kitB_all x.ty (by cases x <;> simp [PD.ty])
section
variable {X : Cx} {c : Ctx} {ss : List AV} {a e : Expr} {pos p p1 : Pos}
theorem x_isT {x : Str} {T : String} {y : PD} (hT : T ∈ ["int", "bool", "str", "tuple"]) (hv : bootBuiltins x = some (.type T)) (hm : X.mg "isinstance" = none) (hb : X.mg x = none) (ha : XE X c ss a (.dat y)) (hg : Gl X "isinstance" := by rfl) (hg2 : Gl X x := by rfl) (he : starEach (a :: [.Name x p1]) X.env = (false, eval a X.env) :: starEach [.Name x p1] X.env := by rfl) (he2 : starEach [.Name x p1] X.env = (false, eval (.Name x p1) X.env) :: starEach [] X.env := by rfl) (hpl : (backTo pos (starEach [.Name x p1] X.env)).any (·.1) = false := by rfl) (hn : x ≠ "__name__" := by decide) (hd : (x == ("__debug__" : Str)) = false := by decide) :
    XE X c ss (.Call (.Name "isinstance" p) [a, .Name x p1] [] pos) (.dat (y.isT T)) :=
  x_blt (R := .dat (y.isT T)) call_isi hm (by decide +kernel) (xa_cons ha (xa_cons (x_ty (T := T) hb hv hg2 hn hd) xa_nil he2) he) (fun σ H H1 vs Q j g ok t => by
    obtain ⟨v, u, rfl, ⟨w, hw, q⟩, hu⟩ := ok.two
    subst q
    have hw : Pd X.K H1 v w := hw
    have hu : u = .ty T := hu
    subst hu
    exact ⟨v, .ty T, .type w.ty, .type T, w.isT T, rfl, .ty T, hw.tyX, kit_ty (kitB_isT w T hT), t.giveB⟩) hg (by decide) (by decide) he hpl
/-- the parts of a thing -/
theorem x_pdI {n : Int} (h : XE X c ss e (.dat (PD.int n))) : XE X c ss e (.dat n) := x_conv h fun H H' v _ ⟨y, k, q⟩ => by
  have q : y = .int n := q
  subst q
  cases (show Pd X.K H' v (.int n) from k)
  exact ⟨n, rfl, rfl⟩
theorem x_pdS {n : Str} (h : XE X c ss e (.dat (PD.str n))) : XE X c ss e (.dat n) := x_conv h fun H H' v _ ⟨y, k, q⟩ => by
  have q : y = .str n := q
  subst q
  cases (show Pd X.K H' v (.str n) from k)
  exact ⟨n, rfl, rfl⟩
theorem x_pdT {xs : List PD} (h : XE X c ss e (.dat (PD.tup xs))) : XE X c ss e (.dat xs) := x_conv h fun H H' v _ ⟨y, k, q⟩ => by
  have q : y = .tup xs := q
  subst q
  cases (show Pd X.K H' v (.tup xs) from k) with
  | tup st r => exact ⟨xs, ⟨_, _, rfl, st, r.rps⟩, rfl⟩
theorem x_toI {n : Int} (h : XE X c ss e (.dat n)) : XE X c ss e (.dat (PD.int n)) := x_conv h fun H H' v _ ⟨y, k, q⟩ => by
  obtain rfl : v = .int y := k
  obtain rfl : y = n := q
  exact ⟨_, Pd.int, rfl⟩
theorem x_toS {n : Str} (h : XE X c ss e (.dat n)) : XE X c ss e (.dat (PD.str n)) := x_conv h fun H H' v _ ⟨y, k, q⟩ => by
  obtain rfl : v = .str y := k
  obtain rfl : y = n := q
  exact ⟨_, Pd.str, rfl⟩
theorem x_toB {n : Bool} (h : XE X c ss e (.dat n)) : XE X c ss e (.dat (PD.bl n)) := x_conv h fun H H' v _ ⟨y, k, q⟩ => by
  obtain rfl : v = .bl y := k
  obtain rfl : y = n := q
  exact ⟨_, Pd.bl, rfl⟩
theorem x_toT {xs : List PD} (h : XE X c ss e (.dat xs)) : XE X c ss e (.dat (PD.tup xs)) := x_conv h fun H H' v _ ⟨y, ⟨a, vs, ev, st, r⟩, q⟩ => by
  obtain rfl : y = xs := q
  subst ev
  exact ⟨_, Pd.tup st (Pds.of r), rfl⟩
theorem x_toN {j : Nat} : XE X c ss (.Constant .none j pos) (.dat PD.non) := x_c pe_non fun H => ⟨.non, Pd.non, rfl⟩
/-- an item by a written place -/
theorem x_ixC {α : Type} [Rp α] {ys : List α} {y : α} {n : Int} {k : Nat} {p2 : Pos} (hy : atI ys n = some y) (ha : XE X c ss e (.dat ys)) : XE X c ss (.Subscript e (.Constant (.int n) k p2) pos) (.dat y) :=
  x_ixT (P := fun zs : List α => zs = ys) (fun H v zs ⟨a, vs, ev, st, r⟩ q => by
    subst q
    unfold atI at hy
    cases hj : ixN zs.length n with
    | none => rw [hj] at hy; cases hy
    | some j =>
      rw [hj] at hy
      obtain ⟨u, h1, h2⟩ := r.get (show zs[j]? = some y from hy)
      refine ⟨a, vs, u, y, ev, st, ?_, h2, rfl⟩
      unfold atI
      rw [r.len, hj]
      exact h1) ha
/-- a list of one's own is frozen: from here on it is only read -/
theorem At.freeze {K : PySem.W.Frag} {c : Ctx} {ss : List AV} {σ : L2.St} {Hb H : Hp} {p : Addr} {us : List V} {o : Obj} (b : At K c ss σ Hb) (n : Nf Hb p) (a : At K c ss σ H) (h : H p = some (.lst us)) : At K c ss σ (upd H p (.frz o (.lst us))) := b.outO n a h (fun z => z)
theorem x_freeze {xs : List PD} (h : XE X c ss e (.own xs)) : XE X c ss e (.dat (PD.lst xs)) := ⟨fun pins s σ H Q I q => by
  refine thn (h.run pins s σ H (fun v H' => At X.K c ss σ H' ∧ Gr c.w H H' ∧ RsOk X.K c.w H H' v (.own xs)) I ⟨q.1, fun v H' a g ok => ⟨a, g, ok⟩⟩) fun v s1 ⟨x, H1, I1, r1, a1, g1, p, vs, ev, nf, hp, r⟩ => ?_
  obtain ⟨od, I2⟩ := I1.lock hp (mu := trivial)
  subst ev
  have t : Tu H1 (upd H1 p (.frz od (.lst vs))) := Tu.putO hp (fun xs z => by cases z) (fun q u z => by cases z)
  exact ⟨.ref p, _, I2, r1, q.2 (.ref p) _ (At.freeze q.1 nf a1 hp) (g1.putO nf) ⟨.lst xs, Pd.lst upd_same (Pds.of (r.mono t)), rfl⟩⟩⟩
end
end Ab

/-! M21: other measures. -/
namespace SM
open Ab PySem
open Ab.Rp (rp)
open Ab.Dt (toD)
def chg (f g : Int) (ν : Str → Str) (r : Rope) : Rope := ⟨ν r.name, r.slack * f, r.stiff * g, r.strong * f * g⟩
/-- order is kept among these -/
def Ren (A : List Str) (ν : Str → Str) : Prop := ∀ m ∈ A, ∀ n ∈ A, sle (ν m) (ν n) = sle m n
theorem Ren.inj {A : List Str} {ν : Str → Str} (h : Ren A ν) {m n : Str} (hm : m ∈ A) (hn : n ∈ A) (e : ν m = ν n) : m = n := by
  have h1 := h m hm n hn
  have h2 := h n hn m hm
  rw [e] at h1 h2
  have r : sle (ν n) (ν n) = true := decide_eq_true (List.le_refl _)
  rw [r] at h1 h2
  exact str_antisymm (of_decide_eq_true h1.symm) (of_decide_eq_true h2.symm)
section
variable {f g : Int} {ν : Str → Str} {A : List Str}
abbrev cs (f g : Int) (ν : Str → Str) (rs : List Rope) : List Rope := rs.map (chg f g ν)
abbrev kR (f g : Int) : Rat := (f : Rat) * (g : Rat)
theorem kR_pos (hf : 0 < f) (hg : 0 < g) : 0 < kR f g := Rat.mul_pos (Rat.intCast_pos.mpr hf) (Rat.intCast_pos.mpr hg)
theorem pull_chg (hf : 0 < f) (r : Rope) (u : Rat) : pullR (chg f g ν r) ((f : Rat) * u) = kR f g * pullR r u := by
  have hF : (0 : Rat) < (f : Rat) := Rat.intCast_pos.mpr hf
  have e : ((chg f g ν r).slack : Rat) = (f : Rat) * (r.slack : Rat) := by
    show ((r.slack * f : Int) : Rat) = _
    rw [Rat.intCast_mul]
    exact Rat.mul_comm _ _
  have e2 : ((chg f g ν r).stiff : Rat) = (r.stiff : Rat) * (g : Rat) := by
    show ((r.stiff * g : Int) : Rat) = _
    rw [Rat.intCast_mul]
  unfold pullR
  rw [e, e2]
  by_cases h : (r.slack : Rat) < u
  · rw [if_pos h, if_pos (Rat.mul_lt_mul_of_pos_left h hF)]
    grind
  · rw [if_neg h, if_neg (fun z => h ((Rat.mul_lt_mul_left hF).mp z))]
    grind
theorem total_chg (hf : 0 < f) (u : Rat) : ∀ rs : List Rope, total (cs f g ν rs) ((f : Rat) * u) = kR f g * total rs u
  | [] => by
    show (0 : Rat) = _ * 0
    grind
  | r :: rs => by
    show total (chg f g ν r :: cs f g ν rs) _ = _
    rw [total_cons, total_cons, total_chg hf u rs, pull_chg hf]
    grind
theorem sunk_chg (hf : 0 < f) (hg : 0 < g) {rs : List Rope} (ho : ∀ r ∈ rs, Ok r) (ho2 : ∀ r ∈ rs, Ok (chg f g ν r)) {l : Rat} (hl : 0 ≤ l) : sunkBy (cs f g ν rs) (kR f g * l) = (sunkBy rs l).map ((f : Rat) * ·) := by
  have hk := kR_pos hf hg
  by_cases h0 : l = 0
  · subst h0
    rw [Rat.mul_zero, sunkBy_zero, sunkBy_zero]
    show some 0 = some ((f : Rat) * 0)
    rw [Rat.mul_zero]
  · have hl : 0 < l := by grind
    have hkl : 0 < kR f g * l := Rat.mul_pos hk hl
    by_cases hn : rs = []
    · subst hn
      rw [sunkBy_nil hl]
      exact sunkBy_nil hkl
    · obtain ⟨u, e1, e2⟩ := sunkBy_spec ho hn hl
      have ho3 : ∀ r ∈ cs f g ν rs, Ok r := fun r hr => by
        obtain ⟨q, hq, rfl⟩ := List.mem_map.mp hr
        exact ho2 q hq
      obtain ⟨v, e3, e4⟩ := sunkBy_spec ho3 (fun z => hn (List.map_eq_nil_iff.mp z)) hkl
      rw [e1, e3]
      have e5 : total (cs f g ν rs) ((f : Rat) * u) = kR f g * l := by rw [total_chg hf, e2]
      rw [total_inj ho3 hkl e4 e5]
      rfl
theorem left_chg (R : Ren A ν) {rs : List Rope} {ns : List Str} (h1 : ∀ r ∈ rs, r.name ∈ A) (h2 : ∀ n ∈ ns, n ∈ A) : left (cs f g ν rs) (ns.map ν) = cs f g ν (left rs ns) := by
  unfold left
  rw [List.filter_map]
  congr 1
  apply List.filter_congr
  intro r hr
  show (!decide (ν r.name ∈ ns.map ν)) = _
  congr 1
  apply decide_eq_decide.mpr
  constructor
  · intro z
    obtain ⟨n, hn, e⟩ := List.mem_map.mp z
    rw [← R.inj (h2 n hn) (h1 r hr) e]
    exact hn
  · intro z
    exact List.mem_map.mpr ⟨_, z, rfl⟩
theorem end_chg (hf : 0 < f) (hg : 0 < g) {r : Rope} (h : Ok r) : endR (chg f g ν r) = (f : Rat) * endR r := by
  have hs := stiff_pos h
  have hG : (0 : Rat) < (g : Rat) := Rat.intCast_pos.mpr hg
  unfold endR
  show (((r.slack * f) * (r.stiff * g) + r.strong * f * g : Int) : Rat) / ((r.stiff * g : Int) : Rat) = _
  simp only [Rat.intCast_add, Rat.intCast_mul]
  have h1 : (r.stiff : Rat) ≠ 0 := by grind
  have h2 : (g : Rat) ≠ 0 := by grind
  rw [Rat.div_def, Rat.div_def, Rat.inv_mul_rev]
  have h3 : (r.stiff : Rat) * (r.stiff : Rat)⁻¹ = 1 := Rat.mul_inv_cancel _ h1
  have h4 : (g : Rat) * (g : Rat)⁻¹ = 1 := Rat.mul_inv_cancel _ h2
  grind
theorem gives_chg (hf : 0 < f) (hg : 0 < g) (r : Rope) (u : Rat) : gives ((f : Rat) * u) (chg f g ν r) = gives u r := by
  have hk := kR_pos hf hg
  unfold gives
  rw [pull_chg hf]
  have e : ((chg f g ν r).strong : Rat) = kR f g * (r.strong : Rat) := by
    show ((r.strong * f * g : Int) : Rat) = _
    rw [Rat.intCast_mul, Rat.intCast_mul]
    grind
  rw [e]
  exact decide_eq_decide.mpr (Rat.mul_lt_mul_left hk)
theorem wave_chg (R : Ren A ν) (hf : 0 < f) (hg : 0 < g) {rs : List Rope} (ho : ∀ r ∈ rs, Ok r) (ho2 : ∀ r ∈ rs, Ok (chg f g ν r)) (h1 : ∀ r ∈ rs, r.name ∈ A) {l : Rat} (hl : 0 ≤ l) {ns : List Str} (h2 : ∀ n ∈ ns, n ∈ A) : wave (cs f g ν rs) (ns.map ν) (kR f g * l) = (wave rs ns l).map ν := by
  have hs : sunkBy (left (cs f g ν rs) (ns.map ν)) (kR f g * l) = (sunkBy (left rs ns) l).map ((f : Rat) * ·) := by
    rw [left_chg R h1 h2]
    exact sunk_chg hf hg (left_ok ho) (fun r hr => ho2 r (List.mem_filter.mp hr).1) hl
  cases e : sunkBy (left rs ns) l with
  | none =>
    rw [e] at hs
    rw [wave_none hs, wave_none e]
    rfl
  | some u =>
    rw [e] at hs
    rw [wave_some hs, wave_some e, left_chg R h1 h2, List.filter_map, List.map_map, List.map_map]
    have : (gives ((f : Rat) * u) ∘ chg f g ν) = gives u := by
      funext r
      exact gives_chg hf hg r u
    rw [this]
    rfl
theorem wave_in_A {rs : List Rope} (h1 : ∀ r ∈ rs, r.name ∈ A) {l : Rat} {ns : List Str} (h2 : ∀ n ∈ ns, n ∈ A) : ∀ n ∈ ns ++ wave rs ns l, n ∈ A := fun n hn => by
  rcases List.mem_append.mp hn with h | h
  · exact h2 n h
  · obtain ⟨r, hr, e⟩ := wave_mem h
    rw [← e]
    exact h1 r (List.mem_filter.mp hr).1
theorem fin_chg (R : Ren A ν) (hf : 0 < f) (hg : 0 < g) {rs : List Rope} (ho : ∀ r ∈ rs, Ok r) (ho2 : ∀ r ∈ rs, Ok (chg f g ν r)) (h1 : ∀ r ∈ rs, r.name ∈ A) {l : Rat} (hl : 0 ≤ l) (ns : List Str) : (∀ n ∈ ns, n ∈ A) → fin (cs f g ν rs) (ns.map ν) (kR f g * l) = ((fin rs ns l).1.map (·.map ν), (fin rs ns l).2.map ν) := by
  refine fin_ind (rs := rs) (l := l) (p := fun ns => (∀ n ∈ ns, n ∈ A) → fin (cs f g ν rs) (ns.map ν) (kR f g * l) = ((fin rs ns l).1.map (·.map ν), (fin rs ns l).2.map ν)) (fun ns e h2 => ?_) (fun ns e ih h2 => ?_) ns
  · have e2 := wave_chg R hf hg ho ho2 h1 hl h2
    rw [e] at e2
    rw [fin_end e2, fin_end e]
    rfl
  · have e2 := wave_chg R hf hg ho ho2 h1 hl h2
    have e3 : wave (cs f g ν rs) (ns.map ν) (kR f g * l) ≠ [] := by
      rw [e2]
      exact fun z => e (List.map_eq_nil_iff.mp z)
    rw [fin_step e3, fin_step e, e2, ← List.map_append, ih (wave_in_A h1 h2)]
    rfl
theorem srt_map (R : Ren A ν) {ns : List Str} (h : ∀ n ∈ ns, n ∈ A) : srt (ns.map ν) = (srt ns).map ν := by
  have p1 : (ns.map ν).Perm ((srt ns).map ν) := (srt_perm ns).symm.map ν
  rw [srt_eq_of_perm p1]
  rw [srt_str]
  apply List.mergeSort_of_pairwise
  rw [List.pairwise_map]
  refine List.Pairwise.imp_of_mem (fun {a b} ha hb hab => ?_) (srt_sorted ns)
  have := R a (h a ((srt_perm ns).mem_iff.mp ha)) b (h b ((srt_perm ns).mem_iff.mp hb))
  unfold sle at this hab
  rw [this]
  exact hab
theorem fin_A {rs : List Rope} (h1 : ∀ r ∈ rs, r.name ∈ A) {l : Rat} {ns : List Str} (h2 : ∀ n ∈ ns, n ∈ A) : ∀ n ∈ (fin rs ns l).2, n ∈ A := fun n hn => by
  rcases fin_mem ns hn with h | ⟨r, hr, e⟩
  · exact h2 n h
  · rw [← e]
    exact h1 r hr
theorem broken_A {rs : List Rope} (h1 : ∀ r ∈ rs, r.name ∈ A) {l : Rat} {ns : List Str} (h2 : ∀ n ∈ ns, n ∈ A) : ∀ n ∈ brokenBy rs ns l, n ∈ A := fun n hn => fin_A h1 h2 n (mem_broken.mp hn)
theorem broken_chg (R : Ren A ν) (hf : 0 < f) (hg : 0 < g) {rs : List Rope} (ho : ∀ r ∈ rs, Ok r) (ho2 : ∀ r ∈ rs, Ok (chg f g ν r)) (h1 : ∀ r ∈ rs, r.name ∈ A) {l : Rat} (hl : 0 ≤ l) {ns : List Str} (h2 : ∀ n ∈ ns, n ∈ A) : brokenBy (cs f g ν rs) (ns.map ν) (kR f g * l) = (brokenBy rs ns l).map ν := by
  unfold brokenBy
  rw [fin_chg R hf hg ho ho2 h1 hl ns h2]
  exact srt_map R (fin_A h1 h2)
theorem ord_map {k : Rat} (hk : 0 < k) (xs : List Rat) : ordR (xs.map (k * ·)) = (ordR xs).map (k * ·) := by
  have l1 := ord_lt (xs.map (k * ·))
  have l2 : ((ordR xs).map (k * ·)).Pairwise fun a b => a < b := by
    rw [List.pairwise_map]
    exact (ord_lt xs).imp fun h => Rat.mul_lt_mul_of_pos_left h hk
  have w : ∀ {l : List Rat}, (l.Pairwise fun a b => a < b) → l.Pairwise fun a b => rle a b = true := fun h => h.imp fun h => decide_eq_true (Rat.le_of_lt h)
  have nd : ∀ {l : List Rat}, (l.Pairwise fun a b => a < b) → l.Nodup := fun h => h.imp fun h e => by
    rw [e] at h
    exact Rat.lt_irrefl h
  refine sorted_eq (w l1) (w l2) ((List.perm_ext_iff_of_nodup (nd l1) (nd l2)).mpr fun q => ?_)
  rw [ord_mem]
  constructor
  · intro h
    obtain ⟨x, hx, e⟩ := List.mem_map.mp h
    exact List.mem_map.mpr ⟨x, ord_mem.mpr hx, e⟩
  · intro h
    obtain ⟨x, hx, e⟩ := List.mem_map.mp h
    exact List.mem_map.mpr ⟨x, ord_mem.mp hx, e⟩
theorem ends_chg (hf : 0 < f) (hg : 0 < g) {rs : List Rope} (ho : ∀ r ∈ rs, Ok r) : (cs f g ν rs).map endR = (rs.map endR).map ((f : Rat) * ·) := by
  rw [List.map_map, List.map_map]
  exact List.map_congr_left fun r hr => end_chg hf hg (ho r hr)
theorem atE_chg (hf : 0 < f) (hg : 0 < g) {rs : List Rope} (ho : ∀ r ∈ rs, Ok r) (e : Rat) : atE (cs f g ν rs) ((f : Rat) * e) = cs f g ν (atE rs e) := by
  unfold atE
  rw [List.filter_map]
  congr 1
  apply List.filter_congr
  intro r hr
  show (!decide (endR (chg f g ν r) < (f : Rat) * e)) = _
  rw [end_chg hf hg (ho r hr)]
  congr 1
  exact decide_eq_decide.mpr (Rat.mul_lt_mul_left (Rat.intCast_pos.mpr hf))
theorem loadAt_chg (hf : 0 < f) (hg : 0 < g) {rs : List Rope} (ho : ∀ r ∈ rs, Ok r) (e : Rat) : loadAt (cs f g ν rs) ((f : Rat) * e) = kR f g * loadAt rs e := by
  unfold loadAt
  rw [atE_chg hf hg ho, total_chg hf]
theorem table_chg (hf : 0 < f) (hg : 0 < g) {rs : List Rope} (ho : ∀ r ∈ rs, Ok r) : tableR (cs f g ν rs) = (tableR rs).map fun z => ((f : Rat) * z.1, kR f g * z.2) := by
  unfold tableR
  rw [ends_chg hf hg ho, ord_map (Rat.intCast_pos.mpr hf), List.map_map, List.map_map]
  exact List.map_congr_left fun e _ => by
    show ((f : Rat) * e, loadAt (cs f g ν rs) ((f : Rat) * e)) = ((f : Rat) * e, kR f g * loadAt rs e)
    rw [loadAt_chg hf hg ho]
theorem best_chg (hf : 0 < f) (hg : 0 < g) {rs : List Rope} (ho : ∀ r ∈ rs, Ok r) : bestR (cs f g ν rs) = kR f g * bestR rs := by
  unfold bestR
  have e : (tableR (cs f g ν rs)).map Prod.snd = ((tableR rs).map Prod.snd).map (kR f g * ·) := by
    rw [table_chg hf hg ho, List.map_map, List.map_map]
    rfl
  rw [e, ord_map (kR_pos hf hg), List.getLast?_map]
  cases (ordR ((tableR rs).map Prod.snd)).getLast? with
  | none => exact (Rat.mul_zero _).symm
  | some q => rfl
theorem minE_chg (hf : 0 < f) (hg : 0 < g) {rs : List Rope} (ho : ∀ r ∈ rs, Ok r) : minE (cs f g ν rs) = (f : Rat) * minE rs := by
  unfold minE
  rw [ends_chg hf hg ho, ord_map (Rat.intCast_pos.mpr hf), List.head?_map]
  cases (ordR (rs.map endR)).head? with
  | none => exact (Rat.mul_zero _).symm
  | some q => rfl
theorem PL_chg (hf : 0 < f) (hg : 0 < g) {rs : List Rope} (ho : ∀ r ∈ rs, Ok r) : PL (cs f g ν rs) = kR f g * PL rs := by
  unfold PL
  rw [minE_chg hf hg ho, total_chg hf]
theorem wave2_none {rs : List Rope} {B : List Str} {l : Rat} (h : sunkBy (left rs B) l = none) : wave2 rs B l = [] := by unfold wave2; rw [h]
theorem wave2_chg (R : Ren A ν) (hf : 0 < f) (hg : 0 < g) {rs : List Rope} (ho : ∀ r ∈ rs, Ok r) (ho2 : ∀ r ∈ rs, Ok (chg f g ν r)) (h1 : ∀ r ∈ rs, r.name ∈ A) {l : Rat} (hl : 0 ≤ l) {ns : List Str} (h2 : ∀ n ∈ ns, n ∈ A) : wave2 (cs f g ν rs) (ns.map ν) (kR f g * l) = (wave2 rs ns l).map ν := by
  have hs : sunkBy (left (cs f g ν rs) (ns.map ν)) (kR f g * l) = (sunkBy (left rs ns) l).map ((f : Rat) * ·) := by
    rw [left_chg R h1 h2]
    exact sunk_chg hf hg (left_ok ho) (fun r hr => ho2 r (List.mem_filter.mp hr).1) hl
  cases e : sunkBy (left rs ns) l with
  | none =>
    rw [e] at hs
    rw [wave2_none hs, wave2_none e]
    rfl
  | some u =>
    rw [e] at hs
    rw [wave2_some hs, wave2_some e, left_chg R h1 h2, List.filter_map, List.map_map, List.map_map]
    have : ∀ r ∈ left rs ns, ((fun r => !decide ((f : Rat) * u < endR r)) ∘ chg f g ν) r = !decide (u < endR r) := fun r hr => by
      show (!decide ((f : Rat) * u < endR (chg f g ν r))) = _
      rw [end_chg hf hg (left_ok ho r hr)]
      congr 1
      exact decide_eq_decide.mpr (Rat.mul_lt_mul_left (Rat.intCast_pos.mpr hf))
    rw [List.filter_congr this]
    rfl
theorem wave2_A {rs : List Rope} (h1 : ∀ r ∈ rs, r.name ∈ A) {l : Rat} {ns : List Str} (h2 : ∀ n ∈ ns, n ∈ A) : ∀ n ∈ srt (ns ++ wave2 rs ns l), n ∈ A := fun n hn => by
  rcases List.mem_append.mp (mem_srt.mp hn) with h | h
  · exact h2 n h
  · obtain ⟨r, hr, e, _⟩ := wave2_mem h
    rw [← e]
    exact h1 r (List.mem_filter.mp hr).1
theorem beyond_chg (R : Ren A ν) (hf : 0 < f) (hg : 0 < g) {rs : List Rope} (ho : ∀ r ∈ rs, Ok r) (ho2 : ∀ r ∈ rs, Ok (chg f g ν r)) (h1 : ∀ r ∈ rs, r.name ∈ A) {l : Rat} (hl : 0 ≤ l) (ns : List Str) : (∀ n ∈ ns, n ∈ A) → beyondT (cs f g ν rs) (ns.map ν) (kR f g * l) = (beyondT rs ns l).map ν ∧ ∀ n ∈ beyondT rs ns l, n ∈ A := by
  refine beyond_ind (rs := rs) (l := l) (p := fun ns => (∀ n ∈ ns, n ∈ A) → beyondT (cs f g ν rs) (ns.map ν) (kR f g * l) = (beyondT rs ns l).map ν ∧ ∀ n ∈ beyondT rs ns l, n ∈ A) (fun ns e h2 => ?_) (fun ns e ih h2 => ?_) _ ns (Nat.le_refl _)
  · have e2 := wave2_chg R hf hg ho ho2 h1 hl h2
    rw [e] at e2
    rw [beyond_end e2, beyond_end e]
    exact ⟨rfl, h2⟩
  · have e2 := wave2_chg R hf hg ho ho2 h1 hl h2
    have e3 : wave2 (cs f g ν rs) (ns.map ν) (kR f g * l) ≠ [] := by
      rw [e2]
      exact fun z => e (List.map_eq_nil_iff.mp z)
    have hA := wave2_A (l := l) h1 h2
    rw [beyond_step e3, beyond_step e, e2, ← List.map_append, srt_map R (fun n hn => hA n (mem_srt.mpr hn))]
    exact ih hA
end
end SM

/-! M22: other measures: steps, guards. -/
namespace SM
open Ab PySem
open Ab.Rp (rp)
open Ab.Dt (toD)
section
variable {f g : Int} {ν : Str → Str} {A : List Str}
/-- all that is asked of a bundle and its measures -/
structure Chg (A : List Str) (f g : Int) (ν : Str → Str) (rs : List Rope) : Prop where
  R : Ren A ν
  f0 : 0 < f
  g0 : 0 < g
  ok : ∀ r ∈ rs, Ok r
  ok2 : ∀ r ∈ rs, Ok (chg f g ν r)
  nm : ∀ r ∈ rs, r.name ∈ A
variable {rs : List Rope} (C : Chg A f g ν rs)
include C
theorem Chg.left {ns : List Str} (h : ∀ n ∈ ns, n ∈ A) : left (cs f g ν rs) (ns.map ν) = cs f g ν (left rs ns) := left_chg C.R C.nm h
theorem Chg.sunk {ns : List Str} (h : ∀ n ∈ ns, n ∈ A) {l : Rat} (hl : 0 ≤ l) : sunkBy (SM.left (cs f g ν rs) (ns.map ν)) (kR f g * l) = (sunkBy (SM.left rs ns) l).map ((f : Rat) * ·) := by
  rw [C.left h]
  exact sunk_chg C.f0 C.g0 (left_ok C.ok) (fun r hr => C.ok2 r (List.mem_filter.mp hr).1) hl
theorem Chg.broken {ns : List Str} (h : ∀ n ∈ ns, n ∈ A) {l : Rat} (hl : 0 ≤ l) : brokenBy (cs f g ν rs) (ns.map ν) (kR f g * l) = (brokenBy rs ns l).map ν := broken_chg C.R C.f0 C.g0 C.ok C.ok2 C.nm hl h
theorem Chg.Ld0 {k : Nat} {B : List Str} (hA : ∀ n ∈ Bk rs B k, n ∈ A) (e : Bk (cs f g ν rs) (B.map ν) k = (Bk rs B k).map ν) : Ld (cs f g ν rs) (B.map ν) k = kR f g * Ld rs B k := by
  unfold Ld
  rw [e, C.left hA, PL_chg C.f0 C.g0 (left_ok C.ok)]
theorem Chg.Ldnn {k : Nat} {B : List Str} : 0 ≤ Ld rs B k := total_nonneg (left_ok C.ok) _
theorem Chg.Bk {B : List Str} (hB : ∀ n ∈ B, n ∈ A) : ∀ k, Bk (cs f g ν rs) (B.map ν) k = (Bk rs B k).map ν ∧ ∀ n ∈ Bk rs B k, n ∈ A
  | 0 => ⟨rfl, hB⟩
  | k + 1 => by
    obtain ⟨ih1, ih2⟩ := Chg.Bk hB k
    have z := beyond_chg C.R C.f0 C.g0 C.ok C.ok2 C.nm (C.Ldnn (k := k) (B := B)) (SM.Bk rs B k) ih2
    rw [Bk_succ, Bk_succ, C.Ld0 ih2 ih1, ih1]
    exact z
theorem Chg.Ld {B : List Str} (hB : ∀ n ∈ B, n ∈ A) (k : Nat) : Ld (cs f g ν rs) (B.map ν) k = kR f g * Ld rs B k := C.Ld0 (C.Bk hB k).2 (C.Bk hB k).1
theorem Chg.notIn {B : List Str} (hB : ∀ n ∈ B, n ∈ A) {n : Str} (hn : n ∈ A) : ν n ∈ B.map ν ↔ n ∈ B := by
  constructor
  · intro h
    obtain ⟨m, hm, e⟩ := List.mem_map.mp h
    rw [← C.R.inj (hB m hm) hn e]
    exact hm
  · exact fun h => List.mem_map.mpr ⟨n, h, rfl⟩
theorem Chg.stepAt {B : List Str} (hB : ∀ n ∈ B, n ∈ A) (k : Nat) : stepAt (cs f g ν rs) (B.map ν) k = (kR f g * (stepAt rs B k).1, (stepAt rs B k).2.map ν) := by
  obtain ⟨b1, b2⟩ := C.Bk hB k
  obtain ⟨c1, c2⟩ := C.Bk hB (k + 1)
  unfold SM.stepAt
  rw [C.Ld hB, b1, c1, List.filter_map]
  refine Prod.ext rfl ?_
  show ((SM.Bk rs B (k + 1)).filter _).map ν = ((SM.Bk rs B (k + 1)).filter _).map ν
  congr 1
  apply List.filter_congr
  intro n hn
  show (!decide (ν n ∈ (SM.Bk rs B k).map ν)) = _
  congr 1
  exact decide_eq_decide.mpr (C.notIn b2 (c2 n hn))
theorem Chg.kEnd {B : List Str} (hB : ∀ n ∈ B, n ∈ A) : kEnd (cs f g ν rs) (B.map ν) = kEnd rs B := by
  unfold SM.kEnd
  rw [List.length_map]
  congr 1
  funext k
  obtain ⟨b1, b2⟩ := C.Bk hB k
  rw [b1, C.left b2]
  exact decide_eq_decide.mpr List.map_eq_nil_iff
theorem Chg.steps {B : List Str} (hB : ∀ n ∈ B, n ∈ A) : stepsR (cs f g ν rs) (B.map ν) = (stepsR rs B).map fun z => (kR f g * z.1, z.2.map ν) := by
  unfold stepsR
  rw [C.kEnd hB, List.map_map]
  exact List.map_congr_left fun k _ => C.stepAt hB k
theorem Chg.wt {B : List Str} (hB : ∀ n ∈ B, n ∈ A) {nm : Str} (hn : nm ∈ A) : wtR (cs f g ν rs) (B.map ν) (ν nm) = kR f g * wtR rs B nm := by
  have e : wtList (cs f g ν rs) (B.map ν) (ν nm) = (wtList rs B nm).map (kR f g * ·) := by
    unfold wtList
    rw [C.steps hB, List.filter_map, List.map_map, List.map_map]
    have : ∀ z ∈ stepsR rs B, ((fun z : Rat × List Str => decide (ν nm ∈ z.2)) ∘ fun z : Rat × List Str => (kR f g * z.1, z.2.map ν)) z = decide (nm ∈ z.2) := fun z hz => by
      obtain ⟨k, hk, e⟩ := step_mem hz
      refine decide_eq_decide.mpr (C.notIn (fun n hn => ?_) hn)
      rw [e] at hn
      exact (C.Bk hB (k + 1)).2 n (in_step.mp hn).1
    rw [List.filter_congr this]
    rfl
  unfold wtR
  rw [e, List.head?_map]
  cases (wtList rs B nm).head? with
  | none => exact (Rat.mul_zero _).symm
  | some q => rfl
theorem Chg.names : (cs f g ν rs).map Rope.name = (rs.map Rope.name).map ν := by
  rw [List.map_map, List.map_map]
  rfl
theorem Chg.guards : guardsR (cs f g ν rs) = (guardsR rs).map fun p => (ν p.1, ν p.2) := by
  have hA : ∀ n ∈ rs.map Rope.name, n ∈ A := fun n hn => by
    obtain ⟨r, hr, rfl⟩ := List.mem_map.mp hn
    exact C.nm r hr
  unfold guardsR
  rw [C.names]
  generalize rs.map Rope.name = ns at hA ⊢
  rw [List.map_map, List.map_flatten, List.map_map]
  congr 1
  refine List.map_congr_left fun one h1 => ?_
  show gRow (cs f g ν rs) (ν one) ((ns).map ν) = (gRow rs one (ns)).map fun p => (ν p.1, ν p.2)
  unfold gRow
  rw [List.filter_map, List.map_map, List.map_map]
  have : ∀ o ∈ ns, ((fun other => !decide (other = ν one) && decide (wtR (cs f g ν rs) [ν one] other < wtR (cs f g ν rs) [] other)) ∘ ν) o = (!decide (o = one) && decide (wtR rs [one] o < wtR rs [] o)) := fun o ho => by
    show (!decide (ν o = ν one) && decide (wtR (cs f g ν rs) [ν one] (ν o) < wtR (cs f g ν rs) [] (ν o))) = _
    have w1 := C.wt (B := [one]) (fun n hn => by rw [List.mem_singleton.mp hn]; exact hA one h1) (hA o ho)
    have w2 := C.wt (B := []) (fun n hn => absurd hn List.not_mem_nil) (hA o ho)
    rw [show [ν one] = [one].map ν from rfl, w1, show ([] : List Str) = [].map ν from rfl, w2]
    congr 1
    · congr 1
      exact decide_eq_decide.mpr ⟨fun e => C.R.inj (hA o ho) (hA one h1) e, fun e => by rw [e]⟩
    · exact decide_eq_decide.mpr (Rat.mul_lt_mul_left (kR_pos C.f0 C.g0))
  rw [List.filter_congr this]
  rfl
end
end SM

/-! AbCh: sums of texts; three targets; bundles as things of any kind. -/
namespace Ab
open PySem L2
open Ab.Rp (rp)
open Ab.Dt (toD)
section
variable {X : Cx} {c : Ctx} {ss s1 s2 s3 : List AV} {a b e t1 t2 t3 : Expr} {pos : Pos}
theorem x_addS {s t : Str} (hl : s.length + t.length ≤ sizeLine) (ha : XE X c ss a (.dat s)) (hb : XE X c ss b (.dat t)) : XE X c ss (.BinOp a .Add b pos) (.dat (s ++ t)) :=
  x_op op_add_str (ra := .dat s) (rb := .dat t) (R := .dat (s ++ t)) (fun _ _ _ _ _ _ _ _ _ ⟨s', h1, q1⟩ ⟨t', h2, q2⟩ z => by
    subst q1 q2
    exact ⟨s', t', h1, h2, hl, z.give ⟨s' ++ t', rfl, rfl⟩⟩) ha hb
theorem g_three {α β γ : Type} [Rp α] [Rp β] [Rp γ] {x : T3 α β γ} {k : Nat} (hc : X.calm = true) (h1 : XG X c ss t1 (.dat x.a) s1) (h2 : XG X c s1 t2 (.dat x.b) s2) (h3 : XG X c s2 t3 (.dat x.c) s3)
    (e1 : (assignEach [t1, t2, t3] X.env).map (·.2) = assign t1 X.env :: (assignEach [t2, t3] X.env).map (·.2) := by rfl) (e2 : (assignEach [t2, t3] X.env).map (·.2) = assign t2 X.env :: (assignEach [t3] X.env).map (·.2) := by rfl)
    (e3 : (assignEach [t3] X.env).map (·.2) = assign t3 X.env :: (assignEach [] X.env).map (·.2) := by rfl)
    (hn : (assignEach [t1, t2, t3] X.env).length = 3 := by rfl) (hst : (assignEach [t1, t2, t3] X.env).findIdx? (·.1) = none := by rfl) : XG X c ss (.Tuple [t1, t2, t3] k pos) (.dat x) s3 :=
  (pg_tup hc (pgs_cons h1 (pgs_cons h2 (pgs_cons h3 pgs_nil e3) e2) e1) hn hst).wk fun v σ H Q ⟨a, ⟨z, hz, e⟩, q⟩ => by
    have e : z = x := e
    subst e
    obtain ⟨p, u, w, y, rfl, st, r1, r2, r3⟩ := hz
    exact ⟨p, [u, w, y], rfl, st, rfl, u, [w, y], rfl, a, ⟨z.a, r1, rfl⟩, fun σ1 a1 => ⟨w, [y], rfl, a1, ⟨z.b, r2, rfl⟩, fun σ2 a2 => ⟨y, [], rfl, a2, ⟨z.c, r3, rfl⟩, fun σ3 a3 => ⟨rfl, q σ3 a3⟩⟩⟩⟩
/-- a rope, a bundle as a thing of any kind -/
def pdR (r : Rope) : PD := .tup [.str r.name, .int r.slack, .int r.stiff, .int r.strong]
def pdB (rs : List Rope) : PD := .tup (rs.map pdR)
def PdOk (r : Rope) : Prop := SM.Ok r ∧ r.name.length ≤ 50
theorem pd_rope {K : PySem.W.Frag} {H : Hp} {v : V} {r : Rope} (k : rp K H v r) : Pd K H v (pdR r) := by
  obtain ⟨a, rfl, st⟩ := k
  exact .tup st (.cons .str (.cons .int (.cons .int (.cons .int .nil))))
theorem pds_ropes {K : PySem.W.Frag} {H : Hp} : ∀ {vs : List V} {rs : List Rope}, Rps K H vs rs → Pds K H vs (rs.map pdR)
  | _, _, .nil => .nil
  | _, _, .cons a k => .cons (pd_rope a) (pds_ropes k)
theorem pd_bundle {K : PySem.W.Frag} {H : Hp} {v : V} {rs : List Rope} (k : rp K H v rs) : Pd K H v (pdB rs) := by
  obtain ⟨a, vs, rfl, st, r⟩ := k
  exact .tup st (pds_ropes r)
theorem bd_rope {n : Nat} {r : Rope} (h : PdOk r) (hn : 50 ≤ n) : (pdR r).bd n := by
  obtain ⟨⟨a1, a2, a3, a4, a5, a6⟩, hl⟩ := h
  refine PD.bd_tup.mpr ⟨by show 4 ≤ n; omega, fun x hx => ?_⟩
  simp only [List.mem_cons, List.not_mem_nil, or_false] at hx
  rcases hx with rfl | rfl | rfl | rfl
  · show r.name.length ≤ n
    omega
  · show r.slack.natAbs ≤ 10 ^ 30 + 1000 * n
    omega
  · show r.stiff.natAbs ≤ 10 ^ 30 + 1000 * n
    omega
  · show r.strong.natAbs ≤ 10 ^ 30 + 1000 * n
    omega
theorem bd_bundle {n : Nat} {rs : List Rope} (h : ∀ r ∈ rs, PdOk r) (hl : rs.length ≤ 50) (hn : 50 ≤ n) : (pdB rs).bd n := by
  refine PD.bd_tup.mpr ⟨by rw [List.length_map]; omega, fun x hx => ?_⟩
  obtain ⟨r, hr, rfl⟩ := List.mem_map.mp hx
  exact bd_rope (h r hr) hn
theorem x_pdB {rs : List Rope} (ha : XE X c ss e (.dat rs)) : XE X c ss e (.dat (pdB rs)) := x_conv ha fun H H' v _ ⟨y, k, q⟩ => by
  have q : y = rs := q
  subst q
  exact ⟨pdB y, pd_bundle k, rfl⟩
end
end Ab

namespace SP
open PySem L2 LamX Ab SM
open Ab.Rp (rp)
open Ab.Dt (toD)
def topS (i : Nat) : Stmt := PySem.Challenge.pw_strandpull_k12_whole_measures_change_not.main.body.getD i (.Pass ⟨0, 0, 0, 0⟩)
abbrev s_is_whole : Stmt := topS 6
theorem sc_is_whole : FnScope ["thing"] ["thing"] (defScope s_is_whole) := ⟨rfl, rfl, rfl, by decide +kernel, rfl, by decide +kernel, by decide +kernel⟩
abbrev s_is_within : Stmt := topS 7
theorem sc_is_within : FnScope ["thing", "least", "most"] ["thing", "least", "most"] (defScope s_is_within) := ⟨rfl, rfl, rfl, by decide +kernel, rfl, by decide +kernel, by decide +kernel⟩
abbrev s_is_name : Stmt := topS 8
theorem sc_is_name : FnScope ["thing", "sign"] ["thing"] (defScope s_is_name) := ⟨rfl, rfl, rfl, by decide +kernel, rfl, by decide +kernel, by decide +kernel⟩
abbrev s_lowest : Stmt := topS 9
theorem sc_lowest : FnScope ["top", "bottom", "one", "other"] ["top", "bottom"] (defScope s_lowest) := ⟨rfl, rfl, rfl, by decide +kernel, rfl, by decide +kernel, by decide +kernel⟩
abbrev s_plus : Stmt := topS 10
theorem sc_plus : FnScope ["one", "other"] ["one", "other"] (defScope s_plus) := ⟨rfl, rfl, rfl, by decide +kernel, rfl, by decide +kernel, by decide +kernel⟩
abbrev s_is_lesser : Stmt := topS 11
theorem sc_is_lesser : FnScope ["one", "other"] ["one", "other"] (defScope s_is_lesser) := ⟨rfl, rfl, rfl, by decide +kernel, rfl, by decide +kernel, by decide +kernel⟩
abbrev s_is_rope : Stmt := topS 12
theorem sc_is_rope : FnScope ["thing"] ["thing"] (defScope s_is_rope) := ⟨rfl, rfl, rfl, by decide +kernel, rfl, by decide +kernel, by decide +kernel⟩
abbrev s_is_bundle : Stmt := topS 13
theorem sc_is_bundle : FnScope ["thing", "one", "other"] ["thing"] (defScope s_is_bundle) := ⟨rfl, rfl, rfl, by decide +kernel, rfl, by decide +kernel, by decide +kernel⟩
abbrev s_pull : Stmt := topS 14
theorem sc_pull : FnScope ["rope", "sunk", "top"] ["rope", "sunk"] (defScope s_pull) := ⟨rfl, rfl, rfl, by decide +kernel, rfl, by decide +kernel, by decide +kernel⟩
abbrev s_all_pull : Stmt := topS 15
theorem sc_all_pull : FnScope ["ropes", "sunk", "total", "rope"] ["ropes", "sunk"] (defScope s_all_pull) := ⟨rfl, rfl, rfl, by decide +kernel, rfl, by decide +kernel, by decide +kernel⟩
abbrev s_left_of : Stmt := topS 16
theorem sc_left_of : FnScope ["bundle", "broken", "rope"] ["bundle", "broken"] (defScope s_left_of) := ⟨rfl, rfl, rfl, by decide +kernel, rfl, by decide +kernel, by decide +kernel⟩
abbrev s_sunk_by : Stmt := topS 17
theorem sc_sunk_by : FnScope ["ropes", "load", "found", "stiff", "drawn", "name", "slack", "more", "strong"] ["ropes", "load"] (defScope s_sunk_by) := ⟨rfl, rfl, rfl, by decide +kernel, rfl, by decide +kernel, by decide +kernel⟩
abbrev s_sinking : Stmt := topS 18
theorem sc_sinking : FnScope ["bundle", "broken", "load"] ["bundle", "broken", "load"] (defScope s_sinking) := ⟨rfl, rfl, rfl, by decide +kernel, rfl, by decide +kernel, by decide +kernel⟩
abbrev s_pulls : Stmt := topS 19
theorem sc_pulls : FnScope ["bundle", "broken", "load", "some", "sunk", "rope"] ["bundle", "broken", "load"] (defScope s_pulls) := ⟨rfl, rfl, rfl, by decide +kernel, rfl, by decide +kernel, by decide +kernel⟩
abbrev s_gives_way : Stmt := topS 21
theorem sc_gives_way : FnScope ["rope", "sunk"] ["rope", "sunk"] (defScope s_gives_way) := ⟨rfl, rfl, rfl, by decide +kernel, rfl, by decide +kernel, by decide +kernel⟩
abbrev s_waves : Stmt := topS 22
theorem sc_waves : FnScope ["bundle", "broken", "load", "found", "some", "sunk", "wave", "rope"] ["bundle", "broken", "load"] (defScope s_waves) := ⟨rfl, rfl, rfl, by decide +kernel, rfl, by decide +kernel, by decide +kernel⟩
abbrev s_broken_by : Stmt := topS 23
theorem sc_broken_by : FnScope ["bundle", "broken", "load", "found", "wave"] ["bundle", "broken", "load"] (defScope s_broken_by) := ⟨rfl, rfl, rfl, by decide +kernel, rfl, by decide +kernel, by decide +kernel⟩
abbrev s_bears : Stmt := topS 24
theorem sc_bears : FnScope ["bundle", "broken", "load"] ["bundle", "broken", "load"] (defScope s_bears) := ⟨rfl, rfl, rfl, by decide +kernel, rfl, by decide +kernel, by decide +kernel⟩
abbrev s_end_of : Stmt := topS 26
theorem sc_end_of : FnScope ["rope"] ["rope"] (defScope s_end_of) := ⟨rfl, rfl, rfl, by decide +kernel, rfl, by decide +kernel, by decide +kernel⟩
abbrev s_in_order : Stmt := topS 27
theorem sc_in_order : FnScope ["parts", "found", "part", "left", "least"] ["parts"] (defScope s_in_order) := ⟨rfl, rfl, rfl, by decide +kernel, rfl, by decide +kernel, by decide +kernel⟩
abbrev s_load_at : Stmt := topS 28
theorem sc_load_at : FnScope ["bundle", "sunk", "rope"] ["bundle", "sunk"] (defScope s_load_at) := ⟨rfl, rfl, rfl, by decide +kernel, rfl, by decide +kernel, by decide +kernel⟩
abbrev s_table : Stmt := topS 29
theorem sc_table : FnScope ["bundle", "sunk", "rope"] ["bundle"] (defScope s_table) := ⟨rfl, rfl, rfl, by decide +kernel, rfl, by decide +kernel, by decide +kernel⟩
abbrev s_greatest : Stmt := topS 30
theorem sc_greatest : FnScope ["bundle", "best", "sunk", "load"] ["bundle"] (defScope s_greatest) := ⟨rfl, rfl, rfl, by decide +kernel, rfl, by decide +kernel, by decide +kernel⟩
abbrev s_beyond : Stmt := topS 31
theorem sc_beyond : FnScope ["bundle", "broken", "load", "some", "sunk", "more", "rope"] ["bundle", "broken", "load"] (defScope s_beyond) := ⟨rfl, rfl, rfl, by decide +kernel, rfl, by decide +kernel, by decide +kernel⟩
abbrev s_steps_from : Stmt := topS 32
theorem sc_steps_from : FnScope ["bundle", "broken", "found", "some", "load", "later", "rope", "name"] ["bundle", "broken"] (defScope s_steps_from) := ⟨rfl, rfl, rfl, by decide +kernel, rfl, by decide +kernel, by decide +kernel⟩
abbrev s_steps : Stmt := topS 33
theorem sc_steps : FnScope ["bundle"] ["bundle"] (defScope s_steps) := ⟨rfl, rfl, rfl, by decide +kernel, rfl, by decide +kernel, by decide +kernel⟩
abbrev s_whole_till : Stmt := topS 35
theorem sc_whole_till : FnScope ["bundle", "broken", "name", "load", "names"] ["bundle", "broken", "name"] (defScope s_whole_till) := ⟨rfl, rfl, rfl, by decide +kernel, rfl, by decide +kernel, by decide +kernel⟩
abbrev s_guards : Stmt := topS 36
theorem sc_guards : FnScope ["bundle", "found", "names", "one", "other", "rope"] ["bundle"] (defScope s_guards) := ⟨rfl, rfl, rfl, by decide +kernel, rfl, by decide +kernel, by decide +kernel⟩
abbrev s_lots : Stmt := topS 37
theorem sc_lots : FnScope ["some", "many", "found", "at", "one", "lot"] ["some", "many"] (defScope s_lots) := ⟨rfl, rfl, rfl, by decide +kernel, rfl, by decide +kernel, by decide +kernel⟩
abbrev s_doubled : Stmt := topS 38
theorem sc_doubled : FnScope ["bundle", "lot", "rope"] ["bundle", "lot"] (defScope s_doubled) := ⟨rfl, rfl, rfl, by decide +kernel, rfl, by decide +kernel, by decide +kernel⟩
abbrev s_fewest_doubled : Stmt := topS 39
theorem sc_fewest_doubled : FnScope ["bundle", "load", "names", "many", "lot", "rope"] ["bundle", "load"] (defScope s_fewest_doubled) := ⟨rfl, rfl, rfl, by decide +kernel, rfl, by decide +kernel, by decide +kernel⟩
abbrev s__law_bag : Stmt := topS 41
theorem sc__law_bag : FnScope ["script", "k", "cell"] ["script", "k"] (defScope s__law_bag) := ⟨rfl, rfl, rfl, by decide +kernel, rfl, by decide +kernel, by decide +kernel⟩
abbrev s__law_take : Stmt := topS 42
theorem sc__law_take : FnScope ["bag", "many", "found"] ["bag", "many"] (defScope s__law_take) := ⟨rfl, rfl, rfl, by decide +kernel, rfl, by decide +kernel, by decide +kernel⟩
abbrev s__law_of : Stmt := topS 43
theorem sc__law_of : FnScope ["bag", "some"] ["bag", "some"] (defScope s__law_of) := ⟨rfl, rfl, rfl, by decide +kernel, rfl, by decide +kernel, by decide +kernel⟩
abbrev s__law_lowest : Stmt := topS 44
theorem sc__law_lowest : FnScope ["top", "bottom", "one", "other"] ["top", "bottom"] (defScope s__law_lowest) := ⟨rfl, rfl, rfl, by decide +kernel, rfl, by decide +kernel, by decide +kernel⟩
abbrev s__law_rope : Stmt := topS 45
theorem sc__law_rope : FnScope ["bag", "name", "slack", "stiff"] ["bag", "name"] (defScope s__law_rope) := ⟨rfl, rfl, rfl, by decide +kernel, rfl, by decide +kernel, by decide +kernel⟩
abbrev s__law_bundle : Stmt := topS 46
theorem sc__law_bundle : FnScope ["bag", "most", "found", "name", "rope"] ["bag", "most"] (defScope s__law_bundle) := ⟨rfl, rfl, rfl, by decide +kernel, rfl, by decide +kernel, by decide +kernel⟩
abbrev s__law_load : Stmt := topS 47
theorem sc__law_load : FnScope ["bag", "wide"] ["bag"] (defScope s__law_load) := ⟨rfl, rfl, rfl, by decide +kernel, rfl, by decide +kernel, by decide +kernel⟩
abbrev s__law_plus : Stmt := topS 48
theorem sc__law_plus : FnScope ["one", "other"] ["one", "other"] (defScope s__law_plus) := ⟨rfl, rfl, rfl, by decide +kernel, rfl, by decide +kernel, by decide +kernel⟩
abbrev s__law_less : Stmt := topS 49
theorem sc__law_less : FnScope ["one", "other"] ["one", "other"] (defScope s__law_less) := ⟨rfl, rfl, rfl, by decide +kernel, rfl, by decide +kernel, by decide +kernel⟩
abbrev s__law_pull : Stmt := topS 50
theorem sc__law_pull : FnScope ["rope", "sunk"] ["rope", "sunk"] (defScope s__law_pull) := ⟨rfl, rfl, rfl, by decide +kernel, rfl, by decide +kernel, by decide +kernel⟩
abbrev s__law_end : Stmt := topS 51
theorem sc__law_end : FnScope ["rope"] ["rope"] (defScope s__law_end) := ⟨rfl, rfl, rfl, by decide +kernel, rfl, by decide +kernel, by decide +kernel⟩
abbrev s__law_marks : Stmt := topS 52
theorem sc__law_marks : FnScope ["bundle", "found", "rope", "end", "total", "one"] ["bundle"] (defScope s__law_marks) := ⟨rfl, rfl, rfl, by decide +kernel, rfl, by decide +kernel, by decide +kernel⟩
abbrev s__law_times : Stmt := topS 53
theorem sc__law_times : FnScope ["part", "by"] ["part", "by"] (defScope s__law_times) := ⟨rfl, rfl, rfl, by decide +kernel, rfl, by decide +kernel, by decide +kernel⟩
abbrev s__law_changed : Stmt := topS 54
theorem sc__law_changed : FnScope ["bundle", "slacker", "stiffer", "sign", "found", "name", "slack", "stiff", "strong"] ["bundle", "slacker", "stiffer", "sign"] (defScope s__law_changed) := ⟨rfl, rfl, rfl, by decide +kernel, rfl, by decide +kernel, by decide +kernel⟩
abbrev s__law_named : Stmt := topS 55
theorem sc__law_named : FnScope ["names", "sign", "name"] ["names", "sign"] (defScope s__law_named) := ⟨rfl, rfl, rfl, by decide +kernel, rfl, by decide +kernel, by decide +kernel⟩
abbrev s__law_goes : Stmt := topS 56
theorem sc__law_goes : FnScope ["bundle", "other", "scale", "sign", "load", "far", "hard", "wide", "most", "sunk", "told", "name", "part", "wave", "names", "pair", "one"] ["bundle", "other", "scale", "sign", "load"] (defScope s__law_goes) := ⟨rfl, rfl, rfl, by decide +kernel, rfl, by decide +kernel, by decide +kernel⟩
abbrev s_law : Stmt := topS 57
theorem sc_law : FnScope ["script", "k", "bag", "bundle", "by", "slacker", "stiffer", "sign", "other", "load"] ["script"] (defScope s_law) := ⟨rfl, rfl, rfl, by decide +kernel, rfl, by decide +kernel, by decide +kernel⟩
/-- what this row says of its defs -/
structure Tx (K : PySem.W.Frag) (mg : Str → Option Value) (cc : Addr) : Prop where
  t_is_whole : TxD K mg "is_whole" s_is_whole ["thing"]
  t_is_within : TxD K mg "is_within" s_is_within ["thing", "least", "most"]
  t_is_name : TxD K mg "is_name" s_is_name ["thing"]
  t_lowest : TxD K mg "lowest" s_lowest ["top", "bottom"]
  t_plus : TxD K mg "plus" s_plus ["one", "other"]
  t_is_lesser : TxD K mg "is_lesser" s_is_lesser ["one", "other"]
  t_is_rope : TxD K mg "is_rope" s_is_rope ["thing"]
  t_is_bundle : TxD K mg "is_bundle" s_is_bundle ["thing"]
  t_pull : TxD K mg "pull" s_pull ["rope", "sunk"]
  t_all_pull : TxD K mg "all_pull" s_all_pull ["ropes", "sunk"]
  t_left_of : TxD K mg "left_of" s_left_of ["bundle", "broken"]
  t_sunk_by : TxL K mg "sunk_by" s_sunk_by ["ropes", "load"] cc
  t_sinking : TxD K mg "sinking" s_sinking ["bundle", "broken", "load"]
  t_pulls : TxD K mg "pulls" s_pulls ["bundle", "broken", "load"]
  t_gives_way : TxD K mg "gives_way" s_gives_way ["rope", "sunk"]
  t_waves : TxD K mg "waves" s_waves ["bundle", "broken", "load"]
  t_broken_by : TxD K mg "broken_by" s_broken_by ["bundle", "broken", "load"]
  t_bears : TxD K mg "bears" s_bears ["bundle", "broken", "load"]
  t_end_of : TxD K mg "end_of" s_end_of ["rope"]
  t_in_order : TxD K mg "in_order" s_in_order ["parts"]
  t_load_at : TxD K mg "load_at" s_load_at ["bundle", "sunk"]
  t_table : TxD K mg "table" s_table ["bundle"]
  t_greatest : TxD K mg "greatest" s_greatest ["bundle"]
  t_beyond : TxD K mg "beyond" s_beyond ["bundle", "broken", "load"]
  t_steps_from : TxD K mg "steps_from" s_steps_from ["bundle", "broken"]
  t_steps : TxD K mg "steps" s_steps ["bundle"]
  t_whole_till : TxD K mg "whole_till" s_whole_till ["bundle", "broken", "name"]
  t_guards : TxD K mg "guards" s_guards ["bundle"]
  t_lots : TxD K mg "lots" s_lots ["some", "many"]
  t_doubled : TxD K mg "doubled" s_doubled ["bundle", "lot"]
  t_fewest_doubled : TxD K mg "fewest_doubled" s_fewest_doubled ["bundle", "load"]
  t__law_bag : TxD K mg "_law_bag" s__law_bag ["script", "k"]
  t__law_take : TxD K mg "_law_take" s__law_take ["bag", "many"]
  t__law_of : TxD K mg "_law_of" s__law_of ["bag", "some"]
  t__law_lowest : TxD K mg "_law_lowest" s__law_lowest ["top", "bottom"]
  t__law_rope : TxD K mg "_law_rope" s__law_rope ["bag", "name"]
  t__law_bundle : TxD K mg "_law_bundle" s__law_bundle ["bag", "most"]
  t__law_load : TxD K mg "_law_load" s__law_load ["bag"]
  t__law_plus : TxD K mg "_law_plus" s__law_plus ["one", "other"]
  t__law_less : TxD K mg "_law_less" s__law_less ["one", "other"]
  t__law_pull : TxD K mg "_law_pull" s__law_pull ["rope", "sunk"]
  t__law_end : TxD K mg "_law_end" s__law_end ["rope"]
  t__law_marks : TxD K mg "_law_marks" s__law_marks ["bundle"]
  t__law_times : TxD K mg "_law_times" s__law_times ["part", "by"]
  t__law_changed : TxD K mg "_law_changed" s__law_changed ["bundle", "slacker", "stiffer", "sign"]
  t__law_named : TxD K mg "_law_named" s__law_named ["names", "sign"]
  t__law_goes : TxD K mg "_law_goes" s__law_goes ["bundle", "other", "scale", "sign", "load"]
  g_abs : mg "abs" = none
  g_len : mg "len" = none
  g_range : mg "range" = none
  g_min : mg "min" = none
  g_max : mg "max" = none
  g_sorted : mg "sorted" = none
  g_tuple : mg "tuple" = none
  g_list : mg "list" = none
  g_enumerate : mg "enumerate" = none
  g_zip : mg "zip" = none
  g_all : mg "all" = none
  g_isinstance : mg "isinstance" = none
  g_str : mg "str" = none
  g_int : mg "int" = none
  g_bool : mg "bool" = none
  c_LETTERS : ∃ t, mg "LETTERS" = some (.str "abcdefghijklmnopqrstuvwxyz" t)
  c_MOST_ROPES : ∃ t, mg "MOST_ROPES" = some (.int 6 t)
  c_MOST_SLACK : ∃ t, mg "MOST_SLACK" = some (.int 1000 t)
  c_MOST_STIFF : ∃ t, mg "MOST_STIFF" = some (.int 100 t)
  c_MOST_STRONG : ∃ t, mg "MOST_STRONG" = some (.int 1000000 t)
abbrev lv_is_whole : Nat := 5
abbrev lv_is_within : Nat := 6
abbrev lv_is_name : Nat := 5
abbrev lv_lowest : Nat := 5
abbrev lv_plus : Nat := 6
abbrev lv_is_lesser : Nat := 5
abbrev lv_is_rope : Nat := 7
abbrev lv_is_bundle : Nat := 8
abbrev lv_pull : Nat := 6
abbrev lv_all_pull : Nat := 7
abbrev lv_left_of : Nat := 5
abbrev lv_sunk_by : Nat := 6
abbrev lv_sinking : Nat := 7
abbrev lv_pulls : Nat := 7
abbrev lv_gives_way : Nat := 7
abbrev lv_waves : Nat := 8
abbrev lv_broken_by : Nat := 9
abbrev lv_bears : Nat := 10
abbrev lv_end_of : Nat := 6
abbrev lv_in_order : Nat := 6
abbrev lv_load_at : Nat := 8
abbrev lv_table : Nat := 9
abbrev lv_greatest : Nat := 10
abbrev lv_beyond : Nat := 15
abbrev lv_steps_from : Nat := 16
abbrev lv_steps : Nat := 17
abbrev lv_whole_till : Nat := 17
abbrev lv_guards : Nat := 18
abbrev lv_lots : Nat := 13
abbrev lv_doubled : Nat := 5
abbrev lv_fewest_doubled : Nat := 14
abbrev lv__law_bag : Nat := 5
abbrev lv__law_take : Nat := 5
abbrev lv__law_of : Nat := 6
abbrev lv__law_lowest : Nat := 5
abbrev lv__law_rope : Nat := 6
abbrev lv__law_bundle : Nat := 7
abbrev lv__law_load : Nat := 6
abbrev lv__law_plus : Nat := 6
abbrev lv__law_less : Nat := 5
abbrev lv__law_pull : Nat := 6
abbrev lv__law_end : Nat := 6
abbrev lv__law_marks : Nat := 7
abbrev lv__law_times : Nat := 6
abbrev lv__law_changed : Nat := 5
abbrev lv__law_named : Nat := 5
abbrev lv__law_goes : Nat := 19
abbrev lv_law : Nat := 20
def lamQ : Str := "sunk_by.<locals>.<lambda>"
abbrev TT (PP : Addr) : List (Addr × Str) := [(PP, lamQ)]
end SP
namespace SP
open PySem L2 LamX Ab SM
open Ab.Rp (rp)
open Ab.Dt (toD)
section
variable {P : Program} {w : World} {K : PySem.W.Frag} {mg : Str → Option Value} {base : Heap} {cc PP : Addr}
/-- top / bottom in lowest terms -/
def spLowest (K : PySem.W.Frag) (T : List (Addr × Str)) : Sp := spW K (fun _ => w0 T) (fun i : Int × Int => [.dat i.1, .dat i.2]) (fun i => 0 < i.2 ∧ i.2.natAbs < 2 ^ 9000) (fun i => .dat ((i.1 : Rat) / (i.2 : Rat)))

theorem d_lowest (t : Tx K mg cc) : Df P w K mg base lv_lowest "lowest" (spLowest K (TT PP)) := by
  refine df_of t.t_lowest sc_lowest (fun i => rfl) (fun i => rfl) (fun f cdv A outer s H E vs i hr ok hp => ?_)
  obtain ⟨a, b⟩ := i
  obtain ⟨hb, hs⟩ : 0 < b ∧ b.natAbs < 2 ^ 9000 := hp
  obtain ⟨v1, v2, rfl, _, _⟩ := ok.two
  have hN := sc_lowest.nd
  change XSs _ _ [AV.dat a, AV.dat b, .un, .un] _ _
  refine q_par 2 3 (xa_cons (x_abs t.g_abs (xa_cons (x_var 0) xa_nil)) (xa_cons (x_var 1) xa_nil)) ?_
  refine q_whileI (fun z : Int × Int => [.dat a, .dat b, .dat z.1, .dat z.2]) (fun z => 0 ≤ z.1 ∧ 0 ≤ z.2 ∧ Int.gcd z.1 z.2 = Int.gcd a b) (fun z => z.2.toNat) (fun z => decide (0 < z.2)) ((a.natAbs : Int), b) ⟨by show (0 : Int) ≤ (a.natAbs : Int); omega, by show (0 : Int) ≤ b; omega, gcd_abs a b⟩ rfl (fun z hz => t_gt (x_var 3) x_int) ?_ ?_
  · rintro ⟨x, y⟩ ⟨hx, hy, hg⟩ hz
    have hx : 0 ≤ x := hx
    have hg : Int.gcd x y = Int.gcd a b := hg
    have h0 : 0 < y := of_decide_eq_true hz
    refine q_par 2 3 (xa_cons (x_var 3) (xa_cons (x_mod h0 (x_var 2) (x_var 3)) xa_nil)) (s_end ⟨(y, x % y), ⟨by show 0 ≤ y; omega, Int.emod_nonneg x (by omega), (gcd_step x y).trans hg⟩, ?_, rfl⟩)
    have h1 := Int.emod_nonneg x (show y ≠ 0 by omega)
    have h2 := Int.emod_lt_of_pos x h0
    show (x % y).toNat < y.toNat
    omega
  · rintro ⟨x, y⟩ ⟨hx, hy, hg⟩ hz
    have hx : 0 ≤ x := hx
    have hy : 0 ≤ y := hy
    have hg : Int.gcd x y = Int.gcd a b := hg
    have h0 : ¬ 0 < y := of_decide_eq_false hz
    obtain rfl : y = 0 := by omega
    rw [Int.gcd_zero_right] at hg
    have hx2 : x = (Int.gcd a b : Int) := by omega
    have hxp : 0 < x := by
      have := Int.gcd_pos_of_ne_zero_right a (show b ≠ 0 by omega)
      omega
    have hxl : x ≤ b := by
      rw [hx2]
      exact Int.le_of_dvd hb (Int.gcd_dvd_right ..)
    have hxs : x.natAbs < 2 ^ 9000 := by omega
    refine s_retC (x_rat ⟨?_, ?_⟩ (xa_cons (x_div (wide_div hxp hxs (by decide) (by decide)) (x_var 0) (x_var 2)) (xa_cons (x_div (wide_div hxp hxs (by decide) (by decide)) (x_var 1) (x_var 2)) xa_nil))) rfl
    · rw [rat_num hb, hx2]
    · rw [rat_den hb, hx2]

theorem d__law_lowest (t : Tx K mg cc) : Df P w K mg base lv__law_lowest "_law_lowest" (spLowest K (TT PP)) := by
  refine df_of t.t__law_lowest sc__law_lowest (fun i => rfl) (fun i => rfl) (fun f cdv A outer s H E vs i hr ok hp => ?_)
  obtain ⟨a, b⟩ := i
  obtain ⟨hb, hs⟩ : 0 < b ∧ b.natAbs < 2 ^ 9000 := hp
  obtain ⟨v1, v2, rfl, _, _⟩ := ok.two
  have hN := sc__law_lowest.nd
  change XSs _ _ [AV.dat a, AV.dat b, .un, .un] _ _
  refine q_par 2 3 (xa_cons (x_abs t.g_abs (xa_cons (x_var 0) xa_nil)) (xa_cons (x_var 1) xa_nil)) ?_
  refine q_whileI (fun z : Int × Int => [.dat a, .dat b, .dat z.1, .dat z.2]) (fun z => 0 ≤ z.1 ∧ 0 ≤ z.2 ∧ Int.gcd z.1 z.2 = Int.gcd a b) (fun z => z.2.toNat) (fun z => decide (0 < z.2)) ((a.natAbs : Int), b) ⟨by show (0 : Int) ≤ (a.natAbs : Int); omega, by show (0 : Int) ≤ b; omega, gcd_abs a b⟩ rfl (fun z hz => t_gt (x_var 3) x_int) ?_ ?_
  · rintro ⟨x, y⟩ ⟨hx, hy, hg⟩ hz
    have hx : 0 ≤ x := hx
    have hg : Int.gcd x y = Int.gcd a b := hg
    have h0 : 0 < y := of_decide_eq_true hz
    refine q_par 2 3 (xa_cons (x_var 3) (xa_cons (x_mod h0 (x_var 2) (x_var 3)) xa_nil)) (s_end ⟨(y, x % y), ⟨by show 0 ≤ y; omega, Int.emod_nonneg x (by omega), (gcd_step x y).trans hg⟩, ?_, rfl⟩)
    have h1 := Int.emod_nonneg x (show y ≠ 0 by omega)
    have h2 := Int.emod_lt_of_pos x h0
    show (x % y).toNat < y.toNat
    omega
  · rintro ⟨x, y⟩ ⟨hx, hy, hg⟩ hz
    have hx : 0 ≤ x := hx
    have hy : 0 ≤ y := hy
    have hg : Int.gcd x y = Int.gcd a b := hg
    have h0 : ¬ 0 < y := of_decide_eq_false hz
    obtain rfl : y = 0 := by omega
    rw [Int.gcd_zero_right] at hg
    have hx2 : x = (Int.gcd a b : Int) := by omega
    have hxp : 0 < x := by
      have := Int.gcd_pos_of_ne_zero_right a (show b ≠ 0 by omega)
      omega
    have hxl : x ≤ b := by
      rw [hx2]
      exact Int.le_of_dvd hb (Int.gcd_dvd_right ..)
    have hxs : x.natAbs < 2 ^ 9000 := by omega
    refine s_retC (x_rat ⟨?_, ?_⟩ (xa_cons (x_div (wide_div hxp hxs (by decide) (by decide)) (x_var 0) (x_var 2)) (xa_cons (x_div (wide_div hxp hxs (by decide) (by decide)) (x_var 1) (x_var 2)) xa_nil))) rfl
    · rw [rat_num hb, hx2]
    · rw [rat_den hb, hx2]

def spPlus (K : PySem.W.Frag) (T : List (Addr × Str)) : Sp := spW K (fun _ => w0 T) (fun i : Rat × Rat => [.dat i.1, .dat i.2]) (fun i => Sz 4000 i.1 ∧ Sz 4000 i.2) (fun i => .dat (i.1 + i.2))

theorem d_plus (t : Tx K mg cc) : Df P w K mg base lv_plus "plus" (spPlus K (TT PP)) := by
  refine df_of t.t_plus sc_plus (fun i => rfl) (fun i => rfl) (fun f cdv A outer s H E vs i hr ok hp => ?_)
  obtain ⟨a, b⟩ := i
  obtain ⟨ha, hb⟩ : Sz 4000 a ∧ Sz 4000 b := hp
  obtain ⟨v1, v2, rfl, _, _⟩ := ok.two
  change XSs _ _ [AV.dat a, AV.dat b] _ _
  exact s_ret (x_eq (x_cal (d_lowest t) (a.num * (b.den : Int) + b.num * (a.den : Int), (a.den : Int) * (b.den : Int)) (Wd.Le.refl _) hr ⟨Int.mul_pos (den_pos a) (den_pos b), up_abs (mul_abs ha.d hb.d) (by decide)⟩
    (xa_cons (x_add (x_mul (cmul_of ha.n hb.d) (x_num (x_var 0)) (x_den (x_var 1))) (x_mul (cmul_of hb.n ha.d) (x_num (x_var 1)) (x_den (x_var 0)))) (xa_cons (x_mul (cmul_of ha.d hb.d) (x_den (x_var 0)) (x_den (x_var 1))) xa_nil))) (add_eq a b))

def spLess (K : PySem.W.Frag) (T : List (Addr × Str)) : Sp := spW K (fun _ => w0 T) (fun i : Rat × Rat => [.dat i.1, .dat i.2]) (fun i => Sz 4000 i.1 ∧ Sz 4000 i.2) (fun i => .dat (decide (i.1 < i.2)))

theorem d_is_lesser (t : Tx K mg cc) : Df P w K mg base lv_is_lesser "is_lesser" (spLess K (TT PP)) := by
  refine df_of t.t_is_lesser sc_is_lesser (fun i => rfl) (fun i => rfl) (fun f cdv A outer s H E vs i hr ok hp => ?_)
  obtain ⟨a, b⟩ := i
  obtain ⟨ha, hb⟩ : Sz 4000 a ∧ Sz 4000 b := hp
  obtain ⟨v1, v2, rfl, _, _⟩ := ok.two
  change XSs _ _ [AV.dat a, AV.dat b] _ _
  exact s_retC (x_eq (x_lt (x_mul (cmul_of ha.n hb.d) (x_num (x_var 0)) (x_den (x_var 1))) (x_mul (cmul_of hb.n ha.d) (x_num (x_var 1)) (x_den (x_var 0)))) (lt_iff a b)) rfl

theorem d__law_less (t : Tx K mg cc) : Df P w K mg base lv__law_less "_law_less" (spLess K (TT PP)) := by
  refine df_of t.t__law_less sc__law_less (fun i => rfl) (fun i => rfl) (fun f cdv A outer s H E vs i hr ok hp => ?_)
  obtain ⟨a, b⟩ := i
  obtain ⟨ha, hb⟩ : Sz 4000 a ∧ Sz 4000 b := hp
  obtain ⟨v1, v2, rfl, _, _⟩ := ok.two
  change XSs _ _ [AV.dat a, AV.dat b] _ _
  exact s_retC (x_eq (x_lt (x_mul (cmul_of ha.n hb.d) (x_num (x_var 0)) (x_den (x_var 1))) (x_mul (cmul_of hb.n ha.d) (x_num (x_var 1)) (x_den (x_var 0)))) (lt_iff a b)) rfl

def isWhole (x : PD) : Bool := x.isT "int" && !x.isT "bool"
def isWithin (x : PD) (lo hi : Int) : Bool := match x with | .int n => decide (lo ≤ n) && decide (n ≤ hi) | _ => false
theorem whole_int {x : PD} (h : isWhole x = true) : ∃ n, x = .int n := by
  cases x with
  | int n => exact ⟨n, rfl⟩
  | _ => exact absurd h (by simp [isWhole, PD.isT, PD.ty, tyIs])
theorem whole_yes (n : Int) : isWhole (.int n) = true := by simp [isWhole, PD.isT, PD.ty, tyIs]
theorem within_whole {x : PD} {lo hi : Int} (h : isWhole x = false) : isWithin x lo hi = false := by
  cases x with
  | int n => rw [whole_yes] at h; cases h
  | _ => rfl
def LET : Str := "abcdefghijklmnopqrstuvwxyz"
def isName (x : PD) : Bool := match x with | .str s => (decide ((1 : Int) ≤ (s.length : Int)) && decide ((s.length : Int) ≤ 8)) && ((signs s).map fun c => inStr c LET).all id | _ => false
def isRope (x : PD) : Bool := match x with | .tup [a, b, c, d] => isName a && (isWithin b 0 1000 && isWithin c 1 100) && isWithin d 1 1000000 | _ => false
def nmOf (x : PD) : Str := match x with | .tup (.str s :: _) => s | _ => ""
def isBundle (x : PD) : Bool := match x with | .tup xs => ((decide ((1 : Int) ≤ (xs.length : Int)) && decide ((xs.length : Int) ≤ 6)) && (xs.map isRope).all id) && ((xs.zip (xs.drop 1)).map fun z => ltStr (nmOf z.1) (nmOf z.2)).all id | _ => false
theorem isT_str {x : PD} (h : x.isT "str" = true) : ∃ s, x = .str s := by
  cases x with
  | str s => exact ⟨s, rfl⟩
  | _ => exact absurd h (by simp [PD.isT, PD.ty, tyIs])
theorem isT_tup {x : PD} (h : x.isT "tuple" = true) : ∃ s, x = .tup s := by
  cases x with
  | tup s => exact ⟨s, rfl⟩
  | _ => exact absurd h (by simp [PD.isT, PD.ty, tyIs])
theorem sL_size : 4000 ≤ sizeLine := by decide
theorem nbt {b : Bool} (h : true = !b) : b = false := by cases b <;> first | rfl | cases h
theorem nbf {b : Bool} (h : false = !b) : b = true := by cases b <;> first | rfl | cases h

def spIsWhole (K : PySem.W.Frag) (T : List (Addr × Str)) : Sp := spW K (fun _ => w0 T) (fun i : PD => [.dat i]) (fun i => True) (fun i => .dat (isWhole i))
theorem d_is_whole (t : Tx K mg cc) : Df P w K mg base lv_is_whole "is_whole" (spIsWhole K (TT PP)) := by
  refine df_of t.t_is_whole sc_is_whole (fun i => rfl) (fun i => rfl) (fun f cdv A outer s H E vs y hr ok hp => ?_)
  obtain ⟨v1, rfl, _⟩ := ok.one
  change XSs _ ⟨w0 (TT PP), H, _, _⟩ [AV.dat y] _ _
  exact s_ret (x_and (x_isT (T := "int") (by simp) (by decide +kernel) t.g_isinstance t.g_int (x_var 0)) fun _ => x_one (x_not (x_isT (T := "bool") (by simp) (by decide +kernel) t.g_isinstance t.g_bool (x_var 0))))

def spIsWithin (K : PySem.W.Frag) (T : List (Addr × Str)) : Sp := spW K (fun _ => w0 T) (fun i : PD × Int × Int => [.dat i.1, .dat i.2.1, .dat i.2.2]) (fun i => True) (fun i => .dat (isWithin i.1 i.2.1 i.2.2))
theorem d_is_within (t : Tx K mg cc) : Df P w K mg base lv_is_within "is_within" (spIsWithin K (TT PP)) := by
  refine df_of t.t_is_within sc_is_within (fun i => rfl) (fun i => rfl) (fun f cdv A outer s H E vs i hr ok hp => ?_)
  obtain ⟨y, lo, hi⟩ := i
  obtain ⟨v1, v2, v3, rfl, _⟩ := ok.three
  change XSs _ ⟨w0 (TT PP), H, _, _⟩ [AV.dat y, .dat lo, .dat hi] _ _
  refine s_ret (x_eq (x_and (y := isWithin y lo hi) (x_cal (d_is_whole (PP := PP) t) y (Wd.Le.refl _) hr trivial (xa_cons (x_var 0) xa_nil)) fun h => ?_) ?_)
  · obtain ⟨n, rfl⟩ := whole_int h
    exact x_one (x_chain (x_var 1) (x_pdI (x_var 0)) (x_var 2))
  · cases h : isWhole y with
    | true => exact Bool.true_and _
    | false => exact (within_whole h).symm

def spIsName (K : PySem.W.Frag) (T : List (Addr × Str)) : Sp := spW K (fun _ => w0 T) (fun i : PD => [.dat i]) (fun i => i.bd 4000) (fun i => .dat (isName i))
theorem d_is_name (t : Tx K mg cc) : Df P w K mg base lv_is_name "is_name" (spIsName K (TT PP)) := by
  refine df_of t.t_is_name sc_is_name (fun i => rfl) (fun i => rfl) (fun f cdv A outer s H E vs y hr ok hp => ?_)
  obtain ⟨v1, rfl, _⟩ := ok.one
  have hp : y.bd 4000 := hp
  have hN := sc_is_name.nd
  change XSs _ ⟨w0 (TT PP), H, _, _⟩ [AV.dat y, .un] _ _
  refine s_ret (x_eq (x_and (y := isName y) (x_isT (T := "str") (by simp) (by decide +kernel) t.g_isinstance t.g_str (x_var 0)) fun h => ?_) ?_)
  · obtain ⟨n, rfl⟩ := isT_str h
    have hl : n.length ≤ 4000 := hp
    exact x_and (x_chain x_int (x_lenStr (Nat.le_trans hl sL_size) t.g_len (xa_cons (x_pdS (x_var 0)) xa_nil)) x_int) fun _ => x_one (x_all rfl t.g_all (xa_cons (x_lst (x_map1 1 (fun c => inStr c LET) (i_str (x_pdS (x_var 0))).cc (by unfold signs; rw [List.length_map, Array.length_toList]; exact Nat.le_trans hl (by decide)) (fun s H C cl fp x hx => x_inStr (x_var 1) (x_globS t.c_LETTERS)))) xa_nil))
  · cases h : y.isT "str" with
    | true => exact Bool.true_and _
    | false =>
      cases y <;> first | rfl | skip
      exact absurd h (by simp [PD.isT, PD.ty, tyIs])

def spIsRope (K : PySem.W.Frag) (T : List (Addr × Str)) : Sp := spW K (fun _ => w0 T) (fun i : PD => [.dat i]) (fun i => i.bd 4000) (fun i => .dat (isRope i))
theorem d_is_rope (t : Tx K mg cc) : Df P w K mg base lv_is_rope "is_rope" (spIsRope K (TT PP)) := by
  refine df_of t.t_is_rope sc_is_rope (fun i => rfl) (fun i => rfl) (fun f cdv A outer s H E vs y hr ok hp => ?_)
  obtain ⟨v1, rfl, _⟩ := ok.one
  have hp : y.bd 4000 := hp
  have hN := sc_is_rope.nd
  change XSs _ ⟨w0 (TT PP), H, _, _⟩ [AV.dat y] _ _
  cases hb : y.isT "tuple" with
  | false =>
    refine q_when (P := (· = (!(y.isT "tuple") || true))) (t_w (t_orD (t_notD (t_val (x_isT (T := "tuple") (by simp) (by decide +kernel) t.g_isinstance t.g_tuple (x_var 0)))) fun h => by rw [hb] at h; cases h)) (fun _ => s_ret (x_eq x_bl ?_)) (fun h => by rw [hb] at h; cases h)
    cases y <;> first | rfl | skip
    exact absurd hb (by simp [PD.isT, PD.ty, tyIs])
  | true =>
    obtain ⟨ys, rfl⟩ := isT_tup hb
    obtain ⟨_, hys⟩ := PD.bd_tup.mp hp
    by_cases h4 : ys.length = 4
    · match ys, h4 with
      | [a0, a1, a2, a3], _ =>
        refine q_when (P := (· = (!((PD.tup [a0, a1, a2, a3]).isT "tuple") || ((!decide (((([a0, a1, a2, a3] : List PD).length : Int)) = 4)) || !isName a0)))) (t_w (t_orD (t_notD (t_val (x_isT (T := "tuple") (by simp) (by decide +kernel) t.g_isinstance t.g_tuple (x_var 0)))) fun _ => t_orD (t_nei (x_lenT (xs := [a0, a1, a2, a3]) t.g_len (xa_cons (x_pdT (x_var 0)) xa_nil)) x_int) fun _ => t_or1 (t_notD (t_val (x_cal (d_is_name (PP := PP) t) a0 (Wd.Le.refl _) hr (hys a0 (by simp)) (xa_cons (x_ixC (ys := [a0, a1, a2, a3]) rfl (x_pdT (x_var 0))) xa_nil)))))) (fun h => s_ret (x_eq x_bl ?_)) (fun h => ?_)
        · rw [hb] at h
          have h : true = (false || (false || !isName a0)) := h
          rw [Bool.false_or, Bool.false_or] at h
          show false = (isName a0 && _ && _)
          rw [nbt h]
          rfl
        · rw [hb] at h
          have h : false = (false || (false || !isName a0)) := h
          rw [Bool.false_or, Bool.false_or] at h
          have hn : isName a0 = true := nbf h
          refine q_when (t_w (t_orD (t_notD (t_val (x_cal (d_is_within (PP := PP) t) (a1, 0, 1000) (Wd.Le.refl _) hr trivial (xa_cons (x_ixC (ys := [a0, a1, a2, a3]) rfl (x_pdT (x_var 0))) (xa_cons x_int (xa_cons (x_globI t.c_MOST_SLACK) xa_nil)))))) fun _ => t_or1 (t_notD (t_val (x_cal (d_is_within (PP := PP) t) (a2, 1, 100) (Wd.Le.refl _) hr trivial (xa_cons (x_ixC (ys := [a0, a1, a2, a3]) rfl (x_pdT (x_var 0))) (xa_cons x_int (xa_cons (x_globI t.c_MOST_STIFF) xa_nil)))))))) (fun h => s_ret (x_eq x_bl ?_)) (fun h => ?_)
          · have h : true = (!isWithin a1 0 1000 || !isWithin a2 1 100) := h
            show false = (isName a0 && (isWithin a1 0 1000 && isWithin a2 1 100) && _)
            rw [← Bool.not_and] at h
            rw [nbt h, Bool.and_false]
            rfl
          · have h : false = (!isWithin a1 0 1000 || !isWithin a2 1 100) := h
            rw [← Bool.not_and] at h
            refine s_ret (x_eq (x_cal (d_is_within (PP := PP) t) (a3, 1, 1000000) (Wd.Le.refl _) hr trivial (xa_cons (x_ixC (ys := [a0, a1, a2, a3]) rfl (x_pdT (x_var 0))) (xa_cons x_int (xa_cons (x_globI t.c_MOST_STRONG) xa_nil)))) ?_)
            show isWithin a3 1 1000000 = (isName a0 && (isWithin a1 0 1000 && isWithin a2 1 100) && isWithin a3 1 1000000)
            rw [hn, nbf h, Bool.true_and, Bool.true_and]
    · have h4' : ¬ ((ys.length : Int)) = 4 := by omega
      refine q_when (P := (· = (!((PD.tup ys).isT "tuple") || ((!decide ((ys.length : Int) = 4)) || true)))) (t_w (t_orD (t_notD (t_val (x_isT (T := "tuple") (by simp) (by decide +kernel) t.g_isinstance t.g_tuple (x_var 0)))) fun _ => t_orD (t_nei (x_lenT (xs := ys) t.g_len (xa_cons (x_pdT (x_var 0)) xa_nil)) x_int) fun h => by rw [decide_eq_false h4'] at h; cases h)) (fun h => s_ret (x_eq x_bl ?_)) (fun h => by rw [hb, decide_eq_false h4'] at h; cases h)
      unfold isRope
      split
      · next e =>
        have e := congrArg (fun z => match z with | PD.tup l => l.length | _ => 0) e
        simp at e
        exact absurd e h4
      · rfl

theorem rope_name {z : PD} (hr : isRope z = true) : ∃ (s : Str) (ys : List PD), z = .tup (.str s :: ys) := by
  match z, hr with
  | .tup [a, b, c, d], hr =>
    have hr : (isName a && (isWithin b 0 1000 && isWithin c 1 100) && isWithin d 1 1000000) = true := hr
    rw [Bool.and_eq_true, Bool.and_eq_true] at hr
    cases a with
    | str s => exact ⟨s, _, rfl⟩
    | _ => exact absurd hr.1.1 (by simp [isName])
theorem x_nmOf {X : Cx} {c : Ab.Ctx} {ss : List AV} {e : Expr} {pos p2 : Pos} {k : Nat} {z : PD} (hr : isRope z = true) (h : XE X c ss e (.dat z)) : XE X c ss (.Subscript e (.Constant (.int 0) k p2) pos) (.dat (nmOf z)) := by
  obtain ⟨s, ys, rfl⟩ := rope_name hr
  exact x_pdS (x_ixC (ys := .str s :: ys) atI_head (x_pdT h))
def spIsBundle (K : PySem.W.Frag) (T : List (Addr × Str)) : Sp := spW K (fun _ => w0 T) (fun i : PD => [.dat i]) (fun i => i.bd 4000) (fun i => .dat (isBundle i))
theorem d_is_bundle (t : Tx K mg cc) : Df P w K mg base lv_is_bundle "is_bundle" (spIsBundle K (TT PP)) := by
  refine df_of t.t_is_bundle sc_is_bundle (fun i => rfl) (fun i => rfl) (fun f cdv A outer s H E vs y hr ok hp => ?_)
  obtain ⟨v1, rfl, _⟩ := ok.one
  have hp : y.bd 4000 := hp
  have hN := sc_is_bundle.nd
  change XSs _ ⟨w0 (TT PP), H, _, _⟩ [AV.dat y, .un, .un] _ _
  cases hb : y.isT "tuple" with
  | false =>
    refine q_when (P := (· = (!(y.isT "tuple") || true))) (t_w (t_orD (t_notD (t_val (x_isT (T := "tuple") (by simp) (by decide +kernel) t.g_isinstance t.g_tuple (x_var 0)))) fun h => by rw [hb] at h; cases h)) (fun _ => s_ret (x_eq x_bl ?_)) (fun h => by rw [hb] at h; cases h)
    cases y <;> first | rfl | skip
    exact absurd hb (by simp [PD.isT, PD.ty, tyIs])
  | true =>
    obtain ⟨ys, rfl⟩ := isT_tup hb
    obtain ⟨hyl, hys⟩ := PD.bd_tup.mp hp
    refine q_when (P := (· = (!((PD.tup ys).isT "tuple") || ((!(decide ((1 : Int) ≤ (ys.length : Int)) && decide ((ys.length : Int) ≤ 6))) || !((ys.map isRope).all id))))) (t_w (t_orD (t_notD (t_val (x_isT (T := "tuple") (by simp) (by decide +kernel) t.g_isinstance t.g_tuple (x_var 0)))) fun _ => t_orD (t_notD (t_chain x_int (x_lenT (xs := ys) t.g_len (xa_cons (x_pdT (x_var 0)) xa_nil)) (x_globI t.c_MOST_ROPES))) fun _ => t_or1 (t_notD (t_val (x_all rfl t.g_all (xa_cons (x_lst (x_map1 1 isRope (i_tup (x_pdT (x_var 0))).cc (by omega) (fun s H C cl fp z hz => x_cal (d_is_rope (PP := PP) t) z (Wd.Le.refl _) hr (hys z hz) (xa_cons (x_var 1) xa_nil)))) xa_nil)))))) (fun h => s_ret (x_eq x_bl ?_)) (fun h => ?_)
    · rw [hb] at h
      have h : true = ((!(decide ((1 : Int) ≤ (ys.length : Int)) && decide ((ys.length : Int) ≤ 6))) || !((ys.map isRope).all id)) := h
      rw [← Bool.not_and] at h
      show false = (_ && _)
      rw [nbt h]
      rfl
    · rw [hb] at h
      have h : false = ((!(decide ((1 : Int) ≤ (ys.length : Int)) && decide ((ys.length : Int) ≤ 6))) || !((ys.map isRope).all id)) := h
      rw [← Bool.not_and] at h
      have h := nbf h
      have hrs : ∀ z ∈ ys, isRope z = true := fun z hz => by
        rw [Bool.and_eq_true, List.all_map] at h
        exact List.all_eq_true.mp h.2 z hz
      have hl1 : 1 ≤ ys.length := by
        rw [Bool.and_eq_true, Bool.and_eq_true] at h
        have := of_decide_eq_true h.1.1
        omega
      refine s_ret (x_eq (x_all rfl t.g_all (xa_cons (x_lst (x_lc2 (xs := ys.zip (ys.drop 1)) 1 2 (fun z : PD × PD => ltStr (nmOf z.1) (nmOf z.2)) (fun _ => true) (i_zipT t.g_zip (xa_cons (x_pdT (x_var 0)) (xa_cons (x_eq (x_slT (i := some ((1 : Nat) : Int)) (j := none) ?_ (x_pdT (x_var 0)) (xo_some x_int) xo_none) (cut_drop ys 1)) xa_nil))).cc ?_ (fun s H C cl fp z hz => c_yes) (fun s H C cl fp z hz _ => ?_))) xa_nil)) ?_)
      · intro ⟨h1, _⟩
        have : HT.sIx ys.length 0 (some ((1 : Nat) : Int)) = 1 := by
          simp [HT.sIx]
          omega
        omega
      · rw [List.length_zip]
        omega
      · obtain ⟨z1, z2⟩ := z
        have hm := List.of_mem_zip hz
        exact x_ltStr (x_nmOf (hrs z1 hm.1) (x_var 1)) (x_nmOf (hrs z2 (List.mem_of_mem_drop hm.2)) (x_var 2))
      · rw [filt_all]
        show _ = (_ && _)
        rw [h, Bool.true_and]

def spPull (K : PySem.W.Frag) (T : List (Addr × Str)) : Sp := spW K (fun _ => w0 T) (fun i : Rope × Rat => [.dat i.1, .dat i.2]) (fun i => Ok i.1 ∧ Sz 4000 i.2) (fun i => .dat (pullR i.1 i.2))

theorem d_pull (t : Tx K mg cc) : Df P w K mg base lv_pull "pull" (spPull K (TT PP)) := by
  refine df_of t.t_pull sc_pull (fun i => rfl) (fun i => rfl) (fun f cdv A outer s H E vs i hr ok hp => ?_)
  obtain ⟨r, u⟩ := i
  obtain ⟨hk, hu⟩ : Ok r ∧ Sz 4000 u := hp
  obtain ⟨v1, v2, rfl, _, _⟩ := ok.two
  have hN := sc_pull.nd
  change XSs _ _ [AV.dat r, AV.dat u, .un] _ _
  refine q_set 2 (x_sub (x_num (x_var 1)) (x_mul (cmul_of (slack_abs hk) hu.d) (x_rslack (x_var 0)) (x_den (x_var 1)))) ?_
  refine s_ret (x_ifE (t_gt (x_var 2) x_int) (fun h => ?_) (fun h => ?_))
  · exact x_eq (x_cal (d_lowest t) (r.stiff * (u.num - r.slack * (u.den : Int)), (u.den : Int)) (Wd.Le.refl _) hr ⟨den_pos u, up_abs hu.d (by decide)⟩ (xa_cons (x_mul (cmul_of (stiff_abs hk) (top_abs hk hu)) (x_rstiff (x_var 0)) (x_var 2)) (xa_cons (x_den (x_var 1)) xa_nil))) (pull_pos (of_decide_eq_true h.symm))
  · exact x_eq (x_rat (q := 0) ⟨rfl, rfl⟩ (xa_cons x_int (xa_cons x_int xa_nil))) (pull_not (of_decide_eq_false h.symm))

def AllOk (rs : List Rope) (u : Rat) : Prop := (∀ r ∈ rs, Ok r) ∧ rs.length ≤ 1000 ∧ ∃ n, Sz n u ∧ (n + 26) * rs.length + 1 ≤ 3900 ∧ n ≤ 3900
theorem sz_pulls {rs : List Rope} {u : Rat} {n : Nat} (ho : ∀ r ∈ rs, Ok r) (hu : Sz n u) (i : Nat) : Sz ((n + 26) * rs.length + 1) (((rs.map fun r => pullR r u).take i).sum) := by
  refine (sz_sum (n := n + 25) fun q hq => ?_).mono ?_
  · obtain ⟨r, hr, rfl⟩ := List.mem_map.mp (List.mem_of_mem_take hq)
    exact sz_pull (ho r hr) hu
  · have h : ((rs.map fun r => pullR r u).take i).length ≤ rs.length := by rw [List.length_take, List.length_map]; omega
    exact Nat.succ_le_succ (Nat.mul_le_mul_left (n + 25 + 1) h)
theorem sz_total {rs : List Rope} {u : Rat} {n : Nat} (ho : ∀ r ∈ rs, Ok r) (hu : Sz n u) : Sz ((n + 26) * rs.length + 1) (total rs u) := by
  have := sz_pulls ho hu rs.length
  rw [List.take_of_length_le (by rw [List.length_map]; omega)] at this
  exact this
def spAllPull (K : PySem.W.Frag) (T : List (Addr × Str)) : Sp := spW K (fun _ => w0 T) (fun i : List Rope × Rat => [.lst i.1, .dat i.2]) (fun i => AllOk i.1 i.2) (fun i => .dat (total i.1 i.2))
theorem d_all_pull (t : Tx K mg cc) : Df P w K mg base lv_all_pull "all_pull" (spAllPull K (TT PP)) := by
  refine df_of t.t_all_pull sc_all_pull (fun i => rfl) (fun i => rfl) (fun f cdv A outer s H E vs i hr ok hp => ?_)
  obtain ⟨rs, u⟩ := i
  obtain ⟨ho, hl, n, hu, hn, hn2⟩ : AllOk rs u := hp
  obtain ⟨v1, v2, rfl, h1, _⟩ := ok.two
  obtain ⟨p, us, rfl, _⟩ := h1
  have hN := sc_all_pull.nd
  change XSs _ ⟨_, _, [⟨p, rs⟩], _⟩ [AV.val (.ref p), .dat u, .un, .un] _ _
  refine q_set 2 (x_rat (q := 0) ⟨rfl, rfl⟩ (xa_cons x_int (xa_cons x_int xa_nil))) ?_
  refine q_forS (xs := rs) (fun i => [AV.val (.ref p), .dat u, .dat ((rs.map fun r => pullR r u).take i).sum, .un]) (fun i x => [AV.val (.ref p), .dat u, .dat ((rs.map fun r => pullR r u).take i).sum, .dat x]) rfl
    (i_pr (List.mem_singleton.mpr rfl) (x_varV 0)) (by rw [List.take_zero]; rfl) (fun c' i x hx => g_name 3) (fun pr tu i x hx => ?_) (s_ret (x_eq (x_var 2) (by rw [List.take_of_length_le (by rw [List.length_map]; omega)]; rfl)))
  have hk := ho x (List.mem_of_getElem? hx)
  have e := sum_take_succ (qs := rs.map fun r => pullR r u) (i := i) (q := pullR x u) (by rw [List.getElem?_map, hx]; rfl)
  have hi : i < rs.length := (List.getElem?_eq_some_iff.mp hx).1
  have h1 : (n + 26) * 1 ≤ (n + 26) * rs.length := Nat.mul_le_mul_left _ (by omega)
  exact q_set 2 (x_eq (x_cal (d_plus t) (((rs.map fun r => pullR r u).take i).sum, pullR x u) (Wd.Le.refl _) hr ⟨(sz_pulls ho hu i).mono (by omega), (sz_pull hk hu).mono (by omega)⟩ (xa_cons (x_var 2) (xa_cons (x_cal (d_pull t) (x, u) (Wd.Le.refl _) hr ⟨hk, hu.mono (by omega)⟩ (xa_cons (x_var 3) (xa_cons (x_var 1) xa_nil))) xa_nil))) e.symm) (s_fg [3] (s_end rfl))

def spLeft (K : PySem.W.Frag) (T : List (Addr × Str)) : Sp := spW K (fun _ => w0 T) (fun i : List Rope × Bool × List Str => [.dat i.1, nmAV i.2.1 i.2.2]) (fun i => i.1.length ≤ 100000) (fun i => .own (left i.1 i.2.2))

theorem d_left_of (t : Tx K mg cc) : Df P w K mg base lv_left_of "left_of" (spLeft K (TT PP)) := by
  refine df_of t.t_left_of sc_left_of (fun i => rfl) (fun i => by cases i.2.1 <;> rfl) (fun f cdv A outer s H E vs i hr ok hp => ?_)
  obtain ⟨rs, bl, ns⟩ := i
  have hl : rs.length ≤ 100000 := hp
  have hN := sc_left_of.nd
  obtain ⟨v1, v2, rfl, _, h2⟩ := ok.two
  rw [show left rs ns = (rs.filter fun r => !decide (r.name ∈ ns)).map id from (List.map_id _).symm]
  cases bl with
  | true =>
    obtain ⟨p, us, rfl, _⟩ := h2
    change XSs _ ⟨_, _, [⟨p, ns⟩], _⟩ [AV.dat rs, .val (.ref p), .un] _ _
    exact s_ret (x_lc1 2 id _ (i_tup (x_var 0)).cc hl (fun s H C cl fp x _ => c_one (t_niL (x_rname (x_var 2)) (x_varP 1 (List.mem_singleton.mpr rfl)))) (fun s H C cl fp x _ _ => x_var 2))
  | false =>
    change XSs _ _ [AV.dat rs, .dat ns, .un] _ _
    exact s_ret (x_lc1 2 id _ (i_tup (x_var 0)).cc hl (fun s H C cl fp x _ => c_one (t_niT (x_rname (x_var 2)) (x_var 1))) (fun s H C cl fp x _ _ => x_var 2))

def spSunk (K : PySem.W.Frag) (T : List (Addr × Str)) : Sp := spW K (fun _ => w0 T) (fun i : List Rope × Rat => [.lst i.1, .dat i.2]) (fun i => (∀ r ∈ i.1, Ok r) ∧ i.1.length ≤ 1000 ∧ Sz 3900 i.2) (fun i => .dat (sunkBy i.1 i.2))
theorem nonRat {K : PySem.W.Frag} (y : Rat) (H : Hp) : ¬ rp K H .non y := fun z => by
  obtain ⟨a, e, _⟩ := z
  cases e

theorem d_sunk_by (t : Tx K mg cc) (TB : TabB base mg cc PP) : Df P w K mg base lv_sunk_by "sunk_by" (spSunk K (TT PP)) := by
  refine df_ofL t.t_sunk_by sc_sunk_by (fun i => rfl) (fun i => rfl) (fun f A outer s H E vs i hr ok hp => ?_)
  obtain ⟨rs, l⟩ := i
  obtain ⟨ho, hz, hs⟩ : (∀ r ∈ rs, Ok r) ∧ rs.length ≤ 1000 ∧ Sz 3900 l := hp
  obtain ⟨v1, v2, rfl, h1, h2⟩ := ok.two
  obtain ⟨p, us, rfl, _⟩ := h1
  have hN := sc_sunk_by.nd
  change XSs _ ⟨_, _, [⟨p, rs⟩], _⟩ [AV.val (.ref p), .dat l, .un, .un, .un, .un, .un, .un, .un] _ _
  refine q_when (t_eqi (x_num (x_var 1)) x_int) (fun h => ?_) (fun h => ?_)
  · have hl : l = 0 := num_zero (of_decide_eq_true h.symm)
    exact s_ret (x_eq (x_some (x_rat (q := 0) ⟨rfl, rfl⟩ (xa_cons x_int (xa_cons x_int xa_nil)))) (by rw [hl]; exact (sunkBy_zero rs).symm))
  · have hl : ¬ l.num = 0 := of_decide_eq_false h.symm
    refine q_set 2 (x_non (α := Rat)) ?_
    refine q_asg (x_pair (xa_cons x_int (xa_cons x_int xa_nil))) (g_pair (x := (0 : Int)) (y := (0 : Int)) rfl (g_name 3) (g_name 4)) ?_
    refine q_forS (xs := bySlack rs) (fun i => [.val (.ref p), .dat l, .dat (sbSt rs l i).1, .dat (sbSt rs l i).2.1, .dat (sbSt rs l i).2.2, .un, .un, .un, .un]) (fun i x => [.val (.ref p), .dat l, .dat (sbSt rs l i).1, .dat (sbSt rs l i).2.1, .dat (sbSt rs l i).2.2, .dat x.name, .dat x.slack, .dat x.stiff, .dat x.strong]) rfl
      (i_new (x_sortLam (Wd.Le.refl _) (xa_cons (x_varP 0 (List.mem_singleton.mpr rfl)) xa_nil) t.g_sorted TB rfl (List.mem_singleton.mpr rfl) (fun q hq _ => by
        obtain rfl := List.mem_singleton.mp hq
        rfl) ⟨rfl, rfl, rfl, rfl, fun _ _ _ _ _ _ _ => rfl⟩ rfl (hr.mono (by decide)) hz)) (by rw [sbSt_zero]; rfl)
      (fun c' i x hx => g_rope rfl (g_name 5) (g_name 6) (g_name 7) (g_name 8)) (fun pr tu i x hx => ?_) (s_ret (x_eq (x_var 2) (sunkBy_end hl)))
    have hx1 : x ∈ bySlack rs := List.mem_of_getElem? hx
    have hk : Ok x := bySlack_ok ho x hx1
    have hi : i < rs.length := by
      have := (List.getElem?_eq_some_iff.mp hx).1
      rw [bySlack_len] at this
      exact this
    have B := sb_bounds ho hs hz i (by omega)
    have sx := sbSt_succ (l := l) hx
    generalize hst : sbSt rs l i = st at B sx
    obtain ⟨fo, S, D⟩ := st
    obtain ⟨b1, b2, b3, b4, b5⟩ := B
    have b1 : 0 ≤ S := b1
    have b2 : S ≤ 1000 * (i : Int) := b2
    have b3 : 0 ≤ D := b3
    have b4 : D ≤ 10000000 * (i : Int) := b4
    have ⟨k1, k2, k3, k4, k5, k6⟩ := hk
    obtain ⟨m1, m2⟩ := mul_in (a := x.stiff) (b := x.slack) (m := 1000) (k := 10000) (by omega) k4 k1 k2
    have hS : 0 < S + x.stiff := by omega
    have hS2 : (S + x.stiff).natAbs < 2 ^ 40 := by omega
    have hD2 : (D + x.stiff * x.slack).natAbs < 2 ^ 40 := by omega
    refine s_if (P := (· = under x fo)) ?_ (fun h => ?_) (fun h => ?_)
    · cases fo with
      | none => exact t_eq (t_w (t_orD (y := true) (t_isN nonRat (x_var 2)) (fun h => by cases h))) rfl
      | some q =>
        refine t_eq (t_w (t_orD (y := decide ((x.slack : Rat) < q)) (t_isN nonRat (x_var 2)) (fun h => t_or1 (t_val (x_cal (d_is_lesser t) ((x.slack : Rat), q) (Wd.Le.refl _) hr ⟨sz_int (up_abs (slack_abs hk) (by decide)) (by decide), (b5 q rfl).mono (by decide)⟩
          (xa_cons (x_rat ⟨Rat.num_intCast .., by rw [Rat.den_intCast]; rfl⟩ (xa_cons (x_var 6) (xa_cons x_int xa_nil))) (xa_cons (x_get (x_var 2)) xa_nil))))))) ?_
        rfl
    · have hu : under x fo = true := h.symm
      refine q_par 3 4 (xa_cons (x_add (x_var 3) (x_var 7)) (xa_cons (x_add (x_var 4) (x_mul (cmul_of (stiff_abs hk) (slack_abs hk)) (x_var 7) (x_var 6))) xa_nil)) ?_
      refine q_set 2 (x_eq (x_some (x_cal (d_lowest t) (l.num + (D + x.stiff * x.slack) * (l.den : Int), (S + x.stiff) * (l.den : Int)) (Wd.Le.refl _) hr ⟨Int.mul_pos hS (den_pos l), up_abs (mul_abs hS2 hs.d) (by decide)⟩
        (xa_cons (x_add (x_num (x_var 1)) (x_mul (cmul_of hD2 hs.d) (x_var 4) (x_den (x_var 1)))) (xa_cons (x_mul (cmul_of hS2 hs.d) (x_var 3) (x_den (x_var 1))) xa_nil)))) (congrArg some (sunk_eq l (D + x.stiff * x.slack) (S + x.stiff)))) ?_
      refine s_fg [5, 6, 7, 8] (s_end ?_)
      rw [sx, sbStep_yes hu]
      rfl
    · have hu : under x fo = false := h.symm
      refine s_fg [5, 6, 7, 8] (s_end ?_)
      rw [sx, sbStep_not hu]
      rfl

def spSinking (K : PySem.W.Frag) (T : List (Addr × Str)) : Sp := spW K (fun _ => w0 T) (fun i : List Rope × Bool × List Str × Rat => [.dat i.1, nmAV i.2.1 i.2.2.1, .dat i.2.2.2]) (fun i => (∀ r ∈ i.1, Ok r) ∧ i.1.length ≤ 1000 ∧ Sz 3900 i.2.2.2) (fun i => .dat (sunkBy (left i.1 i.2.2.1) i.2.2.2))
theorem d_sinking (t : Tx K mg cc) (TB : TabB base mg cc PP) : Df P w K mg base lv_sinking "sinking" (spSinking K (TT PP)) := by
  refine df_of t.t_sinking sc_sinking (fun i => rfl) (fun i => by cases i.2.1 <;> rfl) (fun f cdv A outer s H E vs i hr ok hp => ?_)
  obtain ⟨rs, bl, ns, l⟩ := i
  obtain ⟨ho, hz, hs⟩ : (∀ r ∈ rs, Ok r) ∧ rs.length ≤ 1000 ∧ Sz 3900 l := hp
  obtain ⟨v1, v2, v3, rfl, _, h2, _⟩ := ok.three
  have hp : (∀ r ∈ left rs ns, Ok r) ∧ (left rs ns).length ≤ 1000 ∧ Sz 3900 l := ⟨left_ok ho, Nat.le_trans (left_len rs ns) hz, hs⟩
  cases bl with
  | true =>
    obtain ⟨p, us, rfl, _⟩ := h2
    change XSs _ ⟨_, _, [⟨p, ns⟩], _⟩ [AV.dat rs, .val (.ref p), .dat l] _ _
    exact s_ret (x_cal (d_sunk_by t TB) (left rs ns, l) (Wd.Le.refl _) hr hp (xa_cons (x_lst (x_cal (d_left_of t) (rs, true, ns) (Wd.Le.refl _) hr (by show rs.length ≤ _; omega) (xa_cons (x_var 0) (xa_cons (x_varP 1 (List.mem_singleton.mpr rfl)) xa_nil)))) (xa_cons (x_var 2) xa_nil)))
  | false =>
    change XSs _ _ [AV.dat rs, .dat ns, .dat l] _ _
    exact s_ret (x_cal (d_sunk_by t TB) (left rs ns, l) (Wd.Le.refl _) hr hp (xa_cons (x_lst (x_cal (d_left_of t) (rs, false, ns) (Wd.Le.refl _) hr (by show rs.length ≤ _; omega) (xa_cons (x_var 0) (xa_cons (x_var 1) xa_nil)))) (xa_cons (x_var 2) xa_nil)))

def pullsOf (rs : List Rope) (ns : List Str) (l : Rat) : List (Str × Rat) := match sunkBy (left rs ns) l with
  | some u => (left rs ns).map fun r => (r.name, pullR r u)
  | none => []
theorem pullsOf_some {rs : List Rope} {ns : List Str} {l u : Rat} (h : sunkBy (left rs ns) l = some u) : pullsOf rs ns l = (left rs ns).map fun r => (r.name, pullR r u) := by unfold pullsOf; rw [h]
theorem pullsOf_none {rs : List Rope} {ns : List Str} {l : Rat} (h : (sunkBy (left rs ns) l).isNone = true) : pullsOf rs ns l = [] := by unfold pullsOf; rw [Option.isNone_iff_eq_none.mp h]
def spPulls (K : PySem.W.Frag) (T : List (Addr × Str)) : Sp := spW K (fun _ => w0 T) (fun i : List Rope × Bool × List Str × Rat => [.dat i.1, nmAV i.2.1 i.2.2.1, .dat i.2.2.2]) (fun i => (∀ r ∈ i.1, Ok r) ∧ i.1.length ≤ 1000 ∧ Sz 3900 i.2.2.2) (fun i => .own (pullsOf i.1 i.2.2.1 i.2.2.2))
theorem d_pulls (t : Tx K mg cc) (TB : TabB base mg cc PP) : Df P w K mg base lv_pulls "pulls" (spPulls K (TT PP)) := by
  refine df_of t.t_pulls sc_pulls (fun i => rfl) (fun i => by cases i.2.1 <;> rfl) (fun f cdv A outer s H E vs i hr ok hp => ?_)
  obtain ⟨rs, bl, ns, l⟩ := i
  obtain ⟨ho, hz, hs⟩ : (∀ r ∈ rs, Ok r) ∧ rs.length ≤ 1000 ∧ Sz 3900 l := hp
  obtain ⟨v1, v2, v3, rfl, _, h2, _⟩ := ok.three
  have hp : (∀ r ∈ left rs ns, Ok r) ∧ (left rs ns).length ≤ 1000 ∧ Sz 3900 l := ⟨left_ok ho, Nat.le_trans (left_len rs ns) hz, hs⟩
  have hN := sc_pulls.nd
  cases bl with
  | true =>
    obtain ⟨p, us, rfl, _⟩ := h2
    change XSs _ ⟨_, _, [⟨p, ns⟩], _⟩ [AV.dat rs, .val (.ref p), .dat l, .un, .un, .un] _ _
    refine q_setL 3 (x_cal (d_left_of t) (rs, true, ns) (Wd.Le.refl _) hr (by show rs.length ≤ _; omega) (xa_cons (x_var 0) (xa_cons (x_varP 1 (List.mem_singleton.mpr rfl)) xa_nil))) ?_
    refine q_set 4 (x_cal (d_sunk_by t TB) (left rs ns, l) (Wd.Le.refl _) hr hp (xa_cons (x_varL 3) (xa_cons (x_var 2) xa_nil))) ?_
    refine s_ret (x_ifE (t_notN nonRat (x_var 4)) (fun h => ?_) (fun h => ?_))
    · obtain ⟨u, hu⟩ : ∃ u, sunkBy (left rs ns) l = some u := Option.isSome_iff_exists.mp h.symm
      have hsu : Sz 4000 u := (sz_sunkBy hp.1 hs hp.2.1 hu).mono (by decide)
      rw [pullsOf_some hu]
      rw [hu]
      exact x_map1 5 (fun r : Rope => (r.name, pullR r u)) (i_lst (x_varL 3)) (Nat.le_trans hp.2.1 (by decide)) (fun s H C cl fp x hx => x_pair (xa_cons (x_rname (x_var 5)) (xa_cons (x_cal (d_pull t) (x, u) (Wd.Le.refl _) hr ⟨hp.1 x hx, hsu⟩ (xa_cons (x_var 5) (xa_cons (x_get (x_var 4)) xa_nil))) xa_nil)))
    · rw [pullsOf_none (Option.isSome_eq_false_iff.mp h.symm)]
      exact x_nil
  | false =>
    change XSs _ _ [AV.dat rs, .dat ns, .dat l, .un, .un, .un] _ _
    refine q_setL 3 (x_cal (d_left_of t) (rs, false, ns) (Wd.Le.refl _) hr (by show rs.length ≤ _; omega) (xa_cons (x_var 0) (xa_cons (x_var 1) xa_nil))) ?_
    refine q_set 4 (x_cal (d_sunk_by t TB) (left rs ns, l) (Wd.Le.refl _) hr hp (xa_cons (x_varL 3) (xa_cons (x_var 2) xa_nil))) ?_
    refine s_ret (x_ifE (t_notN nonRat (x_var 4)) (fun h => ?_) (fun h => ?_))
    · obtain ⟨u, hu⟩ : ∃ u, sunkBy (left rs ns) l = some u := Option.isSome_iff_exists.mp h.symm
      have hsu : Sz 4000 u := (sz_sunkBy hp.1 hs hp.2.1 hu).mono (by decide)
      rw [pullsOf_some hu]
      rw [hu]
      exact x_map1 5 (fun r : Rope => (r.name, pullR r u)) (i_lst (x_varL 3)) (Nat.le_trans hp.2.1 (by decide)) (fun s H C cl fp x hx => x_pair (xa_cons (x_rname (x_var 5)) (xa_cons (x_cal (d_pull t) (x, u) (Wd.Le.refl _) hr ⟨hp.1 x hx, hsu⟩ (xa_cons (x_var 5) (xa_cons (x_get (x_var 4)) xa_nil))) xa_nil)))
    · rw [pullsOf_none (Option.isSome_eq_false_iff.mp h.symm)]
      exact x_nil

def spGives (K : PySem.W.Frag) (T : List (Addr × Str)) : Sp := spW K (fun _ => w0 T) (fun i : Rope × Rat => [.dat i.1, .dat i.2]) (fun i => Ok i.1 ∧ Sz 3941 i.2) (fun i => .dat (gives i.2 i.1))
theorem d_gives_way (t : Tx K mg cc) : Df P w K mg base lv_gives_way "gives_way" (spGives K (TT PP)) := by
  refine df_of t.t_gives_way sc_gives_way (fun i => rfl) (fun i => rfl) (fun f cdv A outer s H E vs i hr ok hp => ?_)
  obtain ⟨r, u⟩ := i
  obtain ⟨hk, hu⟩ : Ok r ∧ Sz 3941 u := hp
  obtain ⟨v1, v2, rfl, _, _⟩ := ok.two
  change XSs _ _ [AV.dat r, AV.dat u] _ _
  exact s_ret (x_cal (d_is_lesser t) ((r.strong : Rat), pullR r u) (Wd.Le.refl _) hr ⟨sz_int (up_abs (strong_abs hk) (by decide)) (by decide), (sz_pull hk hu).mono (by decide)⟩
    (xa_cons (x_rat ⟨Rat.num_intCast .., by rw [Rat.den_intCast]; rfl⟩ (xa_cons (x_rstrong (x_var 0)) (xa_cons x_int xa_nil))) (xa_cons (x_cal (d_pull t) (r, u) (Wd.Le.refl _) hr ⟨hk, hu.mono (by decide)⟩ (xa_cons (x_var 0) (xa_cons (x_var 1) xa_nil))) xa_nil)))

def Bs (rs : List Rope) : Prop := (∀ r ∈ rs, Ok r) ∧ (∀ r ∈ rs, PySem.PyData.strOk r.name = true) ∧ rs.length ≤ 100
theorem bs_left {rs : List Rope} (h : Bs rs) (ns : List Str) : (∀ r ∈ left rs ns, Ok r) ∧ (∀ r ∈ left rs ns, PySem.PyData.strOk r.name = true) ∧ (left rs ns).length ≤ 100 := ⟨left_ok h.1, fun r hr => h.2.1 r (List.mem_filter.mp hr).1, Nat.le_trans (left_len rs ns) h.2.2⟩
theorem wave_strs {rs : List Rope} (h : Bs rs) (ns : List Str) (l : Rat) : Dt.ok (wave rs ns l) := fun n hn => by
  obtain ⟨r, hr, e⟩ := wave_mem hn
  rw [← e]
  exact (bs_left h ns).2.1 r hr

def spWaves (K : PySem.W.Frag) (T : List (Addr × Str)) : Sp := spW K (fun _ => w0 T) (fun i : List Rope × Bool × List Str × Rat => [.dat i.1, nmAV i.2.1 i.2.2.1, .dat i.2.2.2]) (fun i => Bs i.1 ∧ 0 ≤ i.2.2.2 ∧ Sz 3900 i.2.2.2) (fun i => .own (fin i.1 i.2.2.1 i.2.2.2).1)
theorem d_waves (t : Tx K mg cc) (TB : TabB base mg cc PP) : Df P w K mg base lv_waves "waves" (spWaves K (TT PP)) := by
  refine df_of t.t_waves sc_waves (fun i => rfl) (fun i => by cases i.2.1 <;> rfl) (fun f cdv A outer s H E vs i hr ok hp => ?_)
  obtain ⟨rs, bl, ns, l⟩ := i
  obtain ⟨hb, h0, hs⟩ : Bs rs ∧ 0 ≤ l ∧ Sz 3900 l := hp
  obtain ⟨v1, v2, v3, rfl, _, h2, _⟩ := ok.three
  have hN := sc_waves.nd
  cases bl with
  | true =>
    obtain ⟨p, us, rfl, _⟩ := h2
    change XSs _ ⟨_, _, [⟨p, ns⟩], _⟩ [AV.dat rs, .val (.ref p), .dat l, .un, .un, .un, .un, .un] _ _
    refine q_setL 3 (x_nil (α := List Str)) ?_
    refine q_setL 4 (x_cal (d_left_of t) (rs, true, ns) (Wd.Le.refl _) hr (by show rs.length ≤ _; have := hb.2.2; omega) (xa_cons (x_var 0) (xa_cons (x_varP 1 (List.mem_singleton.mpr rfl)) xa_nil))) ?_
    refine q_whileI (fun z : List (List Str) × List Str => [AV.dat rs, .val (.ref p), .dat l, .own z.1, .own (left rs z.2), .un, .un, .un]) (fun z => z.1 ++ (fin rs z.2 l).1 = (fin rs ns l).1) (fun z => (left rs z.2).length) (fun z => !decide (left rs z.2 = [])) ([], ns) (List.nil_append _) rfl
      (fun z hz => t_neL hr (x_varL 4) (x_lst x_nil) (bs_left hb z.2).2.1 (fun _ hx => absurd hx List.not_mem_nil)) (fun z hz hb2 => ?_) (fun z hz hb2 => ?_)
    · obtain ⟨g, m⟩ := z
      have hz : g ++ (fin rs m l).1 = (fin rs ns l).1 := hz
      have hne : left rs m ≠ [] := fun e => by
        have hb2 : (!decide (left rs m = [])) = true := hb2
        rw [decide_eq_true e] at hb2
        cases hb2
      have hm := bs_left hb m
      obtain ⟨u, hu⟩ := sunk_some hm.1 hne h0
      have hsu := sz_sunkBy hm.1 hs (Nat.le_trans hm.2.2 (by decide)) hu
      have hgl : g.length < 100000 := by
        have h1 := congrArg List.length hz
        rw [List.length_append] at h1
        have h2 := (fin_len rs ns l).1
        have h3 := left_len rs ns
        have h4 := hb.2.2
        omega
      refine q_set 5 (x_eq (x_cal (d_sunk_by t TB) (left rs m, l) (Wd.Le.refl _) hr ⟨hm.1, Nat.le_trans hm.2.2 (by decide), hs⟩ (xa_cons (x_varL 4) (xa_cons (x_var 2) xa_nil))) hu) ?_
      refine q_set (y := wave rs m l) 6 (x_eq (x_tupleL t.g_tuple (xa_cons (x_lst (x_lc1 7 Rope.name (gives u) (i_lst (x_varL 4)) (Nat.le_trans hm.2.2 (by decide)) (fun s H C cl fp x hx => c_one (t_val (x_cal (d_gives_way t) (x, u) (Wd.Le.refl _) hr ⟨hm.1 x hx, hsu⟩ (xa_cons (x_var 7) (xa_cons (x_get (x_var 5)) xa_nil))))) (fun s H C cl fp x hx _ => x_rname (x_var 7)))) xa_nil)) (wave_some hu).symm) ?_
      refine q_when (t_eqD hr (x_var 6) x_tup0 (wave_strs hb m l) (fun _ hx => absurd hx List.not_mem_nil)) (fun h => ?_) (fun h => ?_)
      · have hw : wave rs m l = [] := of_decide_eq_true h.symm
        rw [fin_end hw, List.append_nil] at hz
        exact s_retOwn (xs := g) 3 (by show AV.own (fin rs ns l).1 = AV.own g; rw [hz])
      · have hw : wave rs m l ≠ [] := of_decide_eq_false h.symm
        refine q_append 3 (xa_cons (x_var 6) xa_nil) ?_ hgl
        refine q_lc1 4 7 id (fun r : Rope => !decide (r.name ∈ wave rs m l)) (i_lst (x_varL 4)) (Nat.le_trans hm.2.2 (by decide)) (fun s H C cl fp x _ => c_one (t_niT (x_rname (x_var 7)) (x_var 6))) (fun s H C cl fp x _ _ => x_var 7) ?_
        rw [List.map_id, ← left_app]
        refine s_fg [5, 6] (s_end ⟨(g ++ [wave rs m l], m ++ wave rs m l), ?_, wave_less hw, rfl⟩)
        show (g ++ [wave rs m l]) ++ (fin rs (m ++ wave rs m l) l).1 = _
        rw [← hz, fin_step hw, List.append_assoc]
        rfl
    · obtain ⟨g, m⟩ := z
      have hz : g ++ (fin rs m l).1 = (fin rs ns l).1 := hz
      have he : left rs m = [] := by
        have hb2 : (!decide (left rs m = [])) = false := hb2
        exact Classical.byContradiction fun z => by rw [decide_eq_false z] at hb2; cases hb2
      rw [fin_end (wave_empty he), List.append_nil] at hz
      exact s_retOwn (xs := g) 3 (by show AV.own (fin rs ns l).1 = AV.own g; rw [hz])
  | false =>
    change XSs _ _ [AV.dat rs, .dat ns, .dat l, .un, .un, .un, .un, .un] _ _
    refine q_setL 3 (x_nil (α := List Str)) ?_
    refine q_setL 4 (x_cal (d_left_of t) (rs, false, ns) (Wd.Le.refl _) hr (by show rs.length ≤ _; have := hb.2.2; omega) (xa_cons (x_var 0) (xa_cons (x_var 1) xa_nil))) ?_
    refine q_whileI (fun z : List (List Str) × List Str => [AV.dat rs, .dat ns, .dat l, .own z.1, .own (left rs z.2), .un, .un, .un]) (fun z => z.1 ++ (fin rs z.2 l).1 = (fin rs ns l).1) (fun z => (left rs z.2).length) (fun z => !decide (left rs z.2 = [])) ([], ns) (List.nil_append _) rfl
      (fun z hz => t_neL hr (x_varL 4) (x_lst x_nil) (bs_left hb z.2).2.1 (fun _ hx => absurd hx List.not_mem_nil)) (fun z hz hb2 => ?_) (fun z hz hb2 => ?_)
    · obtain ⟨g, m⟩ := z
      have hz : g ++ (fin rs m l).1 = (fin rs ns l).1 := hz
      have hne : left rs m ≠ [] := fun e => by
        have hb2 : (!decide (left rs m = [])) = true := hb2
        rw [decide_eq_true e] at hb2
        cases hb2
      have hm := bs_left hb m
      obtain ⟨u, hu⟩ := sunk_some hm.1 hne h0
      have hsu := sz_sunkBy hm.1 hs (Nat.le_trans hm.2.2 (by decide)) hu
      have hgl : g.length < 100000 := by
        have h1 := congrArg List.length hz
        rw [List.length_append] at h1
        have h2 := (fin_len rs ns l).1
        have h3 := left_len rs ns
        have h4 := hb.2.2
        omega
      refine q_set 5 (x_eq (x_cal (d_sunk_by t TB) (left rs m, l) (Wd.Le.refl _) hr ⟨hm.1, Nat.le_trans hm.2.2 (by decide), hs⟩ (xa_cons (x_varL 4) (xa_cons (x_var 2) xa_nil))) hu) ?_
      refine q_set (y := wave rs m l) 6 (x_eq (x_tupleL t.g_tuple (xa_cons (x_lst (x_lc1 7 Rope.name (gives u) (i_lst (x_varL 4)) (Nat.le_trans hm.2.2 (by decide)) (fun s H C cl fp x hx => c_one (t_val (x_cal (d_gives_way t) (x, u) (Wd.Le.refl _) hr ⟨hm.1 x hx, hsu⟩ (xa_cons (x_var 7) (xa_cons (x_get (x_var 5)) xa_nil))))) (fun s H C cl fp x hx _ => x_rname (x_var 7)))) xa_nil)) (wave_some hu).symm) ?_
      refine q_when (t_eqD hr (x_var 6) x_tup0 (wave_strs hb m l) (fun _ hx => absurd hx List.not_mem_nil)) (fun h => ?_) (fun h => ?_)
      · have hw : wave rs m l = [] := of_decide_eq_true h.symm
        rw [fin_end hw, List.append_nil] at hz
        exact s_retOwn (xs := g) 3 (by show AV.own (fin rs ns l).1 = AV.own g; rw [hz])
      · have hw : wave rs m l ≠ [] := of_decide_eq_false h.symm
        refine q_append 3 (xa_cons (x_var 6) xa_nil) ?_ hgl
        refine q_lc1 4 7 id (fun r : Rope => !decide (r.name ∈ wave rs m l)) (i_lst (x_varL 4)) (Nat.le_trans hm.2.2 (by decide)) (fun s H C cl fp x _ => c_one (t_niT (x_rname (x_var 7)) (x_var 6))) (fun s H C cl fp x _ _ => x_var 7) ?_
        rw [List.map_id, ← left_app]
        refine s_fg [5, 6] (s_end ⟨(g ++ [wave rs m l], m ++ wave rs m l), ?_, wave_less hw, rfl⟩)
        show (g ++ [wave rs m l]) ++ (fin rs (m ++ wave rs m l) l).1 = _
        rw [← hz, fin_step hw, List.append_assoc]
        rfl
    · obtain ⟨g, m⟩ := z
      have hz : g ++ (fin rs m l).1 = (fin rs ns l).1 := hz
      have he : left rs m = [] := by
        have hb2 : (!decide (left rs m = [])) = false := hb2
        exact Classical.byContradiction fun z => by rw [decide_eq_false z] at hb2; cases hb2
      rw [fin_end (wave_empty he), List.append_nil] at hz
      exact s_retOwn (xs := g) 3 (by show AV.own (fin rs ns l).1 = AV.own g; rw [hz])

def spBroken (K : PySem.W.Frag) (T : List (Addr × Str)) : Sp := spW K (fun _ => w0 T) (fun i : List Rope × Bool × List Str × Rat => [.dat i.1, nmAV i.2.1 i.2.2.1, .dat i.2.2.2]) (fun i => Bs i.1 ∧ 0 ≤ i.2.2.2 ∧ Sz 3900 i.2.2.2 ∧ i.2.2.1.length ≤ 10000) (fun i => .dat (brokenBy i.1 i.2.2.1 i.2.2.2))

theorem d_broken_by (t : Tx K mg cc) (TB : TabB base mg cc PP) : Df P w K mg base lv_broken_by "broken_by" (spBroken K (TT PP)) := by
  refine df_of t.t_broken_by sc_broken_by (fun i => rfl) (fun i => by cases i.2.1 <;> rfl) (fun f cdv A outer s H E vs i hr ok hp => ?_)
  obtain ⟨rs, bl, ns, l⟩ := i
  obtain ⟨hb, h0, hs, hn⟩ : Bs rs ∧ 0 ≤ l ∧ Sz 3900 l ∧ ns.length ≤ 10000 := hp
  obtain ⟨v1, v2, v3, rfl, _, h2, _⟩ := ok.three
  have hN := sc_broken_by.nd
  have hfl := fin_flat rs ns l
  have hln := fin_len rs ns l
  have hll := left_len rs ns
  have hbl := hb.2.2
  have hal : ∀ i, (ns ++ ((fin rs ns l).1.take i).flatten).length ≤ (fin rs ns l).2.length := fun i => by
    rw [hfl, List.length_append, List.length_append]
    have h := congrArg List.length (show (fin rs ns l).1.flatten = ((fin rs ns l).1.take i).flatten ++ ((fin rs ns l).1.drop i).flatten by rw [← List.flatten_append, List.take_append_drop])
    rw [List.length_append] at h
    omega
  cases bl with
  | true =>
    obtain ⟨p, us, rfl, _⟩ := h2
    change XSs _ ⟨_, _, [⟨p, ns⟩], _⟩ [AV.dat rs, .val (.ref p), .dat l, .un, .un] _ _
    refine q_setL 3 (x_listL t.g_list (xa_cons (x_varP 1 (List.mem_singleton.mpr rfl)) xa_nil)) ?_
    refine q_forS (xs := (fin rs ns l).1) (fun i => [AV.dat rs, .val (.ref p), .dat l, .own (ns ++ ((fin rs ns l).1.take i).flatten), .un]) (fun i x => [AV.dat rs, .val (.ref p), .dat l, .own (ns ++ ((fin rs ns l).1.take i).flatten), .dat x]) rfl
      (i_new (x_cal (d_waves t TB) (rs, true, ns, l) (Wd.Le.refl _) hr ⟨hb, h0, hs⟩ (xa_cons (x_var 0) (xa_cons (x_varP 1 (List.mem_singleton.mpr rfl)) (xa_cons (x_var 2) xa_nil))))) (by rw [List.take_zero, List.flatten_nil, List.append_nil]; rfl) (fun c' i x hx => g_name 4) (fun pr tu i x hx => ?_) ?_
    · have e : ns ++ ((fin rs ns l).1.take (i + 1)).flatten = (ns ++ ((fin rs ns l).1.take i).flatten) ++ x := by
        rw [List.take_add_one, hx, List.flatten_append, List.append_assoc]
        show _ = ns ++ (_ ++ x)
        rw [show (Option.toList (some x)).flatten = x from List.append_nil x]
      have h1 := hal (i + 1)
      rw [e, List.length_append] at h1
      refine q_setL 3 (x_cat (xs := ns ++ ((fin rs ns l).1.take i).flatten) (ys := x) (by omega) (x_varL 3) (x_lst (x_listT t.g_list (xa_cons (x_var 4) xa_nil)))) (s_fg [4] (s_end ?_))
      rw [e]
      rfl
    · rw [List.take_length, ← hfl]
      exact s_ret (x_tupleL t.g_tuple (xa_cons (x_lst (x_sortedS (hr.mono (by decide)) t.g_sorted (xa_cons (x_varL 3) xa_nil) (by show (fin rs ns l).2.length ≤ 100000; omega))) xa_nil))
  | false =>
    change XSs _ _ [AV.dat rs, .dat ns, .dat l, .un, .un] _ _
    refine q_setL 3 (x_listT t.g_list (xa_cons (x_var 1) xa_nil)) ?_
    refine q_forS (xs := (fin rs ns l).1) (fun i => [AV.dat rs, .dat ns, .dat l, .own (ns ++ ((fin rs ns l).1.take i).flatten), .un]) (fun i x => [AV.dat rs, .dat ns, .dat l, .own (ns ++ ((fin rs ns l).1.take i).flatten), .dat x]) rfl
      (i_new (x_cal (d_waves t TB) (rs, false, ns, l) (Wd.Le.refl _) hr ⟨hb, h0, hs⟩ (xa_cons (x_var 0) (xa_cons (x_var 1) (xa_cons (x_var 2) xa_nil))))) (by rw [List.take_zero, List.flatten_nil, List.append_nil]; rfl) (fun c' i x hx => g_name 4) (fun pr tu i x hx => ?_) ?_
    · have e : ns ++ ((fin rs ns l).1.take (i + 1)).flatten = (ns ++ ((fin rs ns l).1.take i).flatten) ++ x := by
        rw [List.take_add_one, hx, List.flatten_append, List.append_assoc]
        show _ = ns ++ (_ ++ x)
        rw [show (Option.toList (some x)).flatten = x from List.append_nil x]
      have h1 := hal (i + 1)
      rw [e, List.length_append] at h1
      refine q_setL 3 (x_cat (xs := ns ++ ((fin rs ns l).1.take i).flatten) (ys := x) (by omega) (x_varL 3) (x_lst (x_listT t.g_list (xa_cons (x_var 4) xa_nil)))) (s_fg [4] (s_end ?_))
      rw [e]
      rfl
    · rw [List.take_length, ← hfl]
      exact s_ret (x_tupleL t.g_tuple (xa_cons (x_lst (x_sortedS (hr.mono (by decide)) t.g_sorted (xa_cons (x_varL 3) xa_nil) (by show (fin rs ns l).2.length ≤ 100000; omega))) xa_nil))

def bearsB (rs : List Rope) (ns : List Str) (l : Rat) : Bool := decide (l.num = 0) || decide (((brokenBy rs ns l).length : Int) < (rs.length : Int))
def spBears (K : PySem.W.Frag) (T : List (Addr × Str)) : Sp := spW K (fun _ => w0 T) (fun i : List Rope × Bool × List Str × Rat => [.dat i.1, nmAV i.2.1 i.2.2.1, .dat i.2.2.2]) (fun i => Bs i.1 ∧ 0 ≤ i.2.2.2 ∧ Sz 3900 i.2.2.2 ∧ i.2.2.1.length ≤ 10000) (fun i => .dat (bearsB i.1 i.2.2.1 i.2.2.2))

theorem d_bears (t : Tx K mg cc) (TB : TabB base mg cc PP) : Df P w K mg base lv_bears "bears" (spBears K (TT PP)) := by
  refine df_of t.t_bears sc_bears (fun i => rfl) (fun i => by cases i.2.1 <;> rfl) (fun f cdv A outer s H E vs i hr ok hp => ?_)
  obtain ⟨rs, bl, ns, l⟩ := i
  obtain ⟨hb, h0, hs, hn⟩ : Bs rs ∧ 0 ≤ l ∧ Sz 3900 l ∧ ns.length ≤ 10000 := hp
  obtain ⟨v1, v2, v3, rfl, _, h2, _⟩ := ok.three
  cases bl with
  | true =>
    obtain ⟨p, us, rfl, _⟩ := h2
    change XSs _ ⟨_, _, [⟨p, ns⟩], _⟩ [AV.dat rs, .val (.ref p), .dat l] _ _
    exact s_ret (x_or (x_eqi (x_num (x_var 2)) x_int) (fun _ => x_one (x_lt (x_lenT t.g_len (xa_cons (x_cal (d_broken_by t TB) (rs, true, ns, l) (Wd.Le.refl _) hr ⟨hb, h0, hs, hn⟩ (xa_cons (x_var 0) (xa_cons (x_varP 1 (List.mem_singleton.mpr rfl)) (xa_cons (x_var 2) xa_nil)))) xa_nil)) (x_lenT t.g_len (xa_cons (x_var 0) xa_nil)))))
  | false =>
    change XSs _ _ [AV.dat rs, .dat ns, .dat l] _ _
    exact s_ret (x_or (x_eqi (x_num (x_var 2)) x_int) (fun _ => x_one (x_lt (x_lenT t.g_len (xa_cons (x_cal (d_broken_by t TB) (rs, false, ns, l) (Wd.Le.refl _) hr ⟨hb, h0, hs, hn⟩ (xa_cons (x_var 0) (xa_cons (x_var 1) (xa_cons (x_var 2) xa_nil)))) xa_nil)) (x_lenT t.g_len (xa_cons (x_var 0) xa_nil)))))

def spEnd (K : PySem.W.Frag) (T : List (Addr × Str)) : Sp := spW K (fun _ => w0 T) (fun i : Rope => [.dat i]) (fun i => Ok i) (fun i => .dat (endR i))

theorem d_end_of (t : Tx K mg cc) : Df P w K mg base lv_end_of "end_of" (spEnd K (TT PP)) := by
  refine df_of t.t_end_of sc_end_of (fun i => rfl) (fun i => rfl) (fun f cdv A outer s H E vs r hr ok hp => ?_)
  have hk : Ok r := hp
  obtain ⟨v1, rfl, _⟩ := ok.one
  change XSs _ _ [AV.dat r] _ _
  exact s_ret (x_cal (d_lowest t) (r.slack * r.stiff + r.strong, r.stiff) (Wd.Le.refl _) hr ⟨by have := hk.2.2.1; show 0 < r.stiff; omega, up_abs (stiff_abs hk) (by decide)⟩ (xa_cons (x_add (x_mul (cmul_of (slack_abs hk) (stiff_abs hk)) (x_rslack (x_var 0)) (x_rstiff (x_var 0))) (x_rstrong (x_var 0))) (xa_cons (x_rstiff (x_var 0)) xa_nil)))

def spInOrder (K : PySem.W.Frag) (T : List (Addr × Str)) : Sp := spW K (fun _ => w0 T) (fun i : List Rat => [.lst i]) (fun i => i.length ≤ 1000 ∧ ∀ q ∈ i, Sz 4000 q) (fun i => .own (ordR i))
theorem d_in_order (t : Tx K mg cc) : Df P w K mg base lv_in_order "in_order" (spInOrder K (TT PP)) := by
  refine df_of t.t_in_order sc_in_order (fun i => rfl) (fun i => rfl) (fun f cdv A outer s H E vs i hr ok hp => ?_)
  obtain ⟨hl, hs⟩ : i.length ≤ 1000 ∧ ∀ q ∈ i, Sz 4000 q := hp
  obtain ⟨v1, rfl, h1⟩ := ok.one
  obtain ⟨p, us, rfl, _⟩ := h1
  have hN := sc_in_order.nd
  change XSs _ ⟨_, _, [⟨p, i⟩], _⟩ [AV.val (.ref p), .un, .un, .un, .un] _ _
  refine q_setL 1 (x_nil (α := Rat)) ?_
  refine q_setL 3 (x_keys 2 hr t.g_list (i_lst (x_varP 0 (List.mem_singleton.mpr rfl))) (by omega)) ?_
  have hul := uniq_len i
  refine q_whileI (fun z : List Rat × List Rat => [AV.val (.ref p), .own z.1, .un, .own z.2, .un]) (fun z => z.1 ++ msort z.2 = ordR i ∧ (∀ q ∈ z.2, q ∈ i) ∧ z.1.length + z.2.length ≤ 1000) (fun z => z.2.length) (fun z => !decide (z.2 = [])) ([], uniq i) ⟨rfl, fun q hq => uniq_mem.mp hq, by show 0 + (uniq i).length ≤ 1000; omega⟩ rfl
    (fun z hz => t_neL hr (x_varL 3) (x_lst x_nil) (fun _ _ => trivial) (fun _ _ => trivial)) (fun z hz hb => ?_) (fun z hz hb => ?_)
  · obtain ⟨fs, zs⟩ := z
    obtain ⟨hz1, hz2, hz3⟩ : fs ++ msort zs = ordR i ∧ (∀ q ∈ zs, q ∈ i) ∧ fs.length + zs.length ≤ 1000 := hz
    have hne : zs ≠ [] := fun e => by
      have hb : (!decide (zs = [])) = true := hb
      rw [decide_eq_true e] at hb
      cases hb
    obtain ⟨z0, zt, rfl⟩ : ∃ a b, zs = a :: b := by
      cases zs with
      | nil => exact absurd rfl hne
      | cons a b => exact ⟨a, b, rfl⟩
    generalize hzs : z0 :: zt = zs at *
    have h0 : z0 ∈ zs := by rw [← hzs]; exact List.mem_cons_self ..
    have sp := minTo_spec h0
    refine q_set (y := z0) 4 (x_ixLd (xs := zs) (i := 0) (by rw [← hzs]; exact atI_head) (x_varL 3) x_int) ?_
    refine q_forO (xs := zs) (s1 := [AV.val (.ref p), .own fs, .un, .own zs, .dat (minTo z0 zs zs.length)]) 3 (fun q n => [AV.val (.ref p), .own fs, .un, .val (.ref q), .dat (minTo z0 zs n)]) (fun q n x => [AV.val (.ref p), .own fs, .dat x, .val (.ref q), .dat (minTo z0 zs n)]) rfl (fun q => rfl) (fun c' q n x hx => g_name 2) (fun q pr tu n x hx => ?_) (fun q => rfl) (fun q => rfl) ?_
    · have hn : n < zs.length := (List.getElem?_eq_some_iff.mp hx).1
      have h1 := (sp n (by omega)).1
      refine q_set (y := minTo z0 zs (n + 1)) 4 (x_eq (x_if (t_val (x_cal (d_is_lesser t) (x, minTo z0 zs n) (Wd.Le.refl _) hr ⟨hs _ (hz2 _ (List.mem_of_getElem? hx)), hs _ (hz2 _ h1)⟩ (xa_cons (x_var 2) (xa_cons (x_var 4) xa_nil)))) (fun _ => x_var 2) (fun _ => x_var 4)) ?_) (s_fg [2] (s_end rfl))
      rw [minTo_succ hx]
      by_cases h : x < minTo z0 zs n <;> simp [h]
    · obtain ⟨m1, m2, m3⟩ := sp zs.length (Nat.le_refl _)
      rw [List.take_length] at m3
      generalize minTo z0 zs zs.length = m at m1 m2 m3
      obtain ⟨j, hj⟩ : ∃ j, zs.findIdx? (fun y => decide (y = m)) = some j := by
        cases e : zs.findIdx? (fun y => decide (y = m)) with
        | some j => exact ⟨j, rfl⟩
        | none =>
          have := List.findIdx?_eq_none_iff.mp e m m1
          simp at this
      have hjm : zs[j]? = some m := by
        obtain ⟨a, b, _⟩ := List.findIdx?_eq_some_iff_getElem.mp hj
        rw [List.getElem?_eq_getElem a, of_decide_eq_true b]
      refine q_remove 3 hr (xa_cons (x_var 4) xa_nil) hj (fun _ _ => trivial) trivial ?_
      refine q_append (xs := fs) 1 (xa_cons (x_var 4) xa_nil) (s_fg [4] (s_end ⟨(fs ++ [m], zs.eraseIdx j), ⟨?_, fun q hq => hz2 q (List.mem_of_mem_eraseIdx hq), ?_⟩, ?_, rfl⟩)) (by omega)
      · show (fs ++ [m]) ++ msort (zs.eraseIdx j) = ordR i
        rw [← hz1, msort_step hjm m3, List.append_assoc]
        rfl
      · have := List.length_eraseIdx_le zs j
        have hjl := (List.getElem?_eq_some_iff.mp hjm).1
        have e := List.length_eraseIdx_of_lt hjl
        show (fs ++ [m]).length + (zs.eraseIdx j).length ≤ 1000
        rw [List.length_append, e]
        show fs.length + 1 + (zs.length - 1) ≤ 1000
        omega
      · have hjl := (List.getElem?_eq_some_iff.mp hjm).1
        show (zs.eraseIdx j).length < zs.length
        rw [List.length_eraseIdx_of_lt hjl]
        omega
  · obtain ⟨fs, zs⟩ := z
    obtain ⟨hz1, hz2, hz3⟩ : fs ++ msort zs = ordR i ∧ (∀ q ∈ zs, q ∈ i) ∧ fs.length + zs.length ≤ 1000 := hz
    have he : zs = [] := by
      have hb : (!decide (zs = [])) = false := hb
      exact Classical.byContradiction fun z => by rw [decide_eq_false z] at hb; cases hb
    subst he
    rw [show msort [] = [] from List.Perm.eq_nil (msort_perm []), List.append_nil] at hz1
    exact s_retOwn (xs := fs) 1 (by show AV.own (ordR i) = AV.own fs; rw [hz1])

theorem allok_of {rs qs : List Rope} {u : Rat} (ho : ∀ r ∈ qs, Ok r) (hl : qs.length ≤ 30) (hu : Sz 40 u) : AllOk qs u := ⟨ho, by omega, 40, hu, by have := Nat.mul_le_mul_left (40 + 26) hl; omega, by decide⟩
theorem sz_total30 {qs : List Rope} {u : Rat} (ho : ∀ r ∈ qs, Ok r) (hl : qs.length ≤ 30) (hu : Sz 40 u) : Sz 1990 (total qs u) := (sz_total ho hu).mono (by have := Nat.mul_le_mul_left (40 + 26) hl; omega)

def spLoadAt (K : PySem.W.Frag) (T : List (Addr × Str)) : Sp := spW K (fun _ => w0 T) (fun i : List Rope × Rat => [.dat i.1, .dat i.2]) (fun i => (∀ r ∈ i.1, Ok r) ∧ i.1.length ≤ 30 ∧ Sz 40 i.2) (fun i => .dat (loadAt i.1 i.2))
theorem d_load_at (t : Tx K mg cc) : Df P w K mg base lv_load_at "load_at" (spLoadAt K (TT PP)) := by
  refine df_of t.t_load_at sc_load_at (fun i => rfl) (fun i => rfl) (fun f cdv A outer s H E vs i hr ok hp => ?_)
  obtain ⟨rs, e⟩ := i
  obtain ⟨ho, hl, he⟩ : (∀ r ∈ rs, Ok r) ∧ rs.length ≤ 30 ∧ Sz 40 e := hp
  obtain ⟨v1, v2, rfl, _, _⟩ := ok.two
  have hN := sc_load_at.nd
  change XSs _ _ [AV.dat rs, .dat e, .un] _ _
  refine s_ret (x_cal (d_all_pull t) (atE rs e, e) (Wd.Le.refl _) hr (allok_of (rs := rs) (fun r hr => ho r (List.mem_filter.mp hr).1) (Nat.le_trans (List.length_filter_le ..) hl) he) (xa_cons (x_lst ?_) (xa_cons (x_var 1) xa_nil)))
  rw [show atE rs e = (rs.filter fun r => !decide (endR r < e)).map id from (List.map_id _).symm]
  exact x_lc1 2 id (fun r : Rope => !decide (endR r < e)) (i_tup (x_var 0)).cc (by show rs.length ≤ _; omega) (fun s H C cl fp r hr2 => c_one (t_notD (t_val (x_cal (d_is_lesser t) (endR r, e) (Wd.Le.refl _) hr ⟨(sz_end (ho r hr2)).mono (by decide), he.mono (by decide)⟩ (xa_cons (x_cal (d_end_of t) r (Wd.Le.refl _) hr (ho r hr2) (xa_cons (x_var 2) xa_nil)) (xa_cons (x_var 1) xa_nil)))))) (fun s H C cl fp r _ _ => x_var 2)
theorem end_sz {rs : List Rope} (ho : ∀ r ∈ rs, Ok r) : ∀ e ∈ ordR (rs.map endR), Sz 40 e := fun e he => by
  obtain ⟨r, hr, rfl⟩ := List.mem_map.mp (ord_mem.mp he)
  exact sz_end (ho r hr)
def spTable (K : PySem.W.Frag) (T : List (Addr × Str)) : Sp := spW K (fun _ => w0 T) (fun i : List Rope => [.dat i]) (fun i => (∀ r ∈ i, Ok r) ∧ i.length ≤ 30) (fun i => .dat (tableR i))
theorem d_table (t : Tx K mg cc) : Df P w K mg base lv_table "table" (spTable K (TT PP)) := by
  refine df_of t.t_table sc_table (fun i => rfl) (fun i => rfl) (fun f cdv A outer s H E vs rs hr ok hp => ?_)
  obtain ⟨ho, hl⟩ : (∀ r ∈ rs, Ok r) ∧ rs.length ≤ 30 := hp
  obtain ⟨v1, rfl, _⟩ := ok.one
  have hN := sc_table.nd
  change XSs _ _ [AV.dat rs, .un, .un] _ _
  have hol := ord_len (rs.map endR)
  rw [List.length_map] at hol
  refine s_ret (x_tupleL t.g_tuple (xa_cons (x_lst (x_map1 (xs := ordR (rs.map endR)) 1 (fun e => (e, loadAt rs e)) (i_lst (x_lst ?_)) (by omega) (fun s H C cl fp e he => x_pair (xa_cons (x_var 1) (xa_cons (x_cal (d_load_at t) (rs, e) (Wd.Le.refl _) hr ⟨ho, hl, end_sz ho e he⟩ (xa_cons (x_var 0) (xa_cons (x_var 1) xa_nil))) xa_nil))))) xa_nil))
  exact x_cal (d_in_order t) (rs.map endR) (Wd.Le.refl _) hr ⟨by rw [List.length_map]; omega, fun q hq => by
    obtain ⟨r, hr, rfl⟩ := List.mem_map.mp hq
    exact (sz_end (ho r hr)).mono (by decide)⟩ (xa_cons (x_lst (x_map1 2 endR (i_tup (x_var 0)).cc (by show rs.length ≤ _; omega) (fun s H C cl fp r hr2 => x_cal (d_end_of t) r (Wd.Le.refl _) hr (ho r hr2) (xa_cons (x_var 2) xa_nil)))) xa_nil)

theorem table_snd_sz {rs : List Rope} (ho : ∀ r ∈ rs, Ok r) (hl : rs.length ≤ 30) : ∀ q ∈ (tableR rs).map Prod.snd, 0 ≤ q ∧ Sz 1990 q := fun q hq => by
  unfold tableR at hq
  rw [List.map_map] at hq
  obtain ⟨e, he, rfl⟩ := List.mem_map.mp hq
  exact ⟨total_nonneg (fun r hr => ho r (List.mem_filter.mp hr).1) e, sz_total30 (fun r hr => ho r (List.mem_filter.mp hr).1) (Nat.le_trans (List.length_filter_le ..) hl) (end_sz ho e he)⟩
def spGreatest (K : PySem.W.Frag) (T : List (Addr × Str)) : Sp := spW K (fun _ => w0 T) (fun i : List Rope => [.dat i]) (fun i => Bs i ∧ i.length ≤ 30 ∧ i ≠ []) (fun i => .dat (bestR i, sunkBy (left i (brokenBy i [] (bestR i))) (bestR i)))
theorem d_greatest (t : Tx K mg cc) (TB : TabB base mg cc PP) : Df P w K mg base lv_greatest "greatest" (spGreatest K (TT PP)) := by
  refine df_of t.t_greatest sc_greatest (fun i => rfl) (fun i => rfl) (fun f cdv A outer s H E vs rs hr ok hp => ?_)
  obtain ⟨hB, hl, hn⟩ : Bs rs ∧ rs.length ≤ 30 ∧ rs ≠ [] := hp
  have ho := hB.1
  obtain ⟨v1, rfl, _⟩ := ok.one
  have hN := sc_greatest.nd
  change XSs _ _ [AV.dat rs, .un, .un, .un] _ _
  have hts := table_snd_sz ho hl
  have htl := table_len rs
  have hb := hts _ (best_mem hn)
  refine q_set (y := bestR rs) 1 (x_ixLd (xs := ordR ((tableR rs).map Prod.snd)) (i := -1) (atI_last (best_last hn)) (x_lst ?_) (x_neg x_int)) ?_
  · refine x_cal (d_in_order t) ((tableR rs).map Prod.snd) (Wd.Le.refl _) hr ⟨by rw [List.length_map]; omega, fun q hq => (hts q hq).2.mono (by decide)⟩ (xa_cons (x_lst ?_) xa_nil)
    have h2 : (tableR rs).map Prod.snd = ((tableR rs).filter fun _ => true).map Prod.snd := by rw [filt_all]
    rw [h2]
    exact x_lc2 (xs := tableR rs) 2 3 Prod.snd (fun _ => true) (i_tup (x_cal (d_table t) rs (Wd.Le.refl _) hr ⟨ho, hl⟩ (xa_cons (x_var 0) xa_nil))).cc (by omega) (fun s H C cl fp x _ => c_yes) (fun s H C cl fp x _ _ => x_var 3)
  · exact s_ret (x_pair (xa_cons (x_var 1) (xa_cons (x_cal (d_sunk_by t TB) (left rs (brokenBy rs [] (bestR rs)), bestR rs) (Wd.Le.refl _) hr ⟨left_ok ho, Nat.le_trans (left_len _ _) (by omega), hb.2.mono (by decide)⟩ (xa_cons (x_lst (x_cal (d_left_of t) (rs, false, brokenBy rs [] (bestR rs)) (Wd.Le.refl _) hr (by show rs.length ≤ _; omega) (xa_cons (x_var 0) (xa_cons (x_cal (d_broken_by t TB) (rs, false, [], bestR rs) (Wd.Le.refl _) hr ⟨hB, hb.1, hb.2.mono (by decide), Nat.zero_le _⟩ (xa_cons (x_var 0) (xa_cons x_tup0 (xa_cons (x_var 1) xa_nil)))) xa_nil)))) (xa_cons (x_var 1) xa_nil))) xa_nil)))

theorem wave2_len (rs : List Rope) (B : List Str) (l : Rat) : (left rs (srt (B ++ wave2 rs B l))).length + (wave2 rs B l).length ≤ (left rs B).length := by
  cases hs : sunkBy (left rs B) l with
  | none =>
    have e : wave2 rs B l = [] := by unfold wave2; rw [hs]
    rw [e, List.append_nil, left_congr (S' := B) (fun n => mem_srt)]
    exact Nat.le_refl _
  | some u =>
    rw [wave2_some hs, List.length_map, left_congr (S' := B ++ ((left rs B).filter fun r => !decide (u < endR r)).map Rope.name) (fun n => mem_srt), left_app]
    exact filter_two _ _ _ fun x hx hp => by
      have : x.name ∈ ((left rs B).filter fun r => !decide (u < endR r)).map Rope.name := List.mem_map.mpr ⟨x, List.mem_filter.mpr ⟨hx, hp⟩, rfl⟩
      rw [decide_eq_true this]
      rfl
abbrev lvB : Nat := lv_beyond - 9
def spBeyondN (n : Nat) (K : PySem.W.Frag) (T : List (Addr × Str)) : Sp := spW K (fun _ => w0 T) (fun i : List Rope × List Str × Rat => [.dat i.1, .dat i.2.1, .dat i.2.2]) (fun i => Bs i.1 ∧ 0 ≤ i.2.2 ∧ Sz 3900 i.2.2 ∧ i.2.1.length + (left i.1 i.2.1).length ≤ 10000 ∧ (left i.1 i.2.1).length ≤ n) (fun i => .dat (beyondT i.1 i.2.1 i.2.2))
theorem beyond_stepD (t : Tx K mg cc) (TB : TabB base mg cc PP) (n : Nat) (IH : ∀ m, m + 1 ≤ n → Df P w K mg base (m + (lvB + 1)) "beyond" (spBeyondN m K (TT PP))) : Df P w K mg base (n + (lvB + 1)) "beyond" (spBeyondN n K (TT PP)) := by
  refine df_of (k := n + lvB) t.t_beyond sc_beyond (fun i => rfl) (fun i => rfl) (fun f cdv A outer s H E vs i hr ok hp => ?_)
  obtain ⟨rs, B, l⟩ := i
  obtain ⟨hB, h0, hs, hl, hn⟩ : Bs rs ∧ 0 ≤ l ∧ Sz 3900 l ∧ B.length + (left rs B).length ≤ 10000 ∧ (left rs B).length ≤ n := hp
  have hr0 := hr.mono (Nat.le_add_left lvB n)
  obtain ⟨v1, v2, v3, rfl, _⟩ := ok.three
  have hN := sc_beyond.nd
  have ho := hB.1
  have hol := left_ok (ns := B) ho
  have hll : (left rs B).length ≤ 1000 := by have := left_len rs B; have := hB.2.2; omega
  have hw := wave2_len rs B l
  have hok : ∀ x ∈ left rs B, Dt.ok x := fun r hr => hB.2.1 r (List.mem_filter.mp hr).1
  change XSs _ _ [AV.dat rs, .dat B, .dat l, .un, .un, .un, .un] _ _
  refine q_setL 3 (x_cal (d_left_of t) (rs, false, B) (Wd.Le.refl _) hr0 (by show rs.length ≤ _; have := hB.2.2; omega) (xa_cons (x_var 0) (xa_cons (x_var 1) xa_nil))) ?_
  refine q_set 4 (x_cal (d_sunk_by t TB) (left rs B, l) (Wd.Le.refl _) hr0 ⟨hol, hll, hs⟩ (xa_cons (x_varL 3) (xa_cons (x_var 2) xa_nil))) ?_
  refine q_setL (xs := wave2 rs B l) 5 (x_ifE (t_neL hr0 (x_varL 3) (x_lst x_nil) hok (fun _ hx => absurd hx List.not_mem_nil)) (fun h => ?_) (fun h => ?_)) ?_
  · have hne : left rs B ≠ [] := of_decide_eq_false (by rw [eq_comm, Bool.not_eq_true'] at h; exact h)
    obtain ⟨u, hu⟩ := sunk_some hol hne h0
    have hsu := sz_sunkBy hol hs hll hu
    rw [wave2_some hu]
    exact x_lc1 6 Rope.name (fun r : Rope => !decide (u < endR r)) (i_lst (x_varL 3)) (by omega) (fun s H C cl fp r hr2 => c_one (t_notD (t_val (x_cal (d_is_lesser t) (u, endR r) (Wd.Le.refl _) hr0 ⟨hsu.mono (by decide), (sz_end (hol r hr2)).mono (by decide)⟩ (xa_cons (x_get (x_eq (x_var 4) hu)) (xa_cons (x_cal (d_end_of t) r (Wd.Le.refl _) hr0 (hol r hr2) (xa_cons (x_var 6) xa_nil)) xa_nil)))))) (fun s H C cl fp r _ _ => x_rname (x_var 6))
  · have he : left rs B = [] := of_decide_eq_true (by rw [eq_comm, Bool.not_eq_false'] at h; exact h)
    rw [wave2_nil he]
    exact x_nil
  · have hwo : ∀ x ∈ wave2 rs B l, Dt.ok x := fun m hm => by
      obtain ⟨r, hr, e, _⟩ := wave2_mem hm
      exact e ▸ hok r hr
    refine s_ret (x_ifE (t_neL hr0 (x_varL 5) (x_lst x_nil) hwo (fun _ hx => absurd hx List.not_mem_nil)) (fun h => ?_) (fun h => ?_))
    · have hne : wave2 rs B l ≠ [] := of_decide_eq_false (by rw [eq_comm, Bool.not_eq_true'] at h; exact h)
      have hpos := List.length_pos_iff.mpr hne
      refine x_eq (x_calR (IH ((left rs B).length - 1) (by omega)) (rs, srt (B ++ wave2 rs B l), l) (Wd.Le.refl _) hr ⟨hB, h0, hs, by show (srt (B ++ wave2 rs B l)).length + (left rs (srt (B ++ wave2 rs B l))).length ≤ 10000; rw [srt_len, List.length_append]; omega, by show (left rs (srt (B ++ wave2 rs B l))).length ≤ (left rs B).length - 1; omega⟩ (by omega)
        (xa_cons (x_var 0) (xa_cons (x_tupleL (xs := srt (B ++ wave2 rs B l)) t.g_tuple (xa_cons (x_lst (x_sortedS (xs := B ++ wave2 rs B l) (hr0.mono (by decide)) t.g_sorted (xa_cons (x_lst (x_cat (xs := B) (ys := wave2 rs B l) (by omega) (x_lst (x_listT t.g_list (xa_cons (x_var 1) xa_nil))) (x_varL 5))) xa_nil) (by rw [List.length_append]; omega))) xa_nil)) (xa_cons (x_var 2) xa_nil)))) (beyond_step hne).symm
    · have he : wave2 rs B l = [] := of_decide_eq_true (by rw [eq_comm, Bool.not_eq_false'] at h; exact h)
      exact x_eq (x_var 1) (beyond_end he).symm
theorem beyond_all (t : Tx K mg cc) (TB : TabB base mg cc PP) : ∀ n : Nat, Df P w K mg base (n + (lvB + 1)) "beyond" (spBeyondN n K (TT PP)) := fun n => by
  induction n using Nat.strongRecOn with
  | _ n ih => exact beyond_stepD t TB n fun m hm => ih m (by omega)
theorem d_beyond (t : Tx K mg cc) (TB : TabB base mg cc PP) : Df P w K mg base lv_beyond "beyond" (spBeyondN 7 K (TT PP)) := (beyond_all t TB 7).mono (by decide)
theorem Bk_nodup {rs : List Rope} (hd : (rs.map Rope.name).Nodup) {B : List Str} (hB : B.Nodup) : ∀ k, (Bk rs B k).Nodup
  | 0 => hB
  | k + 1 => by rw [Bk_succ]; exact beyond_nodup hd _ (Bk_nodup hd hB k)
theorem Bk_names {rs : List Rope} {B : List Str} (hB : ∀ n ∈ B, n ∈ rs.map Rope.name) : ∀ k, ∀ n ∈ Bk rs B k, n ∈ rs.map Rope.name
  | 0 => hB
  | k + 1 => by rw [Bk_succ]; exact beyond_names _ (Bk_names hB k)
theorem minE_sz {qs : List Rope} (ho : ∀ r ∈ qs, Ok r) (hn : qs ≠ []) : Sz 40 (minE qs) := by
  obtain ⟨⟨r, hr, e⟩, _⟩ := minE_spec hn
  rw [← e]
  exact sz_end (ho r hr)
theorem Ld_sz {rs : List Rope} (ho : ∀ r ∈ rs, Ok r) (hl : rs.length ≤ 30) {B : List Str} {k : Nat} (hn : left rs (Bk rs B k) ≠ []) : Sz 1990 (Ld rs B k) := sz_total30 (left_ok ho) (Nat.le_trans (left_len _ _) hl) (minE_sz (left_ok ho) hn)
def StP (rs : List Rope) (B : List Str) : Prop := Bs rs ∧ rs.length ≤ 7 ∧ (rs.map Rope.name).Nodup ∧ B.Nodup ∧ ∀ n ∈ B, n ∈ rs.map Rope.name
def spStepsFrom (K : PySem.W.Frag) (T : List (Addr × Str)) : Sp := spW K (fun _ => w0 T) (fun i : List Rope × List Str => [.dat i.1, .dat i.2]) (fun i => StP i.1 i.2) (fun i => .own (stepsR i.1 i.2))
theorem d_steps_from (t : Tx K mg cc) (TB : TabB base mg cc PP) : Df P w K mg base lv_steps_from "steps_from" (spStepsFrom K (TT PP)) := by
  refine df_of t.t_steps_from sc_steps_from (fun i => rfl) (fun i => rfl) (fun f cdv A outer s H E vs i hr ok hp => ?_)
  obtain ⟨rs, B⟩ := i
  obtain ⟨hB, hl, hd, hBd, hBn⟩ : StP rs B := hp
  have ho := hB.1
  obtain ⟨v1, v2, rfl, _, _⟩ := ok.two
  have hN := sc_steps_from.nd
  change XSs _ _ [AV.dat rs, .dat B, .un, .un, .un, .un, .un, .un] _ _
  refine q_setL 2 (x_nil (α := Rat × List Str)) ?_
  have hfew := fun k => few_left hd (Bk_nodup hd hBd k) (Bk_names hBn k)
  refine q_whileI (fun k : Nat => [AV.dat rs, .dat (Bk rs B k), .own ((List.range k).map (stepAt rs B)), .un, .un, .un, .un, .un]) (fun k => ∀ j, j < k → left rs (Bk rs B j) ≠ []) (fun k => (left rs (Bk rs B k)).length) (fun k => decide (((Bk rs B k).length : Int) < (rs.length : Int))) 0 (fun j hj => by omega) rfl
    (fun k hk => t_lt (x_lenT t.g_len (xa_cons (x_var 1) xa_nil)) (x_lenT t.g_len (xa_cons (x_var 0) xa_nil))) (fun k hk hb => ?_) (fun k hk hb => ?_)
  · have hlt := of_decide_eq_true hb
    have hf := hfew k
    have hne : left rs (Bk rs B k) ≠ [] := fun e => by rw [e] at hf; simp at hf; omega
    have hol := left_ok (ns := Bk rs B k) ho
    have hsh := left_shrinks ho hne
    have hkl := left_bound ho k hk
    have hLp := Ld_pos ho hne
    obtain ⟨tl, hhead⟩ := minE_head hne
    have hll := left_len rs (Bk rs B k)
    refine q_setL 3 (x_cal (d_left_of t) (rs, false, Bk rs B k) (Wd.Le.refl _) hr (by show rs.length ≤ _; omega) (xa_cons (x_var 0) (xa_cons (x_var 1) xa_nil))) ?_
    refine q_set (y := Ld rs B k) 4 (x_cal (d_all_pull t) (left rs (Bk rs B k), minE (left rs (Bk rs B k))) (Wd.Le.refl _) hr (allok_of (rs := rs) hol (by show (left rs (Bk rs B k)).length ≤ 30; omega) (minE_sz hol hne)) (xa_cons (x_varL 3) (xa_cons (x_ixLd (xs := ordR ((left rs (Bk rs B k)).map endR)) (i := 0) (by rw [hhead]; exact atI_head) (x_lst (x_cal (d_in_order t) ((left rs (Bk rs B k)).map endR) (Wd.Le.refl _) hr ⟨by rw [List.length_map]; omega, fun q hq => by
      obtain ⟨r, hr, rfl⟩ := List.mem_map.mp hq
      exact (sz_end (hol r hr)).mono (by decide)⟩ (xa_cons (x_lst (x_map1 6 endR (i_lst (x_varL 3)) (by omega) (fun s H C cl fp r hr2 => x_cal (d_end_of t) r (Wd.Le.refl _) hr (hol r hr2) (xa_cons (x_var 6) xa_nil)))) xa_nil))) x_int) xa_nil))) ?_
    refine q_set (y := Bk rs B (k + 1)) 5 (x_cal (d_beyond t TB) (rs, Bk rs B k, Ld rs B k) (Wd.Le.refl _) hr ⟨hB, by show 0 ≤ Ld rs B k; grind, (Ld_sz ho (by omega) hne).mono (by decide), by show (Bk rs B k).length + (left rs (Bk rs B k)).length ≤ 10000; omega, by show (left rs (Bk rs B k)).length ≤ 7; omega⟩ (xa_cons (x_var 0) (xa_cons (x_var 1) (xa_cons (x_var 4) xa_nil)))) ?_
    have hf2 := hfew (k + 1)
    refine q_append (xs := (List.range k).map (stepAt rs B)) (x := stepAt rs B k) 2 (xa_cons (x_pair (xa_cons (x_var 4) (xa_cons (x_tupleL (xs := (Bk rs B (k + 1)).filter fun n => !decide (n ∈ Bk rs B k)) t.g_tuple (xa_cons (x_lst ?_) xa_nil)) xa_nil))) xa_nil) ?_ (by rw [List.length_map, List.length_range]; omega)
    · rw [show ((Bk rs B (k + 1)).filter fun n => !decide (n ∈ Bk rs B k)) = ((Bk rs B (k + 1)).filter fun n => !decide (n ∈ Bk rs B k)).map id from (List.map_id _).symm]
      exact x_lc1 7 id (fun n : Str => !decide (n ∈ Bk rs B k)) (i_tup (x_var 5)).cc (by omega) (fun s H C cl fp n _ => c_one (t_niT (x_var 7) (x_var 1))) (fun s H C cl fp n _ _ => x_var 7)
    · refine q_set 1 (x_var 5) (s_fg [3, 4, 5] (s_end ⟨k + 1, fun j hj => ?_, hsh, ?_⟩))
      · by_cases e : j = k
        · rw [e]; exact hne
        · exact hk j (by omega)
      · rw [List.range_succ, List.map_append]
        rfl
  · have hlt := of_decide_eq_false hb
    have hf := hfew k
    have he : left rs (Bk rs B k) = [] := List.length_eq_zero_iff.mp (by omega)
    have e := kEnd_of ho he hk
    refine s_retOwn (xs := (List.range k).map (stepAt rs B)) 2 ?_
    show AV.own (stepsR rs B) = AV.own _
    unfold stepsR
    rw [e]
def spSteps (K : PySem.W.Frag) (T : List (Addr × Str)) : Sp := spW K (fun _ => w0 T) (fun i : List Rope => [.dat i]) (fun i => StP i []) (fun i => .own (stepsR i []))

theorem d_steps (t : Tx K mg cc) (TB : TabB base mg cc PP) : Df P w K mg base lv_steps "steps" (spSteps K (TT PP)) := by
  refine df_of t.t_steps sc_steps (fun i => rfl) (fun i => rfl) (fun f cdv A outer s H E vs rs hr ok hp => ?_)
  obtain ⟨v1, rfl, _⟩ := ok.one
  change XSs _ _ [AV.dat rs] _ _
  exact s_ret (x_cal (d_steps_from t TB) (rs, []) (Wd.Le.refl _) hr hp (xa_cons (x_var 0) (xa_cons x_tup0 xa_nil)))

def WtP (rs : List Rope) (B : List Str) (nm : Str) : Prop := StP rs B ∧ nm ∈ rs.map Rope.name ∧ nm ∉ B
theorem wt_sz {rs : List Rope} {B : List Str} {nm : Str} (h : WtP rs B nm) : Sz 1990 (wtR rs B nm) := by
  obtain ⟨⟨hB, hl, hd, hBd, hBn⟩, h1, h2⟩ := h
  obtain ⟨k, t, hk, _, e, _⟩ := wt_some hB.1 h1 h2
  rw [e]
  exact Ld_sz hB.1 (by omega) ((kEnd_spec hB.1 (B := B)).2.1 k hk)
theorem steps_len {rs : List Rope} {B : List Str} (ho : ∀ r ∈ rs, Ok r) : (stepsR rs B).length ≤ rs.length := by
  unfold stepsR
  rw [List.length_map, List.length_range]
  exact (kEnd_spec ho (B := B)).2.2
def spWhole (K : PySem.W.Frag) (T : List (Addr × Str)) : Sp := spW K (fun _ => w0 T) (fun i : List Rope × List Str × Str => [.dat i.1, .dat i.2.1, .dat i.2.2]) (fun i => WtP i.1 i.2.1 i.2.2) (fun i => .dat (wtR i.1 i.2.1 i.2.2))
theorem d_whole_till (t : Tx K mg cc) (TB : TabB base mg cc PP) : Df P w K mg base lv_whole_till "whole_till" (spWhole K (TT PP)) := by
  refine df_of t.t_whole_till sc_whole_till (fun i => rfl) (fun i => rfl) (fun f cdv A outer s H E vs i hr ok hp => ?_)
  obtain ⟨rs, B, nm⟩ := i
  obtain ⟨hS, h1, h2⟩ : WtP rs B nm := hp
  have ho := hS.1.1
  obtain ⟨v1, v2, v3, rfl, _⟩ := ok.three
  have hN := sc_whole_till.nd
  change XSs _ _ [AV.dat rs, .dat B, .dat nm, .un, .un] _ _
  obtain ⟨k, tl, hk, hwl, hwr, _⟩ := wt_some ho h1 h2
  have hsl := steps_len (B := B) ho
  have hrl := hS.2.1
  refine s_ret (x_ixLd (xs := wtList rs B nm) (i := 0) (x := wtR rs B nm) (by rw [hwl, hwr]; exact atI_head) (x_lst ?_) x_int)
  exact x_lc2 (xs := stepsR rs B) 3 4 Prod.fst (fun z => decide (nm ∈ z.2)) (i_lst (x_lst (x_cal (d_steps_from t TB) (rs, B) (Wd.Le.refl _) hr hS (xa_cons (x_var 0) (xa_cons (x_var 1) xa_nil))))) (by omega) (fun s H C cl fp x _ => c_one (t_inT (x_var 2) (x_var 4))) (fun s H C cl fp x _ _ => x_var 3)

theorem stp_nil {rs : List Rope} (hB : Bs rs) (hl : rs.length ≤ 7) (hd : (rs.map Rope.name).Nodup) : StP rs [] := ⟨hB, hl, hd, List.nodup_nil, fun n hn => absurd hn List.not_mem_nil⟩
theorem stp_one {rs : List Rope} (hB : Bs rs) (hl : rs.length ≤ 7) (hd : (rs.map Rope.name).Nodup) {one : Str} (h : one ∈ rs.map Rope.name) : StP rs [one] := ⟨hB, hl, hd, List.nodup_cons.mpr ⟨List.not_mem_nil, List.nodup_nil⟩, fun n hn => by rw [List.mem_singleton.mp hn]; exact h⟩
theorem wtp_nil {rs : List Rope} (hB : Bs rs) (hl : rs.length ≤ 7) (hd : (rs.map Rope.name).Nodup) {nm : Str} (h : nm ∈ rs.map Rope.name) : WtP rs [] nm := ⟨stp_nil hB hl hd, h, List.not_mem_nil⟩
theorem wtp_one {rs : List Rope} (hB : Bs rs) (hl : rs.length ≤ 7) (hd : (rs.map Rope.name).Nodup) {one nm : Str} (h1 : one ∈ rs.map Rope.name) (h : nm ∈ rs.map Rope.name) (hne : ¬ nm = one) : WtP rs [one] nm := ⟨stp_one hB hl hd h1, h, fun z => hne (List.mem_singleton.mp z)⟩
theorem flat_succ {α β : Type} {ns : List α} {f : α → List β} {i : Nat} {x : α} (h : ns[i]? = some x) : ((ns.take (i + 1)).map f).flatten = ((ns.take i).map f).flatten ++ f x := by
  rw [List.take_add_one, h, List.map_append, List.flatten_append]
  show _ ++ (f x ++ []) = _
  rw [List.append_nil]
def spGuards (K : PySem.W.Frag) (T : List (Addr × Str)) : Sp := spW K (fun _ => w0 T) (fun i : List Rope => [.dat i]) (fun i => Bs i ∧ i.length ≤ 7 ∧ (i.map Rope.name).Nodup) (fun i => .own (guardsR i))
theorem d_guards (t : Tx K mg cc) (TB : TabB base mg cc PP) : Df P w K mg base lv_guards "guards" (spGuards K (TT PP)) := by
  refine df_of t.t_guards sc_guards (fun i => rfl) (fun i => rfl) (fun f cdv A outer s H E vs rs hr ok hp => ?_)
  obtain ⟨hB, hl, hd⟩ : Bs rs ∧ rs.length ≤ 7 ∧ (rs.map Rope.name).Nodup := hp
  obtain ⟨v1, rfl, _⟩ := ok.one
  have hN := sc_guards.nd
  have hnl : (rs.map Rope.name).length = rs.length := List.length_map ..
  have hno : ∀ n ∈ rs.map Rope.name, Dt.ok n := fun n hn => by
    obtain ⟨r, hr, rfl⟩ := List.mem_map.mp hn
    exact hB.2.1 r hr
  change XSs _ _ [AV.dat rs, .un, .un, .un, .un, .un] _ _
  refine q_setL 1 (x_nil (α := Str × Str)) ?_
  refine q_lc1 2 5 Rope.name (fun _ => true) (i_tup (x_var 0)).cc (by show rs.length ≤ _; omega) (fun s H C cl fp x _ => c_yes) (fun s H C cl fp x _ _ => x_rname (x_var 5)) ?_
  rw [filt_all]
  refine q_forL (xs := rs.map Rope.name) (s1 := [AV.dat rs, .own (guardsR rs), .own (rs.map Rope.name), .un, .un, .un]) 2 (fun q i => [AV.dat rs, .own ((((rs.map Rope.name).take i).map fun one => gRow rs one (rs.map Rope.name)).flatten), .val (.ref q), .un, .un, .un]) (fun q i x => [AV.dat rs, .own ((((rs.map Rope.name).take i).map fun one => gRow rs one (rs.map Rope.name)).flatten), .val (.ref q), .dat x, .un, .un]) rfl (fun q => rfl) (fun c' q i x hx => g_name 3) (fun q tu0 pr tu i one hone => ?_) (fun q => rfl) (fun q => by rw [List.take_length]; rfl) (s_retOwn (xs := guardsR rs) 1 rfl)
  have hm1 := List.mem_of_getElem? hone
  refine q_forS (xs := rs.map Rope.name) (fun j => [AV.dat rs, .own ((((rs.map Rope.name).take i).map fun one => gRow rs one (rs.map Rope.name)).flatten ++ gRow rs one ((rs.map Rope.name).take j)), .val (.ref q), .dat one, .un, .un]) (fun j x => [AV.dat rs, .own ((((rs.map Rope.name).take i).map fun one => gRow rs one (rs.map Rope.name)).flatten ++ gRow rs one ((rs.map Rope.name).take j)), .val (.ref q), .dat one, .dat x, .un]) rfl
    (i_pr (List.mem_append_right _ (List.mem_append_left _ (List.mem_singleton.mpr rfl))) (x_varV 2)) (by rw [List.take_zero]; show _ = [_, AV.own (_ ++ []), _, _, _, _]; rw [List.append_nil]) (fun c' j x hx => g_name 4) (fun pr tu j other hother => ?_) ?_
  · have hm2 := List.mem_of_getElem? hother
    have e := gRow_succ (rs := rs) (one := one) hother
    have hgl := guards_len rs (rs.map Rope.name) i
    have hrl := gRow_len rs one ((rs.map Rope.name).take j)
    have hsq : (rs.map Rope.name).length * (rs.map Rope.name).length ≤ 7 * 7 := Nat.mul_le_mul (by omega) (by omega)
    have htl : ((rs.map Rope.name).take j).length ≤ 7 := by rw [List.length_take]; omega
    refine s_if (P := (· = !decide (other = one))) (t_neD hr (x_var 4) (x_var 3) (hno _ hm2) (hno _ hm1)) (fun h => ?_) (fun h => ?_)
    · have hne : ¬ other = one := of_decide_eq_false (by rw [eq_comm, Bool.not_eq_true'] at h; exact h)
      have w1 := wtp_one hB hl hd hm1 hm2 hne
      have w2 := wtp_nil hB hl hd hm2
      refine s_if (P := (· = decide (wtR rs [one] other < wtR rs [] other))) (t_val (x_cal (d_is_lesser t) (wtR rs [one] other, wtR rs [] other) (Wd.Le.refl _) hr ⟨(wt_sz w1).mono (by decide), (wt_sz w2).mono (by decide)⟩ (xa_cons (x_cal (d_whole_till t TB) (rs, [one], other) (Wd.Le.refl _) hr w1 (xa_cons (x_var 0) (xa_cons (x_tup1 (xa_cons (x_var 3) xa_nil)) (xa_cons (x_var 4) xa_nil)))) (xa_cons (x_cal (d_whole_till t TB) (rs, [], other) (Wd.Le.refl _) hr w2 (xa_cons (x_var 0) (xa_cons x_tup0 (xa_cons (x_var 4) xa_nil)))) xa_nil)))) (fun h2 => ?_) (fun h2 => ?_)
      · refine q_append (xs := (((rs.map Rope.name).take i).map fun one => gRow rs one (rs.map Rope.name)).flatten ++ gRow rs one ((rs.map Rope.name).take j)) 1 (xa_cons (x_pair (xa_cons (x_var 3) (xa_cons (x_var 4) xa_nil))) xa_nil) (s_fg [4] (s_end ?_)) (by rw [List.length_append]; omega)
        rw [e, if_pos (by rw [← h, ← h2]; rfl), ← List.append_assoc]
        rfl
      · refine s_fg [4] (s_end ?_)
        rw [e, if_neg (by rw [← h2, Bool.and_false]; decide), List.append_nil]
        rfl
    · refine s_fg [4] (s_end ?_)
      rw [e, if_neg (by rw [← h, Bool.false_and]; decide), List.append_nil]
      rfl
  · refine s_fg [3] (s_end ?_)
    rw [List.take_length, flat_succ hone]
    rfl

def lotsTo (L : List Str → List (List Str)) (xs : List Str) (i : Nat) : List (List Str) := ((List.range i).map fun j => (L (xs.drop (j + 1))).map (xs.getD j "" :: ·)).flatten
def lotsOf : Nat → List Str → List (List Str)
  | 0, _ => [[]]
  | m + 1, xs => lotsTo (lotsOf m) xs xs.length
theorem lotsTo_succ {L : List Str → List (List Str)} {xs : List Str} {i : Nat} {x : Str} (h : xs[i]? = some x) : lotsTo L xs (i + 1) = lotsTo L xs i ++ (L (xs.drop (i + 1))).map (x :: ·) := by
  unfold lotsTo
  rw [List.range_succ, List.map_append, List.flatten_append]
  simp [h]
theorem lotsTo_len {L : List Str → List (List Str)} (hL : ∀ ys, (L ys).length ≤ 2 ^ ys.length) (xs : List Str) : ∀ i, i ≤ xs.length → (lotsTo L xs i).length + 2 ^ (xs.length - i) ≤ 2 ^ xs.length
  | 0, _ => by
    show 0 + 2 ^ (xs.length - 0) ≤ _
    rw [Nat.sub_zero, Nat.zero_add]
    exact Nat.le_refl _
  | i + 1, hi => by
    have ih := lotsTo_len hL xs i (by omega)
    rw [lotsTo_succ (List.getElem?_eq_getElem (show i < xs.length by omega)), List.length_append, List.length_map]
    have h1 := hL (xs.drop (i + 1))
    rw [List.length_drop] at h1
    have h2 : 2 ^ (xs.length - i) = 2 * 2 ^ (xs.length - (i + 1)) := by
      rw [show xs.length - i = (xs.length - (i + 1)) + 1 by omega, Nat.pow_succ, Nat.mul_comm]
    omega
theorem lots_len : ∀ (m : Nat) (xs : List Str), (lotsOf m xs).length ≤ 2 ^ xs.length
  | 0, xs => Nat.one_le_two_pow
  | m + 1, xs => by
    have := lotsTo_len (lots_len m) xs xs.length (Nat.le_refl _)
    exact Nat.le_trans (Nat.le_add_right _ _) this
theorem lotsTo_mem {L : List Str → List (List Str)} {xs : List Str} {lot : List Str} : ∀ i, i ≤ xs.length → lot ∈ lotsTo L xs i → ∃ j x l, xs[j]? = some x ∧ l ∈ L (xs.drop (j + 1)) ∧ lot = x :: l
  | 0, _, h => by
    have h : lot ∈ ([] : List (List Str)) := h
    exact absurd h List.not_mem_nil
  | i + 1, hi, h => by
    have hx := List.getElem?_eq_getElem (show i < xs.length by omega)
    rw [lotsTo_succ hx] at h
    rcases List.mem_append.mp h with h | h
    · exact lotsTo_mem i (by omega) h
    · obtain ⟨l, hl, e⟩ := List.mem_map.mp h
      exact ⟨i, _, l, hx, hl, e.symm⟩
theorem lots_mem : ∀ (m : Nat) (xs : List Str), ∀ lot ∈ lotsOf m xs, lot.length ≤ m ∧ ∀ n ∈ lot, n ∈ xs
  | 0, xs, lot, h => by
    have h : lot ∈ [([] : List Str)] := h
    rw [List.mem_singleton.mp h]
    exact ⟨Nat.le_refl _, fun n hn => absurd hn List.not_mem_nil⟩
  | m + 1, xs, lot, h => by
    obtain ⟨j, x, l, hx, hl, e⟩ := lotsTo_mem xs.length (Nat.le_refl _) h
    have ih := lots_mem m _ l hl
    rw [e]
    refine ⟨by show l.length + 1 ≤ m + 1; have := ih.1; omega, fun n hn => ?_⟩
    rcases List.mem_cons.mp hn with e | hn
    · rw [e]
      exact List.mem_of_getElem? hx
    · exact List.mem_of_mem_drop (ih.2 n hn)
def spLotsN (n : Nat) (K : PySem.W.Frag) (T : List (Addr × Str)) : Sp := spW K (fun _ => w0 T) (fun i : List Str × Nat => [.lst i.1, .dat (i.2 : Int)]) (fun i => i.1.length ≤ 6 ∧ i.2 ≤ n ∧ i.2 ≤ 100) (fun i => .own (lotsOf i.2 i.1))
theorem lots_step (t : Tx K mg cc) (n : Nat) (IH : ∀ m, m + 1 ≤ n → Df P w K mg base (m + 5) "lots" (spLotsN m K (TT PP))) : Df P w K mg base (n + 5) "lots" (spLotsN n K (TT PP)) := by
  refine df_of (k := n + 4) t.t_lots sc_lots (fun i => rfl) (fun i => rfl) (fun f cdv A outer s H E vs i hr ok hp => ?_)
  obtain ⟨xs, m⟩ := i
  obtain ⟨hl, hm, hm9⟩ : xs.length ≤ 6 ∧ m ≤ n ∧ m ≤ 100 := hp
  obtain ⟨v1, v2, rfl, h1, _⟩ := ok.two
  obtain ⟨p, us, rfl, _⟩ := h1
  have hN := sc_lots.nd
  change XSs _ ⟨_, _, [⟨p, xs⟩], _⟩ [AV.val (.ref p), .dat (m : Int), .un, .un, .un, .un] _ _
  refine q_when (t_eqi (x_var 1) x_int) (fun h => ?_) (fun h => ?_)
  · have hm0 : m = 0 := by have := of_decide_eq_true h.symm; omega
    subst hm0
    exact s_ret (x_list [[]] (by decide) (xa_cons x_tup0 xa_nil))
  · have hm0 : ¬ (m : Int) = 0 := of_decide_eq_false h.symm
    obtain ⟨j, rfl⟩ : ∃ j, m = j + 1 := ⟨m - 1, by omega⟩
    refine q_setL 2 (x_nil (α := List Str)) ?_
    refine q_forS (xs := numFrom xs) (fun i => [AV.val (.ref p), .dat ((j + 1 : Nat) : Int), .own (lotsTo (lotsOf j) xs i), .un, .un, .un]) (fun i z => [AV.val (.ref p), .dat ((j + 1 : Nat) : Int), .own (lotsTo (lotsOf j) xs i), .dat z.1, .dat z.2, .un]) rfl (i_enumP (List.mem_singleton.mpr rfl) t.g_enumerate (xa_cons (x_varV 0) xa_nil)) rfl (fun c' i z hz => g_pair rfl (g_name 3) (g_name 4)) (fun pr tu i z hz => ?_) (s_retOwn (xs := lotsTo (lotsOf j) xs (numFrom xs).length) 2 (by rw [numFrom_len]; rfl))
    obtain ⟨a, x⟩ := z
    obtain ⟨hi, rfl, hx⟩ : i < xs.length ∧ a = (i : Int) ∧ xs[i]? = some x := num_get hz
    have hb := lotsTo_len (lots_len j) xs (i + 1) (by omega)
    rw [lotsTo_succ hx, List.length_append] at hb
    have h6 : 2 ^ xs.length ≤ 2 ^ 6 := Nat.pow_le_pow_right (by decide) hl
    have hb := Nat.le_trans (Nat.le_trans (Nat.le_add_right _ _) hb) h6
    refine q_setL 2 (x_cat (xs := lotsTo (lotsOf j) xs i) ?hl (x_varL 2) (x_lst (x_map1 5 (fun lot => x :: lot) (i_lst (x_lst (x_calR (IH j (by omega)) (xs.drop (i + 1), j) (Wd.Le.refl _) hr ⟨by show (xs.drop (i + 1)).length ≤ 6; rw [List.length_drop]; omega, Nat.le_refl _, by show j ≤ 100; omega⟩ (by omega) (xa_cons (x_lst (x_drop (n := i + 1) (x_varP 0 (List.mem_append_right _ (List.mem_singleton.mpr rfl))) (xo_some (x_eq (x_add (x_var 3) x_int) (by show (i : Int) + 1 = ((i + 1 : Nat) : Int); omega))))) (xa_cons (x_eq (x_sub (x_var 1) x_int) (by show ((j + 1 : Nat) : Int) - 1 = (j : Int); omega)) xa_nil))))) ?hm (fun s H C cl fp lot hlot => x_catT (xs := [x]) (ys := lot) (by simp) (by have := (lots_mem j (xs.drop (i + 1)) lot hlot).1; simp; omega) (x_tup1 (xa_cons (x_var 4) xa_nil)) (x_var 5))))) (s_fg [3, 4] (s_end ?hs))
    case hl => exact Nat.le_trans hb (by decide)
    case hm => rw [List.length_map] at hb; show (lotsOf j (xs.drop (i + 1))).length ≤ _; omega
    case hs =>
      rw [lotsTo_succ hx]
      rfl
theorem lots_all (t : Tx K mg cc) : ∀ n : Nat, Df P w K mg base (n + 5) "lots" (spLotsN n K (TT PP)) := fun n => by
  induction n using Nat.strongRecOn with
  | _ n ih => exact lots_step t n fun m hm => ih m (by omega)
theorem d_lots (t : Tx K mg cc) : Df P w K mg base lv_lots "lots" (spLotsN 6 K (TT PP)) := (lots_all t 6).mono (by decide)

def dblR (lot : List Str) (r : Rope) : Rope := ⟨r.name, r.slack, r.stiff, if r.name ∈ lot then r.strong * 2 else r.strong⟩
def dblB (rs : List Rope) (lot : List Str) : List Rope := rs.map (dblR lot)
def OkH (r : Rope) : Prop := Ok r ∧ r.strong ≤ 10000000
theorem dbl_ok {r : Rope} (h : OkH r) (lot : List Str) : Ok (dblR lot r) := by
  obtain ⟨⟨a, b, c, d, e, f⟩, g⟩ := h
  refine ⟨a, b, c, d, ?_, ?_⟩
  · show 1 ≤ if r.name ∈ lot then r.strong * 2 else r.strong
    split <;> omega
  · show (if r.name ∈ lot then r.strong * 2 else r.strong) ≤ 100000000
    split <;> omega
def spDoubled (K : PySem.W.Frag) (T : List (Addr × Str)) : Sp := spW K (fun _ => w0 T) (fun i : List Rope × List Str => [.dat i.1, .dat i.2]) (fun i => (∀ r ∈ i.1, OkH r) ∧ i.1.length ≤ 1000) (fun i => .dat (dblB i.1 i.2))
theorem d_doubled (t : Tx K mg cc) : Df P w K mg base lv_doubled "doubled" (spDoubled K (TT PP)) := by
  refine df_of t.t_doubled sc_doubled (fun i => rfl) (fun i => rfl) (fun f cdv A outer s H E vs i hr ok hp => ?_)
  obtain ⟨rs, lot⟩ := i
  obtain ⟨ho, hl⟩ : (∀ r ∈ rs, OkH r) ∧ rs.length ≤ 1000 := hp
  obtain ⟨v1, v2, rfl, _, _⟩ := ok.two
  have hN := sc_doubled.nd
  change XSs _ _ [AV.dat rs, .dat lot, .un] _ _
  refine s_ret (x_tupleL t.g_tuple (xa_cons (x_lst (x_map1 2 (dblR lot) (i_tup (x_var 0)).cc (by show rs.length ≤ _; omega) (fun s H C cl fp r hr2 => ?_))) xa_nil))
  refine x_eq (x_headCons (x_ropeHead (x_var 2) (xo_some x_int)) (x_tup1 (xa_cons (x_mul (cmul_of (b := 10) (strong_abs (ho r hr2).1) (by split <;> decide)) (x_rstrong (x_var 2)) (x_add x_int (x_intB t.g_int (xa_cons (x_inT (x_rname (x_var 2)) (x_var 1)) xa_nil)))) xa_nil))) ?_
  unfold dblR
  by_cases h : r.name ∈ lot
  · rw [decide_eq_true h, if_pos rfl, if_pos h]
    rfl
  · rw [decide_eq_false h, if_neg (by decide), if_neg h, show r.strong * (1 + 0) = r.strong by omega]

def fewLots (ns : List Str) : List (List (List Str)) := (List.range (ns.length + 1)).map fun m => lotsOf m ns
def doesLot (rs : List Rope) (l : Rat) (lot : List Str) : Bool := bearsB (dblB rs lot) [] l
def fewest (rs : List Rope) (l : Rat) : Option (List Str) := (fewLots (rs.map Rope.name)).flatten.find? (doesLot rs l)
theorem fewLots_get {ns : List Str} {m : Nat} (h : m ≤ ns.length) : (fewLots ns)[m]? = some (lotsOf m ns) := by
  unfold fewLots
  rw [List.getElem?_map, List.getElem?_range (by omega)]
  rfl
theorem fewLots_len (ns : List Str) : (fewLots ns).length = ns.length + 1 := by unfold fewLots; rw [List.length_map, List.length_range]
theorem find_first {α : Type} {L : List (List α)} {p : α → Bool} {m i : Nat} {xs : List α} {x : α} (hm : L[m]? = some xs) (hx : xs[i]? = some x) (hp : p x = true) (h0 : ((L.take m).flatten ++ xs.take i).find? p = none) : L.flatten.find? p = some x := by
  have e1 : L = L.take m ++ xs :: L.drop (m + 1) := by
    have hl := (List.getElem?_eq_some_iff.mp hm).1
    have h2 : L.drop m = xs :: L.drop (m + 1) := by
      rw [List.drop_eq_getElem_cons hl, (List.getElem?_eq_some_iff.mp hm).2]
    rw [← h2, List.take_append_drop]
  have e2 : xs = xs.take i ++ x :: xs.drop (i + 1) := by
    have hl := (List.getElem?_eq_some_iff.mp hx).1
    have h2 : xs.drop i = x :: xs.drop (i + 1) := by
      rw [List.drop_eq_getElem_cons hl, (List.getElem?_eq_some_iff.mp hx).2]
    rw [← h2, List.take_append_drop]
  have e3 : L.flatten = ((L.take m).flatten ++ xs.take i) ++ (x :: (xs.drop (i + 1) ++ (L.drop (m + 1)).flatten)) := by
    have a : L.flatten = (L.take m).flatten ++ (xs ++ (L.drop (m + 1)).flatten) := by
      rw [← List.flatten_cons, ← List.flatten_append, ← e1]
    have b : xs ++ (L.drop (m + 1)).flatten = xs.take i ++ (x :: (xs.drop (i + 1) ++ (L.drop (m + 1)).flatten)) := by
      rw [← List.cons_append, ← List.append_assoc, ← e2]
    rw [a, b, List.append_assoc]
  rw [e3, List.find?_append, h0]
  simp [hp]
theorem find_none_step {α : Type} {ys xs : List α} {p : α → Bool} {i : Nat} {x : α} (hx : xs[i]? = some x) (hp : p x = false) (h0 : (ys ++ xs.take i).find? p = none) : (ys ++ xs.take (i + 1)).find? p = none := by
  rw [List.take_add_one, hx, ← List.append_assoc, List.find?_append, h0]
  simp [hp]
theorem take_flat_succ {α : Type} {L : List (List α)} {m : Nat} {xs : List α} (hm : L[m]? = some xs) : (L.take (m + 1)).flatten = (L.take m).flatten ++ xs := by
  rw [List.take_add_one, hm, List.flatten_append]
  show _ ++ (xs ++ []) = _
  rw [List.append_nil]
theorem dbl_bs {rs : List Rope} (ho : ∀ r ∈ rs, OkH r) (h : Bs rs) (lot : List Str) : Bs (dblB rs lot) := by
  refine ⟨fun r hr => ?_, fun r hr => ?_, by unfold dblB; rw [List.length_map]; exact h.2.2⟩
  · obtain ⟨q, hq, rfl⟩ := List.mem_map.mp hr
    exact dbl_ok (ho q hq) lot
  · obtain ⟨q, hq, rfl⟩ := List.mem_map.mp hr
    exact h.2.1 q hq
def spFewest (K : PySem.W.Frag) (T : List (Addr × Str)) : Sp := spW K (fun _ => w0 T) (fun i : List Rope × Rat => [.dat i.1, .dat i.2]) (fun i => Bs i.1 ∧ (∀ r ∈ i.1, OkH r) ∧ i.1.length ≤ 6 ∧ 0 ≤ i.2 ∧ Sz 3900 i.2) (fun i => .dat (fewest i.1 i.2))
theorem d_fewest_doubled (t : Tx K mg cc) (TB : TabB base mg cc PP) : Df P w K mg base lv_fewest_doubled "fewest_doubled" (spFewest K (TT PP)) := by
  refine df_of t.t_fewest_doubled sc_fewest_doubled (fun i => rfl) (fun i => rfl) (fun f cdv A outer s H E vs i hr ok hp => ?_)
  obtain ⟨rs, l⟩ := i
  obtain ⟨hB, ho, hl, l0, ls⟩ : Bs rs ∧ (∀ r ∈ rs, OkH r) ∧ rs.length ≤ 6 ∧ 0 ≤ l ∧ Sz 3900 l := hp
  obtain ⟨v1, v2, rfl, _, _⟩ := ok.two
  have hN := sc_fewest_doubled.nd
  change XSs _ _ [AV.dat rs, .dat l, .un, .un, .un, .un] _ _
  have hnl : (rs.map Rope.name).length = rs.length := List.length_map ..
  refine q_lc1 2 5 Rope.name (fun _ => true) (i_tup (x_var 0)).cc (by omega) (fun s H C cl fp x _ => c_yes) (fun s H C cl fp x _ _ => x_rname (x_var 5)) ?_
  rw [filt_all]
  refine q_for (xs := upFrom 0 ((rs.map Rope.name).length + 1 : Int).toNat) (fun i s => s = [AV.dat rs, .dat l, .own (rs.map Rope.name), .un, .un, .un] ∧ ((fewLots (rs.map Rope.name)).take i).flatten.find? (doesLot rs l) = none) (fun _ x => [AV.dat rs, .dat l, .own (rs.map Rope.name), .dat x, .un, .un]) rfl
    (i_range1 t.g_range (xa_cons (x_add (x_lenL t.g_len (xa_cons (x_varL 2) xa_nil)) x_int) xa_nil) (by omega)) ⟨rfl, rfl⟩ (fun c' i ss' x hx hI => by
      obtain ⟨rfl, _⟩ := hI
      exact g_name 3) (fun pr tu i ss' x hx hI => ?_) (fun ss' hI => ?_)
  · obtain ⟨rfl, h0⟩ := hI
    have hi : i < (upFrom 0 ((rs.map Rope.name).length + 1 : Int).toNat).length := (List.getElem?_eq_some_iff.mp hx).1
    rw [upFrom_len] at hi
    rw [upFrom_get hi] at hx
    have hx : (i : Int) = x := by have := Option.some.inj hx; omega
    subst hx
    have hm : (fewLots (rs.map Rope.name))[i]? = some (lotsOf i (rs.map Rope.name)) := fewLots_get (by omega)
    refine q_for (xs := lotsOf i (rs.map Rope.name)) (fun j s => s = [AV.dat rs, .dat l, .own (rs.map Rope.name), .dat (i : Int), .un, .un] ∧ (((fewLots (rs.map Rope.name)).take i).flatten ++ (lotsOf i (rs.map Rope.name)).take j).find? (doesLot rs l) = none) (fun _ x => [AV.dat rs, .dat l, .own (rs.map Rope.name), .dat (i : Int), .dat x, .un]) rfl
      (i_new (x_cal (d_lots t) (rs.map Rope.name, i) (Wd.Le.refl _) hr ⟨by show (rs.map Rope.name).length ≤ 6; omega, by show i ≤ 6; omega, by show i ≤ 100; omega⟩ (xa_cons (x_varL 2) (xa_cons (x_var 3) xa_nil)))) ⟨rfl, by rw [List.take_zero, List.append_nil]; exact h0⟩ (fun c' j ss' x hx hI => by
        obtain ⟨rfl, _⟩ := hI
        exact g_name 4) (fun pr tu j ss' lot hlot hI => ?_) (fun ss' hI => ?_)
    · obtain ⟨rfl, h1⟩ := hI
      refine q_when (t_val (x_cal (d_bears t TB) (dblB rs lot, false, [], l) (Wd.Le.refl _) hr ⟨dbl_bs ho hB lot, l0, ls, Nat.zero_le _⟩ (xa_cons (x_cal (d_doubled t) (rs, lot) (Wd.Le.refl _) hr ⟨ho, by show rs.length ≤ 1000; omega⟩ (xa_cons (x_var 0) (xa_cons (x_var 4) xa_nil))) (xa_cons x_tup0 (xa_cons (x_var 1) xa_nil))))) (fun h => ?_) (fun h => ?_)
      · exact s_ret (x_eq (x_some (x_var 4)) (find_first hm hlot h.symm h1).symm)
      · exact s_fg [4] (s_end ⟨rfl, find_none_step hlot h.symm h1⟩)
    · obtain ⟨rfl, h1⟩ := hI
      refine s_fg [3] (s_end ⟨rfl, ?_⟩)
      rw [take_flat_succ hm]
      rw [List.take_length] at h1
      exact h1
  · obtain ⟨rfl, h0⟩ := hI
    rw [List.take_of_length_le (by rw [fewLots_len, upFrom_len]; omega)] at h0
    exact s_ret (x_eq (x_non (α := List Str)) h0.symm)

def cellOf (ns : List Int) (k : Nat) : Int := if k < ns.length then ((ns.getD k 0).natAbs : Int) else 0
def bagX (ns : List Int) (k : Nat) : Int := if cellOf ns k < 10 ^ 18 then 0 else cellOf ns k
def bagY (ns : List Int) (k : Nat) : Int := if cellOf ns k < 10 ^ 18 then 1 + (cellOf ns k * 7919 + 104729 * (k : Int)) % 2147483646 else 1 + (cellOf ns k + (k : Int)) % 2147483646
theorem cell_nn (ns : List Int) (k : Nat) : 0 ≤ cellOf ns k := by unfold cellOf; split <;> omega
theorem bagX_nn (ns : List Int) (k : Nat) : 0 ≤ bagX ns k := by have := cell_nn ns k; unfold bagX; split <;> omega
theorem bagY_in (ns : List Int) (k : Nat) : 0 ≤ bagY ns k ∧ bagY ns k ≤ 2147483646 := by unfold bagY; split <;> omega
theorem atI_nat {α : Type} {xs : List α} {k : Nat} {x : α} (h : xs[k]? = some x) : atI xs (k : Int) = some x := by
  have hk := (List.getElem?_eq_some_iff.mp h).1
  unfold atI ixN
  rw [if_pos (by omega), if_pos (by omega)]
  exact h
def spBag (K : PySem.W.Frag) (T : List (Addr × Str)) : Sp := spH K (fun _ => w0 T) (fun i : Addr × Nat × List Int => [.val (.ref i.1), .dat (i.2.1 : Int)]) (fun i H => Scr K H i.1 i.2.2 ∧ i.2.1 ≤ 100) (fun i => .own [bagX i.2.2 i.2.1, bagY i.2.2 i.2.1])
theorem d__law_bag (t : Tx K mg cc) : Df P w K mg base lv__law_bag "_law_bag" (spBag K (TT PP)) := by
  refine df_ofH t.t__law_bag sc__law_bag (fun i => rfl) (fun i => rfl) (fun f cdv A outer s H E vs i hr ok hp => ?_)
  obtain ⟨a, k, ns⟩ := i
  obtain ⟨hS, hk⟩ : Scr K H a ns ∧ k ≤ 100 := hp
  obtain ⟨v1, v2, rfl, h1, h2⟩ := ok.two
  have h1 : v1 = .ref a := h1
  subst h1
  have hN := sc__law_bag.nd
  change XSs _ ⟨w0 (TT PP), H, _, _⟩ [AV.val (.ref a), .dat (k : Int), .un] _ _
  have hst : ∀ H', Gr (w0 (TT PP)) H H' → Scr K H' a ns := fun H' g => hS.stay g id
  refine q_set 2 x_int ?_
  refine q_if (fun s => s = [AV.val (.ref a), .dat (k : Int), .dat (cellOf ns k)]) (t_lt (x_var 1) (x_lenS hst t.g_len (xa_cons (x_varV 0) xa_nil))) (fun h => ?_) (fun h => ?_) (fun s z => ?_)
  · have hl : k < ns.length := by have := of_decide_eq_true h.symm; omega
    have hg : ns[k]? = some (ns.getD k 0) := by rw [List.getD_eq_getElem?_getD, List.getElem?_eq_getElem hl]; rfl
    refine q_set 2 (x_abs t.g_abs (xa_cons (x_ixS hst (atI_nat hg) (x_varV 0) (x_var 1)) xa_nil)) (s_end ?_)
    show _ = [_, _, AV.dat (cellOf ns k)]
    unfold cellOf
    rw [if_pos hl]
    rfl
  · have hl : ¬ k < ns.length := by have := of_decide_eq_false h.symm; omega
    refine s_end ?_
    show _ = [_, _, AV.dat (cellOf ns k)]
    unfold cellOf
    rw [if_neg hl]
    rfl
  · subst z
    refine q_when (t_lt (x_var 2) (x_powc (by decide) x_int x_int)) (fun h => ?_) (fun h => ?_)
    · have hc : cellOf ns k < 10 ^ 18 := of_decide_eq_true h.symm
      have := cell_nn ns k
      refine s_retC (x_list [0, 1 + (cellOf ns k * 7919 + 104729 * (k : Int)) % 2147483646] (by show 2 ≤ 1000; decide) (xa_cons x_int (xa_cons (x_add x_int (x_mod (by decide) (x_add (x_mul (cmul_of (a := 64) (b := 64) (by omega) (by decide)) (x_var 2) x_int) (x_mul (cmul_of (a := 64) (b := 64) (by decide) (by omega)) x_int (x_var 1))) x_int)) xa_nil))) ?_
      show _ = AV.own [bagX ns k, bagY ns k]
      unfold bagX bagY
      rw [if_pos hc, if_pos hc]
    · have hc : ¬ cellOf ns k < 10 ^ 18 := of_decide_eq_false h.symm
      refine s_retC (x_list [cellOf ns k, 1 + (cellOf ns k + (k : Int)) % 2147483646] (by show 2 ≤ 1000; decide) (xa_cons (x_var 2) (xa_cons (x_add x_int (x_mod (by decide) (x_add (x_var 2) (x_var 1)) x_int)) xa_nil))) ?_
      show _ = AV.own [bagX ns k, bagY ns k]
      unfold bagX bagY
      rw [if_neg hc, if_neg hc]

/-- a draw -/
def Draw (m : Int) : Int → Prop := fun r => 0 ≤ r ∧ r < m
def Upto (m : Int) : Int → Prop := fun n => 0 < n ∧ n ≤ m
def spTake (K : PySem.W.Frag) (T : List (Addr × Str)) : Sp := spW K (fun i : Addr × Int => wB T i.1) (fun i : Addr × Int => [.val (.ref i.1), .ex (Upto i.2)]) (fun i => i.2.natAbs < 2 ^ 64) (fun i => .ex (Draw i.2))
theorem d__law_take (t : Tx K mg cc) : Df P w K mg base lv__law_take "_law_take" (spTake K (TT PP)) := by
  refine df_of t.t__law_take sc__law_take (fun i => rfl) (fun i => rfl) (fun f cdv A outer s H E vs i hr ok hp => ?_)
  obtain ⟨b, m⟩ := i
  have hp : m.natAbs < 2 ^ 64 := hp
  obtain ⟨v1, v2, rfl, h1, h2⟩ := ok.two
  have h1 : v1 = .ref b := h1
  subst h1
  have hN := sc__law_take.nd
  change XSs _ ⟨wB (TT PP) b, H, _, _⟩ [AV.val (.ref b), .ex (Upto m), .un] _ _
  have hB : ∀ H, (wB (TT PP) b).J H → Bag H b := fun H j => j.2
  refine q_when (P := fun _ => True) (t_gtE (fun _ _ _ _ => trivial) (x_bag0 hB (x_varV 0)) x_int) (fun _ => ?_) (fun _ => ?_)
  · refine q_setE 2 (x_modE (R := Draw m) (fun i j (p : 0 ≤ i) (q : Upto m j) => ⟨q.1, Int.emod_nonneg i (by have := q.1; omega), Int.lt_of_lt_of_le (Int.emod_lt_of_pos i q.1) q.2⟩) (x_bag0 hB (x_varV 0)) (x_var 1)) (fun y hy => ?_)
    refine q_bag0 0 rfl (x_divE (fun i j (p : 0 ≤ i) (q : Upto m j) => ⟨wide_div q.1 (b := 64) (by have := q.1; have := q.2; omega) (by decide) (by decide), Int.ediv_nonneg p (by have := q.1; omega)⟩) (x_bag0 hB (x_varV 0)) (x_var 1)) ?_
    exact s_ret (x_imp (x_var 2) fun z hz => by rw [hz]; exact hy)
  · refine q_bag1 0 rfl (x_modE (P := fun x => 0 ≤ x) (Q := (· = 2147483647)) (fun i j p q => ⟨by omega, by rw [q]; exact Int.emod_nonneg i (by decide), by have := Int.emod_lt_of_pos i (show (0 : Int) < 2147483647 by decide); rw [q]; omega⟩)
      (x_mulE (P := fun x => 0 ≤ x ∧ x ≤ 2147483646) (Q := (· = 48271)) (fun i j p q => ⟨cmul_of (a := 64) (b := 64) (by omega) (by omega), by rw [q]; omega⟩) (x_bag1 hB (x_varV 0)) x_int) x_int) ?_
    refine s_ret (x_modE (P := fun x => 0 ≤ x) (fun i j (p : 0 ≤ i) (q : Upto m j) => ⟨q.1, Int.emod_nonneg i (by have := q.1; omega), Int.lt_of_lt_of_le (Int.emod_lt_of_pos i q.1) q.2⟩)
      (x_divE (P := fun x => 0 ≤ x) (Q := (· = 64)) (fun i j p q => ⟨wide_div (by omega) (b := 64) (by omega) (by decide) (by decide), Int.ediv_nonneg p (by omega)⟩)
        (x_modE (P := fun _ => True) (Q := (· = 2147483629)) (fun i j p q => ⟨by omega, by rw [q]; exact Int.emod_nonneg i (by decide)⟩)
          (x_mulE (P := fun x => 0 ≤ x ∧ x ≤ 2147483646) (Q := fun x => 0 ≤ x ∧ x ≤ 2147483646) (fun i j p q => ⟨cmul_of (a := 64) (b := 64) (by omega) (by omega), trivial⟩) (x_bag1 hB (x_varV 0)) (x_bag1 hB (x_varV 0))) x_int) x_int) (x_var 1))
theorem x_take {X : Cx} {c : Ab.Ctx} {ss : List AV} {b : Addr} {e1 e2 : Expr} {m : Int} {k : Nat} {p pos : Pos} (F : Df X.prog X.w X.K X.mg X.base lv__law_take "_law_take" (spTake X.K (TT PP))) (hw : c.w = wB (TT PP) b) (hr : Room k X.A) (h1 : XE X c ss e1 (.val (.ref b))) (h2 : XE X c ss e2 (.ex (Upto m))) (hm : m.natAbs < 2 ^ 64)
    (hjk : Nat.ble lv__law_take k = true := by rfl) (hg : Gl X "_law_take" := by rfl) (he : starEach (e1 :: [e2]) X.env = (false, eval e1 X.env) :: starEach [e2] X.env := by rfl) (he2 : starEach (e2 :: []) X.env = (false, eval e2 X.env) :: starEach [] X.env := by rfl) (hpl : (backTo pos (starEach [e2] X.env)).any (·.1) = false := by rfl) :
    XE X c ss (.Call (.Name "_law_take" p) [e1, e2] [] pos) (.ex (Draw m)) :=
  x_cal F (b, m) (by rw [hw]; exact Wd.Le.refl _) hr hm (xa_cons h1 (xa_cons h2 xa_nil he2) he) hjk hg rfl rfl (by decide) he hpl
theorem x_upto {X : Cx} {c : Ab.Ctx} {ss : List AV} {e : Expr} {n : Int} (h : XE X c ss e (.dat n)) (hn : 0 < n) : XE X c ss e (.ex (Upto n)) := x_imp h fun z (q : z = n) => q ▸ (⟨hn, Int.le_refl n⟩ : Upto n n)
theorem atI_mem {α : Type} {xs : List α} {i : Int} (h : Draw (xs.length : Int) i) : ∃ x, atI xs i = some x ∧ x ∈ xs := by
  obtain ⟨k, rfl⟩ := Int.eq_ofNat_of_zero_le h.1
  have hk : k < xs.length := by have := h.2; omega
  exact ⟨xs[k], atI_nat (List.getElem?_eq_getElem hk), List.getElem_mem hk⟩
/-- one of some written numbers -/
theorem x_oneOf {X : Cx} {c : Ab.Ctx} {ss : List AV} {e i : Expr} {pos : Pos} {m : Int} (ns : List Int) (h : XE X c ss e (.own ns)) (hi : XE X c ss i (.ex (Draw (ns.length : Int)))) (hm : ∀ n ∈ ns, 0 < n ∧ n ≤ m) (hs : PlainIx i := by exact fun _ _ => rfl) : XE X c ss (.Subscript e i pos) (.ex (Upto m)) :=
  x_ixL (fun j hj => by
    obtain ⟨x, h1, h2⟩ := atI_mem hj
    exact ⟨x, h1, hm x h2⟩) (x_lst h) hi hs

def spOf (α : Type) [Rp α] (K : PySem.W.Frag) (T : List (Addr × Str)) : Sp := spW K (fun i : Addr × Bool × List α => wB T i.1) (fun i => [.val (.ref i.1), sqAV i.2.1 i.2.2]) (fun i => i.2.2 ≠ [] ∧ i.2.2.length ≤ 100000) (fun i => .ex (· ∈ i.2.2))
theorem d__law_of {α : Type} [Rp α] (t : Tx K mg cc) : Df P w K mg base lv__law_of "_law_of" (spOf α K (TT PP)) := by
  refine df_of t.t__law_of sc__law_of (fun i => rfl) (fun i => by cases i.2.1 <;> rfl) (fun f cdv A outer s H E vs i hr ok hp => ?_)
  obtain ⟨b, bl, xs⟩ := i
  obtain ⟨hne, hz⟩ : xs ≠ [] ∧ xs.length ≤ 100000 := hp
  have hpos : 0 < xs.length := List.length_pos_iff.mpr hne
  obtain ⟨v1, v2, rfl, h1, h2⟩ := ok.two
  have h1 : v1 = .ref b := h1
  subst h1
  cases bl with
  | true =>
    obtain ⟨p, us, rfl, _⟩ := h2
    change XSs _ ⟨wB (TT PP) b, _, [⟨p, xs⟩], _⟩ [AV.val (.ref b), .val (.ref p)] _ _
    exact s_ret (x_ixL (fun i hi => atI_mem hi) (x_varP 1 (List.mem_singleton.mpr rfl)) (x_take (d__law_take t) rfl hr (x_varV 0) (x_upto (x_lenL t.g_len (xa_cons (x_varP 1 (List.mem_singleton.mpr rfl)) xa_nil)) (by show 0 < (xs.length : Int); omega)) (by show (xs.length : Int).natAbs < _; omega)))
  | false =>
    change XSs _ ⟨wB (TT PP) b, _, _, _⟩ [AV.val (.ref b), .dat xs] _ _
    exact s_ret (x_ixTE (fun i hi => atI_mem hi) (x_var 1) (x_take (d__law_take t) rfl hr (x_varV 0) (x_upto (x_lenT t.g_len (xa_cons (x_var 1) xa_nil)) (by show 0 < (xs.length : Int); omega)) (by show (xs.length : Int).natAbs < _; omega)))

/-- the law's bounds of a rope -/
def Sm (r : Rope) : Prop := Ok r ∧ r.slack ≤ 1000 ∧ r.stiff ≤ 100 ∧ r.strong ≤ 1000000
def spRope (K : PySem.W.Frag) (T : List (Addr × Str)) : Sp := spW K (fun i : Addr × Str => wB T i.1) (fun i => [.val (.ref i.1), .dat i.2]) (fun _ => True) (fun i => .ex fun r : Rope => Sm r ∧ r.name = i.2)
theorem d__law_rope (t : Tx K mg cc) : Df P w K mg base lv__law_rope "_law_rope" (spRope K (TT PP)) := by
  refine df_of t.t__law_rope sc__law_rope (fun i => rfl) (fun i => rfl) (fun f cdv A outer s H E vs i hr ok hp => ?_)
  obtain ⟨b, nm⟩ := i
  obtain ⟨v1, v2, rfl, h1, h2⟩ := ok.two
  have h1 : v1 = .ref b := h1
  subst h1
  have hN := sc__law_rope.nd
  change XSs _ ⟨wB (TT PP) b, _, _, _⟩ [AV.val (.ref b), .dat nm, .un, .un] _ _
  refine q_setE 2 (x_take (m := 1001) (d__law_take t) rfl hr (x_varV 0) (x_oneOf [3, 30, 1001] (x_list _ (by decide) (xa_cons x_int (xa_cons x_int (xa_cons x_int xa_nil)))) (x_take (m := 3) (d__law_take t) rfl hr (x_varV 0) (x_upto x_int (by decide)) (by decide)) (by decide)) (by decide)) (fun sl hsl => ?_)
  refine q_setE 3 (x_addE (P := (· = 1)) (R := fun z => 1 ≤ z ∧ z ≤ 100) (fun i j p (q : Draw 100 j) => by have := q.1; have := q.2; omega) x_int (x_take (m := 100) (d__law_take t) rfl hr (x_varV 0) (x_oneOf [3, 10, 100] (x_list _ (by decide) (xa_cons x_int (xa_cons x_int (xa_cons x_int xa_nil)))) (x_take (m := 3) (d__law_take t) rfl hr (x_varV 0) (x_upto x_int (by decide)) (by decide)) (by decide)) (by decide))) (fun st hst => ?_)
  exact s_ret (x_ropeE (P1 := (· = nm)) (P2 := (· = sl)) (P3 := (· = st)) (P4 := fun z => 1 ≤ z ∧ z ≤ 1000000) (fun n s f g (e1 : n = nm) (e2 : s = sl) (e3 : f = st) e4 => by
    have := hsl.1
    have := hsl.2
    subst e1 e2 e3
    exact ⟨⟨⟨by omega, by show s ≤ 10000; omega, hst.1, by show f ≤ 1000; have := hst.2; omega, e4.1, by show g ≤ 100000000; have := e4.2; omega⟩, by show s ≤ 1000; omega, hst.2, e4.2⟩, rfl⟩) (xa_cons (x_var 1) (xa_cons (x_var 2) (xa_cons (x_var 3) (xa_cons (x_addE (P := (· = 1)) (fun i j p (q : Draw 1000000 j) => by have := q.1; have := q.2; omega) x_int (x_take (m := 1000000) (d__law_take t) rfl hr (x_varV 0) (x_oneOf [12, 200, 1000000] (x_list _ (by decide) (xa_cons x_int (xa_cons x_int (xa_cons x_int xa_nil)))) (x_take (m := 3) (d__law_take t) rfl hr (x_varV 0) (x_upto x_int (by decide)) (by decide)) (by decide)) (by decide))) xa_nil)))))

def NAMES : List Str := ["ann", "bo", "cy", "dee", "eli", "fay"]
def Bun (m : Int) (bs : List Rope) : Prop := bs ≠ [] ∧ (bs.length : Int) ≤ m ∧ (∀ r ∈ bs, Ok r) ∧ bs.map Rope.name = NAMES.take bs.length ∧ ∀ r ∈ bs, Sm r
theorem names_ok : ∀ n ∈ NAMES, PySem.PyData.strOk n = true := by decide +kernel
theorem fs_ok {fs : List Rope} {xs : List Str} {i k : Nat} (h : fs.map Rope.name = (NAMES.take k).take i) : ∀ r ∈ fs, Dt.ok r := fun r hr => names_ok _ (List.mem_of_mem_take (List.mem_of_mem_take (h ▸ List.mem_map.mpr ⟨r, hr, rfl⟩)))
def spBundle (K : PySem.W.Frag) (T : List (Addr × Str)) : Sp := spW K (fun i : Addr × Int => wB T i.1) (fun i => [.val (.ref i.1), .dat i.2]) (fun i => 1 ≤ i.2 ∧ i.2 ≤ 6) (fun i => .ex (Bun i.2))
theorem d__law_bundle (t : Tx K mg cc) : Df P w K mg base lv__law_bundle "_law_bundle" (spBundle K (TT PP)) := by
  refine df_of t.t__law_bundle sc__law_bundle (fun i => rfl) (fun i => rfl) (fun f cdv A outer s H E vs i hr ok hp => ?_)
  obtain ⟨b, m⟩ := i
  obtain ⟨hm1, hm2⟩ : 1 ≤ m ∧ m ≤ 6 := hp
  obtain ⟨v1, v2, rfl, h1, h2⟩ := ok.two
  have h1 : v1 = .ref b := h1
  subst h1
  have hN := sc__law_bundle.nd
  change XSs _ ⟨wB (TT PP) b, _, _, _⟩ [AV.val (.ref b), .dat m, .un, .un, .un] _ _
  refine q_setL 2 (x_nil (α := Rope)) ?_
  refine q_forN (α := Str) (P := fun zs => ∃ k : Nat, (1 ≤ k ∧ (k : Int) ≤ m) ∧ zs = NAMES.take k) (fun xs i ss' => ∃ fs : List Rope, ss' = [AV.val (.ref b), .dat m, .own fs, .un, .un] ∧ (∀ r ∈ fs, Sm r) ∧ fs.map Rope.name = xs.take i) (fun ss' x => ss'.set 3 (.dat x)) rfl
    (i_newN ((x_slN (x_lst (x_list NAMES (by decide) (xa_cons x_str (xa_cons x_str (xa_cons x_str (xa_cons x_str (xa_cons x_str (xa_cons x_str xa_nil)))))))) (x_addE (P := (· = 1)) (R := fun z => 1 ≤ z ∧ z ≤ m) (fun i j p (q : Draw m j) => by have := q.1; have := q.2; omega) x_int (x_take (m := m) (d__law_take t) rfl hr (x_varV 0) (x_upto (x_var 1) (by omega)) (by omega)))).wk fun σ H Q q => ⟨q.1, fun v H' zs a g ⟨n, pn, e⟩ ok => q.2 v H' zs a g ⟨n.toNat, ⟨by omega, by omega⟩, by rw [e, ← cut_take, Int.toNat_of_nonneg (by omega)]⟩ ok⟩))
    (fun xs px => ⟨[], rfl, fun r hr => absurd hr (List.not_mem_nil), rfl⟩) (fun c' xs i ss' x px hx hI => by
      obtain ⟨fs, rfl, _⟩ := hI
      exact g_name 3) (fun pr tu xs i ss' x px hx hI => ?_) (fun xs ss' px hI => ?_)
  · obtain ⟨fs, rfl, ho, hn⟩ := hI
    obtain ⟨k, ⟨k1, k2⟩, rfl⟩ := px
    have hi : i < (NAMES.take k).length := (List.getElem?_eq_some_iff.mp hx).1
    have hkl : (NAMES.take k).length ≤ 6 := by rw [List.length_take]; show min k 6 ≤ 6; omega
    have hfl : fs.length ≤ 6 := by
      have := congrArg List.length hn
      rw [List.length_map, List.length_take] at this
      omega
    have hfd := fs_ok (xs := []) hn
    refine q_setE 4 (x_cal (d__law_rope t) (b, x) (Wd.Le.refl _) hr trivial (xa_cons (x_varV 0) (xa_cons (x_var 3) xa_nil))) (fun r hr1 => ?_)
    refine q_if (P := fun z => z = true → fs ≠ []) (fun s => ∃ q : Rope, (Sm q ∧ q.name = x) ∧ s = [AV.val (.ref b), .dat m, .own fs, .dat x, .dat q])
      (t_w (t_and (P := (· = !decide (fs = []))) (Q := fun _ => True) (fun _ z => by cases z) (fun z p _ _ => of_decide_eq_false (by rw [← Bool.not_eq_true', ← p])) (t_neL hr (x_varL 2) (x_lst x_nil) hfd (fun z hz => absurd hz (List.not_mem_nil)))
        (fun _ => t_and1 (t_eqiE (fun _ _ _ _ => trivial) (x_take (m := 4) (d__law_take t) rfl hr (x_varV 0) (x_upto x_int (by decide)) (by decide)) x_int)))) (fun h => ?_) (fun h => s_end ⟨r, hr1, rfl⟩) (fun s hs => ?_)
    · refine q_setE 4 (x_nameConsE (x_tup1 (xa_cons (x_var 3) xa_nil)) (x_ropeTailE (x_cal (d__law_of (α := Rope) t) (b, true, fs) (Wd.Le.refl _) hr ⟨h rfl, by show fs.length ≤ _; omega⟩ (xa_cons (x_varV 0) (xa_cons (x_varL 2) xa_nil))) (xo_some x_int))) (fun q hq => s_end ⟨q, ?_, rfl⟩)
      obtain ⟨y, ⟨z, hz, rfl⟩, rfl⟩ := hq
      have hz := ho z hz
      exact ⟨⟨⟨hz.1.1, hz.1.2.1, hz.1.2.2.1, hz.1.2.2.2.1, hz.1.2.2.2.2.1, hz.1.2.2.2.2.2⟩, hz.2⟩, rfl⟩
    · obtain ⟨q, hq, rfl⟩ := hs
      refine q_append 2 (xa_cons (x_var 4) xa_nil) (s_fg [3, 4] (s_end ⟨fs ++ [q], rfl, fun z hz => ?_, ?_⟩)) (by omega)
      · rcases List.mem_append.mp hz with hz | hz
        · exact ho z hz
        · rw [List.mem_singleton.mp hz]
          exact hq.1
      · rw [List.map_append, hn, List.take_add_one, hx, List.map_cons, hq.2]
        rfl
  · obtain ⟨fs, rfl, ho, hn⟩ := hI
    obtain ⟨k, ⟨k1, k2⟩, rfl⟩ := px
    rw [List.take_length] at hn
    have hl := congrArg List.length hn
    rw [List.length_map, List.length_take] at hl
    have hl : fs.length = min k 6 := hl
    have hk6 : min k 6 = k := by omega
    refine s_ret (x_imp (x_tupleL t.g_tuple (xa_cons (x_varL 2) xa_nil)) fun z hz => ?_)
    have hz : z = fs := hz
    subst hz
    exact ⟨fun e => by rw [e] at hl; rw [hk6] at hl; simp at hl; omega, by omega, fun r hr => (ho r hr).1, by rw [hn, hl, hk6], ho⟩

def Load (q : Rat) : Prop := 0 ≤ q ∧ Sz 30 q
def spLoad (K : PySem.W.Frag) (T : List (Addr × Str)) : Sp := spW K (fun i : Addr => wB T i) (fun i => [.val (.ref i)]) (fun _ => True) (fun i => .ex Load)
theorem load_of {a b : Int} (ha : Draw 3000000 a) (hb : 1 ≤ b ∧ b ≤ 6) : Load ((a : Rat) / (b : Rat)) := by
  refine ⟨?_, sz_div (by omega) (by have := ha.1; have := ha.2; omega) (by omega)⟩
  refine Rat.num_nonneg.mp ?_
  rw [rat_num (by omega)]
  exact Int.ediv_nonneg ha.1 (by omega)
theorem d__law_load (t : Tx K mg cc) : Df P w K mg base lv__law_load "_law_load" (spLoad K (TT PP)) := by
  refine df_of t.t__law_load sc__law_load (fun i => rfl) (fun i => rfl) (fun f cdv A outer s H E vs b hr ok hp => ?_)
  obtain ⟨v1, rfl, h1⟩ := ok.one
  have h1 : v1 = .ref b := h1
  subst h1
  have hN := sc__law_load.nd
  change XSs _ ⟨wB (TT PP) b, _, _, _⟩ [AV.val (.ref b), .un] _ _
  refine q_setE 1 (x_oneOf (m := 3000000) [1, 30, 1000, 3000000] (x_list _ (by decide) (xa_cons x_int (xa_cons x_int (xa_cons x_int (xa_cons x_int xa_nil))))) (x_take (m := 4) (d__law_take t) rfl hr (x_varV 0) (x_upto x_int (by decide)) (by decide)) (by decide)) (fun wd hwd => ?_)
  refine s_ret (x_calE (d__law_lowest (PP := PP) t) hr (xa_cons (x_take (m := 3000000) (d__law_take t) rfl hr (x_varV 0) (x_imp (x_var 1) fun z hz => by rw [show z = wd from hz]; exact hwd) (by decide)) (xa_cons (x_addE (P := (· = 1)) (R := fun z => 1 ≤ z ∧ z ≤ 6) (fun i j p (q : Draw 6 j) => by have := q.1; have := q.2; omega) x_int (x_take (m := 6) (d__law_take t) rfl hr (x_varV 0) (x_oneOf [1, 6] (x_list _ (by decide) (xa_cons x_int (xa_cons x_int xa_nil))) (x_take (m := 2) (d__law_take t) rfl hr (x_varV 0) (x_upto x_int (by decide)) (by decide)) (by decide)) (by decide))) xa_nil)) (fun H' vs' ok' => ?_))
  obtain ⟨u1, u2, rfl, ⟨i, k1, p1⟩, ⟨j, k2, p2⟩⟩ := ok'.two
  exact ⟨(i, j), ⟨⟨i, k1, rfl⟩, ⟨j, k2, rfl⟩, trivial⟩, ⟨by show 0 < j; omega, up_abs (a := 64) (by show j.natAbs < _; omega) (by decide)⟩, w0_le _ _, fun H2 v ⟨q, q1, q2⟩ => ⟨q, q1, by rw [show q = _ from q2]; exact load_of p1 p2⟩⟩

theorem d__law_plus (t : Tx K mg cc) : Df P w K mg base lv__law_plus "_law_plus" (spPlus K (TT PP)) := by
  refine df_of t.t__law_plus sc__law_plus (fun i => rfl) (fun i => rfl) (fun f cdv A outer s H E vs i hr ok hp => ?_)
  obtain ⟨a, b⟩ := i
  obtain ⟨ha, hb⟩ : Sz 4000 a ∧ Sz 4000 b := hp
  obtain ⟨v1, v2, rfl, _, _⟩ := ok.two
  change XSs _ _ [AV.dat a, AV.dat b] _ _
  exact s_ret (x_eq (x_cal (d__law_lowest t) (a.num * (b.den : Int) + b.num * (a.den : Int), (a.den : Int) * (b.den : Int)) (Wd.Le.refl _) hr ⟨Int.mul_pos (den_pos a) (den_pos b), up_abs (mul_abs ha.d hb.d) (by decide)⟩
    (xa_cons (x_add (x_mul (cmul_of ha.n hb.d) (x_num (x_var 0)) (x_den (x_var 1))) (x_mul (cmul_of hb.n ha.d) (x_num (x_var 1)) (x_den (x_var 0)))) (xa_cons (x_mul (cmul_of ha.d hb.d) (x_den (x_var 0)) (x_den (x_var 1))) xa_nil))) (add_eq a b))

theorem d__law_pull (t : Tx K mg cc) : Df P w K mg base lv__law_pull "_law_pull" (spPull K (TT PP)) := by
  refine df_of t.t__law_pull sc__law_pull (fun i => rfl) (fun i => rfl) (fun f cdv A outer s H E vs i hr ok hp => ?_)
  obtain ⟨r, u⟩ := i
  obtain ⟨hk, hu⟩ : Ok r ∧ Sz 4000 u := hp
  obtain ⟨v1, v2, rfl, _, _⟩ := ok.two
  change XSs _ _ [AV.dat r, AV.dat u] _ _
  exact s_ret (x_eq (x_cal (d__law_lowest t) (max 0 (r.stiff * (u.num - r.slack * (u.den : Int))), (u.den : Int)) (Wd.Le.refl _) hr ⟨den_pos u, up_abs hu.d (by decide)⟩ (xa_cons (x_max2 rfl t.g_max (xa_cons x_int (xa_cons (x_mul (cmul_of (stiff_abs hk) (top_abs hk hu)) (x_rstiff (x_var 0)) (x_sub (x_num (x_var 1)) (x_mul (cmul_of (slack_abs hk) hu.d) (x_rslack (x_var 0)) (x_den (x_var 1))))) xa_nil))) (xa_cons (x_den (x_var 1)) xa_nil))) (max_pull r u hk.2.2.1))

theorem d__law_end (t : Tx K mg cc) : Df P w K mg base lv__law_end "_law_end" (spEnd K (TT PP)) := by
  refine df_of t.t__law_end sc__law_end (fun i => rfl) (fun i => rfl) (fun f cdv A outer s H E vs r hr ok hp => ?_)
  have hk : Ok r := hp
  obtain ⟨v1, rfl, _⟩ := ok.one
  change XSs _ _ [AV.dat r] _ _
  exact s_ret (x_cal (d__law_lowest t) (r.slack * r.stiff + r.strong, r.stiff) (Wd.Le.refl _) hr ⟨by have := hk.2.2.1; show 0 < r.stiff; omega, up_abs (stiff_abs hk) (by decide)⟩ (xa_cons (x_add (x_mul (cmul_of (slack_abs hk) (stiff_abs hk)) (x_rslack (x_var 0)) (x_rstiff (x_var 0))) (x_rstrong (x_var 0))) (xa_cons (x_rstiff (x_var 0)) xa_nil)))

def spMarks (K : PySem.W.Frag) (T : List (Addr × Str)) : Sp := spW K (fun _ => w0 T) (fun i : List Rope => [.dat i]) (fun i => (∀ r ∈ i, Ok r) ∧ i.length ≤ 30) (fun i => .own (i.map (markR i)))
theorem d__law_marks (t : Tx K mg cc) : Df P w K mg base lv__law_marks "_law_marks" (spMarks K (TT PP)) := by
  refine df_of t.t__law_marks sc__law_marks (fun i => rfl) (fun i => rfl) (fun f cdv A outer s H E vs rs hr ok hp => ?_)
  obtain ⟨ho, hz⟩ : (∀ r ∈ rs, Ok r) ∧ rs.length ≤ 30 := hp
  obtain ⟨v1, rfl, _⟩ := ok.one
  have hN := sc__law_marks.nd
  change XSs _ _ [AV.dat rs, .un, .un, .un, .un, .un] _ _
  refine q_setL 1 (x_nil (α := Rat)) ?_
  refine q_forS (xs := rs) (fun i => [AV.dat rs, .own ((rs.take i).map (markR rs)), .un, .un, .un, .un]) (fun i x => [AV.dat rs, .own ((rs.take i).map (markR rs)), .dat x, .un, .un, .un]) rfl (i_tup (x_var 0)) (by rw [List.take_zero]; rfl) (fun c' i x hx => g_name 2) (fun pr tu i x hx => ?_) (s_retOwn (xs := (rs.take rs.length).map (markR rs)) 1 (by rw [List.take_length]))
  have hk : Ok x := ho x (List.mem_of_getElem? hx)
  have hi : i < rs.length := (List.getElem?_eq_some_iff.mp hx).1
  have he := sz_end hk
  refine q_set 3 (x_cal (d__law_end t) x (Wd.Le.refl _) hr hk (xa_cons (x_var 2) xa_nil)) ?_
  refine q_set 4 (x_rat (q := 0) ⟨rfl, rfl⟩ (xa_cons x_int (xa_cons x_int xa_nil))) ?_
  refine q_forS (xs := rs) (fun j => [AV.dat rs, .own ((rs.take i).map (markR rs)), .dat x, .dat (endR x), .dat ((rs.map (part (endR x))).take j).sum, .un]) (fun j y => [AV.dat rs, .own ((rs.take i).map (markR rs)), .dat x, .dat (endR x), .dat ((rs.map (part (endR x))).take j).sum, .dat y]) rfl (i_tup (x_var 0)) (by rw [List.take_zero]; rfl) (fun c' i x hx => g_name 5) (fun pr tu j y hy => ?_) ?_
  · have hky : Ok y := ho y (List.mem_of_getElem? hy)
    have e := sum_take_succ (qs := rs.map (part (endR x))) (i := j) (q := part (endR x) y) (by rw [List.getElem?_map, hy]; rfl)
    have hsz := sz_partsum ho he hz j
    refine s_if (P := (· = !decide (endR y < endR x))) (t_notD (t_val (x_cal (d__law_less t) (endR y, endR x) (Wd.Le.refl _) hr ⟨(sz_end hky).mono (by decide), he.mono (by decide)⟩ (xa_cons (x_cal (d__law_end t) y (Wd.Le.refl _) hr hky (xa_cons (x_var 5) xa_nil)) (xa_cons (x_var 3) xa_nil))))) (fun h => ?_) (fun h => ?_)
    · have hn : ¬ endR y < endR x := fun z => by rw [decide_eq_true z] at h; cases h
      refine q_set 4 (x_eq (x_cal (d__law_plus t) (((rs.map (part (endR x))).take j).sum, pullR y (endR x)) (Wd.Le.refl _) hr ⟨hsz.mono (by decide), (sz_pull hky he).mono (by decide)⟩ (xa_cons (x_var 4) (xa_cons (x_cal (d__law_pull t) (y, endR x) (Wd.Le.refl _) hr ⟨hky, he.mono (by decide)⟩ (xa_cons (x_var 5) (xa_cons (x_var 3) xa_nil))) xa_nil))) (show _ = ((rs.map (part (endR x))).take (j + 1)).sum by rw [e]; unfold part; rw [if_neg hn])) (s_fg [5] (s_end rfl))
    · have hn : endR y < endR x := Classical.byContradiction fun z => by rw [decide_eq_false z] at h; cases h
      refine s_fg [5] (s_end ?_)
      rw [e, show part (endR x) y = 0 from if_pos hn, show ((rs.map (part (endR x))).take j).sum + 0 = ((rs.map (part (endR x))).take j).sum by grind]
      rfl
  · refine q_append (xs := (rs.take i).map (markR rs)) (x := markR rs x) 1 (xa_cons (x_eq (x_var 4) (by rw [List.take_of_length_le (by rw [List.length_map]; omega)]; rfl)) xa_nil) (s_fg [2, 3, 4] (s_end ?_)) (by rw [List.length_map, List.length_take]; omega)
    rw [List.take_add_one, hx, List.map_append]
    rfl

theorem range_mem {n : Nat} {x : Int} (h : x ∈ upFrom 0 n) : ∃ k : Nat, x = (k : Int) ∧ k < n := by
  obtain ⟨i, hi⟩ := List.mem_iff_getElem?.mp h
  have hl : i < n := by
    have := (List.getElem?_eq_some_iff.mp hi).1
    rw [upFrom_len] at this
    exact this
  rw [upFrom_get hl] at hi
  exact ⟨i, by have := Option.some.inj hi; omega, hl⟩
theorem no_ne {α : Type} [DecidableEq α] {a b : α} (h : a = b) (z : true = !decide (a = b)) : False := by
  rw [decide_eq_true h] at z
  cases z
theorem no_ne2 {α β : Type} [DecidableEq α] [DecidableEq β] {a b : α} {a' b' : β} (h : a = b) (h' : a' = b') (z : true = ((!decide (a = b)) || !decide (a' = b'))) : False := by
  rw [decide_eq_true h, decide_eq_true h'] at z
  cases z
theorem bun_names {m : Int} {bs : List Rope} (h : Bun m bs) : ∀ r ∈ bs, Dt.ok r := fun r hr => names_ok _ (List.mem_of_mem_take (h.2.2.2.1 ▸ List.mem_map.mpr ⟨r, hr, rfl⟩))

theorem bun_nodup {m : Int} {bs : List Rope} (h : Bun m bs) : (bs.map Rope.name).Nodup := by
  rw [h.2.2.2.1]
  exact List.Nodup.sublist (List.take_sublist _ _) (by decide +kernel)

theorem bun_bs {m : Int} {bs : List Rope} (h : Bun m bs) (hm : m ≤ 6) : Bs bs := ⟨h.2.2.1, bun_names h, by have := h.2.1; omega⟩
theorem fin_strs {rs : List Rope} (h : Bs rs) (l : Rat) (ns : List Str) : ∀ w ∈ (fin rs ns l).1, Dt.ok w := by
  refine fin_ind (rs := rs) (l := l) (p := fun ns => ∀ w ∈ (fin rs ns l).1, Dt.ok w) (fun ns hw w hz => ?_) (fun ns hw ih w hz => ?_) ns
  · rw [fin_end hw] at hz
    cases hz
  · rw [fin_step hw] at hz
    rcases List.mem_cons.mp hz with e | hz
    · rw [e]
      exact wave_strs h ns l
    · exact ih w hz
theorem broken_strs {rs : List Rope} (h : Bs rs) {l : Rat} {ns : List Str} (hn : ∀ n ∈ ns, PySem.PyData.strOk n = true) : Dt.ok (brokenBy rs ns l) := fun n hz => by
  have hz : n ∈ (fin rs ns l).2 := (srt_perm _).mem_iff.mp hz
  rcases fin_mem ns hz with z | ⟨r, hr, e⟩
  · exact hn n z
  · rw [← e]
    exact h.2.1 r hr

def LoadB (z : Rat) : Prop := 0 ≤ z ∧ Sz 3000 z

def timesO (p : Option Rat) (by_ : Int) : Option Rat := p.map fun q => (by_ : Rat) * q
def spTimes (K : PySem.W.Frag) (T : List (Addr × Str)) : Sp := spW K (fun _ => w0 T) (fun i : Option Rat × Int => [.dat i.1, .dat i.2]) (fun i => i.2.natAbs < 2 ^ 10 ∧ ∀ q, i.1 = some q → Sz 4000 q) (fun i => .dat (timesO i.1 i.2))
theorem d__law_times (t : Tx K mg cc) : Df P w K mg base lv__law_times "_law_times" (spTimes K (TT PP)) := by
  refine df_of t.t__law_times sc__law_times (fun i => rfl) (fun i => rfl) (fun f cdv A outer s H E vs i hr ok hp => ?_)
  obtain ⟨p, b⟩ := i
  obtain ⟨hb, hq⟩ : b.natAbs < 2 ^ 10 ∧ ∀ q, p = some q → Sz 4000 q := hp
  obtain ⟨v1, v2, rfl, _⟩ := ok.two
  cases p with
  | none =>
    change XSs _ _ [AV.dat (none : Option Rat), .dat b] _ _
    refine s_ret (x_ifE (P := (· = (none : Option Rat).isNone)) (t_isN nonRat (x_var 0)) (fun _ => ?_) (fun h => by cases h))
    exact x_eq (x_non (α := Rat)) rfl
  | some q =>
    change XSs _ _ [AV.dat (some q), .dat b] _ _
    have hz := hq q rfl
    have hd := den_pos q
    refine s_ret (x_ifE (P := (· = (some q).isNone)) (t_isN nonRat (x_var 0)) (fun h => by cases h) (fun _ => x_some (x := (b : Rat) * q) (x_eq (x_cal (d__law_lowest t) (q.num * b, (q.den : Int)) (Wd.Le.refl _) hr ⟨hd, up_abs hz.d (by decide)⟩ (xa_cons (x_mul (cmul_of hz.n hb) (x_num (x_get (x_var 0))) (x_var 1)) (xa_cons (x_den (x_get (x_var 0))) xa_nil))) ?_)))
    show ((q.num * b : Int) : Rat) / ((q.den : Int) : Rat) = (b : Rat) * q
    rw [Rat.intCast_mul, num_eq q]
    have := den_ne q
    grind

def spChanged (K : PySem.W.Frag) (T : List (Addr × Str)) : Sp := spW K (fun _ => w0 T) (fun i : List Rope × Int × Int × Str => [.dat i.1, .dat i.2.1, .dat i.2.2.1, .dat i.2.2.2]) (fun i => (∀ r ∈ i.1, Ok r ∧ r.name.length ≤ 100) ∧ i.1.length ≤ 100 ∧ i.2.1.natAbs < 2 ^ 10 ∧ i.2.2.1.natAbs < 2 ^ 10 ∧ i.2.2.2.length ≤ 10) (fun i => .dat (cs i.2.1 i.2.2.1 (· ++ i.2.2.2) i.1))
theorem d__law_changed (t : Tx K mg cc) : Df P w K mg base lv__law_changed "_law_changed" (spChanged K (TT PP)) := by
  refine df_of t.t__law_changed sc__law_changed (fun i => rfl) (fun i => rfl) (fun fa cdv A outer s H E vs i hr ok hp => ?_)
  obtain ⟨rs, f, g, sg⟩ := i
  obtain ⟨ho, hl, hf, hg, hs⟩ : (∀ r ∈ rs, Ok r ∧ r.name.length ≤ 100) ∧ rs.length ≤ 100 ∧ f.natAbs < 2 ^ 10 ∧ g.natAbs < 2 ^ 10 ∧ sg.length ≤ 10 := hp
  obtain ⟨v1, v2, v3, v4, rfl, _⟩ := ok.four
  have hN := sc__law_changed.nd
  have z : 1000 ≤ sizeLine := by decide
  change XSs _ _ [AV.dat rs, .dat f, .dat g, .dat sg, .un, .un, .un, .un, .un] _ _
  refine q_setL 4 (x_nil (α := Rope)) ?_
  refine q_forS (xs := rs) (fun i => [AV.dat rs, .dat f, .dat g, .dat sg, .own (cs f g (· ++ sg) (rs.take i)), .un, .un, .un, .un]) (fun i r => [AV.dat rs, .dat f, .dat g, .dat sg, .own (cs f g (· ++ sg) (rs.take i)), .dat r.name, .dat r.slack, .dat r.stiff, .dat r.strong]) rfl (i_tup (x_var 0)) rfl (fun c' i r hx => g_rope rfl (g_name 5) (g_name 6) (g_name 7) (g_name 8)) (fun pr tu i r hx => ?_) (s_ret (x_eq (x_tupleL (xs := cs f g (· ++ sg) (rs.take rs.length)) t.g_tuple (xa_cons (x_varL 4) xa_nil)) (by rw [List.take_length])))
  obtain ⟨hk, hn⟩ := ho r (List.mem_of_getElem? hx)
  have hi := (List.getElem?_eq_some_iff.mp hx).1
  refine q_append (xs := cs f g (· ++ sg) (rs.take i)) (x := chg f g (· ++ sg) r) 4 (xa_cons (x_ropeE (P1 := (· = r.name ++ sg)) (P2 := (· = r.slack * f)) (P3 := (· = r.stiff * g)) (P4 := (· = r.strong * f * g)) (fun n s2 f2 g2 e1 e2 e3 e4 => by rw [e1, e2, e3, e4]; rfl) (xa_cons (x_addS (by omega) (x_var 5) (x_var 3)) (xa_cons (x_mul (cmul_of (slack_abs hk) hf) (x_var 6) (x_var 1)) (xa_cons (x_mul (cmul_of (stiff_abs hk) hg) (x_var 7) (x_var 2)) (xa_cons (x_mul (cmul_of (mul_abs (strong_abs hk) hf) hg) (x_mul (cmul_of (strong_abs hk) hf) (x_var 8) (x_var 1)) (x_var 2)) xa_nil))))) xa_nil) (s_fg [5, 6, 7, 8] (s_end ?_)) (by rw [List.length_map, List.length_take]; omega)
  rw [List.take_add_one, hx]
  show _ = [AV.dat rs, .dat f, .dat g, .dat sg, .own (cs f g (· ++ sg) (rs.take i ++ [r])), .un, .un, .un, .un]
  rw [show cs f g (· ++ sg) (rs.take i ++ [r]) = cs f g (· ++ sg) (rs.take i) ++ [chg f g (· ++ sg) r] from List.map_append ..]
  rfl

def spNamed (K : PySem.W.Frag) (T : List (Addr × Str)) : Sp := spW K (fun _ => w0 T) (fun i : List Str × Str => [.dat i.1, .dat i.2]) (fun i => i.1.length ≤ 1000 ∧ (∀ n ∈ i.1, n.length ≤ 100) ∧ i.2.length ≤ 10) (fun i => .dat (i.1.map (· ++ i.2)))
theorem d__law_named (t : Tx K mg cc) : Df P w K mg base lv__law_named "_law_named" (spNamed K (TT PP)) := by
  refine df_of t.t__law_named sc__law_named (fun i => rfl) (fun i => rfl) (fun f cdv A outer s H E vs i hr ok hp => ?_)
  obtain ⟨ns, sg⟩ := i
  obtain ⟨hl, hn, hs⟩ : ns.length ≤ 1000 ∧ (∀ n ∈ ns, n.length ≤ 100) ∧ sg.length ≤ 10 := hp
  obtain ⟨v1, v2, rfl, _⟩ := ok.two
  have hN := sc__law_named.nd
  change XSs _ _ [AV.dat ns, .dat sg, .un] _ _
  have z : 1000 ≤ sizeLine := by decide
  exact s_ret (x_tupleL t.g_tuple (xa_cons (x_lst (x_map1 2 (· ++ sg) (i_tup (x_var 0)).cc (by show ns.length ≤ _; omega) (fun s H C cl fp n hn2 => x_addS (by have := hn n hn2; omega) (x_var 2) (x_var 1)))) xa_nil))

section
variable {f g : Int} {ν : Str → Str} {A : List Str} {rs : List Rope}
theorem dbl_chg (R : Ren A ν) (h1 : ∀ r ∈ rs, r.name ∈ A) {lot : List Str} (h2 : ∀ n ∈ lot, n ∈ A) : dblB (cs f g ν rs) (lot.map ν) = cs f g ν (dblB rs lot) := by
  show (rs.map (chg f g ν)).map (dblR (lot.map ν)) = (rs.map (dblR lot)).map (chg f g ν)
  rw [List.map_map, List.map_map]
  refine List.map_congr_left fun r hr => ?_
  show (⟨ν r.name, r.slack * f, r.stiff * g, if ν r.name ∈ lot.map ν then r.strong * f * g * 2 else r.strong * f * g⟩ : Rope) = ⟨ν r.name, r.slack * f, r.stiff * g, (if r.name ∈ lot then r.strong * 2 else r.strong) * f * g⟩
  have e : ν r.name ∈ lot.map ν ↔ r.name ∈ lot := by
    constructor
    · intro z
      obtain ⟨n, hn, e⟩ := List.mem_map.mp z
      rw [← R.inj (h2 n hn) (h1 r hr) e]
      exact hn
    · exact fun z => List.mem_map.mpr ⟨_, z, rfl⟩
  by_cases h : r.name ∈ lot
  · rw [if_pos (e.mpr h), if_pos h]
    congr 1
    rw [Int.mul_right_comm (r.strong * f), Int.mul_right_comm r.strong f 2]
  · rw [if_neg (fun z => h (e.mp z)), if_neg h]
theorem lots_chg (ν : Str → Str) : ∀ (m : Nat) (ns : List Str), lotsOf m (ns.map ν) = (lotsOf m ns).map (·.map ν)
  | 0, ns => rfl
  | m + 1, ns => by
    show lotsTo (lotsOf m) (ns.map ν) (ns.map ν).length = (lotsTo (lotsOf m) ns ns.length).map (·.map ν)
    rw [List.length_map]
    have h : ∀ i, i ≤ ns.length → lotsTo (lotsOf m) (ns.map ν) i = (lotsTo (lotsOf m) ns i).map (·.map ν) := fun i => by
      induction i with
      | zero => exact fun _ => rfl
      | succ i ih =>
        intro hi
        have e := List.getElem?_eq_getElem (show i < ns.length by omega)
        rw [lotsTo_succ e, lotsTo_succ (x := ν ns[i]) (by rw [List.getElem?_map, e]; rfl), ih (by omega), ← List.map_drop, lots_chg ν m, List.map_append, List.map_map, List.map_map]
        rfl
    exact h _ (Nat.le_refl _)
theorem bears_chg (R : Ren A ν) (hf : 0 < f) (hg : 0 < g) {qs : List Rope} (ho : ∀ r ∈ qs, Ok r) (ho2 : ∀ r ∈ qs, Ok (chg f g ν r)) (h1 : ∀ r ∈ qs, r.name ∈ A) {l : Rat} (hl : 0 ≤ l) : bearsB (cs f g ν qs) [] (kR f g * l) = bearsB qs [] l := by
  have hk := kR_pos hf hg
  unfold bearsB
  have e := broken_chg (ns := []) R hf hg ho ho2 h1 hl (fun n hn => absurd hn List.not_mem_nil)
  have e : brokenBy (cs f g ν qs) [] (kR f g * l) = (brokenBy qs [] l).map ν := e
  rw [e, List.length_map, List.length_map]
  congr 1
  refine decide_eq_decide.mpr ?_
  rw [Rat.num_eq_zero, Rat.num_eq_zero]
  constructor
  · intro z
    rcases Rat.mul_eq_zero.mp z with z | z
    · grind
    · exact z
  · intro z
    rw [z]
    exact Rat.mul_zero _
theorem find_map2 {α β : Type} (F : α → β) (p : β → Bool) (q : α → Bool) : ∀ xs : List α, (∀ x ∈ xs, p (F x) = q x) → (xs.map F).find? p = (xs.find? q).map F
  | [], _ => rfl
  | x :: xs, h => by
    rw [List.map_cons, List.find?_cons, List.find?_cons, h x (List.mem_cons_self ..), find_map2 F p q xs (fun y hy => h y (List.mem_cons_of_mem _ hy))]
    cases q x <;> rfl
theorem fewest_chg (C : Chg A f g ν rs) (hd : ∀ lot, ∀ r ∈ dblB rs lot, Ok r ∧ Ok (chg f g ν r)) {l : Rat} (hl : 0 ≤ l) : fewest (cs f g ν rs) (kR f g * l) = (fewest rs l).map (·.map ν) := by
  unfold fewest
  rw [C.names]
  have e : (fewLots ((rs.map Rope.name).map ν)).flatten = (fewLots (rs.map Rope.name)).flatten.map (·.map ν) := by
    generalize rs.map Rope.name = ns
    unfold fewLots
    rw [List.map_flatten, List.map_map, List.length_map]
    congr 1
    exact List.map_congr_left fun m _ => lots_chg ν m _
  rw [e]
  refine find_map2 _ _ _ _ fun lot hlot => ?_
  have hA : ∀ n ∈ lot, n ∈ A := fun n hn => by
    obtain ⟨L, hL, h2⟩ := List.mem_flatten.mp hlot
    obtain ⟨m, _, rfl⟩ := List.mem_map.mp hL
    obtain ⟨r, hr, e⟩ := List.mem_map.mp ((lots_mem m _ lot h2).2 n hn)
    rw [← e]
    exact C.nm r hr
  unfold doesLot
  rw [dbl_chg C.R C.nm hA]
  refine bears_chg C.R C.f0 C.g0 (fun r hr => (hd lot r hr).1) (fun r hr => (hd lot r hr).2) (fun r hr => ?_) hl
  obtain ⟨q, hq, rfl⟩ := List.mem_map.mp hr
  exact C.nm q hq
theorem pulls_chg (C : Chg A f g ν rs) {l : Rat} (hl : 0 ≤ l) : pullsOf (cs f g ν rs) [] (kR f g * l) = (pullsOf rs [] l).map fun z => (ν z.1, kR f g * z.2) := by
  have h0 : ∀ n ∈ ([] : List Str), n ∈ A := fun n hn => absurd hn List.not_mem_nil
  have hs : sunkBy (left (cs f g ν rs) []) (kR f g * l) = (sunkBy (left rs []) l).map ((f : Rat) * ·) := C.sunk h0 hl
  have hL : left (cs f g ν rs) [] = cs f g ν (left rs []) := C.left h0
  unfold pullsOf
  rw [hs]
  cases sunkBy (left rs []) l with
  | none => rfl
  | some u =>
    show (left (cs f g ν rs) []).map (fun r => (r.name, pullR r ((f : Rat) * u))) = ((left rs []).map fun r => (r.name, pullR r u)).map _
    rw [hL, List.map_map, List.map_map]
    refine List.map_congr_left fun r hr => ?_
    show (ν r.name, pullR (chg f g ν r) ((f : Rat) * u)) = (ν r.name, kR f g * pullR r u)
    rw [pull_chg C.f0]
theorem waves_chg (C : Chg A f g ν rs) {l : Rat} (hl : 0 ≤ l) : (fin (cs f g ν rs) [] (kR f g * l)).1 = (fin rs [] l).1.map (·.map ν) := by
  have := fin_chg C.R C.f0 C.g0 C.ok C.ok2 C.nm hl [] (fun n hn => absurd hn List.not_mem_nil)
  have e : fin (cs f g ν rs) [] (kR f g * l) = _ := this
  rw [e]
end

theorem x_eqO {X : Cx} {c : Ab.Ctx} {ss : List AV} {e : Expr} {α : Type} [Rp α] {xs ys : List α} (h : XE X c ss e (.own xs)) (k : xs = ys) : XE X c ss e (.own ys) := k ▸ h
structure GoesP (f g : Int) (sg : Str) (rs : List Rope) (l : Rat) : Prop where
  C : Chg NAMES f g (· ++ sg) rs
  bs : Bs rs
  nd : (rs.map Rope.name).Nodup
  bs2 : Bs (cs f g (· ++ sg) rs)
  nd2 : ((cs f g (· ++ sg) rs).map Rope.name).Nodup
  ne : rs ≠ []
  l6 : rs.length ≤ 6
  oh : ∀ r ∈ rs, OkH r
  oh2 : ∀ r ∈ cs f g (· ++ sg) rs, OkH r
  dbl : ∀ lot, ∀ r ∈ dblB rs lot, Ok r ∧ Ok (chg f g (· ++ sg) r)
  f9 : f.natAbs < 2 ^ 10
  h9 : (f * g).natAbs < 2 ^ 10
  sl : sg.length ≤ 10
  so : ∀ n ∈ NAMES, PySem.PyData.strOk n = true
  so2 : ∀ n ∈ NAMES, PySem.PyData.strOk (n ++ sg) = true
  sn : ∀ n ∈ NAMES, n.length ≤ 10
  l0 : 0 ≤ l
  ls : Sz 2200 l
theorem pulls_szC {rs : List Rope} (ho : ∀ r ∈ rs, Ok r) (hl : rs.length ≤ 1000) {l : Rat} (h : Sz 2200 l) : ∀ z ∈ pullsOf rs [] l, Sz 3000 z.2 ∧ ∃ r ∈ rs, z.1 = r.name := fun z hz => by
  unfold pullsOf at hz
  cases hs : sunkBy (left rs []) l with
  | none => rw [hs] at hz; exact absurd hz List.not_mem_nil
  | some u =>
    rw [hs] at hz
    obtain ⟨r, hr, rfl⟩ := List.mem_map.mp hz
    have hu := sz_sunkBy (left_ok ho) h (Nat.le_trans (left_len _ _) hl) hs
    exact ⟨(sz_pull (left_ok ho r hr) hu).mono (by decide), r, (mem_left.mp hr).1, rfl⟩
theorem end_szC {r : Rope} (h : Ok r) : Sz 40 (endR r) := sz_end h
theorem Ld_szC {rs : List Rope} (ho : ∀ r ∈ rs, Ok r) (hl : rs.length ≤ 7) {B : List Str} {k : Nat} (hn : left rs (Bk rs B k) ≠ []) : Sz 470 (Ld rs B k) := (sz_total (left_ok ho) (minE_sz (left_ok ho) hn)).mono (by have := Nat.mul_le_mul_left (40 + 26) (Nat.le_trans (left_len rs (Bk rs B k)) hl); omega)
theorem best_szC {rs : List Rope} (ho : ∀ r ∈ rs, Ok r) (hd : (rs.map Rope.name).Nodup) (hl : rs.length ≤ 7) (hn : rs ≠ []) : Sz 470 (bestR rs) := by
  obtain ⟨hk, e⟩ := best_eq ho hd hn
  obtain ⟨kA, kB, kC⟩ := kEnd_spec ho (B := [])
  rw [e]
  exact Ld_szC ho hl (kB _ (by omega))
def pair2 (p : Str × Str) : List Str := [p.1, p.2]
theorem rp_pair2 (K : PySem.W.Frag) (H : Hp) (v : V) (x : Str × Str) (h : Ab.Rp.rp K H v x) : Ab.Rp.rp K H v (pair2 x) := by
  obtain ⟨a, u, w, e, st, h1, h2⟩ := h
  exact ⟨a, [u, w], e, st, .cons h1 (.cons h2 .nil)⟩
theorem x_pair2 {X : Cx} {c : Ab.Ctx} {ss : List AV} {e : Expr} {p : Str × Str} (h : XE X c ss e (.dat p)) : XE X c ss e (.dat (pair2 p)) := x_conv h fun H H' v _ ⟨y, h, e⟩ => ⟨pair2 y, rp_pair2 _ _ _ _ h, by rw [show y = p from e]⟩
def spGoes (K : PySem.W.Frag) (T : List (Addr × Str)) : Sp := spW K (fun _ => w0 T) (fun i : List Rope × Int × Int × Str × Rat => [.dat i.1, .dat (cs i.2.1 i.2.2.1 (· ++ i.2.2.2.1) i.1), .dat (i.2.1, i.2.1 * i.2.2.1), .dat i.2.2.2.1, .dat i.2.2.2.2]) (fun i => GoesP i.2.1 i.2.2.1 i.2.2.2.1 i.1 i.2.2.2.2) (fun i => .dat true)
theorem d__law_goes (t : Tx K mg cc) (TB : TabB base mg cc PP) : Df P w K mg base lv__law_goes "_law_goes" (spGoes K (TT PP)) := by
  refine df_of t.t__law_goes sc__law_goes (fun i => rfl) (fun i => rfl) (fun fa cdv A outer s H E vs i hr ok hp => ?_)
  obtain ⟨rs, f, g, sg, l⟩ := i
  have G : GoesP f g sg rs l := hp
  obtain ⟨v1, v2, v3, v4, v5, rfl, _⟩ := RsOks.five ok
  have hN := sc__law_goes.nd
  have C := G.C
  have zz : 1000 ≤ sizeLine := by decide
  have e0 : ∀ n ∈ ([] : List Str), n ∈ NAMES := fun n hn => absurd hn List.not_mem_nil
  have kc : ((f * g : Int) : Rat) = kR f g := Rat.intCast_mul ..
  have ho := G.bs.1
  have ho2 := G.bs2.1
  have hl6 := G.l6
  have hlo : (cs f g (· ++ sg) rs).length = rs.length := List.length_map ..
  have hne2 : cs f g (· ++ sg) rs ≠ [] := fun z => G.ne (List.map_eq_nil_iff.mp z)
  have hS : sunkBy (left (cs f g (· ++ sg) rs) []) (kR f g * l) = timesO (sunkBy (left rs []) l) f := by
    have z := C.sunk e0 G.l0
    rw [List.map_nil] at z
    exact z
  have hP : pullsOf (cs f g (· ++ sg) rs) [] (kR f g * l) = ((pullsOf rs [] l).filter fun _ => true).map fun z => (z.1 ++ sg, ((f * g : Int) : Rat) * z.2) := by rw [filt_all, kc]; exact pulls_chg C G.l0
  have hW : (fin (cs f g (· ++ sg) rs) [] (kR f g * l)).1 = (fin rs [] l).1.map fun ns => ns.map (· ++ sg) := waves_chg C G.l0
  have hT : tableR (cs f g (· ++ sg) rs) = ((tableR rs).filter fun _ => true).map fun z => ((f : Rat) * z.1, ((f * g : Int) : Rat) * z.2) := by rw [filt_all, kc]; exact table_chg C.f0 C.g0 ho
  have hB : bestR (cs f g (· ++ sg) rs) = ((f * g : Int) : Rat) * bestR rs := by rw [kc]; exact best_chg C.f0 C.g0 ho
  have hb0 : 0 ≤ bestR rs := by
    have := best_pos ho G.nd G.ne
    grind
  have hBr : brokenBy (cs f g (· ++ sg) rs) [] (kR f g * bestR rs) = (brokenBy rs [] (bestR rs)).map (· ++ sg) := by
    have z := C.broken e0 hb0
    rw [List.map_nil] at z
    exact z
  have hBS : sunkBy (left (cs f g (· ++ sg) rs) (brokenBy (cs f g (· ++ sg) rs) [] (bestR (cs f g (· ++ sg) rs)))) (bestR (cs f g (· ++ sg) rs)) = timesO (sunkBy (left rs (brokenBy rs [] (bestR rs))) (bestR rs)) f := by
    rw [hB, kc, hBr]
    exact C.sunk (broken_A C.nm e0) hb0
  have hSt : stepsR (cs f g (· ++ sg) rs) [] = ((stepsR rs []).filter fun _ => true).map fun z => (((f * g : Int) : Rat) * z.1, z.2.map (· ++ sg)) := by
    have z := C.steps e0
    rw [List.map_nil] at z
    rw [filt_all, kc]
    exact z
  have hF : fewest (cs f g (· ++ sg) rs) (kR f g * l) = (fewest rs l).map fun ns => ns.map (· ++ sg) := fewest_chg C G.dbl G.l0
  have hGu : (guardsR (cs f g (· ++ sg) rs)).map pair2 = (guardsR rs).map fun p => (pair2 p).map (· ++ sg) := by rw [C.guards, List.map_map]; rfl
  have hkl0 : 0 ≤ kR f g * l := by
    have := kR_pos C.f0 C.g0
    exact Rat.mul_nonneg (by grind) G.l0
  have hkls : Sz 2210 (kR f g * l) := by
    have e : kR f g * l = ((f * g * l.num : Int) : Rat) / ((l.den : Int) : Rat) := by
      rw [Rat.intCast_mul, kc, num_eq l]
      have := den_ne l
      grind
    rw [e]
    exact sz_div (den_pos l) (up_abs (mul_abs G.h9 G.ls.n) (by decide)) (up_abs G.ls.d (by decide))
  have hso : ∀ n ∈ NAMES, n.length ≤ 10 ∧ n.length + sg.length ≤ sizeLine := fun n hn => by
    have := G.sn n hn
    have := G.sl
    omega
  have bs2 := G.bs2
  have nd2 := G.nd2
  have oh2 := G.oh2
  have hWl : kR f g * l = ((f * g : Int) : Rat) * l := by rw [kc]
  generalize cs f g (· ++ sg) rs = oth at *
  generalize kR f g * l = W at *
  change XSs _ _ [AV.dat rs, .dat (oth), .dat (f, f * g), .dat sg, .dat l, .un, .un, .un, .un, .un, .un, .un, .un, .un, .un, .un, .un] _ _
  refine q_asg (ss' := [AV.dat rs, .dat (oth), .dat (f, f * g), .dat sg, .dat l, .dat f, .dat (f * g), .un, .un, .un, .un, .un, .un, .un, .un, .un, .un]) (x_var 2) (g_pair rfl (g_name 5) (g_name 6)) ?_
  refine q_set (y := W) 7 (x_eq (x_get (x := ((f * g : Int) : Rat) * l) (x_cal (d__law_times t) (some l, f * g) (Wd.Le.refl _) hr ⟨G.h9, fun q e => by cases e; exact G.ls.mono (by decide)⟩ (xa_cons (x_some (x_var 4)) (xa_cons (x_var 6) xa_nil)))) hWl.symm) ?_
  have hSs : ∀ q, sunkBy (left rs []) l = some q → Sz 4000 q := fun q e => (sz_sunkBy (left_ok ho) G.ls (Nat.le_trans (left_len _ _) (by omega)) e).mono (by decide)
  refine q_when (t_neD hr (x_eq (x_cal (d_sinking t TB) (oth, false, [], W) (Wd.Le.refl _) hr ⟨ho2, by show (oth).length ≤ 1000; omega, hkls.mono (by decide)⟩ (xa_cons (x_var 1) (xa_cons (x_tup0 (α := Str)) (xa_cons (x_var 7) xa_nil)))) hS) (x_cal (d__law_times t) (sunkBy (left rs []) l, f) (Wd.Le.refl _) hr ⟨G.f9, hSs⟩ (xa_cons (x_cal (d_sinking t TB) (rs, false, [], l) (Wd.Le.refl _) hr ⟨ho, by show rs.length ≤ 1000; omega, G.ls.mono (by decide)⟩ (xa_cons (x_var 0) (xa_cons (x_tup0 (α := Str)) (xa_cons (x_var 4) xa_nil)))) (xa_cons (x_var 5) xa_nil))) (by cases timesO (sunkBy (left rs []) l) f <;> exact trivial) (by cases timesO (sunkBy (left rs []) l) f <;> exact trivial)) (fun h => (no_ne (a := timesO (sunkBy (left rs []) l) f) rfl h).elim) (fun _ => ?_)
  have hpz := pulls_szC ho (by omega) G.ls
  have hpl : (pullsOf rs [] l).length ≤ 100 := by
    unfold pullsOf
    split
    · rw [List.length_map]
      have := left_len rs []
      omega
    · exact Nat.zero_le _
  have hpok : ∀ z ∈ ((pullsOf rs [] l).filter fun _ => true).map fun z => (z.1 ++ sg, ((f * g : Int) : Rat) * z.2), Dt.ok z := fun z hz => by
    rw [filt_all] at hz
    obtain ⟨y, hy, rfl⟩ := List.mem_map.mp hz
    obtain ⟨_, r, hr2, e⟩ := hpz y hy
    refine ⟨?_, trivial⟩
    show PySem.PyData.strOk (y.1 ++ sg) = true
    rw [e]
    exact G.so2 _ (C.nm r hr2)
  refine q_when (t_neL hr (x_lst (x_eqO (x_cal (d_pulls t TB) (oth, false, [], W) (Wd.Le.refl _) hr ⟨ho2, by show (oth).length ≤ 1000; omega, hkls.mono (by decide)⟩ (xa_cons (x_var 1) (xa_cons (x_tup0 (α := Str)) (xa_cons (x_var 7) xa_nil)))) hP))
    (x_lst (x_lc2 (xs := pullsOf rs [] l) 11 12 (fun z => (z.1 ++ sg, ((f * g : Int) : Rat) * z.2)) (fun _ => true) (i_lst (x_lst (x_cal (d_pulls t TB) (rs, false, [], l) (Wd.Le.refl _) hr ⟨ho, by show rs.length ≤ 1000; omega, G.ls.mono (by decide)⟩ (xa_cons (x_var 0) (xa_cons (x_tup0 (α := Str)) (xa_cons (x_var 4) xa_nil)))))) (by omega) (fun s H C cl fp z hz => c_yes) (fun s H C2 cl fp z hz _ => ?_))) hpok hpok) (fun h => (no_ne (a := ((pullsOf rs [] l).filter fun _ => true).map fun z => (z.1 ++ sg, ((f * g : Int) : Rat) * z.2)) rfl h).elim) (fun _ => ?_)
  · obtain ⟨hz2, r, hr2, e⟩ := hpz z hz
    exact x_pair (xa_cons (x_addS (by rw [e]; exact (hso _ (C.nm r hr2)).2) (x_var 11) (x_var 3)) (xa_cons (x_get (x := ((f * g : Int) : Rat) * z.2) (x_cal (d__law_times t) (some z.2, f * g) (Wd.Le.refl _) hr ⟨G.h9, fun q e => by cases e; exact hz2.mono (by decide)⟩ (xa_cons (x_some (x_var 12)) (xa_cons (x_var 6) xa_nil)))) xa_nil))
  have hwn : ∀ ns ∈ (fin rs [] l).1, ns.length ≤ 100 ∧ ∀ n ∈ ns, n ∈ NAMES := fun ns hns => by
    have hfl := fin_flat rs [] l
    have hfn := fin_len rs [] l
    have hle := left_len rs []
    refine ⟨?_, fun n hn => ?_⟩
    · have : ns.length ≤ ((fin rs [] l).1.flatten).length := (List.sublist_flatten_of_mem hns).length_le
      rw [hfl] at hfn
      simp only [List.length_append, List.length_nil] at hfn
      omega
    · have hm : n ∈ (fin rs [] l).2 := by
        rw [hfl]
        exact List.mem_append_right _ (List.mem_flatten.mpr ⟨ns, hns, hn⟩)
      exact fin_A C.nm e0 n hm
  have hwok : ∀ z ∈ (fin rs [] l).1.map fun ns => ns.map (· ++ sg), Dt.ok z := fun z hz => by
    obtain ⟨ns, hns, rfl⟩ := List.mem_map.mp hz
    intro n hn
    obtain ⟨m, hm, rfl⟩ := List.mem_map.mp hn
    exact G.so2 m ((hwn ns hns).2 m hm)
  refine q_when (t_neL hr (x_lst (x_eqO (x_cal (d_waves t TB) (oth, false, [], W) (Wd.Le.refl _) hr ⟨bs2, hkl0, hkls.mono (by decide)⟩ (xa_cons (x_var 1) (xa_cons (x_tup0 (α := Str)) (xa_cons (x_var 7) xa_nil)))) hW))
    (x_lst (x_map1 13 (fun ns : List Str => ns.map (· ++ sg)) (i_lst (x_lst (x_cal (d_waves t TB) (rs, false, [], l) (Wd.Le.refl _) hr ⟨G.bs, G.l0, G.ls.mono (by decide)⟩ (xa_cons (x_var 0) (xa_cons (x_tup0 (α := Str)) (xa_cons (x_var 4) xa_nil)))))) (by have := (fin_len rs [] l).1; have := left_len rs []; show (fin rs [] l).1.length ≤ _; omega) (fun s H C2 cl fp ns hns => x_cal (d__law_named t) (ns, sg) (Wd.Le.refl _) hr ⟨by have := (hwn ns hns).1; show ns.length ≤ 1000; omega, fun n hn => by have := G.sn n ((hwn ns hns).2 n hn); omega, G.sl⟩ (xa_cons (x_var 13) (xa_cons (x_var 3) xa_nil))))) hwok hwok) (fun h => (no_ne (a := (fin rs [] l).1.map fun ns => ns.map (· ++ sg)) rfl h).elim) (fun _ => ?_)
  have htz : ∀ z ∈ tableR rs, Sz 40 z.1 ∧ Sz 1990 z.2 := fun z hz => by
    obtain ⟨e, he, rfl⟩ := List.mem_map.mp hz
    obtain ⟨r, hr2, rfl⟩ := List.mem_map.mp (ord_mem.mp he)
    have h1 := end_szC (ho r hr2)
    exact ⟨h1, sz_total30 (fun q hq => ho q (List.mem_filter.mp hq).1) (Nat.le_trans (List.length_filter_le ..) (by omega)) h1⟩
  have htl := table_len rs
  refine q_when (t_neD hr (x_eq (x_cal (d_table t) (oth) (Wd.Le.refl _) hr ⟨ho2, by show (oth).length ≤ 30; omega⟩ (xa_cons (x_var 1) xa_nil)) hT)
    (x_tupleL t.g_tuple (xa_cons (x_lst (x_lc2 (xs := tableR rs) 16 12 (fun z => ((f : Rat) * z.1, ((f * g : Int) : Rat) * z.2)) (fun _ => true) (i_tup (x_cal (d_table t) rs (Wd.Le.refl _) hr ⟨ho, by show rs.length ≤ 30; omega⟩ (xa_cons (x_var 0) xa_nil))).cc (by omega) (fun s H C cl fp z hz => c_yes) (fun s H C2 cl fp z hz _ => ?_))) xa_nil)) (fun _ _ => ⟨trivial, trivial⟩) (fun _ _ => ⟨trivial, trivial⟩)) (fun h => (no_ne (a := ((tableR rs).filter fun _ => true).map fun z => ((f : Rat) * z.1, ((f * g : Int) : Rat) * z.2)) rfl h).elim) (fun _ => ?_)
  · obtain ⟨hz1, hz2⟩ := htz z hz
    exact x_pair (xa_cons (x_get (x := (f : Rat) * z.1) (x_cal (d__law_times t) (some z.1, f) (Wd.Le.refl _) hr ⟨G.f9, fun q e => by cases e; exact hz1.mono (by decide)⟩ (xa_cons (x_some (x_var 16)) (xa_cons (x_var 5) xa_nil)))) (xa_cons (x_get (x := ((f * g : Int) : Rat) * z.2) (x_cal (d__law_times t) (some z.2, f * g) (Wd.Le.refl _) hr ⟨G.h9, fun q e => by cases e; exact hz2.mono (by decide)⟩ (xa_cons (x_some (x_var 12)) (xa_cons (x_var 6) xa_nil)))) xa_nil))
  have hbz := best_szC ho G.nd (by omega) G.ne
  generalize hQ : sunkBy (left rs (brokenBy rs [] (bestR rs))) (bestR rs) = Q0 at hBS
  have hQs : ∀ q, Q0 = some q → Sz 4000 q := fun q e => by
    rw [← hQ] at e
    exact (sz_sunkBy (left_ok ho) hbz (Nat.le_trans (left_len _ _) (by omega)) e).mono (by decide)
  refine q_asg (ss' := [AV.dat rs, .dat (oth), .dat (f, f * g), .dat sg, .dat l, .dat f, .dat (f * g), .dat (W), .dat (bestR rs), .dat Q0, .un, .un, .un, .un, .un, .un, .un]) (x_eq (x_cal (d_greatest t TB) rs (Wd.Le.refl _) hr ⟨G.bs, by omega, G.ne⟩ (xa_cons (x_var 0) xa_nil)) (by rw [← hQ])) (g_pair rfl (g_name 8) (g_name 9)) ?_
  refine q_when (t_neD hr (x_eq (y := (((f * g : Int) : Rat) * bestR rs, timesO Q0 f)) (x_cal (d_greatest t TB) (oth) (Wd.Le.refl _) hr ⟨bs2, by omega, hne2⟩ (xa_cons (x_var 1) xa_nil)) (by rw [hBS, hB]))
    (x_pair (xa_cons (x_get (x := ((f * g : Int) : Rat) * bestR rs) (x_cal (d__law_times t) (some (bestR rs), f * g) (Wd.Le.refl _) hr ⟨G.h9, fun q e => by cases e; exact hbz.mono (by decide)⟩ (xa_cons (x_some (x_var 8)) (xa_cons (x_var 6) xa_nil)))) (xa_cons (x_cal (d__law_times t) (Q0, f) (Wd.Le.refl _) hr ⟨G.f9, hQs⟩ (xa_cons (x_var 9) (xa_cons (x_var 5) xa_nil))) xa_nil))) ⟨trivial, by cases timesO Q0 f <;> exact trivial⟩ ⟨trivial, by cases timesO Q0 f <;> exact trivial⟩) (fun h => (no_ne (a := (((f * g : Int) : Rat) * bestR rs, timesO Q0 f)) rfl h).elim) (fun _ => ?_)
  have hsz : ∀ z ∈ stepsR rs [], Sz 470 z.1 ∧ z.2.length ≤ 100 ∧ ∀ n ∈ z.2, n ∈ NAMES := fun z hz => by
    obtain ⟨k, hk, rfl⟩ := step_mem hz
    obtain ⟨kA, kB, kC⟩ := kEnd_spec ho (B := [])
    refine ⟨Ld_szC ho (by omega) (kB k hk), ?_, fun n hn => (C.Bk e0 (k + 1)).2 n (in_step.mp hn).1⟩
    have h1 : (stepAt rs [] k).2.Nodup := List.Nodup.sublist (List.filter_sublist ..) (Bk_nodup G.nd List.nodup_nil (k + 1))
    have h2 := few_left G.nd h1 (fun n hn => Bk_in rs (k + 1) n (in_step.mp hn).1)
    omega
  have hsl := steps_size rs
  have hkE := (kEnd_spec ho (B := [])).2.2
  have hsok : ∀ z ∈ ((stepsR rs []).filter fun _ => true).map fun z => (((f * g : Int) : Rat) * z.1, z.2.map (· ++ sg)), Dt.ok z := fun z hz => by
    rw [filt_all] at hz
    obtain ⟨y, hy, rfl⟩ := List.mem_map.mp hz
    refine ⟨trivial, fun n hn => ?_⟩
    obtain ⟨m, hm, rfl⟩ := List.mem_map.mp hn
    exact G.so2 m ((hsz y hy).2.2 m hm)
  refine q_when (t_neL hr (x_lst (x_eqO (x_cal (d_steps t TB) (oth) (Wd.Le.refl _) hr (stp_nil bs2 (by omega) nd2) (xa_cons (x_var 1) xa_nil)) hSt))
    (x_lst (x_lc2 (xs := stepsR rs []) 12 14 (fun z => (((f * g : Int) : Rat) * z.1, z.2.map (· ++ sg))) (fun _ => true) (i_lst (x_lst (x_cal (d_steps t TB) rs (Wd.Le.refl _) hr (stp_nil G.bs (by omega) G.nd) (xa_cons (x_var 0) xa_nil)))) (by omega) (fun s H C cl fp z hz => c_yes) (fun s H C2 cl fp z hz _ => ?_))) hsok hsok) (fun h => (no_ne (a := ((stepsR rs []).filter fun _ => true).map fun z => (((f * g : Int) : Rat) * z.1, z.2.map (· ++ sg))) rfl h).elim) (fun _ => ?_)
  · obtain ⟨hz1, hz2, hz3⟩ := hsz z hz
    exact x_pair (xa_cons (x_get (x := ((f * g : Int) : Rat) * z.1) (x_cal (d__law_times t) (some z.1, f * g) (Wd.Le.refl _) hr ⟨G.h9, fun q e => by cases e; exact hz1.mono (by decide)⟩ (xa_cons (x_some (x_var 12)) (xa_cons (x_var 6) xa_nil)))) (xa_cons (x_cal (d__law_named t) (z.2, sg) (Wd.Le.refl _) hr ⟨by show z.2.length ≤ 1000; omega, fun n hn => by have := G.sn n (hz3 n hn); omega, G.sl⟩ (xa_cons (x_var 14) (xa_cons (x_var 3) xa_nil))) xa_nil))
  refine q_set (y := fewest rs l) 10 (x_cal (d_fewest_doubled t TB) (rs, l) (Wd.Le.refl _) hr ⟨G.bs, G.oh, G.l6, G.l0, G.ls.mono (by decide)⟩ (xa_cons (x_var 0) (xa_cons (x_var 4) xa_nil))) ?_
  have hfm : ∀ lot, fewest rs l = some lot → lot.length ≤ 100 ∧ ∀ n ∈ lot, n ∈ NAMES := fun lot e => by
    obtain ⟨L, hL, h2⟩ := List.mem_flatten.mp (List.mem_of_find?_eq_some e)
    obtain ⟨m, hm, rfl⟩ := List.mem_map.mp hL
    have hm : m < (rs.map Rope.name).length + 1 := List.mem_range.mp hm
    rw [List.length_map] at hm
    obtain ⟨h3, h4⟩ := lots_mem m _ lot h2
    refine ⟨by omega, fun n hn => ?_⟩
    obtain ⟨r, hr2, e⟩ := List.mem_map.mp (h4 n hn)
    rw [← e]
    exact C.nm r hr2
  refine q_when (t_neD (x := (fewest rs l).map fun ns => ns.map (· ++ sg)) (y := (fewest rs l).map fun ns => ns.map (· ++ sg)) hr (x_eq (x_cal (d_fewest_doubled t TB) (oth, W) (Wd.Le.refl _) hr ⟨bs2, oh2, by show (oth).length ≤ 6; omega, hkl0, hkls.mono (by decide)⟩ (xa_cons (x_var 1) (xa_cons (x_var 7) xa_nil))) hF) ?_ ?_ ?_) (fun h => (no_ne (a := (fewest rs l).map fun ns => ns.map (· ++ sg)) rfl h).elim) (fun _ => ?_)
  · cases hfe : fewest rs l with
    | none => exact x_ifE (P := (· = (none : Option (List Str)).isNone)) (t_isN nonL (x_var 10)) (fun _ => x_eq (x_non (α := List Str)) rfl) (fun h => by cases h)
    | some lot =>
      obtain ⟨h1, h2⟩ := hfm lot hfe
      exact x_ifE (P := (· = (some lot).isNone)) (t_isN nonL (x_var 10)) (fun h => by cases h) (fun _ => x_some (x_cal (d__law_named t) (lot, sg) (Wd.Le.refl _) hr ⟨by show lot.length ≤ 1000; omega, fun n hn => by have := G.sn n (h2 n hn); omega, G.sl⟩ (xa_cons (x_get (x_var 10)) (xa_cons (x_var 3) xa_nil))))
  · cases hfe : fewest rs l with
    | none => exact trivial
    | some lot =>
      intro n hn
      obtain ⟨m, hm, rfl⟩ := List.mem_map.mp hn
      exact G.so2 m ((hfm lot hfe).2 m hm)
  · cases hfe : fewest rs l with
    | none => exact trivial
    | some lot =>
      intro n hn
      obtain ⟨m, hm, rfl⟩ := List.mem_map.mp hn
      exact G.so2 m ((hfm lot hfe).2 m hm)
  have hgl : (guardsR rs).length ≤ 100 := by
    have := guards_len rs (rs.map Rope.name) (rs.map Rope.name).length
    rw [List.take_length, List.length_map] at this
    have h2 := Nat.mul_le_mul hl6 hl6
    show (guardsR rs).length ≤ 100
    unfold guardsR
    omega
  have hgm : ∀ p ∈ guardsR rs, p.1 ∈ NAMES ∧ p.2 ∈ NAMES := fun p hp => by
    obtain ⟨L, hL, h2⟩ := List.mem_flatten.mp hp
    obtain ⟨one, h1, rfl⟩ := List.mem_map.mp hL
    obtain ⟨o, ho2, rfl⟩ := List.mem_map.mp h2
    have ho2 := (List.mem_filter.mp ho2).1
    obtain ⟨r1, hr1, e1⟩ := List.mem_map.mp h1
    obtain ⟨r2, hr2, e2⟩ := List.mem_map.mp ho2
    refine ⟨?_, ?_⟩
    · show one ∈ NAMES
      rw [← e1]
      exact C.nm r1 hr1
    · show o ∈ NAMES
      rw [← e2]
      exact C.nm r2 hr2
  have hgok : ∀ z ∈ (guardsR rs).map fun p => (pair2 p).map (· ++ sg), Dt.ok z := fun z hz => by
    obtain ⟨p, hp, rfl⟩ := List.mem_map.mp hz
    intro n hn
    obtain ⟨h1, h2⟩ := hgm p hp
    have hn : n ∈ [p.1 ++ sg, p.2 ++ sg] := hn
    simp only [List.mem_cons, List.not_mem_nil, or_false] at hn
    rcases hn with rfl | rfl
    · exact G.so2 _ h1
    · exact G.so2 _ h2
  refine s_ret (x_eq (x_eqL (xs := (guardsR rs).map fun p => (pair2 p).map (· ++ sg)) (ys := (guardsR rs).map fun p => (pair2 p).map (· ++ sg)) hr (x_lst (x_eqO (x_ownAs (F := pair2) rp_pair2 (x_cal (d_guards t TB) (oth) (Wd.Le.refl _) hr ⟨bs2, by omega, nd2⟩ (xa_cons (x_var 1) xa_nil))) hGu))
    (x_lst (x_map1 15 (fun p : Str × Str => (pair2 p).map (· ++ sg)) (i_lst (x_lst (x_cal (d_guards t TB) rs (Wd.Le.refl _) hr ⟨G.bs, by omega, G.nd⟩ (xa_cons (x_var 0) xa_nil)))) (by omega) (fun s H C2 cl fp p hp => x_cal (d__law_named t) (pair2 p, sg) (Wd.Le.refl _) hr ⟨by show 2 ≤ 1000; decide, fun n hn => by
      obtain ⟨h1, h2⟩ := hgm p hp
      have hn : n ∈ [p.1, p.2] := hn
      simp only [List.mem_cons, List.not_mem_nil, or_false] at hn
      rcases hn with rfl | rfl
      · have := G.sn _ h1; omega
      · have := G.sn _ h2; omega, G.sl⟩ (xa_cons (x_pair2 (x_var 15)) (xa_cons (x_var 3) xa_nil))))) hgok hgok) (decide_eq_true rfl))

theorem ren_none : Ren NAMES (· ++ ("" : Str)) := by unfold Ren; decide +kernel
theorem ren_x : Ren NAMES (· ++ ("x" : Str)) := by unfold Ren; decide +kernel
theorem names_short : ∀ n ∈ NAMES, n.length ≤ 10 := by decide +kernel
theorem names_so0 : ∀ n ∈ NAMES, PySem.PyData.strOk (n ++ ("" : Str)) = true := by decide +kernel
theorem names_sox : ∀ n ∈ NAMES, PySem.PyData.strOk (n ++ ("x" : Str)) = true := by decide +kernel
theorem names_nd0 : (NAMES.map (· ++ ("" : Str))).Nodup := by decide +kernel
theorem names_ndx : (NAMES.map (· ++ ("x" : Str))).Nodup := by decide +kernel
theorem names_ln0 : ∀ n ∈ NAMES, (n ++ ("" : Str)).length ≤ 10 := by decide +kernel
theorem names_lnx : ∀ n ∈ NAMES, (n ++ ("x" : Str)).length ≤ 10 := by decide +kernel
def MeasOk (f g : Int) (sg : Str) : Prop := 1 ≤ f ∧ f ≤ 9 ∧ 1 ≤ g ∧ g ≤ 9 ∧ f * g ≤ 9 ∧ (sg = "" ∨ sg = "x")
theorem chg_sm {f g : Int} {sg : Str} (h : MeasOk f g sg) {r : Rope} (hr : Sm r) (s2 : Int) (h2 : s2 = 1 ∨ s2 = 2) : Ok ⟨r.name ++ sg, r.slack * f, r.stiff * g, r.strong * s2 * f * g⟩ ∧ r.strong * s2 * f * g ≤ 18000000 := by
  obtain ⟨h1, h2', h3, h4, h5, _⟩ := h
  obtain ⟨⟨a, b, c, d, e, _⟩, b2, d2, e2⟩ := hr
  have m1 : 0 ≤ r.slack * f := Int.mul_nonneg a (by omega)
  have m2 : r.slack * f ≤ 1000 * 9 := Int.mul_le_mul b2 h2' (by omega) (by omega)
  have m3 : 1 * 1 ≤ r.stiff * g := Int.mul_le_mul c h3 (by omega) (by omega)
  have m4 : r.stiff * g ≤ 100 * 9 := Int.mul_le_mul d2 h4 (by omega) (by omega)
  have m5 : 1 ≤ r.strong * s2 ∧ r.strong * s2 ≤ 2000000 := by rcases h2 with rfl | rfl <;> omega
  have m6 : 1 * 1 ≤ f * g := Int.mul_le_mul h1 h3 (by omega) (by omega)
  have m7 : 1 * 1 ≤ r.strong * s2 * (f * g) := Int.mul_le_mul m5.1 m6 (by omega) (by omega)
  have m8 : r.strong * s2 * (f * g) ≤ 2000000 * 9 := Int.mul_le_mul m5.2 h5 (by omega) (by omega)
  rw [Int.mul_assoc]
  exact ⟨⟨m1, by show r.slack * f ≤ 10000; omega, by show 1 ≤ r.stiff * g; omega, by show r.stiff * g ≤ 1000; omega, by show 1 ≤ r.strong * s2 * (f * g); omega, by show r.strong * s2 * (f * g) ≤ 100000000; omega⟩, by omega⟩
theorem goes_ok {f g : Int} {sg : Str} (h : MeasOk f g sg) {m : Int} {bs : List Rope} (hb : Bun m bs) (hm : m ≤ 6) {l : Rat} (h0 : 0 ≤ l) (hs : Sz 2200 l) : GoesP f g sg bs l := by
  have hsm := hb.2.2.2.2
  have hmf := h
  obtain ⟨f1, f9, g1, g9, fg, hsg⟩ := h
  have hR : Ren NAMES (· ++ sg) := by rcases hsg with rfl | rfl; exact ren_none; exact ren_x
  have hso : ∀ n ∈ NAMES, PySem.PyData.strOk (n ++ sg) = true := by rcases hsg with rfl | rfl; exact names_so0; exact names_sox
  have hnd : (NAMES.map (· ++ sg)).Nodup := by rcases hsg with rfl | rfl; exact names_nd0; exact names_ndx
  have hln : sg.length ≤ 10 := by rcases hsg with rfl | rfl <;> decide +kernel
  have hin : ∀ r ∈ bs, r.name ∈ NAMES := fun r hr => List.mem_of_mem_take (hb.2.2.2.1 ▸ List.mem_map.mpr ⟨r, hr, rfl⟩)
  have hl := hb.2.1
  have hc1 : ∀ r ∈ bs, Ok (chg f g (· ++ sg) r) ∧ (chg f g (· ++ sg) r).strong ≤ 18000000 := fun r hr => by
    have := chg_sm hmf (hsm r hr) 1 (.inl rfl)
    rw [Int.mul_one] at this
    exact this
  have hmul : 1 * 1 ≤ f * g := Int.mul_le_mul f1 g1 (by omega) (by omega)
  refine ⟨⟨hR, by omega, by omega, hb.2.2.1, fun r hr => (hc1 r hr).1, hin⟩, bun_bs hb hm, bun_nodup hb, ⟨fun r hr => ?_, fun r hr => ?_, ?_⟩, ?_, hb.1, by omega, fun r hr => ⟨hb.2.2.1 r hr, by have := (hsm r hr).2.2.2; omega⟩, fun r hr => ?_, fun lot r hr => ?_, by omega, by omega, hln, names_ok, hso, names_short, h0, hs⟩
  · obtain ⟨q, hq, rfl⟩ := List.mem_map.mp hr
    exact (hc1 q hq).1
  · obtain ⟨q, hq, rfl⟩ := List.mem_map.mp hr
    exact hso _ (hin q hq)
  · rw [List.length_map]
    omega
  · rw [List.map_map]
    show (bs.map ((· ++ sg) ∘ Rope.name)).Nodup
    rw [← List.map_map, hb.2.2.2.1]
    exact hnd.sublist ((List.take_sublist _ _).map _)
  · obtain ⟨q, hq, rfl⟩ := List.mem_map.mp hr
    refine ⟨(hc1 q hq).1, ?_⟩
    have h9 := hsm q hq
    show q.strong * f * g ≤ 10000000
    rw [Int.mul_assoc]
    have : q.strong * (f * g) ≤ 1000000 * 9 := Int.mul_le_mul h9.2.2.2 fg (by omega) (by omega)
    omega
  · obtain ⟨q, hq, rfl⟩ := List.mem_map.mp hr
    have h9 := hsm q hq
    refine ⟨dbl_ok ⟨h9.1, by have := h9.2.2.2; omega⟩ lot, ?_⟩
    show Ok ⟨q.name ++ sg, q.slack * f, q.stiff * g, (if q.name ∈ lot then q.strong * 2 else q.strong) * f * g⟩
    by_cases hh : q.name ∈ lot
    · rw [if_pos hh]
      exact (chg_sm hmf h9 2 (.inr rfl)).1
    · rw [if_neg hh]
      exact (hc1 q hq).1
theorem d_law (t : Tx K mg cc) (TB : TabB base mg cc PP) {fa : Addr} {fd : FuncData} (F : Fun K "law" "law" s_law fa fd) : FnOk P w K mg base CX0 lv_law fa fd ["script"] (spLaw K (TT PP)) := by
  refine fn_ofH F sc_law (fun i => rfl) (fun i => rfl) (fun cdv A outer s H E vs i hr ok hp => ?_)
  obtain ⟨a, ns⟩ := i
  obtain ⟨hS, hlen⟩ : Scr K H a ns ∧ ns.length ≤ 63 := hp
  obtain ⟨v1, rfl, h1⟩ := ok.one
  have h1 : v1 = .ref a := h1
  subst h1
  have hN := sc_law.nd
  change XSs _ ⟨w0 (TT PP), H, _, _⟩ [AV.val (.ref a), .un, .un, .un, .un, .un, .un, .un, .un, .un] _ _
  have hst : ∀ H', Gr (w0 (TT PP)) H H' → Scr K H' a ns := fun H' g => hS.stay g id
  refine q_forP (xs := upFrom 0 (1 + min (ns.length : Int) 10).toNat) [AV.val (.ref a), .un, .un, .un, .un, .un, .un, .un, .un, .un] (fun x => [AV.val (.ref a), .dat x, .un, .un, .un, .un, .un, .un, .un, .un]) rfl
    (i_range1 t.g_range (xa_cons (x_add x_int (x_min2 rfl t.g_min (xa_cons (x_lenS hst t.g_len (xa_cons (x_varV 0) xa_nil)) (xa_cons x_int xa_nil)))) xa_nil) (by omega)) rfl (fun c' x hx => g_name 1) (fun pr tu x hx => ?_) (s_ret x_bl)
  obtain ⟨k, rfl, hk⟩ := range_mem hx
  refine q_bag 2 rfl (bagX_nn ns k) (bagY_in ns k) (x_calH (d__law_bag (PP := PP) t) (a, k, ns) (Wd.Le.refl _) hr (fun H' g => ⟨hst H' g, by show k ≤ 100; omega⟩) (xa_cons (x_varV 0) (xa_cons (x_var 1) xa_nil))) (fun b => ?_)
  refine q_setE 3 (x_cal (d__law_bundle t) (b, 5) (Wd.Le.refl _) hr ⟨by show (1 : Int) ≤ 5; decide, by show (5 : Int) ≤ 6; decide⟩ (xa_cons (x_varV 2) (xa_cons x_int xa_nil))) (fun bs hb => ?_)
  have hb : Bun 5 bs := hb
  refine q_setE (P := fun n : Int => 2 ≤ n ∧ n ≤ 9) 4 (x_addE (P := (· = 2)) (R := fun z => 2 ≤ z ∧ z ≤ 9) (fun i j p (q : Draw 8 j) => by have := q.1; have := q.2; omega) x_int (x_take (m := 8) (d__law_take t) rfl hr (x_varV 2) (x_upto x_int (by decide)) (by decide))) (fun n hn => ?_)
  refine q_forP (xs := [T3.mk n (1 : Int) ("" : Str), T3.mk 1 n "", T3.mk 1 1 "x"]) [AV.val (.ref a), .dat (k : Int), .val (.ref b), .dat bs, .dat n, .un, .un, .un, .un, .un] (fun x => [AV.val (.ref a), .dat (k : Int), .val (.ref b), .dat bs, .dat n, .dat x.a, .dat x.b, .dat x.c, .un, .un]) rfl
    (i_new (x_list [T3.mk n (1 : Int) ("" : Str), T3.mk 1 n "", T3.mk 1 1 "x"] (by show 3 ≤ 1000; decide) (xa_cons (x_t3 (xa_cons (x_var 4) (xa_cons x_int (xa_cons x_str xa_nil)))) (xa_cons (x_t3 (xa_cons x_int (xa_cons (x_var 4) (xa_cons x_str xa_nil)))) (xa_cons (x_t3 (xa_cons x_int (xa_cons x_int (xa_cons x_str xa_nil)))) xa_nil))))) rfl (fun c' x hx => g_three rfl (g_name 5) (g_name 6) (g_name 7)) (fun pr tu x hx => ?_) (s_fg [1, 2, 3, 4] (s_end rfl))
  obtain ⟨f, g, sg⟩ := x
  have hM : MeasOk f g sg := by
    simp only [List.mem_cons, List.not_mem_nil, or_false, T3.mk.injEq] at hx
    rcases hx with ⟨rfl, rfl, rfl⟩ | ⟨rfl, rfl, rfl⟩ | ⟨rfl, rfl, rfl⟩
    · exact ⟨by omega, by omega, by omega, by omega, by omega, .inl rfl⟩
    · exact ⟨by omega, by omega, by omega, by omega, by omega, .inl rfl⟩
    · exact ⟨by omega, by omega, by omega, by omega, by omega, .inr rfl⟩
  have hM2 := hM
  obtain ⟨f1, f9, g1, g9, fg, hsg⟩ := hM2
  have hbl : bs.length ≤ 5 := by have := hb.2.1; omega
  have hin : ∀ r ∈ bs, r.name ∈ NAMES := fun r hr => List.mem_of_mem_take (hb.2.2.2.1 ▸ List.mem_map.mpr ⟨r, hr, rfl⟩)
  have hln : sg.length ≤ 10 := by rcases hsg with rfl | rfl <;> decide +kernel
  have hlnn : ∀ n ∈ NAMES, (n ++ sg).length ≤ 10 := by rcases hsg with rfl | rfl; exact names_ln0; exact names_lnx
  change XSs _ _ [AV.val (.ref a), .dat (k : Int), .val (.ref b), .dat bs, .dat n, .dat f, .dat g, .dat sg, .un, .un] _ _
  refine q_set (y := cs f g (· ++ sg) bs) 8 (x_cal (d__law_changed t) (bs, f, g, sg) (w0_le _ _) hr ⟨fun r hr => ⟨hb.2.2.1 r hr, by have := names_short _ (hin r hr); omega⟩, by show bs.length ≤ 100; omega, by show f.natAbs < 2 ^ 10; omega, by show g.natAbs < 2 ^ 10; omega, hln⟩ (xa_cons (x_var 3) (xa_cons (x_var 5) (xa_cons (x_var 6) (xa_cons (x_var 7) xa_nil))))) ?_
  have hG0 : GoesP f g sg bs 0 := goes_ok hM hb (by decide) Rat.le_refl (sz_zero (by decide))
  have hpd : ∀ r ∈ cs f g (· ++ sg) bs, PdOk r := fun r hr => by
    refine ⟨hG0.bs2.1 r hr, ?_⟩
    obtain ⟨q, hq, rfl⟩ := List.mem_map.mp hr
    have := hlnn _ (hin q hq)
    show (q.name ++ sg).length ≤ 50
    omega
  have hcl : (cs f g (· ++ sg) bs).length = bs.length := List.length_map ..
  refine s_if (t_val (x_cal (d_is_bundle (PP := PP) t) (pdB (cs f g (· ++ sg) bs)) (w0_le _ _) hr (bd_bundle hpd (by omega) (by decide)) (xa_cons (x_pdB (x_var 8)) xa_nil))) (fun _ => ?_) (fun _ => s_fg [5, 6, 7, 8] (s_end rfl))
  have ho : ∀ r ∈ bs, Ok r := hb.2.2.1
  have hmk : ∀ z ∈ bs.map (markR bs), 0 ≤ z ∧ Sz 2200 z := fun z hz2 => by
    obtain ⟨r, hr2, rfl⟩ := List.mem_map.mp hz2
    exact mark_ok ho (by omega) (ho r hr2)
  refine q_forN (α := Rat) (P := fun zs => zs.length = 2 ∧ ∀ z ∈ zs, 0 ≤ z ∧ Sz 2200 z) (fun xs i ss' => ss' = [AV.val (.ref a), .dat (k : Int), .val (.ref b), .dat bs, .dat n, .dat f, .dat g, .dat sg, .dat (cs f g (· ++ sg) bs), .un]) (fun ss' x => ss'.set 9 (.dat x)) rfl
    (i_newN (x_listN (P := fun z : Rat => 0 ≤ z ∧ Sz 2200 z) 2 (by decide) (show XA _ _ _ _ [AV.ex (fun z : Rat => 0 ≤ z ∧ Sz 2200 z), .ex (fun z : Rat => 0 ≤ z ∧ Sz 2200 z)] from
      xa_cons (x_imp (x_cal (d__law_load t) b (Wd.Le.refl _) hr trivial (xa_cons (x_varV 2) xa_nil)) fun z (hz : Load z) => ⟨hz.1, hz.2.mono (by decide)⟩)
      (xa_cons (x_imp (x_cal (d__law_of (α := Rat) t) (b, true, bs.map (markR bs)) (Wd.Le.refl _) hr ⟨fun e => hb.1 (List.map_eq_nil_iff.mp e), by show (bs.map (markR bs)).length ≤ _; rw [List.length_map]; omega⟩ (xa_cons (x_varV 2) (xa_cons (x_lst (x_cal (d__law_marks t) bs (w0_le _ _) hr ⟨ho, by omega⟩ (xa_cons (x_var 3) xa_nil))) xa_nil))) (fun z hz => hmk z hz)) xa_nil)))) (fun xs hx => rfl) (fun c' xs i ss' x hx h e => by
        subst e
        exact g_name 9) (fun pr tu xs i ss' l hxs hx e => ?_) (fun xs ss' hxs e => by
        subst e
        exact s_fg [5, 6, 7, 8] (s_end rfl))
  subst e
  obtain ⟨l0, l1⟩ := hxs.2 l (List.mem_of_getElem? hx)
  have hG : GoesP f g sg bs l := goes_ok hM hb (by decide) l0 l1
  have hfa : f.natAbs < 2 ^ 10 := by omega
  have hga : g.natAbs < 2 ^ 10 := by omega
  refine s_if (P := (· = !true)) (t_notD (t_val (x_cal (d__law_goes t TB) (bs, f, g, sg, l) (w0_le _ _) hr hG (xa_cons (x_var 3) (xa_cons (x_var 8) (xa_cons (x_pair (xa_cons (x_var 5) (xa_cons (x_mul (cmul_of hfa hga) (x_var 5) (x_var 6)) xa_nil))) (xa_cons (x_var 7) (xa_cons (x_var 9) xa_nil)))))))) (fun h => by cases h) (fun _ => s_fg [9] (s_end rfl))

end
end SP
namespace SP
open PySem L2 LamX Ab SM
open Ab.Rp (rp)
open Ab.Dt (toD)
theorem mk_is_whole {K : PySem.W.Frag} {h : Heap} {mg : Str → Option Value} {f : Addr} {oc kV doc pm cd ct : Value} {od an : Option Addr} {sl : Array (Option Value)} (X : K.In h) (G : h.Ns mainGlobals mg) (a : PySem.W.nsIn K mainGlobals "is_whole" = some (some (.ref f))) (l : K.lookup f = some ⟨oc, od, .func (PySem.W.fnOf "is_whole" "is_whole" (defArgs s_is_whole) (defBody s_is_whole) (defScope s_is_whole) .none kV doc pm an cd ct), sl⟩) (c : PySem.W.codeIn K cd "is_whole" = true) (k : PySem.W.keepIn K (.ref f) = true) : TxD K mg "is_whole" s_is_whole ["thing"] := txd_mk X G a l c k fun _ _ _ _ _ _ us hl => match us, hl with | [_], _ => rfl
theorem mk_is_within {K : PySem.W.Frag} {h : Heap} {mg : Str → Option Value} {f : Addr} {oc kV doc pm cd ct : Value} {od an : Option Addr} {sl : Array (Option Value)} (X : K.In h) (G : h.Ns mainGlobals mg) (a : PySem.W.nsIn K mainGlobals "is_within" = some (some (.ref f))) (l : K.lookup f = some ⟨oc, od, .func (PySem.W.fnOf "is_within" "is_within" (defArgs s_is_within) (defBody s_is_within) (defScope s_is_within) .none kV doc pm an cd ct), sl⟩) (c : PySem.W.codeIn K cd "is_within" = true) (k : PySem.W.keepIn K (.ref f) = true) : TxD K mg "is_within" s_is_within ["thing", "least", "most"] := txd_mk X G a l c k fun _ _ _ _ _ _ us hl => match us, hl with | [_, _, _], _ => rfl
theorem mk_is_name {K : PySem.W.Frag} {h : Heap} {mg : Str → Option Value} {f : Addr} {oc kV doc pm cd ct : Value} {od an : Option Addr} {sl : Array (Option Value)} (X : K.In h) (G : h.Ns mainGlobals mg) (a : PySem.W.nsIn K mainGlobals "is_name" = some (some (.ref f))) (l : K.lookup f = some ⟨oc, od, .func (PySem.W.fnOf "is_name" "is_name" (defArgs s_is_name) (defBody s_is_name) (defScope s_is_name) .none kV doc pm an cd ct), sl⟩) (c : PySem.W.codeIn K cd "is_name" = true) (k : PySem.W.keepIn K (.ref f) = true) : TxD K mg "is_name" s_is_name ["thing"] := txd_mk X G a l c k fun _ _ _ _ _ _ us hl => match us, hl with | [_], _ => rfl
theorem mk_lowest {K : PySem.W.Frag} {h : Heap} {mg : Str → Option Value} {f : Addr} {oc kV doc pm cd ct : Value} {od an : Option Addr} {sl : Array (Option Value)} (X : K.In h) (G : h.Ns mainGlobals mg) (a : PySem.W.nsIn K mainGlobals "lowest" = some (some (.ref f))) (l : K.lookup f = some ⟨oc, od, .func (PySem.W.fnOf "lowest" "lowest" (defArgs s_lowest) (defBody s_lowest) (defScope s_lowest) .none kV doc pm an cd ct), sl⟩) (c : PySem.W.codeIn K cd "lowest" = true) (k : PySem.W.keepIn K (.ref f) = true) : TxD K mg "lowest" s_lowest ["top", "bottom"] := txd_mk X G a l c k fun _ _ _ _ _ _ us hl => match us, hl with | [_, _], _ => rfl
theorem mk_plus {K : PySem.W.Frag} {h : Heap} {mg : Str → Option Value} {f : Addr} {oc kV doc pm cd ct : Value} {od an : Option Addr} {sl : Array (Option Value)} (X : K.In h) (G : h.Ns mainGlobals mg) (a : PySem.W.nsIn K mainGlobals "plus" = some (some (.ref f))) (l : K.lookup f = some ⟨oc, od, .func (PySem.W.fnOf "plus" "plus" (defArgs s_plus) (defBody s_plus) (defScope s_plus) .none kV doc pm an cd ct), sl⟩) (c : PySem.W.codeIn K cd "plus" = true) (k : PySem.W.keepIn K (.ref f) = true) : TxD K mg "plus" s_plus ["one", "other"] := txd_mk X G a l c k fun _ _ _ _ _ _ us hl => match us, hl with | [_, _], _ => rfl
theorem mk_is_lesser {K : PySem.W.Frag} {h : Heap} {mg : Str → Option Value} {f : Addr} {oc kV doc pm cd ct : Value} {od an : Option Addr} {sl : Array (Option Value)} (X : K.In h) (G : h.Ns mainGlobals mg) (a : PySem.W.nsIn K mainGlobals "is_lesser" = some (some (.ref f))) (l : K.lookup f = some ⟨oc, od, .func (PySem.W.fnOf "is_lesser" "is_lesser" (defArgs s_is_lesser) (defBody s_is_lesser) (defScope s_is_lesser) .none kV doc pm an cd ct), sl⟩) (c : PySem.W.codeIn K cd "is_lesser" = true) (k : PySem.W.keepIn K (.ref f) = true) : TxD K mg "is_lesser" s_is_lesser ["one", "other"] := txd_mk X G a l c k fun _ _ _ _ _ _ us hl => match us, hl with | [_, _], _ => rfl
theorem mk_is_rope {K : PySem.W.Frag} {h : Heap} {mg : Str → Option Value} {f : Addr} {oc kV doc pm cd ct : Value} {od an : Option Addr} {sl : Array (Option Value)} (X : K.In h) (G : h.Ns mainGlobals mg) (a : PySem.W.nsIn K mainGlobals "is_rope" = some (some (.ref f))) (l : K.lookup f = some ⟨oc, od, .func (PySem.W.fnOf "is_rope" "is_rope" (defArgs s_is_rope) (defBody s_is_rope) (defScope s_is_rope) .none kV doc pm an cd ct), sl⟩) (c : PySem.W.codeIn K cd "is_rope" = true) (k : PySem.W.keepIn K (.ref f) = true) : TxD K mg "is_rope" s_is_rope ["thing"] := txd_mk X G a l c k fun _ _ _ _ _ _ us hl => match us, hl with | [_], _ => rfl
theorem mk_is_bundle {K : PySem.W.Frag} {h : Heap} {mg : Str → Option Value} {f : Addr} {oc kV doc pm cd ct : Value} {od an : Option Addr} {sl : Array (Option Value)} (X : K.In h) (G : h.Ns mainGlobals mg) (a : PySem.W.nsIn K mainGlobals "is_bundle" = some (some (.ref f))) (l : K.lookup f = some ⟨oc, od, .func (PySem.W.fnOf "is_bundle" "is_bundle" (defArgs s_is_bundle) (defBody s_is_bundle) (defScope s_is_bundle) .none kV doc pm an cd ct), sl⟩) (c : PySem.W.codeIn K cd "is_bundle" = true) (k : PySem.W.keepIn K (.ref f) = true) : TxD K mg "is_bundle" s_is_bundle ["thing"] := txd_mk X G a l c k fun _ _ _ _ _ _ us hl => match us, hl with | [_], _ => rfl
theorem mk_pull {K : PySem.W.Frag} {h : Heap} {mg : Str → Option Value} {f : Addr} {oc kV doc pm cd ct : Value} {od an : Option Addr} {sl : Array (Option Value)} (X : K.In h) (G : h.Ns mainGlobals mg) (a : PySem.W.nsIn K mainGlobals "pull" = some (some (.ref f))) (l : K.lookup f = some ⟨oc, od, .func (PySem.W.fnOf "pull" "pull" (defArgs s_pull) (defBody s_pull) (defScope s_pull) .none kV doc pm an cd ct), sl⟩) (c : PySem.W.codeIn K cd "pull" = true) (k : PySem.W.keepIn K (.ref f) = true) : TxD K mg "pull" s_pull ["rope", "sunk"] := txd_mk X G a l c k fun _ _ _ _ _ _ us hl => match us, hl with | [_, _], _ => rfl
theorem mk_all_pull {K : PySem.W.Frag} {h : Heap} {mg : Str → Option Value} {f : Addr} {oc kV doc pm cd ct : Value} {od an : Option Addr} {sl : Array (Option Value)} (X : K.In h) (G : h.Ns mainGlobals mg) (a : PySem.W.nsIn K mainGlobals "all_pull" = some (some (.ref f))) (l : K.lookup f = some ⟨oc, od, .func (PySem.W.fnOf "all_pull" "all_pull" (defArgs s_all_pull) (defBody s_all_pull) (defScope s_all_pull) .none kV doc pm an cd ct), sl⟩) (c : PySem.W.codeIn K cd "all_pull" = true) (k : PySem.W.keepIn K (.ref f) = true) : TxD K mg "all_pull" s_all_pull ["ropes", "sunk"] := txd_mk X G a l c k fun _ _ _ _ _ _ us hl => match us, hl with | [_, _], _ => rfl
theorem mk_left_of {K : PySem.W.Frag} {h : Heap} {mg : Str → Option Value} {f : Addr} {oc kV doc pm cd ct : Value} {od an : Option Addr} {sl : Array (Option Value)} (X : K.In h) (G : h.Ns mainGlobals mg) (a : PySem.W.nsIn K mainGlobals "left_of" = some (some (.ref f))) (l : K.lookup f = some ⟨oc, od, .func (PySem.W.fnOf "left_of" "left_of" (defArgs s_left_of) (defBody s_left_of) (defScope s_left_of) .none kV doc pm an cd ct), sl⟩) (c : PySem.W.codeIn K cd "left_of" = true) (k : PySem.W.keepIn K (.ref f) = true) : TxD K mg "left_of" s_left_of ["bundle", "broken"] := txd_mk X G a l c k fun _ _ _ _ _ _ us hl => match us, hl with | [_, _], _ => rfl
theorem mk_sunk_by {K : PySem.W.Frag} {h : Heap} {mg : Str → Option Value} {f cc : Addr} {oc kV doc pm ct : Value} {od an : Option Addr} {sl : Array (Option Value)} (X : K.In h) (G : h.Ns mainGlobals mg) (a : PySem.W.nsIn K mainGlobals "sunk_by" = some (some (.ref f))) (l : K.lookup f = some ⟨oc, od, .func (PySem.W.fnOf "sunk_by" "sunk_by" (defArgs s_sunk_by) (defBody s_sunk_by) (defScope s_sunk_by) .none kV doc pm an (.ref cc) ct), sl⟩) (c : PySem.W.codeIn K (.ref cc) "sunk_by" = true) (k : PySem.W.keepIn K (.ref f) = true) : TxL K mg "sunk_by" s_sunk_by ["ropes", "load"] cc := txl_mk X G a l c k fun _ _ _ _ _ _ us hl => match us, hl with | [_, _], _ => rfl
theorem mk_sinking {K : PySem.W.Frag} {h : Heap} {mg : Str → Option Value} {f : Addr} {oc kV doc pm cd ct : Value} {od an : Option Addr} {sl : Array (Option Value)} (X : K.In h) (G : h.Ns mainGlobals mg) (a : PySem.W.nsIn K mainGlobals "sinking" = some (some (.ref f))) (l : K.lookup f = some ⟨oc, od, .func (PySem.W.fnOf "sinking" "sinking" (defArgs s_sinking) (defBody s_sinking) (defScope s_sinking) .none kV doc pm an cd ct), sl⟩) (c : PySem.W.codeIn K cd "sinking" = true) (k : PySem.W.keepIn K (.ref f) = true) : TxD K mg "sinking" s_sinking ["bundle", "broken", "load"] := txd_mk X G a l c k fun _ _ _ _ _ _ us hl => match us, hl with | [_, _, _], _ => rfl
theorem mk_pulls {K : PySem.W.Frag} {h : Heap} {mg : Str → Option Value} {f : Addr} {oc kV doc pm cd ct : Value} {od an : Option Addr} {sl : Array (Option Value)} (X : K.In h) (G : h.Ns mainGlobals mg) (a : PySem.W.nsIn K mainGlobals "pulls" = some (some (.ref f))) (l : K.lookup f = some ⟨oc, od, .func (PySem.W.fnOf "pulls" "pulls" (defArgs s_pulls) (defBody s_pulls) (defScope s_pulls) .none kV doc pm an cd ct), sl⟩) (c : PySem.W.codeIn K cd "pulls" = true) (k : PySem.W.keepIn K (.ref f) = true) : TxD K mg "pulls" s_pulls ["bundle", "broken", "load"] := txd_mk X G a l c k fun _ _ _ _ _ _ us hl => match us, hl with | [_, _, _], _ => rfl
theorem mk_gives_way {K : PySem.W.Frag} {h : Heap} {mg : Str → Option Value} {f : Addr} {oc kV doc pm cd ct : Value} {od an : Option Addr} {sl : Array (Option Value)} (X : K.In h) (G : h.Ns mainGlobals mg) (a : PySem.W.nsIn K mainGlobals "gives_way" = some (some (.ref f))) (l : K.lookup f = some ⟨oc, od, .func (PySem.W.fnOf "gives_way" "gives_way" (defArgs s_gives_way) (defBody s_gives_way) (defScope s_gives_way) .none kV doc pm an cd ct), sl⟩) (c : PySem.W.codeIn K cd "gives_way" = true) (k : PySem.W.keepIn K (.ref f) = true) : TxD K mg "gives_way" s_gives_way ["rope", "sunk"] := txd_mk X G a l c k fun _ _ _ _ _ _ us hl => match us, hl with | [_, _], _ => rfl
theorem mk_waves {K : PySem.W.Frag} {h : Heap} {mg : Str → Option Value} {f : Addr} {oc kV doc pm cd ct : Value} {od an : Option Addr} {sl : Array (Option Value)} (X : K.In h) (G : h.Ns mainGlobals mg) (a : PySem.W.nsIn K mainGlobals "waves" = some (some (.ref f))) (l : K.lookup f = some ⟨oc, od, .func (PySem.W.fnOf "waves" "waves" (defArgs s_waves) (defBody s_waves) (defScope s_waves) .none kV doc pm an cd ct), sl⟩) (c : PySem.W.codeIn K cd "waves" = true) (k : PySem.W.keepIn K (.ref f) = true) : TxD K mg "waves" s_waves ["bundle", "broken", "load"] := txd_mk X G a l c k fun _ _ _ _ _ _ us hl => match us, hl with | [_, _, _], _ => rfl
theorem mk_broken_by {K : PySem.W.Frag} {h : Heap} {mg : Str → Option Value} {f : Addr} {oc kV doc pm cd ct : Value} {od an : Option Addr} {sl : Array (Option Value)} (X : K.In h) (G : h.Ns mainGlobals mg) (a : PySem.W.nsIn K mainGlobals "broken_by" = some (some (.ref f))) (l : K.lookup f = some ⟨oc, od, .func (PySem.W.fnOf "broken_by" "broken_by" (defArgs s_broken_by) (defBody s_broken_by) (defScope s_broken_by) .none kV doc pm an cd ct), sl⟩) (c : PySem.W.codeIn K cd "broken_by" = true) (k : PySem.W.keepIn K (.ref f) = true) : TxD K mg "broken_by" s_broken_by ["bundle", "broken", "load"] := txd_mk X G a l c k fun _ _ _ _ _ _ us hl => match us, hl with | [_, _, _], _ => rfl
theorem mk_bears {K : PySem.W.Frag} {h : Heap} {mg : Str → Option Value} {f : Addr} {oc kV doc pm cd ct : Value} {od an : Option Addr} {sl : Array (Option Value)} (X : K.In h) (G : h.Ns mainGlobals mg) (a : PySem.W.nsIn K mainGlobals "bears" = some (some (.ref f))) (l : K.lookup f = some ⟨oc, od, .func (PySem.W.fnOf "bears" "bears" (defArgs s_bears) (defBody s_bears) (defScope s_bears) .none kV doc pm an cd ct), sl⟩) (c : PySem.W.codeIn K cd "bears" = true) (k : PySem.W.keepIn K (.ref f) = true) : TxD K mg "bears" s_bears ["bundle", "broken", "load"] := txd_mk X G a l c k fun _ _ _ _ _ _ us hl => match us, hl with | [_, _, _], _ => rfl
theorem mk_end_of {K : PySem.W.Frag} {h : Heap} {mg : Str → Option Value} {f : Addr} {oc kV doc pm cd ct : Value} {od an : Option Addr} {sl : Array (Option Value)} (X : K.In h) (G : h.Ns mainGlobals mg) (a : PySem.W.nsIn K mainGlobals "end_of" = some (some (.ref f))) (l : K.lookup f = some ⟨oc, od, .func (PySem.W.fnOf "end_of" "end_of" (defArgs s_end_of) (defBody s_end_of) (defScope s_end_of) .none kV doc pm an cd ct), sl⟩) (c : PySem.W.codeIn K cd "end_of" = true) (k : PySem.W.keepIn K (.ref f) = true) : TxD K mg "end_of" s_end_of ["rope"] := txd_mk X G a l c k fun _ _ _ _ _ _ us hl => match us, hl with | [_], _ => rfl
theorem mk_in_order {K : PySem.W.Frag} {h : Heap} {mg : Str → Option Value} {f : Addr} {oc kV doc pm cd ct : Value} {od an : Option Addr} {sl : Array (Option Value)} (X : K.In h) (G : h.Ns mainGlobals mg) (a : PySem.W.nsIn K mainGlobals "in_order" = some (some (.ref f))) (l : K.lookup f = some ⟨oc, od, .func (PySem.W.fnOf "in_order" "in_order" (defArgs s_in_order) (defBody s_in_order) (defScope s_in_order) .none kV doc pm an cd ct), sl⟩) (c : PySem.W.codeIn K cd "in_order" = true) (k : PySem.W.keepIn K (.ref f) = true) : TxD K mg "in_order" s_in_order ["parts"] := txd_mk X G a l c k fun _ _ _ _ _ _ us hl => match us, hl with | [_], _ => rfl
theorem mk_load_at {K : PySem.W.Frag} {h : Heap} {mg : Str → Option Value} {f : Addr} {oc kV doc pm cd ct : Value} {od an : Option Addr} {sl : Array (Option Value)} (X : K.In h) (G : h.Ns mainGlobals mg) (a : PySem.W.nsIn K mainGlobals "load_at" = some (some (.ref f))) (l : K.lookup f = some ⟨oc, od, .func (PySem.W.fnOf "load_at" "load_at" (defArgs s_load_at) (defBody s_load_at) (defScope s_load_at) .none kV doc pm an cd ct), sl⟩) (c : PySem.W.codeIn K cd "load_at" = true) (k : PySem.W.keepIn K (.ref f) = true) : TxD K mg "load_at" s_load_at ["bundle", "sunk"] := txd_mk X G a l c k fun _ _ _ _ _ _ us hl => match us, hl with | [_, _], _ => rfl
theorem mk_table {K : PySem.W.Frag} {h : Heap} {mg : Str → Option Value} {f : Addr} {oc kV doc pm cd ct : Value} {od an : Option Addr} {sl : Array (Option Value)} (X : K.In h) (G : h.Ns mainGlobals mg) (a : PySem.W.nsIn K mainGlobals "table" = some (some (.ref f))) (l : K.lookup f = some ⟨oc, od, .func (PySem.W.fnOf "table" "table" (defArgs s_table) (defBody s_table) (defScope s_table) .none kV doc pm an cd ct), sl⟩) (c : PySem.W.codeIn K cd "table" = true) (k : PySem.W.keepIn K (.ref f) = true) : TxD K mg "table" s_table ["bundle"] := txd_mk X G a l c k fun _ _ _ _ _ _ us hl => match us, hl with | [_], _ => rfl
theorem mk_greatest {K : PySem.W.Frag} {h : Heap} {mg : Str → Option Value} {f : Addr} {oc kV doc pm cd ct : Value} {od an : Option Addr} {sl : Array (Option Value)} (X : K.In h) (G : h.Ns mainGlobals mg) (a : PySem.W.nsIn K mainGlobals "greatest" = some (some (.ref f))) (l : K.lookup f = some ⟨oc, od, .func (PySem.W.fnOf "greatest" "greatest" (defArgs s_greatest) (defBody s_greatest) (defScope s_greatest) .none kV doc pm an cd ct), sl⟩) (c : PySem.W.codeIn K cd "greatest" = true) (k : PySem.W.keepIn K (.ref f) = true) : TxD K mg "greatest" s_greatest ["bundle"] := txd_mk X G a l c k fun _ _ _ _ _ _ us hl => match us, hl with | [_], _ => rfl
theorem mk_beyond {K : PySem.W.Frag} {h : Heap} {mg : Str → Option Value} {f : Addr} {oc kV doc pm cd ct : Value} {od an : Option Addr} {sl : Array (Option Value)} (X : K.In h) (G : h.Ns mainGlobals mg) (a : PySem.W.nsIn K mainGlobals "beyond" = some (some (.ref f))) (l : K.lookup f = some ⟨oc, od, .func (PySem.W.fnOf "beyond" "beyond" (defArgs s_beyond) (defBody s_beyond) (defScope s_beyond) .none kV doc pm an cd ct), sl⟩) (c : PySem.W.codeIn K cd "beyond" = true) (k : PySem.W.keepIn K (.ref f) = true) : TxD K mg "beyond" s_beyond ["bundle", "broken", "load"] := txd_mk X G a l c k fun _ _ _ _ _ _ us hl => match us, hl with | [_, _, _], _ => rfl
theorem mk_steps_from {K : PySem.W.Frag} {h : Heap} {mg : Str → Option Value} {f : Addr} {oc kV doc pm cd ct : Value} {od an : Option Addr} {sl : Array (Option Value)} (X : K.In h) (G : h.Ns mainGlobals mg) (a : PySem.W.nsIn K mainGlobals "steps_from" = some (some (.ref f))) (l : K.lookup f = some ⟨oc, od, .func (PySem.W.fnOf "steps_from" "steps_from" (defArgs s_steps_from) (defBody s_steps_from) (defScope s_steps_from) .none kV doc pm an cd ct), sl⟩) (c : PySem.W.codeIn K cd "steps_from" = true) (k : PySem.W.keepIn K (.ref f) = true) : TxD K mg "steps_from" s_steps_from ["bundle", "broken"] := txd_mk X G a l c k fun _ _ _ _ _ _ us hl => match us, hl with | [_, _], _ => rfl
theorem mk_steps {K : PySem.W.Frag} {h : Heap} {mg : Str → Option Value} {f : Addr} {oc kV doc pm cd ct : Value} {od an : Option Addr} {sl : Array (Option Value)} (X : K.In h) (G : h.Ns mainGlobals mg) (a : PySem.W.nsIn K mainGlobals "steps" = some (some (.ref f))) (l : K.lookup f = some ⟨oc, od, .func (PySem.W.fnOf "steps" "steps" (defArgs s_steps) (defBody s_steps) (defScope s_steps) .none kV doc pm an cd ct), sl⟩) (c : PySem.W.codeIn K cd "steps" = true) (k : PySem.W.keepIn K (.ref f) = true) : TxD K mg "steps" s_steps ["bundle"] := txd_mk X G a l c k fun _ _ _ _ _ _ us hl => match us, hl with | [_], _ => rfl
theorem mk_whole_till {K : PySem.W.Frag} {h : Heap} {mg : Str → Option Value} {f : Addr} {oc kV doc pm cd ct : Value} {od an : Option Addr} {sl : Array (Option Value)} (X : K.In h) (G : h.Ns mainGlobals mg) (a : PySem.W.nsIn K mainGlobals "whole_till" = some (some (.ref f))) (l : K.lookup f = some ⟨oc, od, .func (PySem.W.fnOf "whole_till" "whole_till" (defArgs s_whole_till) (defBody s_whole_till) (defScope s_whole_till) .none kV doc pm an cd ct), sl⟩) (c : PySem.W.codeIn K cd "whole_till" = true) (k : PySem.W.keepIn K (.ref f) = true) : TxD K mg "whole_till" s_whole_till ["bundle", "broken", "name"] := txd_mk X G a l c k fun _ _ _ _ _ _ us hl => match us, hl with | [_, _, _], _ => rfl
theorem mk_guards {K : PySem.W.Frag} {h : Heap} {mg : Str → Option Value} {f : Addr} {oc kV doc pm cd ct : Value} {od an : Option Addr} {sl : Array (Option Value)} (X : K.In h) (G : h.Ns mainGlobals mg) (a : PySem.W.nsIn K mainGlobals "guards" = some (some (.ref f))) (l : K.lookup f = some ⟨oc, od, .func (PySem.W.fnOf "guards" "guards" (defArgs s_guards) (defBody s_guards) (defScope s_guards) .none kV doc pm an cd ct), sl⟩) (c : PySem.W.codeIn K cd "guards" = true) (k : PySem.W.keepIn K (.ref f) = true) : TxD K mg "guards" s_guards ["bundle"] := txd_mk X G a l c k fun _ _ _ _ _ _ us hl => match us, hl with | [_], _ => rfl
theorem mk_lots {K : PySem.W.Frag} {h : Heap} {mg : Str → Option Value} {f : Addr} {oc kV doc pm cd ct : Value} {od an : Option Addr} {sl : Array (Option Value)} (X : K.In h) (G : h.Ns mainGlobals mg) (a : PySem.W.nsIn K mainGlobals "lots" = some (some (.ref f))) (l : K.lookup f = some ⟨oc, od, .func (PySem.W.fnOf "lots" "lots" (defArgs s_lots) (defBody s_lots) (defScope s_lots) .none kV doc pm an cd ct), sl⟩) (c : PySem.W.codeIn K cd "lots" = true) (k : PySem.W.keepIn K (.ref f) = true) : TxD K mg "lots" s_lots ["some", "many"] := txd_mk X G a l c k fun _ _ _ _ _ _ us hl => match us, hl with | [_, _], _ => rfl
theorem mk_doubled {K : PySem.W.Frag} {h : Heap} {mg : Str → Option Value} {f : Addr} {oc kV doc pm cd ct : Value} {od an : Option Addr} {sl : Array (Option Value)} (X : K.In h) (G : h.Ns mainGlobals mg) (a : PySem.W.nsIn K mainGlobals "doubled" = some (some (.ref f))) (l : K.lookup f = some ⟨oc, od, .func (PySem.W.fnOf "doubled" "doubled" (defArgs s_doubled) (defBody s_doubled) (defScope s_doubled) .none kV doc pm an cd ct), sl⟩) (c : PySem.W.codeIn K cd "doubled" = true) (k : PySem.W.keepIn K (.ref f) = true) : TxD K mg "doubled" s_doubled ["bundle", "lot"] := txd_mk X G a l c k fun _ _ _ _ _ _ us hl => match us, hl with | [_, _], _ => rfl
theorem mk_fewest_doubled {K : PySem.W.Frag} {h : Heap} {mg : Str → Option Value} {f : Addr} {oc kV doc pm cd ct : Value} {od an : Option Addr} {sl : Array (Option Value)} (X : K.In h) (G : h.Ns mainGlobals mg) (a : PySem.W.nsIn K mainGlobals "fewest_doubled" = some (some (.ref f))) (l : K.lookup f = some ⟨oc, od, .func (PySem.W.fnOf "fewest_doubled" "fewest_doubled" (defArgs s_fewest_doubled) (defBody s_fewest_doubled) (defScope s_fewest_doubled) .none kV doc pm an cd ct), sl⟩) (c : PySem.W.codeIn K cd "fewest_doubled" = true) (k : PySem.W.keepIn K (.ref f) = true) : TxD K mg "fewest_doubled" s_fewest_doubled ["bundle", "load"] := txd_mk X G a l c k fun _ _ _ _ _ _ us hl => match us, hl with | [_, _], _ => rfl
theorem mk__law_bag {K : PySem.W.Frag} {h : Heap} {mg : Str → Option Value} {f : Addr} {oc kV doc pm cd ct : Value} {od an : Option Addr} {sl : Array (Option Value)} (X : K.In h) (G : h.Ns mainGlobals mg) (a : PySem.W.nsIn K mainGlobals "_law_bag" = some (some (.ref f))) (l : K.lookup f = some ⟨oc, od, .func (PySem.W.fnOf "_law_bag" "_law_bag" (defArgs s__law_bag) (defBody s__law_bag) (defScope s__law_bag) .none kV doc pm an cd ct), sl⟩) (c : PySem.W.codeIn K cd "_law_bag" = true) (k : PySem.W.keepIn K (.ref f) = true) : TxD K mg "_law_bag" s__law_bag ["script", "k"] := txd_mk X G a l c k fun _ _ _ _ _ _ us hl => match us, hl with | [_, _], _ => rfl
theorem mk__law_take {K : PySem.W.Frag} {h : Heap} {mg : Str → Option Value} {f : Addr} {oc kV doc pm cd ct : Value} {od an : Option Addr} {sl : Array (Option Value)} (X : K.In h) (G : h.Ns mainGlobals mg) (a : PySem.W.nsIn K mainGlobals "_law_take" = some (some (.ref f))) (l : K.lookup f = some ⟨oc, od, .func (PySem.W.fnOf "_law_take" "_law_take" (defArgs s__law_take) (defBody s__law_take) (defScope s__law_take) .none kV doc pm an cd ct), sl⟩) (c : PySem.W.codeIn K cd "_law_take" = true) (k : PySem.W.keepIn K (.ref f) = true) : TxD K mg "_law_take" s__law_take ["bag", "many"] := txd_mk X G a l c k fun _ _ _ _ _ _ us hl => match us, hl with | [_, _], _ => rfl
theorem mk__law_of {K : PySem.W.Frag} {h : Heap} {mg : Str → Option Value} {f : Addr} {oc kV doc pm cd ct : Value} {od an : Option Addr} {sl : Array (Option Value)} (X : K.In h) (G : h.Ns mainGlobals mg) (a : PySem.W.nsIn K mainGlobals "_law_of" = some (some (.ref f))) (l : K.lookup f = some ⟨oc, od, .func (PySem.W.fnOf "_law_of" "_law_of" (defArgs s__law_of) (defBody s__law_of) (defScope s__law_of) .none kV doc pm an cd ct), sl⟩) (c : PySem.W.codeIn K cd "_law_of" = true) (k : PySem.W.keepIn K (.ref f) = true) : TxD K mg "_law_of" s__law_of ["bag", "some"] := txd_mk X G a l c k fun _ _ _ _ _ _ us hl => match us, hl with | [_, _], _ => rfl
theorem mk__law_lowest {K : PySem.W.Frag} {h : Heap} {mg : Str → Option Value} {f : Addr} {oc kV doc pm cd ct : Value} {od an : Option Addr} {sl : Array (Option Value)} (X : K.In h) (G : h.Ns mainGlobals mg) (a : PySem.W.nsIn K mainGlobals "_law_lowest" = some (some (.ref f))) (l : K.lookup f = some ⟨oc, od, .func (PySem.W.fnOf "_law_lowest" "_law_lowest" (defArgs s__law_lowest) (defBody s__law_lowest) (defScope s__law_lowest) .none kV doc pm an cd ct), sl⟩) (c : PySem.W.codeIn K cd "_law_lowest" = true) (k : PySem.W.keepIn K (.ref f) = true) : TxD K mg "_law_lowest" s__law_lowest ["top", "bottom"] := txd_mk X G a l c k fun _ _ _ _ _ _ us hl => match us, hl with | [_, _], _ => rfl
theorem mk__law_rope {K : PySem.W.Frag} {h : Heap} {mg : Str → Option Value} {f : Addr} {oc kV doc pm cd ct : Value} {od an : Option Addr} {sl : Array (Option Value)} (X : K.In h) (G : h.Ns mainGlobals mg) (a : PySem.W.nsIn K mainGlobals "_law_rope" = some (some (.ref f))) (l : K.lookup f = some ⟨oc, od, .func (PySem.W.fnOf "_law_rope" "_law_rope" (defArgs s__law_rope) (defBody s__law_rope) (defScope s__law_rope) .none kV doc pm an cd ct), sl⟩) (c : PySem.W.codeIn K cd "_law_rope" = true) (k : PySem.W.keepIn K (.ref f) = true) : TxD K mg "_law_rope" s__law_rope ["bag", "name"] := txd_mk X G a l c k fun _ _ _ _ _ _ us hl => match us, hl with | [_, _], _ => rfl
theorem mk__law_bundle {K : PySem.W.Frag} {h : Heap} {mg : Str → Option Value} {f : Addr} {oc kV doc pm cd ct : Value} {od an : Option Addr} {sl : Array (Option Value)} (X : K.In h) (G : h.Ns mainGlobals mg) (a : PySem.W.nsIn K mainGlobals "_law_bundle" = some (some (.ref f))) (l : K.lookup f = some ⟨oc, od, .func (PySem.W.fnOf "_law_bundle" "_law_bundle" (defArgs s__law_bundle) (defBody s__law_bundle) (defScope s__law_bundle) .none kV doc pm an cd ct), sl⟩) (c : PySem.W.codeIn K cd "_law_bundle" = true) (k : PySem.W.keepIn K (.ref f) = true) : TxD K mg "_law_bundle" s__law_bundle ["bag", "most"] := txd_mk X G a l c k fun _ _ _ _ _ _ us hl => match us, hl with | [_, _], _ => rfl
theorem mk__law_load {K : PySem.W.Frag} {h : Heap} {mg : Str → Option Value} {f : Addr} {oc kV doc pm cd ct : Value} {od an : Option Addr} {sl : Array (Option Value)} (X : K.In h) (G : h.Ns mainGlobals mg) (a : PySem.W.nsIn K mainGlobals "_law_load" = some (some (.ref f))) (l : K.lookup f = some ⟨oc, od, .func (PySem.W.fnOf "_law_load" "_law_load" (defArgs s__law_load) (defBody s__law_load) (defScope s__law_load) .none kV doc pm an cd ct), sl⟩) (c : PySem.W.codeIn K cd "_law_load" = true) (k : PySem.W.keepIn K (.ref f) = true) : TxD K mg "_law_load" s__law_load ["bag"] := txd_mk X G a l c k fun _ _ _ _ _ _ us hl => match us, hl with | [_], _ => rfl
theorem mk__law_plus {K : PySem.W.Frag} {h : Heap} {mg : Str → Option Value} {f : Addr} {oc kV doc pm cd ct : Value} {od an : Option Addr} {sl : Array (Option Value)} (X : K.In h) (G : h.Ns mainGlobals mg) (a : PySem.W.nsIn K mainGlobals "_law_plus" = some (some (.ref f))) (l : K.lookup f = some ⟨oc, od, .func (PySem.W.fnOf "_law_plus" "_law_plus" (defArgs s__law_plus) (defBody s__law_plus) (defScope s__law_plus) .none kV doc pm an cd ct), sl⟩) (c : PySem.W.codeIn K cd "_law_plus" = true) (k : PySem.W.keepIn K (.ref f) = true) : TxD K mg "_law_plus" s__law_plus ["one", "other"] := txd_mk X G a l c k fun _ _ _ _ _ _ us hl => match us, hl with | [_, _], _ => rfl
theorem mk__law_less {K : PySem.W.Frag} {h : Heap} {mg : Str → Option Value} {f : Addr} {oc kV doc pm cd ct : Value} {od an : Option Addr} {sl : Array (Option Value)} (X : K.In h) (G : h.Ns mainGlobals mg) (a : PySem.W.nsIn K mainGlobals "_law_less" = some (some (.ref f))) (l : K.lookup f = some ⟨oc, od, .func (PySem.W.fnOf "_law_less" "_law_less" (defArgs s__law_less) (defBody s__law_less) (defScope s__law_less) .none kV doc pm an cd ct), sl⟩) (c : PySem.W.codeIn K cd "_law_less" = true) (k : PySem.W.keepIn K (.ref f) = true) : TxD K mg "_law_less" s__law_less ["one", "other"] := txd_mk X G a l c k fun _ _ _ _ _ _ us hl => match us, hl with | [_, _], _ => rfl
theorem mk__law_pull {K : PySem.W.Frag} {h : Heap} {mg : Str → Option Value} {f : Addr} {oc kV doc pm cd ct : Value} {od an : Option Addr} {sl : Array (Option Value)} (X : K.In h) (G : h.Ns mainGlobals mg) (a : PySem.W.nsIn K mainGlobals "_law_pull" = some (some (.ref f))) (l : K.lookup f = some ⟨oc, od, .func (PySem.W.fnOf "_law_pull" "_law_pull" (defArgs s__law_pull) (defBody s__law_pull) (defScope s__law_pull) .none kV doc pm an cd ct), sl⟩) (c : PySem.W.codeIn K cd "_law_pull" = true) (k : PySem.W.keepIn K (.ref f) = true) : TxD K mg "_law_pull" s__law_pull ["rope", "sunk"] := txd_mk X G a l c k fun _ _ _ _ _ _ us hl => match us, hl with | [_, _], _ => rfl
theorem mk__law_end {K : PySem.W.Frag} {h : Heap} {mg : Str → Option Value} {f : Addr} {oc kV doc pm cd ct : Value} {od an : Option Addr} {sl : Array (Option Value)} (X : K.In h) (G : h.Ns mainGlobals mg) (a : PySem.W.nsIn K mainGlobals "_law_end" = some (some (.ref f))) (l : K.lookup f = some ⟨oc, od, .func (PySem.W.fnOf "_law_end" "_law_end" (defArgs s__law_end) (defBody s__law_end) (defScope s__law_end) .none kV doc pm an cd ct), sl⟩) (c : PySem.W.codeIn K cd "_law_end" = true) (k : PySem.W.keepIn K (.ref f) = true) : TxD K mg "_law_end" s__law_end ["rope"] := txd_mk X G a l c k fun _ _ _ _ _ _ us hl => match us, hl with | [_], _ => rfl
theorem mk__law_marks {K : PySem.W.Frag} {h : Heap} {mg : Str → Option Value} {f : Addr} {oc kV doc pm cd ct : Value} {od an : Option Addr} {sl : Array (Option Value)} (X : K.In h) (G : h.Ns mainGlobals mg) (a : PySem.W.nsIn K mainGlobals "_law_marks" = some (some (.ref f))) (l : K.lookup f = some ⟨oc, od, .func (PySem.W.fnOf "_law_marks" "_law_marks" (defArgs s__law_marks) (defBody s__law_marks) (defScope s__law_marks) .none kV doc pm an cd ct), sl⟩) (c : PySem.W.codeIn K cd "_law_marks" = true) (k : PySem.W.keepIn K (.ref f) = true) : TxD K mg "_law_marks" s__law_marks ["bundle"] := txd_mk X G a l c k fun _ _ _ _ _ _ us hl => match us, hl with | [_], _ => rfl
theorem mk__law_times {K : PySem.W.Frag} {h : Heap} {mg : Str → Option Value} {f : Addr} {oc kV doc pm cd ct : Value} {od an : Option Addr} {sl : Array (Option Value)} (X : K.In h) (G : h.Ns mainGlobals mg) (a : PySem.W.nsIn K mainGlobals "_law_times" = some (some (.ref f))) (l : K.lookup f = some ⟨oc, od, .func (PySem.W.fnOf "_law_times" "_law_times" (defArgs s__law_times) (defBody s__law_times) (defScope s__law_times) .none kV doc pm an cd ct), sl⟩) (c : PySem.W.codeIn K cd "_law_times" = true) (k : PySem.W.keepIn K (.ref f) = true) : TxD K mg "_law_times" s__law_times ["part", "by"] := txd_mk X G a l c k fun _ _ _ _ _ _ us hl => match us, hl with | [_, _], _ => rfl
theorem mk__law_changed {K : PySem.W.Frag} {h : Heap} {mg : Str → Option Value} {f : Addr} {oc kV doc pm cd ct : Value} {od an : Option Addr} {sl : Array (Option Value)} (X : K.In h) (G : h.Ns mainGlobals mg) (a : PySem.W.nsIn K mainGlobals "_law_changed" = some (some (.ref f))) (l : K.lookup f = some ⟨oc, od, .func (PySem.W.fnOf "_law_changed" "_law_changed" (defArgs s__law_changed) (defBody s__law_changed) (defScope s__law_changed) .none kV doc pm an cd ct), sl⟩) (c : PySem.W.codeIn K cd "_law_changed" = true) (k : PySem.W.keepIn K (.ref f) = true) : TxD K mg "_law_changed" s__law_changed ["bundle", "slacker", "stiffer", "sign"] := txd_mk X G a l c k fun _ _ _ _ _ _ us hl => match us, hl with | [_, _, _, _], _ => rfl
theorem mk__law_named {K : PySem.W.Frag} {h : Heap} {mg : Str → Option Value} {f : Addr} {oc kV doc pm cd ct : Value} {od an : Option Addr} {sl : Array (Option Value)} (X : K.In h) (G : h.Ns mainGlobals mg) (a : PySem.W.nsIn K mainGlobals "_law_named" = some (some (.ref f))) (l : K.lookup f = some ⟨oc, od, .func (PySem.W.fnOf "_law_named" "_law_named" (defArgs s__law_named) (defBody s__law_named) (defScope s__law_named) .none kV doc pm an cd ct), sl⟩) (c : PySem.W.codeIn K cd "_law_named" = true) (k : PySem.W.keepIn K (.ref f) = true) : TxD K mg "_law_named" s__law_named ["names", "sign"] := txd_mk X G a l c k fun _ _ _ _ _ _ us hl => match us, hl with | [_, _], _ => rfl
theorem mk__law_goes {K : PySem.W.Frag} {h : Heap} {mg : Str → Option Value} {f : Addr} {oc kV doc pm cd ct : Value} {od an : Option Addr} {sl : Array (Option Value)} (X : K.In h) (G : h.Ns mainGlobals mg) (a : PySem.W.nsIn K mainGlobals "_law_goes" = some (some (.ref f))) (l : K.lookup f = some ⟨oc, od, .func (PySem.W.fnOf "_law_goes" "_law_goes" (defArgs s__law_goes) (defBody s__law_goes) (defScope s__law_goes) .none kV doc pm an cd ct), sl⟩) (c : PySem.W.codeIn K cd "_law_goes" = true) (k : PySem.W.keepIn K (.ref f) = true) : TxD K mg "_law_goes" s__law_goes ["bundle", "other", "scale", "sign", "load"] := txd_mk X G a l c k fun _ _ _ _ _ _ us hl => match us, hl with | [_, _, _, _, _], _ => rfl
end SP
open PySem PySem.W PyProof.Rows in
set_option maxRecDepth 100000 in
set_option maxHeartbeats 0 in
theorem PySem.Challenge.cw_strandpull_k12_whole_measures_change_not_holds : PySem.Challenge.rw_strandpull_k12_whole_measures_change_not.Holds := by
  w_on; o_law; k_head; (case hw => w_witness2)
  k_fill
  refine LamX.walk_ofTs (l := PySem.Challenge.rw_strandpull_k12_whole_measures_change_not) (n := 63) (k := SP.lv_law) (x := "script") (CX := fun _ => L2.CX0) rfl (by decide) rfl ⟨rfl, by decide, by decide⟩ (fun w h Y => PySem.W.km_in_of Y) ?F (fun _ _ _ _ _ z => z)
  case F =>
    intro w mg fa h Y KX G hmg
    refine' Ab.law_at (st := SP.s_law) (q := SP.lamQ) KX G hmg ?a_law ?l_law ?c_law ?k_law (PySem.W.km_tabs_of Y _ (List.mem_singleton.mpr rfl)) ?zzP ?zzC (fun s v => .of_eq rfl) (fun base TB F => SP.d_law { t_is_whole := SP.mk_is_whole KX G ?a_is_whole ?l_is_whole ?c_is_whole ?k_is_whole, t_is_within := SP.mk_is_within KX G ?a_is_within ?l_is_within ?c_is_within ?k_is_within, t_is_name := SP.mk_is_name KX G ?a_is_name ?l_is_name ?c_is_name ?k_is_name, t_lowest := SP.mk_lowest KX G ?a_lowest ?l_lowest ?c_lowest ?k_lowest, t_plus := SP.mk_plus KX G ?a_plus ?l_plus ?c_plus ?k_plus, t_is_lesser := SP.mk_is_lesser KX G ?a_is_lesser ?l_is_lesser ?c_is_lesser ?k_is_lesser, t_is_rope := SP.mk_is_rope KX G ?a_is_rope ?l_is_rope ?c_is_rope ?k_is_rope, t_is_bundle := SP.mk_is_bundle KX G ?a_is_bundle ?l_is_bundle ?c_is_bundle ?k_is_bundle, t_pull := SP.mk_pull KX G ?a_pull ?l_pull ?c_pull ?k_pull, t_all_pull := SP.mk_all_pull KX G ?a_all_pull ?l_all_pull ?c_all_pull ?k_all_pull, t_left_of := SP.mk_left_of KX G ?a_left_of ?l_left_of ?c_left_of ?k_left_of, t_sunk_by := SP.mk_sunk_by KX G ?a_sunk_by ?l_sunk_by ?c_sunk_by ?k_sunk_by, t_sinking := SP.mk_sinking KX G ?a_sinking ?l_sinking ?c_sinking ?k_sinking, t_pulls := SP.mk_pulls KX G ?a_pulls ?l_pulls ?c_pulls ?k_pulls, t_gives_way := SP.mk_gives_way KX G ?a_gives_way ?l_gives_way ?c_gives_way ?k_gives_way, t_waves := SP.mk_waves KX G ?a_waves ?l_waves ?c_waves ?k_waves, t_broken_by := SP.mk_broken_by KX G ?a_broken_by ?l_broken_by ?c_broken_by ?k_broken_by, t_bears := SP.mk_bears KX G ?a_bears ?l_bears ?c_bears ?k_bears, t_end_of := SP.mk_end_of KX G ?a_end_of ?l_end_of ?c_end_of ?k_end_of, t_in_order := SP.mk_in_order KX G ?a_in_order ?l_in_order ?c_in_order ?k_in_order, t_load_at := SP.mk_load_at KX G ?a_load_at ?l_load_at ?c_load_at ?k_load_at, t_table := SP.mk_table KX G ?a_table ?l_table ?c_table ?k_table, t_greatest := SP.mk_greatest KX G ?a_greatest ?l_greatest ?c_greatest ?k_greatest, t_beyond := SP.mk_beyond KX G ?a_beyond ?l_beyond ?c_beyond ?k_beyond, t_steps_from := SP.mk_steps_from KX G ?a_steps_from ?l_steps_from ?c_steps_from ?k_steps_from, t_steps := SP.mk_steps KX G ?a_steps ?l_steps ?c_steps ?k_steps, t_whole_till := SP.mk_whole_till KX G ?a_whole_till ?l_whole_till ?c_whole_till ?k_whole_till, t_guards := SP.mk_guards KX G ?a_guards ?l_guards ?c_guards ?k_guards, t_lots := SP.mk_lots KX G ?a_lots ?l_lots ?c_lots ?k_lots, t_doubled := SP.mk_doubled KX G ?a_doubled ?l_doubled ?c_doubled ?k_doubled, t_fewest_doubled := SP.mk_fewest_doubled KX G ?a_fewest_doubled ?l_fewest_doubled ?c_fewest_doubled ?k_fewest_doubled, t__law_bag := SP.mk__law_bag KX G ?a__law_bag ?l__law_bag ?c__law_bag ?k__law_bag, t__law_take := SP.mk__law_take KX G ?a__law_take ?l__law_take ?c__law_take ?k__law_take, t__law_of := SP.mk__law_of KX G ?a__law_of ?l__law_of ?c__law_of ?k__law_of, t__law_lowest := SP.mk__law_lowest KX G ?a__law_lowest ?l__law_lowest ?c__law_lowest ?k__law_lowest, t__law_rope := SP.mk__law_rope KX G ?a__law_rope ?l__law_rope ?c__law_rope ?k__law_rope, t__law_bundle := SP.mk__law_bundle KX G ?a__law_bundle ?l__law_bundle ?c__law_bundle ?k__law_bundle, t__law_load := SP.mk__law_load KX G ?a__law_load ?l__law_load ?c__law_load ?k__law_load, t__law_plus := SP.mk__law_plus KX G ?a__law_plus ?l__law_plus ?c__law_plus ?k__law_plus, t__law_less := SP.mk__law_less KX G ?a__law_less ?l__law_less ?c__law_less ?k__law_less, t__law_pull := SP.mk__law_pull KX G ?a__law_pull ?l__law_pull ?c__law_pull ?k__law_pull, t__law_end := SP.mk__law_end KX G ?a__law_end ?l__law_end ?c__law_end ?k__law_end, t__law_marks := SP.mk__law_marks KX G ?a__law_marks ?l__law_marks ?c__law_marks ?k__law_marks, t__law_times := SP.mk__law_times KX G ?a__law_times ?l__law_times ?c__law_times ?k__law_times, t__law_changed := SP.mk__law_changed KX G ?a__law_changed ?l__law_changed ?c__law_changed ?k__law_changed, t__law_named := SP.mk__law_named KX G ?a__law_named ?l__law_named ?c__law_named ?k__law_named, t__law_goes := SP.mk__law_goes KX G ?a__law_goes ?l__law_goes ?c__law_goes ?k__law_goes, g_abs := Ab.none_mk KX G ?z_abs, g_len := Ab.none_mk KX G ?z_len, g_range := Ab.none_mk KX G ?z_range, g_min := Ab.none_mk KX G ?z_min, g_max := Ab.none_mk KX G ?z_max, g_sorted := Ab.none_mk KX G ?z_sorted, g_tuple := Ab.none_mk KX G ?z_tuple, g_list := Ab.none_mk KX G ?z_list, g_enumerate := Ab.none_mk KX G ?z_enumerate, g_zip := Ab.none_mk KX G ?z_zip, g_all := Ab.none_mk KX G ?z_all, g_isinstance := Ab.none_mk KX G ?z_isinstance, g_str := Ab.none_mk KX G ?z_str, g_int := Ab.none_mk KX G ?z_int, g_bool := Ab.none_mk KX G ?z_bool, c_LETTERS := Ab.str_mk KX G ?y_LETTERS, c_MOST_ROPES := Ab.int_mk KX G ?y_MOST_ROPES, c_MOST_SLACK := Ab.int_mk KX G ?y_MOST_SLACK, c_MOST_STIFF := Ab.int_mk KX G ?y_MOST_STIFF, c_MOST_STRONG := Ab.int_mk KX G ?y_MOST_STRONG } TB F)
    (case a_is_whole => k_is)
    (case l_is_whole => k_is)
    (case c_is_whole => k_is)
    (case k_is_whole => k_is)
    (case a_is_within => k_is)
    (case l_is_within => k_is)
    (case c_is_within => k_is)
    (case k_is_within => k_is)
    (case a_is_name => k_is)
    (case l_is_name => k_is)
    (case c_is_name => k_is)
    (case k_is_name => k_is)
    (case a_lowest => k_is)
    (case l_lowest => k_is)
    (case c_lowest => k_is)
    (case k_lowest => k_is)
    (case a_plus => k_is)
    (case l_plus => k_is)
    (case c_plus => k_is)
    (case k_plus => k_is)
    (case a_is_lesser => k_is)
    (case l_is_lesser => k_is)
    (case c_is_lesser => k_is)
    (case k_is_lesser => k_is)
    (case a_is_rope => k_is)
    (case l_is_rope => k_is)
    (case c_is_rope => k_is)
    (case k_is_rope => k_is)
    (case a_is_bundle => k_is)
    (case l_is_bundle => k_is)
    (case c_is_bundle => k_is)
    (case k_is_bundle => k_is)
    (case a_pull => k_is)
    (case l_pull => k_is)
    (case c_pull => k_is)
    (case k_pull => k_is)
    (case a_all_pull => k_is)
    (case l_all_pull => k_is)
    (case c_all_pull => k_is)
    (case k_all_pull => k_is)
    (case a_left_of => k_is)
    (case l_left_of => k_is)
    (case c_left_of => k_is)
    (case k_left_of => k_is)
    (case a_sunk_by => k_is)
    (case l_sunk_by => k_is)
    (case c_sunk_by => k_is)
    (case k_sunk_by => k_is)
    (case a_sinking => k_is)
    (case l_sinking => k_is)
    (case c_sinking => k_is)
    (case k_sinking => k_is)
    (case a_pulls => k_is)
    (case l_pulls => k_is)
    (case c_pulls => k_is)
    (case k_pulls => k_is)
    (case a_gives_way => k_is)
    (case l_gives_way => k_is)
    (case c_gives_way => k_is)
    (case k_gives_way => k_is)
    (case a_waves => k_is)
    (case l_waves => k_is)
    (case c_waves => k_is)
    (case k_waves => k_is)
    (case a_broken_by => k_is)
    (case l_broken_by => k_is)
    (case c_broken_by => k_is)
    (case k_broken_by => k_is)
    (case a_bears => k_is)
    (case l_bears => k_is)
    (case c_bears => k_is)
    (case k_bears => k_is)
    (case a_end_of => k_is)
    (case l_end_of => k_is)
    (case c_end_of => k_is)
    (case k_end_of => k_is)
    (case a_in_order => k_is)
    (case l_in_order => k_is)
    (case c_in_order => k_is)
    (case k_in_order => k_is)
    (case a_load_at => k_is)
    (case l_load_at => k_is)
    (case c_load_at => k_is)
    (case k_load_at => k_is)
    (case a_table => k_is)
    (case l_table => k_is)
    (case c_table => k_is)
    (case k_table => k_is)
    (case a_greatest => k_is)
    (case l_greatest => k_is)
    (case c_greatest => k_is)
    (case k_greatest => k_is)
    (case a_beyond => k_is)
    (case l_beyond => k_is)
    (case c_beyond => k_is)
    (case k_beyond => k_is)
    (case a_steps_from => k_is)
    (case l_steps_from => k_is)
    (case c_steps_from => k_is)
    (case k_steps_from => k_is)
    (case a_steps => k_is)
    (case l_steps => k_is)
    (case c_steps => k_is)
    (case k_steps => k_is)
    (case a_whole_till => k_is)
    (case l_whole_till => k_is)
    (case c_whole_till => k_is)
    (case k_whole_till => k_is)
    (case a_guards => k_is)
    (case l_guards => k_is)
    (case c_guards => k_is)
    (case k_guards => k_is)
    (case a_lots => k_is)
    (case l_lots => k_is)
    (case c_lots => k_is)
    (case k_lots => k_is)
    (case a_doubled => k_is)
    (case l_doubled => k_is)
    (case c_doubled => k_is)
    (case k_doubled => k_is)
    (case a_fewest_doubled => k_is)
    (case l_fewest_doubled => k_is)
    (case c_fewest_doubled => k_is)
    (case k_fewest_doubled => k_is)
    (case a__law_bag => k_is)
    (case l__law_bag => k_is)
    (case c__law_bag => k_is)
    (case k__law_bag => k_is)
    (case a__law_take => k_is)
    (case l__law_take => k_is)
    (case c__law_take => k_is)
    (case k__law_take => k_is)
    (case a__law_of => k_is)
    (case l__law_of => k_is)
    (case c__law_of => k_is)
    (case k__law_of => k_is)
    (case a__law_lowest => k_is)
    (case l__law_lowest => k_is)
    (case c__law_lowest => k_is)
    (case k__law_lowest => k_is)
    (case a__law_rope => k_is)
    (case l__law_rope => k_is)
    (case c__law_rope => k_is)
    (case k__law_rope => k_is)
    (case a__law_bundle => k_is)
    (case l__law_bundle => k_is)
    (case c__law_bundle => k_is)
    (case k__law_bundle => k_is)
    (case a__law_load => k_is)
    (case l__law_load => k_is)
    (case c__law_load => k_is)
    (case k__law_load => k_is)
    (case a__law_plus => k_is)
    (case l__law_plus => k_is)
    (case c__law_plus => k_is)
    (case k__law_plus => k_is)
    (case a__law_less => k_is)
    (case l__law_less => k_is)
    (case c__law_less => k_is)
    (case k__law_less => k_is)
    (case a__law_pull => k_is)
    (case l__law_pull => k_is)
    (case c__law_pull => k_is)
    (case k__law_pull => k_is)
    (case a__law_end => k_is)
    (case l__law_end => k_is)
    (case c__law_end => k_is)
    (case k__law_end => k_is)
    (case a__law_marks => k_is)
    (case l__law_marks => k_is)
    (case c__law_marks => k_is)
    (case k__law_marks => k_is)
    (case a__law_times => k_is)
    (case l__law_times => k_is)
    (case c__law_times => k_is)
    (case k__law_times => k_is)
    (case a__law_changed => k_is)
    (case l__law_changed => k_is)
    (case c__law_changed => k_is)
    (case k__law_changed => k_is)
    (case a__law_named => k_is)
    (case l__law_named => k_is)
    (case c__law_named => k_is)
    (case k__law_named => k_is)
    (case a__law_goes => k_is)
    (case l__law_goes => k_is)
    (case c__law_goes => k_is)
    (case k__law_goes => k_is)
    (case z_abs => k_is)
    (case z_len => k_is)
    (case z_range => k_is)
    (case z_min => k_is)
    (case z_max => k_is)
    (case z_sorted => k_is)
    (case z_tuple => k_is)
    (case z_list => k_is)
    (case z_enumerate => k_is)
    (case z_zip => k_is)
    (case z_all => k_is)
    (case z_isinstance => k_is)
    (case z_str => k_is)
    (case z_int => k_is)
    (case z_bool => k_is)
    (case y_LETTERS => k_is)
    (case y_MOST_ROPES => k_is)
    (case y_MOST_SLACK => k_is)
    (case y_MOST_STIFF => k_is)
    (case y_MOST_STRONG => k_is)
    (case a_law => k_is)
    (case l_law => k_is)
    (case c_law => k_is)
    (case k_law => k_is)
    (case zzP => rfl)
    (case zzC => rfl)
