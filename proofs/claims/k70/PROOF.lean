import PyProof.Rows.All
import Wide.All
import OpenK.AllK
import Wide.FinOn
import HandS.ForMost
import HandS.ForExc
import HandS.Flow
import HandS.Star
import HandS.TupAny
import HandS.TupMul
import HandS.IsInst
import HandS.Zip
import HandS.Wide
import HandS.FStr
import HandS.Deep
import HandS.Style
import HandS.NoneIn
import HandS.SortInts
import HandS.Conv
import HandS.RaiseMore
import HandS.ExcInit
import HandS.ExcField
import HandS.Walk
import KE.KUnpackStar
import HandS.Codes
import PyProof.Rows.StrDigitsNeg
import HandS.Head0
import HandS.Head1
import HandS.Head2
import HandS.HeadEnd
import HandS.HeadHook1
import HandS.HeadHook2
import HandS.HeadNt
import KE.KStateDown
import PySem.Challenge.RW_dearcurves_k70_texts_of_books
set_option Elab.async false
set_option linter.all false
set_option maxRecDepth 100000
set_option maxHeartbeats 0
/-! ## data, results, contexts -/
namespace DC
open PySem L2

inductive D where
  | non | bl (b : Bool) | int (i : Int) | str (s : Str) | tup (ds : List D) | lst (ds : List D) | adr (a : Addr)

structure Er where
  cls : Str
  fs : List (Str × D)

inductive Rs (T α : Type) where
  | ok (a : α) (t : T) | er (e : Er) (t : T) | bad

def Rs.bind {T α β : Type} (r : Rs T α) (f : α → T → Rs T β) : Rs T β := match r with
  | .ok a t => f a t
  | .er e t => .er e t
  | .bad => .bad
def ofO {T α : Type} (o : Option α) (t : T) : Rs T α := match o with
  | some a => .ok a t
  | none => .bad

inductive Sl where
  | dat (d : D) | own (ds : List D)
abbrev Gm := List (Option Sl)
abbrev Ex (T : Type) := Gm → T → Rs T D
abbrev Te (T : Type) := Gm → T → Rs T Bool
abbrev Ar (T : Type) := Gm → T → Rs T (List D)

/-! ## data in the heap -/
def Imm : HO → Bool
  | .tup _ => true
  | .frz _ _ => true
  | _ => false
/-- a list node: tracked, within ok -/
def LNode (K : PySem.W.Frag) (ok : Addr → Prop) (H : Hp) (a : Addr) (vs : List V) : Prop := ok a ∧ H a = some (.lst vs)
mutual
def Rep (K : PySem.W.Frag) (ok : Addr → Prop) (H : Hp) : D → V → Prop
  | .non, v => v = .non
  | .bl b, v => v = .bl b
  | .int i, v => v = .int i
  | .str s, v => v = .str s
  | .tup ds, v => ∃ a vs, v = .ref a ∧ SqT K H a vs ∧ Reps K ok H ds vs
  | .lst ds, v => ∃ a vs, v = .ref a ∧ LNode K ok H a vs ∧ Reps K ok H ds vs
  | .adr a, v => v = .ref a
def Reps (K : PySem.W.Frag) (ok : Addr → Prop) (H : Hp) : List D → List V → Prop
  | [], vs => vs = []
  | d :: ds, vs => ∃ v r, vs = v :: r ∧ Rep K ok H d v ∧ Reps K ok H ds r
end
/-- H' has what H had, within S -/
def Kp (S : Addr → Prop) (H H' : Hp) : Prop := ∀ a o, H a = some o → (Imm o = true ∨ S a) → H' a = some o

section
variable {K : PySem.W.Frag} {ok ok' ok0 : Addr → Prop} {H H' : Hp} {a : Addr} {vs : List V}
theorem Rd.kp {S : Addr → Prop} {u : HO} (k : Kp S H H') (h : Rd H a u) (hs : Imm u = true ∨ S a) : Rd H' a u := by
  rcases h with h | ⟨o, h⟩
  · exact .inl (k _ _ h hs)
  · exact .inr ⟨o, k _ _ h (.inl rfl)⟩
theorem SqT.kp {S : Addr → Prop} (k : Kp S H H') (h : SqT K H a vs) : SqT K H' a vs := by
  rcases h with h | h
  · exact .inl (Rd.kp k h (.inl rfl))
  · exact .inr h
theorem LNode.sql (h : LNode K ok H a vs) : SqL K H a vs := .inl (.inl h.2)
theorem LNode.kp (k : Kp ok H H') (hk : ∀ b, H b ≠ none → ok b → ok' b) (h : LNode K ok H a vs) : LNode K ok' H' a vs :=
  ⟨hk a (by rw [h.2]; exact fun z => nomatch z) h.1, k _ _ h.2 (.inr h.1)⟩
mutual
theorem Rep.kp (k : Kp ok H H') (hk : ∀ b, H b ≠ none → ok b → ok' b) : ∀ {d : D} {v : V}, Rep K ok H d v → Rep K ok' H' d v
  | .non, _, h => h
  | .bl _, _, h => h
  | .int _, _, h => h
  | .str _, _, h => h
  | .adr _, _, h => h
  | .tup ds, v, h => by
    unfold Rep at h ⊢
    obtain ⟨a, vs, e, h1, h2⟩ := h
    exact ⟨a, vs, e, SqT.kp k h1, Reps.kp k hk h2⟩
  | .lst ds, v, h => by
    unfold Rep at h ⊢
    obtain ⟨a, vs, e, h1, h2⟩ := h
    exact ⟨a, vs, e, h1.kp k hk, Reps.kp k hk h2⟩
theorem Reps.kp (k : Kp ok H H') (hk : ∀ b, H b ≠ none → ok b → ok' b) : ∀ {ds : List D} {vs : List V}, Reps K ok H ds vs → Reps K ok' H' ds vs
  | [], _, h => h
  | d :: ds, vs, h => by
    unfold Reps at h ⊢
    obtain ⟨v, r, e, h1, h2⟩ := h
    exact ⟨v, r, e, Rep.kp k hk h1, Reps.kp k hk h2⟩
end
theorem Reps.length : ∀ {ds : List D} {vs : List V}, Reps K ok H ds vs → vs.length = ds.length
  | [], vs, h => by unfold Reps at h; rw [h]; rfl
  | d :: ds, vs, h => by
    unfold Reps at h
    obtain ⟨v, r, rfl, _, h2⟩ := h
    simp [Reps.length h2]
theorem Reps.get : ∀ {ds : List D} {vs : List V} {i : Nat} {d : D}, Reps K ok H ds vs → ds[i]? = some d → ∃ v, vs[i]? = some v ∧ Rep K ok H d v
  | [], _, _, _, _, e => by simp at e
  | d :: ds, vs, i, x, h, e => by
    unfold Reps at h
    obtain ⟨v, r, rfl, h1, h2⟩ := h
    cases i with
    | zero => simp at e; subst e; exact ⟨v, rfl, h1⟩
    | succ i =>
      obtain ⟨u, h3, h4⟩ := Reps.get (i := i) (d := x) h2 (by simpa using e)
      exact ⟨u, by simpa using h3, h4⟩
theorem Reps.back : ∀ {ds : List D} {vs : List V} {i : Nat} {v : V}, Reps K ok H ds vs → vs[i]? = some v → ∃ d, ds[i]? = some d ∧ Rep K ok H d v
  | [], vs, i, v, h, e => by unfold Reps at h; subst h; simp at e
  | d :: ds, vs, i, x, h, e => by
    unfold Reps at h
    obtain ⟨v, r, rfl, h1, h2⟩ := h
    cases i with
    | zero => simp at e; subst e; exact ⟨d, rfl, h1⟩
    | succ i =>
      obtain ⟨u, h3, h4⟩ := Reps.back (i := i) (v := x) h2 (by simpa using e)
      exact ⟨u, by simpa using h3, h4⟩
theorem Reps.append : ∀ {ds es : List D} {vs ws : List V}, Reps K ok H ds vs → Reps K ok H es ws → Reps K ok H (ds ++ es) (vs ++ ws)
  | [], _, _, _, h, h' => by unfold Reps at h; subst h; exact h'
  | d :: ds, _, _, _, h, h' => by
    unfold Reps at h
    obtain ⟨v, r, rfl, h1, h2⟩ := h
    show Reps K ok H (d :: (ds ++ _)) _
    unfold Reps
    exact ⟨v, r ++ _, rfl, h1, h2.append h'⟩
theorem Reps.nil : Reps K ok H [] [] := by unfold Reps; rfl
theorem Reps.cons {d : D} {ds : List D} {v : V} {vs : List V} (h1 : Rep K ok H d v) (h2 : Reps K ok H ds vs) : Reps K ok H (d :: ds) (v :: vs) := by
  unfold Reps; exact ⟨v, vs, rfl, h1, h2⟩
theorem Reps.take : ∀ {ds : List D} {vs : List V} (n : Nat), Reps K ok H ds vs → Reps K ok H (ds.take n) (vs.take n)
  | _, _, 0, _ => by simpa using Reps.nil
  | [], vs, _ + 1, h => by unfold Reps at h; subst h; simpa using Reps.nil
  | d :: ds, vs, n + 1, h => by
    unfold Reps at h
    obtain ⟨v, r, rfl, h1, h2⟩ := h
    exact .cons h1 (h2.take n)
theorem Reps.drop : ∀ {ds : List D} {vs : List V} (n : Nat), Reps K ok H ds vs → Reps K ok H (ds.drop n) (vs.drop n)
  | _, _, 0, h => h
  | [], vs, _ + 1, h => by unfold Reps at h; subst h; simpa using Reps.nil
  | d :: ds, vs, n + 1, h => by
    unfold Reps at h
    obtain ⟨v, r, rfl, h1, h2⟩ := h
    exact h2.drop n
theorem Reps.set {d : D} {v : V} (h : Rep K ok H d v) : ∀ {ds : List D} {vs : List V} (n : Nat), Reps K ok H ds vs → Reps K ok H (ds.set n d) (vs.set n v)
  | [], vs, _, q => by unfold Reps at q; subst q; simpa using Reps.nil
  | e :: ds, vs, 0, q => by
    unfold Reps at q
    obtain ⟨u, r, rfl, h1, h2⟩ := q
    exact .cons h h2
  | e :: ds, vs, n + 1, q => by
    unfold Reps at q
    obtain ⟨u, r, rfl, h1, h2⟩ := q
    exact .cons h1 (Reps.set h n h2)
theorem Reps.reverse : ∀ {ds : List D} {vs : List V}, Reps K ok H ds vs → Reps K ok H ds.reverse vs.reverse
  | [], vs, h => by unfold Reps at h; subst h; exact Reps.nil
  | d :: ds, vs, h => by
    unfold Reps at h
    obtain ⟨v, r, rfl, h1, h2⟩ := h
    rw [List.reverse_cons, List.reverse_cons]
    exact h2.reverse.append (.cons h1 .nil)
theorem LNode.weak {ok2 : Addr → Prop} (hk : ∀ a, ok a → ok2 a) (h : LNode K ok H a vs) : LNode K ok2 H a vs := ⟨hk a h.1, h.2⟩
mutual
theorem Rep.weak (hk : ∀ a, ok a → ok' a) : ∀ {d : D} {v : V}, Rep K ok H d v → Rep K ok' H d v
  | .non, _, h => h
  | .bl _, _, h => h
  | .int _, _, h => h
  | .str _, _, h => h
  | .adr _, _, h => h
  | .tup ds, v, h => by
    unfold Rep at h ⊢
    obtain ⟨a, vs, e, h1, h2⟩ := h
    exact ⟨a, vs, e, h1, Reps.weak hk h2⟩
  | .lst ds, v, h => by
    unfold Rep at h ⊢
    obtain ⟨a, vs, e, h1, h2⟩ := h
    exact ⟨a, vs, e, h1.weak hk, Reps.weak hk h2⟩
theorem Reps.weak (hk : ∀ a, ok a → ok' a) : ∀ {ds : List D} {vs : List V}, Reps K ok H ds vs → Reps K ok' H ds vs
  | [], _, h => h
  | d :: ds, vs, h => by
    unfold Reps at h ⊢
    obtain ⟨v, r, e, h1, h2⟩ := h
    exact ⟨v, r, e, Rep.weak hk h1, Reps.weak hk h2⟩
end
end

/-! ## the world: what mutable objects stand beside -/
structure Wd (T : Type) where
  rep : PySem.W.Frag → T → Hp → Prop
  foot : T → Addr → Prop
  live : ∀ {K t H a}, rep K t H → foot t a → H a ≠ none
  stay : ∀ {K t H H'}, rep K t H → (∀ a o, H a = some o → (Imm o = true ∨ foot t a) → H' a = some o) → rep K t H'
/-- no world -/
def W0 : Wd Unit where
  rep := fun _ _ _ => True
  foot := fun _ _ => False
  live := fun _ h => h.elim
  stay := fun _ _ => trivial

/-! ## environments -/
structure Cf (T : Type) where
  H0 : Hp
  t0 : T
  O0 : Addr → Prop
  ok0 : Addr → Prop

def Own (σ : L2.St) (Γ : Gm) (a : Addr) : Prop := ∃ (i : Nat) (ds : List D), Γ[i]? = some (some (.own ds)) ∧ σ[i]? = some (some (.ref a))
def Cf.okA {T : Type} (c : Cf T) (W : Wd T) (σ : L2.St) (Γ : Gm) (t : T) (a : Addr) : Prop := c.ok0 a ∧ ¬ W.foot t a ∧ ¬ Own σ Γ a

/-- the part without slots -/
structure SitW {T : Type} (K : PySem.W.Frag) (W : Wd T) (c : Cf T) (H : Hp) (t : T) : Prop where
  wr : W.rep K t H
  keep : Kp (fun a => ¬ W.foot c.t0 a ∧ ¬ c.O0 a) c.H0 H
  dom : ∀ a, H a = none → c.H0 a = none
  okf : ∀ a, c.H0 a = none → c.ok0 a
  ft : ∀ a, W.foot t a → W.foot c.t0 a ∨ c.H0 a = none

structure Sit {T : Type} (K : PySem.W.Frag) (W : Wd T) (c : Cf T) (σ : L2.St) (H : Hp) (Γ : Gm) (t : T) : Prop extends SitW K W c H t where
  len : Γ.length = σ.length
  dat : ∀ (i : Nat) (d : D), Γ[i]? = some (some (.dat d)) → ∃ v, σ[i]? = some (some v) ∧ Rep K (c.okA W σ Γ t) H d v
  own : ∀ (i : Nat) (ds : List D), Γ[i]? = some (some (.own ds)) → ∃ p vs, σ[i]? = some (some (.ref p)) ∧ (c.O0 p ∨ c.H0 p = none) ∧ c.ok0 p ∧ ¬ W.foot t p ∧ H p = some (.lst vs) ∧ Reps K (c.okA W σ Γ t) H ds vs
  dis : ∀ (i j : Nat) (di dj : List D) (a : Addr), i ≠ j → Γ[i]? = some (some (.own di)) → Γ[j]? = some (some (.own dj)) → σ[i]? = some (some (.ref a)) → σ[j]? ≠ some (some (.ref a))

/-- from here on -/
def Cf.rb {T : Type} (c : Cf T) (σ : L2.St) (H : Hp) (Γ : Gm) (t : T) : Cf T := { c with H0 := H, t0 := t, O0 := Own σ Γ }

section
variable {T : Type} {K : PySem.W.Frag} {W : Wd T} {c : Cf T} {σ σ' : L2.St} {H H' : Hp} {Γ Γ' : Gm} {t t' : T}
theorem Sit.okf' (e : Sit K W c σ H Γ t) {a : Addr} (h : H a = none) : c.okA W σ Γ t a := by
  refine ⟨e.okf a (e.dom a h), fun z => e.toSitW.wr |> fun w => W.live w z h, fun z => ?_⟩
  obtain ⟨i, ds, h1, h2⟩ := z
  obtain ⟨p, vs, h3, _, _, _, h4, _⟩ := e.own i ds h1
  rw [h2] at h3
  cases h3
  rw [h] at h4
  cases h4
theorem Sit.rb (e : Sit K W c σ H Γ t) : Sit K W (c.rb σ H Γ t) σ H Γ t where
  wr := e.wr
  keep := fun a o h _ => h
  dom := fun a h => h
  okf := fun a h => e.okf a (e.dom a h)
  ft := fun a h => .inl h
  len := e.len
  dat := e.dat
  own := fun i ds h => by
    obtain ⟨p, vs, h1, h2, h3, h4, h5, h6⟩ := e.own i ds h
    exact ⟨p, vs, h1, .inl ⟨i, ds, h, h1⟩, h3, h4, h5, h6⟩
  dis := e.dis
theorem SitW.un (e : Sit K W c σ H Γ t) (q : SitW K W (c.rb σ H Γ t) H' t') : SitW K W c H' t' where
  wr := q.wr
  keep := fun a o h hs => by
    refine q.keep a o (e.keep a o h hs) ?_
    rcases hs with hs | ⟨h1, h2⟩
    · exact .inl hs
    · refine .inr ⟨fun z => ?_, fun z => ?_⟩
      · rcases e.ft a z with w | w
        · exact h1 w
        · rw [h] at w; cases w
      · obtain ⟨i, ds, z1, z2⟩ := z
        obtain ⟨p, vs, w1, w2, _⟩ := e.own i ds z1
        rw [z2] at w1
        cases w1
        rcases w2 with w2 | w2
        · exact h2 w2
        · rw [h] at w2; cases w2
  dom := fun a h => e.dom a (q.dom a h)
  okf := e.okf
  ft := fun a h => by
    rcases q.ft a h with w | w
    · exact e.ft a w
    · exact .inr (e.dom a w)
theorem Sit.un (e : Sit K W c σ H Γ t) (q : Sit K W (c.rb σ H Γ t) σ' H' Γ' t') : Sit K W c σ' H' Γ' t' :=
  { SitW.un e q.toSitW with
    len := q.len
    dat := q.dat
    own := fun i ds h => by
      obtain ⟨p, vs, h1, h2, h3, h4, h5, h6⟩ := q.own i ds h
      refine ⟨p, vs, h1, ?_, h3, h4, h5, h6⟩
      rcases h2 with ⟨j, es, z1, z2⟩ | h2
      · obtain ⟨p', vs', w1, w2, _⟩ := e.own j es z1
        rw [z2] at w1
        cases w1
        exact w2
      · exact .inr (e.dom _ h2)
    dis := q.dis }
/-- what was in hand is still so -/
theorem Sit.okA_up (e : Sit K W c σ H Γ t) (q : Sit K W (c.rb σ H Γ t) σ' H' Γ' t') {a : Addr} (hn : H a ≠ none) (h : c.okA W σ Γ t a) : c.okA W σ' Γ' t' a := by
  obtain ⟨h1, h2, h3⟩ := h
  refine ⟨h1, fun z => ?_, fun z => ?_⟩
  · rcases q.ft a z with w | w
    · exact h2 w
    · exact hn w
  · obtain ⟨i, ds, z1, z2⟩ := z
    obtain ⟨p, vs, w1, w2, _⟩ := q.own i ds z1
    rw [z2] at w1
    cases w1
    rcases w2 with w2 | w2
    · exact h3 w2
    · exact hn w2
theorem Sit.kp (e : Sit K W c σ H Γ t) (q : SitW K W (c.rb σ H Γ t) H' t') : Kp (c.okA W σ Γ t) H H' := fun a o h hs => by
  refine q.keep a o h ?_
  rcases hs with hs | ⟨_, h2, h3⟩
  · exact .inl hs
  · exact .inr ⟨h2, h3⟩
theorem Sit.rep (e : Sit K W c σ H Γ t) (q : Sit K W (c.rb σ H Γ t) σ' H' Γ' t') {d : D} {v : V} (h : Rep K (c.okA W σ Γ t) H d v) : Rep K (c.okA W σ' Γ' t') H' d v :=
  h.kp (e.kp q.toSitW) fun b hn hb => e.okA_up q hn hb
theorem Sit.reps (e : Sit K W c σ H Γ t) (q : Sit K W (c.rb σ H Γ t) σ' H' Γ' t') {ds : List D} {vs : List V} (h : Reps K (c.okA W σ Γ t) H ds vs) : Reps K (c.okA W σ' Γ' t') H' ds vs :=
  h.kp (e.kp q.toSitW) fun b hn hb => e.okA_up q hn hb
/-- only new objects -/
theorem Sit.same (e : Sit K W c σ H Γ t) (k : Same H H') : Sit K W c σ H' Γ t where
  wr := W.stay e.wr fun a o h _ => k a o h
  keep := fun a o h hs => k a o (e.keep a o h hs)
  dom := fun a h => e.dom a (k.free h)
  okf := e.okf
  ft := e.ft
  len := e.len
  dat := fun i d h => by
    obtain ⟨v, h1, h2⟩ := e.dat i d h
    exact ⟨v, h1, h2.kp (fun a o q _ => k a o q) fun _ _ z => z⟩
  own := fun i ds h => by
    obtain ⟨p, vs, h1, h2, h3, h4, h5, h6⟩ := e.own i ds h
    exact ⟨p, vs, h1, h2, h3, h4, k _ _ h5, h6.kp (fun a o q _ => k a o q) fun _ _ z => z⟩
  dis := e.dis
theorem same_upd {a : Addr} {o : HO} (h : H a = none) : Same H (upd H a o) := fun b u e => by
  rw [upd_ne (ne_of_none e h)]; exact e
theorem Sit.new (e : Sit K W c σ H Γ t) {a : Addr} {o : HO} (h : H a = none) : Sit K W c σ (upd H a o) Γ t := e.same (same_upd h)
theorem Rep.same {K : PySem.W.Frag} {ok : Addr → Prop} {d : D} {v : V} (k : Same H H') (h : Rep K ok H d v) : Rep K ok H' d v := h.kp (fun a o q _ => k a o q) fun _ _ z => z
theorem Reps.same {K : PySem.W.Frag} {ok : Addr → Prop} {ds : List D} {vs : List V} (k : Same H H') (h : Reps K ok H ds vs) : Reps K ok H' ds vs := h.kp (fun a o q _ => k a o q) fun _ _ z => z
/-- a new tuple, a new list -/
theorem rep_tup {K : PySem.W.Frag} {ok : Addr → Prop} {ds : List D} {vs : List V} {p : Addr} (h : Reps K ok H ds vs) (hp : H p = none) : Rep K ok (upd H p (.tup vs)) (.tup ds) (.ref p) := by
  unfold Rep
  exact ⟨p, vs, rfl, SqT.of upd_same, h.same (same_upd hp)⟩
theorem rep_lst {K : PySem.W.Frag} {ok : Addr → Prop} {ds : List D} {vs : List V} {p : Addr} (h : Reps K ok H ds vs) (hp : H p = none) (hk : ok p) : Rep K ok (upd H p (.lst vs)) (.lst ds) (.ref p) := by
  unfold Rep
  exact ⟨p, vs, rfl, ⟨hk, upd_same⟩, h.same (same_upd hp)⟩
theorem Cf.okA0 {a : Addr} (h : c.okA W σ Γ t a) : c.ok0 a := h.1
theorem Own.set_ne {i : Nat} {v : V} {s : Option Sl} {a : Addr} (h : Own (σ.set i (some v)) (Γ.set i s) a) (hs : ∀ ds, s ≠ some (.own ds)) : Own σ Γ a := by
  obtain ⟨j, ds, h1, h2⟩ := h
  by_cases e : i = j
  · subst e
    by_cases hl : i < Γ.length
    · rw [List.getElem?_set_self hl] at h1
      exact absurd (Option.some.inj h1) (hs ds)
    · rw [List.getElem?_eq_none (by simpa using hl)] at h1; cases h1
  · rw [List.getElem?_set_ne e] at h1 h2
    exact ⟨j, ds, h1, h2⟩
end

/-! ## what is in hand: within ok, or (s) a list that is a local's own -/
def RepT (s : Bool) (K : PySem.W.Frag) (ok : Addr → Prop) (σ : L2.St) (Γ : Gm) (H : Hp) (d : D) (v : V) : Prop :=
  Rep K ok H d v ∨ (s = true ∧ ∃ (i : Nat) (ds : List D), d = .lst ds ∧ Γ[i]? = some (some (.own ds)) ∧ σ[i]? = some (some v))
def RepsT (s : Bool) (K : PySem.W.Frag) (ok : Addr → Prop) (σ : L2.St) (Γ : Gm) (H : Hp) : List D → List V → Prop
  | [], vs => vs = []
  | d :: ds, vs => ∃ v r, vs = v :: r ∧ RepT s K ok σ Γ H d v ∧ RepsT s K ok σ Γ H ds r
section
variable {T : Type} {K : PySem.W.Frag} {W : Wd T} {c : Cf T} {σ : L2.St} {H H' : Hp} {Γ : Gm} {t t' : T} {s : Bool} {v : V} {vs : List V} {ds : List D} {d : D}
theorem RepT.rep (h : RepT false K (c.okA W σ Γ t) σ Γ H d v) : Rep K (c.okA W σ Γ t) H d v := by
  rcases h with h | ⟨h, _⟩
  · exact h
  · cases h
theorem RepT.up (s : Bool) {ok : Addr → Prop} (h : Rep K ok H d v) : RepT s K ok σ Γ H d v := .inl h
theorem RepT.tr (e : Sit K W c σ H Γ t) (q : Sit K W (c.rb σ H Γ t) σ H' Γ t') (h : RepT s K (c.okA W σ Γ t) σ Γ H d v) : RepT s K (c.okA W σ Γ t') σ Γ H' d v := by
  rcases h with h | h
  · exact .inl (e.rep q h)
  · exact .inr h
theorem RepsT.tr (e : Sit K W c σ H Γ t) (q : Sit K W (c.rb σ H Γ t) σ H' Γ t') : ∀ {ds : List D} {vs : List V}, RepsT s K (c.okA W σ Γ t) σ Γ H ds vs → RepsT s K (c.okA W σ Γ t') σ Γ H' ds vs
  | [], _, h => h
  | d :: ds, _, h => by
    obtain ⟨v, r, e1, h1, h2⟩ := h
    exact ⟨v, r, e1, h1.tr e q, RepsT.tr e q h2⟩
theorem RepT.same {ok : Addr → Prop} (k : Same H H') (h : RepT s K ok σ Γ H d v) : RepT s K ok σ Γ H' d v := by
  rcases h with h | h
  · exact .inl (h.same k)
  · exact .inr h
/-- a list in hand: its items -/
theorem RepT.lst (e : Sit K W c σ H Γ t) (h : RepT s K (c.okA W σ Γ t) σ Γ H (.lst ds) v) : ∃ a vs, v = .ref a ∧ LNode K c.ok0 H a vs ∧ Reps K (c.okA W σ Γ t) H ds vs := by
  rcases h with h | ⟨_, i, es, h1, h2, h3⟩
  · unfold Rep at h
    obtain ⟨a, vs, e1, h1, h2⟩ := h
    exact ⟨a, vs, e1, h1.weak (fun _ z => z.1), h2⟩
  · cases h1
    obtain ⟨p, vs, q1, _, q3, _, q5, q6⟩ := e.own i ds h2
    rw [h3] at q1
    have q1' := Option.some.inj (Option.some.inj q1)
    exact ⟨p, vs, q1', ⟨q3, q5⟩, q6⟩
theorem RepT.tup {ok : Addr → Prop} (h : RepT s K ok σ Γ H (.tup ds) v) : ∃ a vs, v = .ref a ∧ SqT K H a vs ∧ Reps K ok H ds vs := by
  rcases h with h | ⟨_, i, es, h1, _⟩
  · unfold Rep at h; exact h
  · cases h1
theorem RepT.non {ok : Addr → Prop} (h : RepT s K ok σ Γ H .non v) : v = .non := by
  rcases h with h | ⟨_, i, es, h1, _⟩
  · unfold Rep at h; exact h
  · cases h1
theorem RepT.bl {ok : Addr → Prop} {b : Bool} (h : RepT s K ok σ Γ H (.bl b) v) : v = .bl b := by
  rcases h with h | ⟨_, i, es, h1, _⟩
  · unfold Rep at h; exact h
  · cases h1
theorem RepT.int {ok : Addr → Prop} {i : Int} (h : RepT s K ok σ Γ H (.int i) v) : v = .int i := by
  rcases h with h | ⟨_, i, es, h1, _⟩
  · unfold Rep at h; exact h
  · cases h1
theorem RepT.str {ok : Addr → Prop} {z : Str} (h : RepT s K ok σ Γ H (.str z) v) : v = .str z := by
  rcases h with h | ⟨_, i, es, h1, _⟩
  · unfold Rep at h; exact h
  · cases h1
theorem RepT.adr {ok : Addr → Prop} {a : Addr} (h : RepT s K ok σ Γ H (.adr a) v) : v = .ref a := by
  rcases h with h | ⟨_, i, es, h1, _⟩
  · unfold Rep at h; exact h
  · cases h1
/-- for a call -/
theorem RepT.out (e : Sit K W c σ H Γ t) (h : RepT s K (c.okA W σ Γ t) σ Γ H d v) : Rep K (fun a => c.ok0 a ∧ ¬ W.foot t a) H d v := by
  rcases h with h | ⟨z, i, es, h1, h2, h3⟩
  · exact h.weak fun _ z => ⟨z.1, z.2.1⟩
  · subst h1
    obtain ⟨p, vs, q1, _, q3, q4, q5, q6⟩ := e.own i es h2
    rw [h3] at q1
    have q1' := Option.some.inj (Option.some.inj q1)
    unfold Rep
    exact ⟨p, vs, q1', ⟨⟨q3, q4⟩, q5⟩, q6.weak fun _ z => ⟨z.1, z.2.1⟩⟩
theorem RepT.all (e : Sit K W c σ H Γ t) (h : RepT s K (c.okA W σ Γ t) σ Γ H d v) : Rep K c.ok0 H d v := (RepT.out e h).weak fun _ z => z.1
theorem RepsT.all (e : Sit K W c σ H Γ t) : ∀ {ds : List D} {vs : List V}, RepsT s K (c.okA W σ Γ t) σ Γ H ds vs → Reps K c.ok0 H ds vs
  | [], _, h => by unfold Reps; exact h
  | d :: ds, _, h => by
    obtain ⟨v, r, rfl, h1, h2⟩ := h
    exact .cons (h1.all e) (RepsT.all e h2)
theorem RepsT.reps : ∀ {ds : List D} {vs : List V}, RepsT false K (c.okA W σ Γ t) σ Γ H ds vs → Reps K (c.okA W σ Γ t) H ds vs
  | [], _, h => by unfold Reps; exact h
  | d :: ds, _, h => by
    obtain ⟨v, r, rfl, h1, h2⟩ := h
    exact .cons h1.rep (RepsT.reps h2)
end
end DC
/-! ## slots stored -/
namespace DC
open PySem L2
section
variable {T : Type} {K : PySem.W.Frag} {W : Wd T} {c : Cf T} {σ : L2.St} {H H' : Hp} {Γ : Gm} {t t' : T} {s : Bool} {v : V} {vs : List V} {ds : List D} {d : D}
theorem get_set {α : Type} {l : List α} {i j : Nat} {a b : α} (h : (l.set i a)[j]? = some b) : (i = j ∧ a = b ∧ i < l.length) ∨ (i ≠ j ∧ l[j]? = some b) := by
  by_cases e : i = j
  · subst e
    by_cases hl : i < l.length
    · rw [List.getElem?_set_self hl] at h
      exact .inl ⟨rfl, Option.some.inj h, hl⟩
    · rw [List.getElem?_eq_none (by simpa using hl)] at h; cases h
  · rw [List.getElem?_set_ne e] at h
    exact .inr ⟨e, h⟩
theorem Own.set_dat {i : Nat} {v : V} {o : Option Sl} {a : Addr} (ho : ∀ ds, o ≠ some (.own ds)) (h : Own (σ.set i (some v)) (Γ.set i o) a) : Own σ Γ a := by
  obtain ⟨j, ds, h1, h2⟩ := h
  rcases get_set h1 with ⟨_, e, _⟩ | ⟨ne, h1⟩
  · exact absurd e (ho ds)
  · rw [List.getElem?_set_ne ne] at h2
    exact ⟨j, ds, h1, h2⟩
theorem okA_set {i : Nat} {o : Option Sl} {a : Addr} (ho : ∀ ds, o ≠ some (.own ds)) (h : c.okA W σ Γ t a) : c.okA W (σ.set i (some v)) (Γ.set i o) t a := ⟨h.1, h.2.1, fun z => h.2.2 (Own.set_dat ho z)⟩
/-- a slot takes data -/
theorem Sit.set (e : Sit K W c σ H Γ t) (h : Rep K (c.okA W σ Γ t) H d v) (i : Nat) : Sit K W c (σ.set i (some v)) H (Γ.set i (some (.dat d))) t :=
  { e.toSitW with
    len := by simp [e.len]
    dat := fun j d' hj => by
      rcases get_set hj with ⟨rfl, q, hl⟩ | ⟨ne, hj⟩
      · cases q
        exact ⟨v, by rw [List.getElem?_set_self (by rw [← e.len]; exact hl)], h.weak fun a z => okA_set (o := some (.dat d)) (fun _ z => nomatch z) z⟩
      · obtain ⟨u, h1, h2⟩ := e.dat j d' hj
        exact ⟨u, by rw [List.getElem?_set_ne ne]; exact h1, h2.weak fun a z => okA_set (o := some (.dat d)) (fun _ z => nomatch z) z⟩
    own := fun j es hj => by
      rcases get_set hj with ⟨_, q, _⟩ | ⟨ne, hj⟩
      · cases q
      · obtain ⟨p, us, h1, h2, h3, h4, h5, h6⟩ := e.own j es hj
        exact ⟨p, us, by rw [List.getElem?_set_ne ne]; exact h1, h2, h3, h4, h5, h6.weak fun a z => okA_set (o := some (.dat d)) (fun _ z => nomatch z) z⟩
    dis := fun j k dj dk a ne hj hk h1 => by
      rcases get_set hj with ⟨_, q, _⟩ | ⟨nj, hj⟩
      · cases q
      rcases get_set hk with ⟨_, q, _⟩ | ⟨nk, hk⟩
      · cases q
      rw [List.getElem?_set_ne nj] at h1
      rw [List.getElem?_set_ne nk]
      exact e.dis j k dj dk a ne hj hk h1 }
/-- what is known of a slot is forgotten -/
theorem Sit.drop (e : Sit K W c σ H Γ t) (i : Nat) : Sit K W c σ H (Γ.set i none) t :=
  have hw : ∀ a, Own σ (Γ.set i none) a → Own σ Γ a := fun a ⟨j, es, h1, h2⟩ => by
    rcases get_set h1 with ⟨_, q, _⟩ | ⟨_, h1⟩
    · cases q
    · exact ⟨j, es, h1, h2⟩
  have hk : ∀ a, c.okA W σ Γ t a → c.okA W σ (Γ.set i none) t a := fun a z => ⟨z.1, z.2.1, fun y => z.2.2 (hw a y)⟩
  { e.toSitW with
    len := by simp [e.len]
    dat := fun j d' hj => by
      rcases get_set hj with ⟨_, q, _⟩ | ⟨ne, hj⟩
      · cases q
      · obtain ⟨u, h1, h2⟩ := e.dat j d' hj
        exact ⟨u, h1, h2.weak hk⟩
    own := fun j es hj => by
      rcases get_set hj with ⟨_, q, _⟩ | ⟨ne, hj⟩
      · cases q
      · obtain ⟨p, us, h1, h2, h3, h4, h5, h6⟩ := e.own j es hj
        exact ⟨p, us, h1, h2, h3, h4, h5, h6.weak hk⟩
    dis := fun j k dj dk a ne hj hk h1 => by
      rcases get_set hj with ⟨_, q, _⟩ | ⟨nj, hj⟩
      · cases q
      rcases get_set hk with ⟨_, q, _⟩ | ⟨nk, hk⟩
      · cases q
      exact e.dis j k dj dk a ne hj hk h1 }
/-- a slot loses its value: what a comprehension's block begins with -/
theorem Sit.wipe1 (e : Sit K W c σ H Γ t) (i : Nat) : Sit K W c (σ.set i none) H (Γ.set i none) t :=
  have hw : ∀ a, Own (σ.set i none) (Γ.set i none) a → Own σ Γ a := fun a ⟨j, es, h1, h2⟩ => by
    rcases get_set h1 with ⟨_, q, _⟩ | ⟨ne, h1⟩
    · cases q
    · rw [List.getElem?_set_ne ne] at h2
      exact ⟨j, es, h1, h2⟩
  have hk : ∀ a, c.okA W σ Γ t a → c.okA W (σ.set i none) (Γ.set i none) t a := fun a z => ⟨z.1, z.2.1, fun y => z.2.2 (hw a y)⟩
  { e.toSitW with
    len := by simp [e.len]
    dat := fun j d' hj => by
      rcases get_set hj with ⟨_, q, _⟩ | ⟨ne, hj⟩
      · cases q
      · obtain ⟨u, h1, h2⟩ := e.dat j d' hj
        exact ⟨u, by rw [List.getElem?_set_ne ne]; exact h1, h2.weak hk⟩
    own := fun j es hj => by
      rcases get_set hj with ⟨_, q, _⟩ | ⟨ne, hj⟩
      · cases q
      · obtain ⟨p, us, h1, h2, h3, h4, h5, h6⟩ := e.own j es hj
        exact ⟨p, us, by rw [List.getElem?_set_ne ne]; exact h1, h2, h3, h4, h5, h6.weak hk⟩
    dis := fun j k dj dk a ne hj hk h1 => by
      rcases get_set hj with ⟨_, q, _⟩ | ⟨nj, hj⟩
      · cases q
      rcases get_set hk with ⟨_, q, _⟩ | ⟨nk, hk⟩
      · cases q
      rw [List.getElem?_set_ne nj] at h1
      rw [List.getElem?_set_ne nk]
      exact e.dis j k dj dk a ne hj hk h1 }
/-- a slot takes a new list as its own -/
theorem Sit.setOwn (e : Sit K W c σ H Γ t) {p : Addr} (hn : H p = none) (h : Reps K (c.okA W σ Γ t) H ds vs) (i : Nat) : Sit K W c (σ.set i (some (.ref p))) (upd H p (.lst vs)) (Γ.set i (some (.own ds))) t :=
  have sm : Same H (upd H p (.lst vs)) := same_upd hn
  have okp := e.okf' hn
  have e1 := e.same sm
  have hw : ∀ a, Own (σ.set i (some (.ref p))) (Γ.set i (some (.own ds))) a → a = p ∨ Own σ Γ a := fun a ⟨j, es, h1, h2⟩ => by
    rcases get_set h1 with ⟨rfl, q, hl⟩ | ⟨ne, h1⟩
    · rw [List.getElem?_set_self (by rw [← e.len]; exact hl)] at h2
      cases h2
      exact .inl rfl
    · rw [List.getElem?_set_ne ne] at h2
      exact .inr ⟨j, es, h1, h2⟩
  have hk : ∀ b, H b ≠ none → c.okA W σ Γ t b → c.okA W (σ.set i (some (.ref p))) (Γ.set i (some (.own ds))) t b := fun b hb z => ⟨z.1, z.2.1, fun y => by
    rcases hw b y with rfl | y
    · exact hb hn
    · exact z.2.2 y⟩
  have kp : Kp (c.okA W σ Γ t) H (upd H p (.lst vs)) := fun a o q _ => sm a o q
  { e1.toSitW with
    len := by simp [e.len]
    dat := fun j d' hj => by
      rcases get_set hj with ⟨_, q, _⟩ | ⟨ne, hj⟩
      · cases q
      · obtain ⟨u, h1, h2⟩ := e.dat j d' hj
        exact ⟨u, by rw [List.getElem?_set_ne ne]; exact h1, h2.kp kp hk⟩
    own := fun j es hj => by
      rcases get_set hj with ⟨rfl, q, hl⟩ | ⟨ne, hj⟩
      · cases q
        exact ⟨p, vs, by rw [List.getElem?_set_self (by rw [← e.len]; exact hl)], .inr (e.dom p hn), okp.1, okp.2.1, upd_same, h.kp kp hk⟩
      · obtain ⟨q, us, h1, h2, h3, h4, h5, h6⟩ := e.own j es hj
        exact ⟨q, us, by rw [List.getElem?_set_ne ne]; exact h1, h2, h3, h4, sm _ _ h5, h6.kp kp hk⟩
    dis := fun j k dj dk a ne hj hk h1 h2 => by
      have out : ∀ (m : Nat) (dm : List D), Γ[m]? = some (some (.own dm)) → σ[m]? = some (some (.ref p)) → False := fun m dm q1 q2 => by
        obtain ⟨q, us, w1, _, _, _, w5, _⟩ := e.own m dm q1
        rw [q2] at w1
        cases w1
        rw [hn] at w5; cases w5
      rcases get_set hj with ⟨rfl, q, hl⟩ | ⟨nj, hj⟩
      · rw [List.getElem?_set_self (by rw [← e.len]; exact hl)] at h1
        cases h1
        rcases get_set hk with ⟨rfl, q, _⟩ | ⟨nk, hk⟩
        · exact ne rfl
        · rw [List.getElem?_set_ne nk] at h2
          exact out k dk hk h2
      · rw [List.getElem?_set_ne nj] at h1
        rcases get_set hk with ⟨rfl, q, hl⟩ | ⟨nk, hk⟩
        · rw [List.getElem?_set_self (by rw [← e.len]; exact hl)] at h2
          cases h2
          exact out j dj hj h1
        · rw [List.getElem?_set_ne nk] at h2
          exact e.dis j k dj dk a ne hj hk h1 h2 }
/-- a list of a slot's own is changed -/
theorem Sit.mutOwn (e : Sit K W c σ H Γ t) {i : Nat} {es : List D} (hi : Γ[i]? = some (some (.own es))) {p : Addr} (hp : σ[i]? = some (some (.ref p))) (h : Reps K (c.okA W σ Γ t) H ds vs) : Sit K W c σ (upd H p (.lst vs)) (Γ.set i (some (.own ds))) t := by
  obtain ⟨p', us, h1, h2, h3, h4, h5, h6⟩ := e.own i es hi
  rw [hp] at h1
  cases h1
  have hl : i < Γ.length := (List.getElem?_eq_some_iff.mp hi).1
  have hw : ∀ a, Own σ (Γ.set i (some (.own ds))) a → Own σ Γ a := fun a ⟨j, fs, w1, w2⟩ => by
    rcases get_set w1 with ⟨rfl, _, _⟩ | ⟨_, w1⟩
    · exact ⟨i, es, hi, w2⟩
    · exact ⟨j, fs, w1, w2⟩
  have op : Own σ Γ p := ⟨i, es, hi, hp⟩
  have hk : ∀ b, H b ≠ none → c.okA W σ Γ t b → c.okA W σ (Γ.set i (some (.own ds))) t b := fun b _ z => ⟨z.1, z.2.1, fun y => z.2.2 (hw b y)⟩
  have st : ∀ a o, H a = some o → (Imm o = true ∨ a ≠ p) → upd H p (.lst vs) a = some o := fun a o q hs => by
    have ne : a ≠ p := by
      rcases hs with hs | hs
      · rintro rfl
        rw [h5] at q
        cases q
        cases hs
      · exact hs
    rw [upd_ne ne]; exact q
  have kp : Kp (c.okA W σ Γ t) H (upd H p (.lst vs)) := fun a o q hs => st a o q (by
    rcases hs with hs | hs
    · exact .inl hs
    · exact .inr fun z => hs.2.2 (z ▸ op))
  refine ⟨⟨W.stay e.wr fun a o q hs => st a o q ?_, fun a o q hs => st a o (e.keep a o q hs) ?_, fun a q => e.dom a ?_, e.okf, e.ft⟩, by simp [e.len], fun j d' hj => ?_, fun j fs hj => ?_, fun j k dj dk a ne hj hk' h1 => ?_⟩
  · rcases hs with hs | hs
    · exact .inl hs
    · exact .inr fun z => h4 (z ▸ hs)
  · rcases hs with hs | ⟨_, hs⟩
    · exact .inl hs
    · refine .inr fun z => ?_
      subst z
      rcases h2 with h2 | h2
      · exact hs h2
      · rw [h2] at q; cases q
  · by_cases z : a = p
    · subst z; rw [upd_same] at q; cases q
    · rw [upd_ne z] at q; exact q
  · rcases get_set hj with ⟨_, q, _⟩ | ⟨ne, hj⟩
    · cases q
    · obtain ⟨u, w1, w2⟩ := e.dat j d' hj
      exact ⟨u, w1, w2.kp kp hk⟩
  · rcases get_set hj with ⟨rfl, q, _⟩ | ⟨ne, hj⟩
    · cases q
      exact ⟨p, vs, hp, h2, h3, h4, upd_same, h.kp kp hk⟩
    · obtain ⟨q, us', w1, w2, w3, w4, w5, w6⟩ := e.own j fs hj
      have nq : q ≠ p := fun z => e.dis i j es fs p ne hi hj hp (z ▸ w1)
      exact ⟨q, us', w1, w2, w3, w4, by rw [upd_ne nq]; exact w5, w6.kp kp hk⟩
  · have back : ∀ (m : Nat) (dm : List D), (Γ.set i (some (Sl.own ds)))[m]? = some (some (.own dm)) → ∃ dm', Γ[m]? = some (some (.own dm')) := fun m dm z => by
      rcases get_set z with ⟨rfl, _, _⟩ | ⟨_, z⟩
      · exact ⟨es, hi⟩
      · exact ⟨dm, z⟩
    obtain ⟨dj', hj⟩ := back j dj hj
    obtain ⟨dk', hk'⟩ := back k dk hk'
    exact e.dis j k dj' dk' a ne hj hk' h1
/-- a slot's own list is given away: data from now on -/
theorem Sit.freeze (e : Sit K W c σ H Γ t) {i : Nat} (hi : Γ[i]? = some (some (.own ds))) : Sit K W c σ H (Γ.set i (some (.dat (.lst ds)))) t := by
  obtain ⟨p, us, h1, h2, h3, h4, h5, h6⟩ := e.own i ds hi
  have e' := e.drop i
  have hk : ∀ a, c.okA W σ Γ t a → c.okA W σ (Γ.set i none) t a := fun a z => ⟨z.1, z.2.1, fun y => z.2.2 (by
    obtain ⟨j, es, w1, w2⟩ := y
    rcases get_set w1 with ⟨_, q, _⟩ | ⟨_, w1⟩
    · cases q
    · exact ⟨j, es, w1, w2⟩)⟩
  have okp : c.okA W σ (Γ.set i none) t p := ⟨h3, h4, fun z => by
    obtain ⟨j, es, w1, w2⟩ := z
    rcases get_set w1 with ⟨_, q, _⟩ | ⟨ne, w1⟩
    · cases q
    · exact e.dis i j ds es p ne hi w1 h1 w2⟩
  have r : Rep K (c.okA W σ (Γ.set i none) t) H (.lst ds) (.ref p) := by
    unfold Rep
    exact ⟨p, us, rfl, ⟨okp, h5⟩, h6.weak hk⟩
  have q := e'.set r i
  rw [List.set_set] at q
  have hs : σ.set i (some (.ref p)) = σ := by
    apply List.ext_getElem?
    intro j
    by_cases z : i = j
    · subst z
      rw [List.getElem?_set_self (List.getElem?_eq_some_iff.mp h1).1, h1]
    · rw [List.getElem?_set_ne z]
  rw [hs] at q
  exact q
end
end DC
/-! ## expressions -/
namespace DC
open PySem L2
/-- an exception in the air -/
def ErRep (K : PySem.W.Frag) (mg : Str → Option Value) (ok : Addr → Prop) (H : Hp) (e : Er) (cls : Value) (dd : Option Addr) : Prop :=
  ∃ C, cls = .ref C ∧ mg e.cls = some (.ref C) ∧ (e.fs = [] ∨ ∃ d fv, dd = some d ∧ H d = some (.xd fv) ∧ fv.map (·.1) = e.fs.map (·.1) ∧ Reps K ok H (e.fs.map (·.2)) (fv.map (·.2)))
section
variable {T : Type} (K : PySem.W.Frag) (mg : Str → Option Value) (W : Wd T) (B : WX)
def Post (c : Cf T) (σ : L2.St) (Γ : Gm) (s : Bool) (r : Rs T D) (Q : VK) : Prop := match r with
  | .ok d t => ∀ v H, Sit K W c σ H Γ t → RepT s K (c.okA W σ Γ t) σ Γ H d v → Q v H
  | .er e t => ∀ cls dd H, Sit K W c σ H Γ t → ErRep K mg (c.okA W σ Γ t) H e cls dd → B cls dd σ H
  | .bad => False
def PostT (c : Cf T) (σ : L2.St) (Γ : Gm) (r : Rs T Bool) (Q : Bool → Hp → Prop) : Prop := match r with
  | .ok b t => ∀ H, Sit K W c σ H Γ t → Q b H
  | .er e t => ∀ cls dd H, Sit K W c σ H Γ t → ErRep K mg (c.okA W σ Γ t) H e cls dd → B cls dd σ H
  | .bad => False
def PostA (c : Cf T) (σ : L2.St) (Γ : Gm) (s : Bool) (r : Rs T (List D)) (Q : List V → Hp → Prop) : Prop := match r with
  | .ok ds t => ∀ vs H, Sit K W c σ H Γ t → RepsT s K (c.okA W σ Γ t) σ Γ H ds vs → Q vs H
  | .er e t => ∀ cls dd H, Sit K W c σ H Γ t → ErRep K mg (c.okA W σ Γ t) H e cls dd → B cls dd σ H
  | .bad => False
def tM (s : Bool) (m : Ex T) : TE := fun σ H Q => ∃ (c : Cf T) (Γ : Gm) (t : T), Sit K W c σ H Γ t ∧ Post K mg W B c σ Γ s (m Γ t) Q
def tMT (m : Te T) : TT := fun σ H Q => ∃ (c : Cf T) (Γ : Gm) (t : T), Sit K W c σ H Γ t ∧ PostT K mg W B c σ Γ (m Γ t) Q
def tMA (s : Bool) (m : Ar T) : TA := fun σ H Q => ∃ (c : Cf T) (Γ : Gm) (t : T), Sit K W c σ H Γ t ∧ PostA K mg W B c σ Γ s (m Γ t) Q
end
abbrev Pm {T : Type} (X : Cx) (W : Wd T) (B : WX) (s : Bool) (e : Expr) (m : Ex T) : Prop := PE X e (tM X.K X.mg W B s m)
abbrev Tm {T : Type} (X : Cx) (W : Wd T) (B : WX) (e : Expr) (m : Te T) : Prop := PT X e (tMT X.K X.mg W B m)
abbrev Am {T : Type} (X : Cx) (W : Wd T) (B : WX) (s : Bool) (es : List Expr) (m : Ar T) : Prop := PA X es (tMA X.K X.mg W B s m)

section
variable {T : Type} {X : Cx} {K : PySem.W.Frag} {mg : Str → Option Value} {W : Wd T} {B : WX} {s s1 s2 s3 : Bool}
theorem pm_of {e : Expr} {te : TE} {m : Ex T} (h : PE X e te) (imp : ∀ c σ H Γ t Q, Sit X.K W c σ H Γ t → Post X.K X.mg W B c σ Γ s (m Γ t) Q → te σ H Q) : Pm X W B s e m :=
  ⟨fun pins s σ H Q I ⟨c, Γ, t, e, p⟩ => h.run pins s σ H Q I (imp c σ H Γ t Q e p)⟩
theorem tm_of {e : Expr} {te : TT} {m : Te T} (h : PT X e te) (imp : ∀ c σ H Γ t Q, Sit X.K W c σ H Γ t → PostT X.K X.mg W B c σ Γ (m Γ t) Q → te σ H Q) : Tm X W B e m :=
  ⟨fun pins s σ H Q I ⟨c, Γ, t, e, p⟩ => h.run pins s σ H Q I (imp c σ H Γ t Q e p)⟩
theorem am_of {e : List Expr} {te : TA} {m : Ar T} (h : PA X e te) (imp : ∀ c σ H Γ t Q, Sit X.K W c σ H Γ t → PostA X.K X.mg W B c σ Γ s (m Γ t) Q → te σ H Q) : Am X W B s e m :=
  ⟨fun pos pins s σ H Q I ⟨c, Γ, t, e, p⟩ => h.run pos pins s σ H Q I (imp c σ H Γ t Q e p)⟩
variable {c : Cf T} {σ : L2.St} {H H' : Hp} {Γ : Gm} {t t' : T}
theorem Post.rb {r : Rs T D} {Q : VK} (e : Sit K W c σ H Γ t) (p : Post K mg W B c σ Γ s r Q) : Post K mg W B (c.rb σ H Γ t) σ Γ s r Q := by
  cases r with
  | ok d t' => exact fun v H' q r => p v H' (e.un q) r
  | er x t' => exact fun cls dd H' q r => p cls dd H' (e.un q) r
  | bad => exact p
theorem PostT.rb {r : Rs T Bool} {Q : Bool → Hp → Prop} (e : Sit K W c σ H Γ t) (p : PostT K mg W B c σ Γ r Q) : PostT K mg W B (c.rb σ H Γ t) σ Γ r Q := by
  cases r with
  | ok d t' => exact fun H' q => p H' (e.un q)
  | er x t' => exact fun cls dd H' q r => p cls dd H' (e.un q) r
  | bad => exact p
theorem PostA.rb {r : Rs T (List D)} {Q : List V → Hp → Prop} (e : Sit K W c σ H Γ t) (p : PostA K mg W B c σ Γ s r Q) : PostA K mg W B (c.rb σ H Γ t) σ Γ s r Q := by
  cases r with
  | ok d t' => exact fun v H' q r => p v H' (e.un q) r
  | er x t' => exact fun cls dd H' q r => p cls dd H' (e.un q) r
  | bad => exact p
/-- a part is asked: what follows has its value, and a fresh start -/
theorem tM_bind {m : Ex T} {f : D → T → Rs T D} {Q R : VK} (e : Sit K W c σ H Γ t) (p : Post K mg W B c σ Γ s ((m Γ t).bind f) Q)
    (k : ∀ d t1 v H1, Sit K W c σ H1 Γ t1 → RepT s1 K (c.okA W σ Γ t1) σ Γ H1 d v → Post K mg W B c σ Γ s (f d t1) Q → R v H1) : tM K mg W B s1 m σ H R := by
  refine ⟨c, Γ, t, e, ?_⟩
  cases q : m Γ t with
  | ok d t1 => rw [q] at p; exact fun v H1 e1 r1 => k d t1 v H1 e1 r1 p
  | er x t1 => rw [q] at p; exact p
  | bad => rw [q] at p; exact p
theorem tM_bindT {m : Ex T} {f : D → T → Rs T Bool} {Q : Bool → Hp → Prop} {R : VK} (e : Sit K W c σ H Γ t) (p : PostT K mg W B c σ Γ ((m Γ t).bind f) Q)
    (k : ∀ d t1 v H1, Sit K W c σ H1 Γ t1 → RepT s1 K (c.okA W σ Γ t1) σ Γ H1 d v → PostT K mg W B c σ Γ (f d t1) Q → R v H1) : tM K mg W B s1 m σ H R := by
  refine ⟨c, Γ, t, e, ?_⟩
  cases q : m Γ t with
  | ok d t1 => rw [q] at p; exact fun v H1 e1 r1 => k d t1 v H1 e1 r1 p
  | er x t1 => rw [q] at p; exact p
  | bad => rw [q] at p; exact p
theorem tM_bindA {m : Ex T} {f : D → T → Rs T (List D)} {Q : List V → Hp → Prop} {R : VK} (e : Sit K W c σ H Γ t) (p : PostA K mg W B c σ Γ s ((m Γ t).bind f) Q)
    (k : ∀ d t1 v H1, Sit K W c σ H1 Γ t1 → RepT s1 K (c.okA W σ Γ t1) σ Γ H1 d v → PostA K mg W B c σ Γ s (f d t1) Q → R v H1) : tM K mg W B s1 m σ H R := by
  refine ⟨c, Γ, t, e, ?_⟩
  cases q : m Γ t with
  | ok d t1 => rw [q] at p; exact fun v H1 e1 r1 => k d t1 v H1 e1 r1 p
  | er x t1 => rw [q] at p; exact p
  | bad => rw [q] at p; exact p
theorem tMA_bind {m : Ar T} {f : List D → T → Rs T D} {Q : VK} {R : List V → Hp → Prop} (e : Sit K W c σ H Γ t) (p : Post K mg W B c σ Γ s ((m Γ t).bind f) Q)
    (k : ∀ d t1 v H1, Sit K W c σ H1 Γ t1 → RepsT s1 K (c.okA W σ Γ t1) σ Γ H1 d v → Post K mg W B c σ Γ s (f d t1) Q → R v H1) : tMA K mg W B s1 m σ H R := by
  refine ⟨c, Γ, t, e, ?_⟩
  cases q : m Γ t with
  | ok d t1 => rw [q] at p; exact fun v H1 e1 r1 => k d t1 v H1 e1 r1 p
  | er x t1 => rw [q] at p; exact p
  | bad => rw [q] at p; exact p
theorem tMA_bindA {m : Ar T} {f : List D → T → Rs T (List D)} {Q : List V → Hp → Prop} {R : List V → Hp → Prop} (e : Sit K W c σ H Γ t) (p : PostA K mg W B c σ Γ s ((m Γ t).bind f) Q)
    (k : ∀ d t1 v H1, Sit K W c σ H1 Γ t1 → RepsT s1 K (c.okA W σ Γ t1) σ Γ H1 d v → PostA K mg W B c σ Γ s (f d t1) Q → R v H1) : tMA K mg W B s1 m σ H R := by
  refine ⟨c, Γ, t, e, ?_⟩
  cases q : m Γ t with
  | ok d t1 => rw [q] at p; exact fun v H1 e1 r1 => k d t1 v H1 e1 r1 p
  | er x t1 => rw [q] at p; exact p
  | bad => rw [q] at p; exact p
theorem tMT_bind {m : Te T} {f : Bool → T → Rs T D} {Q : VK} {R : Bool → Hp → Prop} (e : Sit K W c σ H Γ t) (p : Post K mg W B c σ Γ s ((m Γ t).bind f) Q)
    (k : ∀ d t1 H1, Sit K W c σ H1 Γ t1 → Post K mg W B c σ Γ s (f d t1) Q → R d H1) : tMT K mg W B m σ H R := by
  refine ⟨c, Γ, t, e, ?_⟩
  cases q : m Γ t with
  | ok d t1 => rw [q] at p; exact fun H1 e1 => k d t1 H1 e1 p
  | er x t1 => rw [q] at p; exact p
  | bad => rw [q] at p; exact p
theorem tMT_bindT {m : Te T} {f : Bool → T → Rs T Bool} {Q : Bool → Hp → Prop} {R : Bool → Hp → Prop} (e : Sit K W c σ H Γ t) (p : PostT K mg W B c σ Γ ((m Γ t).bind f) Q)
    (k : ∀ d t1 H1, Sit K W c σ H1 Γ t1 → PostT K mg W B c σ Γ (f d t1) Q → R d H1) : tMT K mg W B m σ H R := by
  refine ⟨c, Γ, t, e, ?_⟩
  cases q : m Γ t with
  | ok d t1 => rw [q] at p; exact fun H1 e1 => k d t1 H1 e1 p
  | er x t1 => rw [q] at p; exact p
  | bad => rw [q] at p; exact p
/-- a value in hand, a further part asked from a fresh start: the value is still in hand -/
theorem keepT (e : Sit K W c σ H Γ t) (q : Sit K W (c.rb σ H Γ t) σ H' Γ t') {d : D} {v : V} (h : RepT s K (c.okA W σ Γ t) σ Γ H d v) : RepT s K (c.okA W σ Γ t') σ Γ H' d v := h.tr e q

/-! ### names, constants -/
def mVar (i : Nat) : Ex T := fun Γ t => match Γ[i]? with
  | some (some (.dat d)) => .ok d t
  | _ => .bad
def mOwn (i : Nat) : Ex T := fun Γ t => match Γ[i]? with
  | some (some (.own ds)) => .ok (.lst ds) t
  | _ => .bad
def mC (d : D) : Ex T := fun _ t => .ok d t
theorem tVar_M {i : Nat} {Q : VK} (e : Sit K W c σ H Γ t) (p : Post K mg W B c σ Γ s ((mVar i : Ex T) Γ t) Q) : tVar i σ H Q := by
  unfold mVar at p
  split at p
  · rename_i d h
    obtain ⟨v, h1, h2⟩ := e.dat i d h
    exact ⟨v, h1, p v H e (.inl h2)⟩
  · exact p.elim
theorem pm_var (i : Nat) {x : Str} {pos : Pos} (hN : X.N[i]? = some x := by rfl) (hv : Vis X.env.scope x := by first | exact Or.inl rfl | exact Or.inr (Or.inl rfl) | exact Or.inr (Or.inr rfl)) (hd : (x == ("__debug__" : Str)) = false := by decide)
    (hcd : (x == ("__classdict__" : Str)) = false := by decide) : Pm X W B false (.Name x pos) (mVar i) :=
  pm_of (pv i hN hv hd hcd) fun c σ H Γ t Q e p => tVar_M e p
theorem pm_own (i : Nat) {x : Str} {pos : Pos} (hN : X.N[i]? = some x := by rfl) (hv : Vis X.env.scope x := by first | exact Or.inl rfl | exact Or.inr (Or.inl rfl) | exact Or.inr (Or.inr rfl)) (hd : (x == ("__debug__" : Str)) = false := by decide)
    (hcd : (x == ("__classdict__" : Str)) = false := by decide) : Pm X W B true (.Name x pos) (mOwn i) :=
  pm_of (pv i hN hv hd hcd) fun c σ H Γ t Q e p => by
    unfold mOwn at p
    split at p
    · rename_i ds h
      obtain ⟨q, vs, h1, _⟩ := e.own i ds h
      exact ⟨_, h1, p _ H e (.inr ⟨rfl, i, ds, rfl, h, h1⟩)⟩
    · exact p.elim
theorem pm_int {i : Int} {j pos} : Pm X W B s (.Constant (.int i) j pos) (mC (.int i)) := pm_of pe_int fun c σ H Γ t Q e p => p _ H e (.inl (by unfold Rep; rfl))
theorem pm_bl {b : Bool} {j pos} : Pm X W B s (.Constant (.bool b) j pos) (mC (.bl b)) := pm_of pe_bl fun c σ H Γ t Q e p => p _ H e (.inl (by unfold Rep; rfl))
theorem pm_non {j pos} : Pm X W B s (.Constant .none j pos) (mC .non) := pm_of pe_non fun c σ H Γ t Q e p => p _ H e (.inl (by unfold Rep; rfl))
theorem pm_str {z : Str} {j pos} : Pm X W B s (.Constant (.str z) j pos) (mC (.str z)) := pm_of pe_str fun c σ H Γ t Q e p => p _ H e (.inl (by unfold Rep; rfl))
/-- a constant of the module -/
theorem pm_glob {x : Str} {v : V} {u : Value} {d : D} {pos : Pos} (hm : X.mg x = some u) (r : RelV v u) (hr : ∀ ok H, Rep X.K ok H d v) (hg : Gl X x := by rfl) (hd : (x == ("__debug__" : Str)) = false := by decide) : Pm X W B s (.Name x pos) (mC d) :=
  pm_of (pe_glob hg hm r hd) fun c σ H Γ t Q e p => p v H e (.inl (hr _ _))
theorem pm_up {e : Expr} {m : Ex T} (h : Pm X W B false e m) : Pm X W B true e m := pm_of h fun c σ H Γ t Q e p => ⟨c, Γ, t, e, by
  revert p
  cases m Γ t with
  | ok d t1 => exact fun p v H1 e1 r1 => p v H1 e1 (.inl r1.rep)
  | er x t1 => exact fun p => p
  | bad => exact fun p => p⟩

/-! ### operations -/
def mOp (f : D → D → Option D) (a b : Ex T) : Ex T := fun Γ t => (a Γ t).bind fun x t1 => (b Γ t1).bind fun y t2 => ofO (f x y) t2
def mUn (f : D → Option D) (a : Ex T) : Ex T := fun Γ t => (a Γ t).bind fun x t1 => ofO (f x) t1
/-- a two-place operation on values keeps to f on data -/
def OpD (X : Cx) (r : R2) (f : D → D → Option D) : Prop := ∀ {T : Type} {W : Wd T} {c : Cf T} {σ : L2.St} {H : Hp} {Γ : Gm} {t : T} {s1 s2 : Bool} {x y z : D} {v u : V} {Q : VK},
  Sit X.K W c σ H Γ t → RepT s1 X.K (c.okA W σ Γ t) σ Γ H x v → RepT s2 X.K (c.okA W σ Γ t) σ Γ H y u → f x y = some z → (∀ w H1, Same H H1 → Rep X.K (c.okA W σ Γ t) H1 z w → Q w H1) → r v u H Q
def UnD (X : Cx) (r : V → Hp → VK → Prop) (f : D → Option D) : Prop := ∀ {T : Type} {W : Wd T} {c : Cf T} {σ : L2.St} {H : Hp} {Γ : Gm} {t : T} {s1 : Bool} {x z : D} {v : V} {Q : VK},
  Sit X.K W c σ H Γ t → RepT s1 X.K (c.okA W σ Γ t) σ Γ H x v → f x = some z → (∀ w H1, Same H H1 → Rep X.K (c.okA W σ Γ t) H1 z w → Q w H1) → r v H Q
theorem tOp_M {r : R2} {f : D → D → Option D} {ma mb : Ex T} {Q : VK} (hr : OpD X r f) (e : Sit X.K W c σ H Γ t) (p : Post X.K X.mg W B c σ Γ s (mOp f ma mb Γ t) Q) : tOp r (tM X.K X.mg W B s1 ma) (tM X.K X.mg W B s2 mb) σ H Q := by
  refine tM_bind e p fun x t1 v H1 e1 r1 p1 => tM_bind e1.rb (p1.rb e1) fun y t2 u H2 e2 r2 p2 => ?_
  cases q : f x y with
  | none => rw [q] at p2; exact p2.elim
  | some z =>
    rw [q] at p2
    exact hr e2 (keepT e1 e2 r1) r2 q fun w H3 sm rw => p2 w H3 (e2.same sm) (.inl rw)
theorem pm_op {op : Operator} {a b : Expr} {ma mb : Ex T} {r : R2} {f : D → D → Option D} {pos : Pos} (ho : OpR X (binaryOp op) r) (hr : OpD X r f) (ha : Pm X W B s1 a ma) (hb : Pm X W B s2 b mb) : Pm X W B s (.BinOp a op b pos) (mOp f ma mb) :=
  pm_of (pe_op ho ha hb) fun c σ H Γ t Q e p => tOp_M hr e p
theorem pm_cmp {op : CmpOp} {a b : Expr} {ma mb : Ex T} {r : R2} {f : D → D → Option D} {pos : Pos} (ho : OpR X (compareOp op) r) (hr : OpD X r f) (ha : Pm X W B s1 a ma) (hb : Pm X W B s2 b mb) (hm : behindInMarks op b = false) : Pm X W B s (.Compare a [op] [b] pos) (mOp f ma mb) :=
  pm_of (pe_cmpR ho ha hb hm) fun c σ H Γ t Q e p => tOp_M hr e p
theorem pm_un {op : UnaryOp} {a : Expr} {ma : Ex T} {r : V → Hp → VK → Prop} {f : D → Option D} {pos : Pos} (ho : UnR X (unaryOp op) r) (hr : UnD X r f) (ha : Pm X W B s1 a ma) : Pm X W B s (.UnaryOp op a pos) (mUn f ma) :=
  pm_of (pe_un ho ha) fun c σ H Γ t Q e p => tM_bind e p fun x t1 v H1 e1 r1 p1 => by
    cases q : f x with
    | none => rw [q] at p1; exact p1.elim
    | some z =>
      rw [q] at p1
      exact hr e1 r1 q fun w H3 sm rw => p1 w H3 (e1.same sm) (.inl rw)
end
end DC
/-! ## tests, arguments, displays, calls -/
namespace DC
open PySem L2
section
variable {T : Type} {X : Cx} {K : PySem.W.Frag} {mg : Str → Option Value} {W : Wd T} {B : WX} {s s1 s2 s3 : Bool}
variable {c : Cf T} {σ : L2.St} {H H' : Hp} {Γ : Gm} {t t' : T}
/-! ### tests -/
def mTest (m : Ex T) : Te T := fun Γ t => (m Γ t).bind fun d t1 => match d with
  | .bl b => .ok b t1
  | _ => .bad
/-- truth of data -/
def dTru : D → Option Bool
  | .non => some false
  | .bl b => some b
  | .int i => some (i != 0)
  | .str z => if z.length ≤ 16777216 then some ((z.length : Int) != 0) else none
  | .tup ds => some (!ds.isEmpty)
  | .lst ds => some (!ds.isEmpty)
  | .adr _ => none
def mTru (m : Ex T) : Te T := fun Γ t => (m Γ t).bind fun d t1 => ofO (dTru d) t1
def mAnd (a b : Te T) : Te T := fun Γ t => (a Γ t).bind fun x t1 => if x = true then b Γ t1 else .ok false t1
def mOr (a b : Te T) : Te T := fun Γ t => (a Γ t).bind fun x t1 => if x = true then .ok true t1 else b Γ t1
def mNot (a : Te T) : Te T := fun Γ t => (a Γ t).bind fun x t1 => .ok (!x) t1
abbrev Wm {T : Type} (X : Cx) (W : Wd T) (B : WX) (e : Expr) (m : Te T) : Prop := PW X e (tMT X.K X.mg W B m)
theorem wm_of {e : Expr} {te : TT} {m : Te T} (h : PW X e te) (imp : ∀ c σ H Γ t Q, Sit X.K W c σ H Γ t → PostT X.K X.mg W B c σ Γ (m Γ t) Q → te σ H Q) : Wm X W B e m :=
  ⟨fun whole pins s σ H Q I ⟨c, Γ, t, e, p⟩ => h.run whole pins s σ H Q I (imp c σ H Γ t Q e p)⟩
theorem isEmpty_reps {ok : Addr → Prop} {ds : List D} {vs : List V} (h : Reps K ok H ds vs) : (!ds.isEmpty) = !vs.isEmpty := by
  have := h.length
  cases ds <;> cases vs <;> simp_all
theorem truV {d : D} {v : V} {k : Bool} (e : Sit K W c σ H Γ t) (r : RepT s K (c.okA W σ Γ t) σ Γ H d v) (h : dTru d = some k) : TruV K v H k := by
  cases d with
  | non => rw [r.non]; exact (Option.some.inj h).symm
  | bl b => rw [r.bl]; exact (Option.some.inj h).symm
  | int i => rw [r.int]; exact (Option.some.inj h).symm
  | str z =>
    rw [r.str]
    change (if z.length ≤ 16777216 then some ((z.length : Int) != 0) else none) = some k at h
    by_cases hz : z.length ≤ 16777216
    · rw [if_pos hz] at h
      exact ⟨by rw [sizeLine_eq]; exact hz, (Option.some.inj h).symm⟩
    · rw [if_neg hz] at h; cases h
  | tup ds =>
    obtain ⟨a, vs, rfl, h1, h2⟩ := r.tup
    exact .inr (.inl ⟨vs, h1, by rw [← isEmpty_reps h2]; exact (Option.some.inj h).symm⟩)
  | lst ds =>
    obtain ⟨a, vs, rfl, h1, h2⟩ := r.lst e
    exact .inl ⟨vs, h1.sql, by rw [← isEmpty_reps h2]; exact (Option.some.inj h).symm⟩
  | adr a => cases h
/-- an expression whose value is a bool -/
theorem tm_val {e : Expr} {m : Ex T} (h : Pm X W B s e m) (he : ∀ whole, isTrue e X.env whole = (do let v ← whole; standAt e.pos; holding [v] (truthy v)) := by intro _; rfl) : Tm X W B e (mTest m) :=
  tm_of (pt_val h he) fun c σ H Γ t Q e p => tM_bindT e p fun d t1 v H1 e1 r1 p1 => by
    cases d with
    | bl b => exact ⟨b, r1.bl, p1 H1 e1⟩
    | _ => exact p1.elim
theorem tm_tru {e : Expr} {m : Ex T} (h : Pm X W B s e m) (he : ∀ whole, isTrue e X.env whole = (do let v ← whole; standAt e.pos; holding [v] (truthy v)) := by intro _; rfl) : Tm X W B e (mTru m) :=
  tm_of (pt_truth h he) fun c σ H Γ t Q e p => tM_bindT e p fun d t1 v H1 e1 r1 p1 => by
    cases q : dTru d with
    | none => rw [q] at p1; exact p1.elim
    | some k => rw [q] at p1; exact ⟨k, truV e1 r1 q, p1 H1 e1⟩
theorem tm_cmp {op : CmpOp} {a b : Expr} {ma mb : Ex T} {r : R2} {f : D → D → Option D} {pos : Pos} (ho : OpR X (compareOp op) r) (hr : OpD X r f) (ha : Pm X W B s1 a ma) (hb : Pm X W B s2 b mb) (hm : behindInMarks op b = false) : Tm X W B (.Compare a [op] [b] pos) (mTest (mOp f ma mb)) :=
  tm_of (pt_cmpR ho ha hb hm) fun c σ H Γ t Q e p => by
    show tOp r (tM X.K X.mg W B s1 ma) (tM X.K X.mg W B s2 mb) σ H (fun x H' => ∃ k, x = .bl k ∧ Q k H')
    refine tOp_M (s := false) (f := f) (ma := ma) (mb := mb) hr e ?_
    show Post X.K X.mg W B c σ Γ false (mOp f ma mb Γ t) _
    unfold mTest at p
    revert p
    cases mOp f ma mb Γ t with
    | ok d t1 =>
      intro p v H1 e1 r1
      cases d with
      | bl b => exact ⟨b, r1.bl, p H1 e1⟩
      | _ => exact p.elim
    | er x t1 => exact fun p => p
    | bad => exact fun p => p
theorem tm_not {a : Expr} {ma : Te T} {pos : Pos} (ha : Tm X W B a ma) : Tm X W B (.UnaryOp .Not a pos) (mNot ma) :=
  tm_of (pt_not ha) fun c σ H Γ t Q e p => tMT_bindT e p fun d t1 H1 e1 p1 => p1 H1 e1
theorem tm_w {e : Expr} {m : Te T} (h : Wm X W B e m) : Tm X W B e m := tm_of (PW.pt h) fun c σ H Γ t Q e p => ⟨c, Γ, t, e, p⟩
theorem wm_and1 {a : Expr} {ma : Te T} {pos : Pos} (ha : Tm X W B a ma) : Wm X W B (.BoolOp .And [a] pos) ma := wm_of (pw_and1 ha) fun c σ H Γ t Q e p => ⟨c, Γ, t, e, p⟩
theorem wm_or1 {a : Expr} {ma : Te T} {pos : Pos} (ha : Tm X W B a ma) : Wm X W B (.BoolOp .Or [a] pos) ma := wm_of (pw_or1 ha) fun c σ H Γ t Q e p => ⟨c, Γ, t, e, p⟩
theorem wm_and {a b : Expr} {rest : List Expr} {ma mb : Te T} {pos : Pos} (ha : Tm X W B a ma) (hb : Wm X W B (.BoolOp .And (b :: rest) pos) mb) : Wm X W B (.BoolOp .And (a :: b :: rest) pos) (mAnd ma mb) :=
  wm_of (pw_and ha hb) fun c σ H Γ t Q e p => tMT_bindT e p fun d t1 H1 e1 p1 => by
    cases d with
    | true => exact ⟨_, Γ, t1, e1.rb, p1.rb e1⟩
    | false => exact p1 H1 e1
theorem wm_or {a b : Expr} {rest : List Expr} {ma mb : Te T} {pos : Pos} (ha : Tm X W B a ma) (hb : Wm X W B (.BoolOp .Or (b :: rest) pos) mb) : Wm X W B (.BoolOp .Or (a :: b :: rest) pos) (mOr ma mb) :=
  wm_of (pw_or ha hb) fun c σ H Γ t Q e p => tMT_bindT e p fun d t1 H1 e1 p1 => by
    cases d with
    | false => exact ⟨_, Γ, t1, e1.rb, p1.rb e1⟩
    | true => exact p1 H1 e1
/-! ### and, or, not as values; a if t else b -/
def mAndV (a b : Ex T) : Ex T := fun Γ t => (a Γ t).bind fun x t1 => match dTru x with
  | some true => b Γ t1
  | some false => .ok x t1
  | none => .bad
def mOrV (a b : Ex T) : Ex T := fun Γ t => (a Γ t).bind fun x t1 => match dTru x with
  | some false => b Γ t1
  | some true => .ok x t1
  | none => .bad
def mNotV (a : Ex T) : Ex T := fun Γ t => (a Γ t).bind fun x t1 => ofO ((dTru x).map fun b => D.bl !b) t1
def mIf (c : Te T) (a b : Ex T) : Ex T := fun Γ t => (c Γ t).bind fun x t1 => if x = true then a Γ t1 else b Γ t1
theorem pm_one {op} {a : Expr} {m : Ex T} {pos : Pos} (h : Pm X W B s a m) : Pm X W B s (.BoolOp op [a] pos) m := pm_of (pe_one h) fun c σ H Γ t Q e p => ⟨c, Γ, t, e, p⟩
theorem pm_and {a b : Expr} {rest : List Expr} {ma mb : Ex T} {pos : Pos} (ha : Pm X W B s a ma) (hb : Pm X W B s (.BoolOp .And (b :: rest) pos) mb) : Pm X W B s (.BoolOp .And (a :: b :: rest) pos) (mAndV ma mb) :=
  pm_of (pe_andT ha hb) fun c σ H Γ t Q e p => tM_bind e p fun d t1 v H1 e1 r1 p1 => by
    cases q : dTru d with
    | none => rw [q] at p1; exact p1.elim
    | some k =>
      rw [q] at p1
      refine ⟨k, truV e1 r1 q, ?_⟩
      cases k with
      | true => exact ⟨_, Γ, t1, e1.rb, Post.rb e1 p1⟩
      | false => exact p1 v H1 e1 r1
theorem pm_or {a b : Expr} {rest : List Expr} {ma mb : Ex T} {pos : Pos} (ha : Pm X W B s a ma) (hb : Pm X W B s (.BoolOp .Or (b :: rest) pos) mb) : Pm X W B s (.BoolOp .Or (a :: b :: rest) pos) (mOrV ma mb) :=
  pm_of (pe_orT ha hb) fun c σ H Γ t Q e p => tM_bind e p fun d t1 v H1 e1 r1 p1 => by
    cases q : dTru d with
    | none => rw [q] at p1; exact p1.elim
    | some k =>
      rw [q] at p1
      refine ⟨k, truV e1 r1 q, ?_⟩
      cases k with
      | false => exact ⟨_, Γ, t1, e1.rb, Post.rb e1 p1⟩
      | true => exact p1 v H1 e1 r1
theorem pm_not {a : Expr} {ma : Ex T} {pos : Pos} (ha : Pm X W B s1 a ma) : Pm X W B s (.UnaryOp .Not a pos) (mNotV ma) :=
  pm_of (pe_notT ha) fun c σ H Γ t Q e p => tM_bind e p fun d t1 v H1 e1 r1 p1 => by
    cases q : dTru d with
    | none => rw [q] at p1; exact p1.elim
    | some k => rw [q] at p1; exact ⟨k, truV e1 r1 q, p1 _ H1 e1 (.inl (by unfold Rep; rfl))⟩
theorem pm_if {x a b : Expr} {mx : Te T} {ma mb : Ex T} {pos : Pos} (hx : Tm X W B x mx) (ha : Pm X W B s a ma) (hb : Pm X W B s b mb) : Pm X W B s (.IfExp x a b pos) (mIf mx ma mb) :=
  pm_of (pe_ifExp hx ha hb) fun c σ H Γ t Q e p => tMT_bind e p fun d t1 H1 e1 p1 => by
    cases d with
    | true => exact ⟨_, Γ, t1, e1.rb, Post.rb e1 p1⟩
    | false => exact ⟨_, Γ, t1, e1.rb, Post.rb e1 p1⟩
/-! ### arguments -/
def mNil : Ar T := fun _ t => .ok [] t
def mCons (a : Ex T) (r : Ar T) : Ar T := fun Γ t => (a Γ t).bind fun x t1 => (r Γ t1).bind fun xs t2 => .ok (x :: xs) t2
/-- the items of a tuple or list -/
def dItems : D → Option (List D)
  | .tup ds => some ds
  | .lst ds => some ds
  | _ => none
def mStar (a : Ex T) (r : Ar T) : Ar T := fun Γ t => (a Γ t).bind fun x t1 => match dItems x with
  | some ds => (r Γ t1).bind fun xs t2 => .ok (ds ++ xs) t2
  | none => .bad
theorem am_nil : Am X W B s [] mNil := am_of pa_nil fun c σ H Γ t Q e p => p [] H e rfl
theorem am_cons {a : Expr} {es : List Expr} {ma : Ex T} {mr : Ar T} (ha : Pm X W B s a ma) (hr : Am X W B s es mr) (hs : starEach (a :: es) X.env = (false, eval a X.env) :: starEach es X.env := by rfl) : Am X W B s (a :: es) (mCons ma mr) :=
  am_of (pa_cons ha hr hs) fun c σ H Γ t Q e p => tM_bindA e p fun d t1 v H1 e1 r1 p1 => tMA_bindA e1.rb (p1.rb e1) fun ds t2 vs H2 e2 r2 p2 => p2 _ H2 e2 ⟨v, vs, rfl, keepT e1 e2 r1, r2⟩
theorem RepsT.append {ok : Addr → Prop} : ∀ {ds es : List D} {vs ws : List V}, RepsT s K ok σ Γ H ds vs → RepsT s K ok σ Γ H es ws → RepsT s K ok σ Γ H (ds ++ es) (vs ++ ws)
  | [], _, _, _, h, h' => by
    have e : _ = [] := h
    subst e; exact h'
  | d :: ds, _, _, _, h, h' => by
    obtain ⟨v, r, rfl, h1, h2⟩ := h
    exact ⟨v, _, rfl, h1, RepsT.append h2 h'⟩
theorem RepsT.of {ok : Addr → Prop} : ∀ {ds : List D} {vs : List V}, Reps K ok H ds vs → RepsT s K ok σ Γ H ds vs
  | [], _, h => by unfold Reps at h; exact h
  | d :: ds, _, h => by
    unfold Reps at h
    obtain ⟨v, r, rfl, h1, h2⟩ := h
    exact ⟨v, r, rfl, .inl h1, RepsT.of h2⟩
theorem RepT.seq {d : D} {v : V} {ds : List D} (e : Sit K W c σ H Γ t) (h : RepT s K (c.okA W σ Γ t) σ Γ H d v) (hd : dItems d = some ds) : ∃ a vs, v = .ref a ∧ (SqT K H a vs ∨ SqL K H a vs) ∧ Reps K (c.okA W σ Γ t) H ds vs := by
  cases d with
  | tup es =>
    cases hd
    obtain ⟨a, vs, h1, h2, h3⟩ := h.tup
    exact ⟨a, vs, h1, .inl h2, h3⟩
  | lst es =>
    cases hd
    obtain ⟨a, vs, h1, h2, h3⟩ := h.lst e
    exact ⟨a, vs, h1, .inr h2.sql, h3⟩
  | _ => cases hd
theorem am_star {a : Expr} {es : List Expr} {ma : Ex T} {mr : Ar T} {p0 : Pos} (ha : Pm X W B s1 a ma) (hr : Am X W B s es mr) (hs : starEach (.Starred a p0 :: es) X.env = (true, eval a X.env) :: starEach es X.env := by rfl) : Am X W B s (.Starred a p0 :: es) (mStar ma mr) :=
  am_of (StX.pa_star ha hr hs) fun c σ H Γ t Q e p => tM_bindA e p fun d t1 v H1 e1 r1 p1 => by
    cases q : dItems d with
    | none => rw [q] at p1; exact p1.elim
    | some ds =>
      rw [q] at p1
      obtain ⟨a', vs, hv, hq, h3⟩ := r1.seq e1 q
      refine ⟨a', vs, hv, hq, tMA_bindA e1.rb (PostA.rb e1 p1) fun es t2 ws H2 e2 r2 p2 => p2 _ H2 e2 ((RepsT.of (e1.reps e2 h3)).append r2)⟩
/-! ### displays -/
def mTup (m : Ar T) : Ex T := fun Γ t => (m Γ t).bind fun ds t1 => if ds.length ≤ 16777216 then .ok (.tup ds) t1 else .bad
theorem pm_tup {es : List Expr} {m : Ar T} {x1} {pos : Pos} (h : Am X W B false es m) : Pm X W B s (.Tuple es x1 pos) (mTup m) :=
  pm_of (pe_tup h) fun c σ H Γ t Q e p => tMA_bind e p fun ds t1 vs H1 e1 r1 p1 => by
    have r := r1.reps
    by_cases q : ds.length ≤ 16777216
    · rw [if_pos q] at p1
      exact ⟨by rw [r.length, sizeLine_eq]; exact q, fun a ha => p1 _ _ (e1.new ha) (.inl (rep_tup r ha))⟩
    · rw [if_neg q] at p1; exact p1.elim
/-! ### new lists -/
def PostL (K : PySem.W.Frag) (mg : Str → Option Value) (W : Wd T) (B : WX) (c : Cf T) (σ : L2.St) (Γ : Gm) (r : Rs T (List D)) (Q : VK) : Prop := match r with
  | .ok ds t => ∀ a vs H, Sit K W c σ H Γ t → H a = none → Reps K (c.okA W σ Γ t) H ds vs → vs.length ≤ 16777216 → Q (.ref a) (upd H a (.lst vs))
  | .er e t => ∀ cls dd H, Sit K W c σ H Γ t → ErRep K mg (c.okA W σ Γ t) H e cls dd → B cls dd σ H
  | .bad => False
def tML (K : PySem.W.Frag) (mg : Str → Option Value) (W : Wd T) (B : WX) (m : Ar T) : TE := fun σ H Q => ∃ (c : Cf T) (Γ : Gm) (t : T), Sit K W c σ H Γ t ∧ PostL K mg W B c σ Γ (m Γ t) Q
abbrev Lm {T : Type} (X : Cx) (W : Wd T) (B : WX) (e : Expr) (m : Ar T) : Prop := PE X e (tML X.K X.mg W B m)
theorem lm_of {e : Expr} {te : TE} {m : Ar T} (h : PE X e te) (imp : ∀ c σ H Γ t Q, Sit X.K W c σ H Γ t → PostL X.K X.mg W B c σ Γ (m Γ t) Q → te σ H Q) : Lm X W B e m :=
  ⟨fun pins s σ H Q I ⟨c, Γ, t, e, p⟩ => h.run pins s σ H Q I (imp c σ H Γ t Q e p)⟩
theorem PostL.rb {r : Rs T (List D)} {Q : VK} (e : Sit K W c σ H Γ t) (p : PostL K mg W B c σ Γ r Q) : PostL K mg W B (c.rb σ H Γ t) σ Γ r Q := by
  cases r with
  | ok d t' => exact fun a vs H' q n r => p a vs H' (e.un q) n r
  | er x t' => exact fun cls dd H' q r => p cls dd H' (e.un q) r
  | bad => exact p
theorem tM_bindL {m : Ex T} {f : D → T → Rs T (List D)} {Q R : VK} (e : Sit K W c σ H Γ t) (p : PostL K mg W B c σ Γ ((m Γ t).bind f) Q)
    (k : ∀ d t1 v H1, Sit K W c σ H1 Γ t1 → RepT s1 K (c.okA W σ Γ t1) σ Γ H1 d v → PostL K mg W B c σ Γ (f d t1) Q → R v H1) : tM K mg W B s1 m σ H R := by
  refine ⟨c, Γ, t, e, ?_⟩
  cases q : m Γ t with
  | ok d t1 => rw [q] at p; exact fun v H1 e1 r1 => k d t1 v H1 e1 r1 p
  | er x t1 => rw [q] at p; exact p
  | bad => rw [q] at p; exact p
theorem tMA_bindL {m : Ar T} {f : List D → T → Rs T (List D)} {Q : VK} {R : List V → Hp → Prop} (e : Sit K W c σ H Γ t) (p : PostL K mg W B c σ Γ ((m Γ t).bind f) Q)
    (k : ∀ d t1 v H1, Sit K W c σ H1 Γ t1 → RepsT s1 K (c.okA W σ Γ t1) σ Γ H1 d v → PostL K mg W B c σ Γ (f d t1) Q → R v H1) : tMA K mg W B s1 m σ H R := by
  refine ⟨c, Γ, t, e, ?_⟩
  cases q : m Γ t with
  | ok d t1 => rw [q] at p; exact fun v H1 e1 r1 => k d t1 v H1 e1 r1 p
  | er x t1 => rw [q] at p; exact p
  | bad => rw [q] at p; exact p
/-- a new list as data -/
def mL (m : Ar T) : Ex T := fun Γ t => (m Γ t).bind fun ds t1 => .ok (.lst ds) t1
theorem tML_M {m : Ar T} {Q : VK} (e : Sit K W c σ H Γ t) (p : Post K mg W B c σ Γ s (mL m Γ t) Q) : tML K mg W B m σ H Q := by
  refine ⟨c, Γ, t, e, ?_⟩
  unfold mL at p
  revert p
  cases m Γ t with
  | ok ds t1 => exact fun p a vs H1 e1 hn r _ => p _ _ (e1.new hn) (.inl (rep_lst r hn (e1.okf' hn)))
  | er x t1 => exact fun p => p
  | bad => exact fun p => p
theorem pm_l {e : Expr} {m : Ar T} (h : Lm X W B e m) : Pm X W B s e (mL m) := pm_of h fun c σ H Γ t Q e p => tML_M e p
/-- a list's size -/
def mSz (m : Ar T) : Ar T := fun Γ t => (m Γ t).bind fun ds t1 => if ds.length ≤ 16777216 then .ok ds t1 else .bad
theorem lm_lst {es : List Expr} {m : Ar T} {pos : Pos} (h : Am X W B false es m) : Lm X W B (.List es pos) (mSz m) :=
  lm_of (pe_lst h) fun c σ H Γ t Q e p => tMA_bindL e p fun ds t1 vs H1 e1 r1 p1 => by
    have r := r1.reps
    by_cases q : ds.length ≤ 16777216
    · rw [if_pos q] at p1
      have hl : vs.length ≤ 16777216 := by rw [r.length]; exact q
      exact ⟨by rw [sizeLine_eq]; exact hl, fun a ha => p1 _ _ _ e1 ha r hl⟩
    · rw [if_neg q] at p1; exact p1.elim
/-! ### calls of defs -/
mutual
/-- no list within -/
def D.lf : D → Bool
  | .tup ds => lfs ds
  | .lst _ => false
  | _ => true
def lfs : List D → Bool
  | [] => true
  | d :: ds => D.lf d && lfs ds
end
mutual
theorem Rep.lf {ok ok' : Addr → Prop} : ∀ {d : D} {v : V}, D.lf d = true → Rep K ok H d v → Rep K ok' H d v
  | .non, _, _, h => h
  | .bl _, _, _, h => h
  | .int _, _, _, h => h
  | .str _, _, _, h => h
  | .adr _, _, _, h => h
  | .tup ds, v, hl, h => by
    unfold Rep at h ⊢
    obtain ⟨a, vs, e, h1, h2⟩ := h
    exact ⟨a, vs, e, h1, Reps.lf (by unfold D.lf at hl; exact hl) h2⟩
  | .lst ds, v, hl, h => by unfold D.lf at hl; cases hl
theorem Reps.lf {ok ok' : Addr → Prop} : ∀ {ds : List D} {vs : List V}, lfs ds = true → Reps K ok H ds vs → Reps K ok' H ds vs
  | [], _, _, h => h
  | d :: ds, vs, hl, h => by
    unfold Reps at h ⊢
    obtain ⟨v, r, e, h1, h2⟩ := h
    unfold lfs at hl
    obtain ⟨l1, l2⟩ := Bool.and_eq_true_iff.mp hl
    exact ⟨v, r, e, Rep.lf l1 h1, Reps.lf l2 h2⟩
end
/-- a def's promise: it keeps to f on data, with no world -/
abbrev Fn := List D → Rs Unit D
def spP (K : PySem.W.Frag) (mg : Str → Option Value) (f : Fn) : Sp := fun vs H Q E => ∃ ds ok, Reps K ok H ds vs ∧ (∀ a, H a = none → ok a) ∧ match f ds with
  | .ok d _ => ∀ v H', Same H H' → Rep K ok H' d v → Q v H'
  | .er e _ => ∀ cls dd H', Same H H' → ErRep K mg ok H' e cls dd → E cls dd H'
  | .bad => False
def mCall (f : Fn) (m : Ar T) : Ex T := fun Γ t => (m Γ t).bind fun ds t1 => match f ds with
  | .ok d _ => .ok d t1
  | .er e _ => .er e t1
  | .bad => .bad
/-- with a local's own list among the arguments: what comes back holds no list -/
def mCallS (f : Fn) (m : Ar T) : Ex T := fun Γ t => (m Γ t).bind fun ds t1 => match f ds with
  | .ok d _ => if D.lf d = true then .ok d t1 else .bad
  | .er e _ => if lfs (e.fs.map (·.2)) = true then .er e t1 else .bad
  | .bad => .bad
/-- a def of the module: where it stands and what it promises -/
structure Good (P : Program) (w : World) (K : PySem.W.Frag) (mg : Str → Option Value) (base : Heap) (k : Nat) (x : Str) (f : Fn) : Prop where
  ex : ∃ (a : Addr) (fd : FuncData) (ps : List Str), mg x = some (.ref a) ∧ PySem.W.keepIn K (.ref a) = true ∧ Binds K fd ps [] ∧ FnOk P w K mg base (L2.CX P w) k a fd ps (spP K mg f)
abbrev GoodX (X : Cx) (k : Nat) (x : Str) (f : Fn) : Prop := Good X.prog X.w X.K X.mg X.base k x f
/-- what may leave is taken -/
abbrev Pass (X : Cx) (B : WX) : Prop := ∀ σ, PassesAt (L2.CX X.prog X.w) X σ (WE B σ)
theorem ErRep.lf {ok ok' : Addr → Prop} {e : Er} {cls : Value} {dd : Option Addr} (h : lfs (e.fs.map (·.2)) = true) (r : ErRep K mg ok H e cls dd) : ErRep K mg ok' H e cls dd := by
  obtain ⟨C, h1, h2, h3⟩ := r
  refine ⟨C, h1, h2, ?_⟩
  rcases h3 with h3 | ⟨d, fv, h3, h4, h5, h6⟩
  · exact .inl h3
  · exact .inr ⟨d, fv, h3, h4, h5, h6.lf h⟩
theorem pm_call {k : Nat} {x : Str} {f : Fn} {e : Expr} {es : List Expr} {m : Ar T} {p pos : Pos} (F : GoodX X k x f) (hr : Room k X.A) (hp : Pass X B) (ha : Am X W B false (e :: es) m) (hg : Gl X x := by rfl)
    (hdb : (x == ("__debug__" : Str)) = false := by decide) (he : starEach (e :: es) X.env = (false, eval e X.env) :: starEach es X.env := by rfl) (hpl : (backTo pos (starEach es X.env)).any (·.1) = false := by rfl) :
    Pm X W B s (.Call (.Name x p) (e :: es) [] pos) (mCall f m) := by
  obtain ⟨a, fd, ps, h1, h2, h3, h4⟩ := F.ex
  refine pm_of (pe_callS h4 hr hg h1 h2 h3 hp ha hdb he hpl) fun c σ H Γ t Q e p => tMA_bind e p fun ds t1 vs H1 e1 r1 p1 => ?_
  refine ⟨ds, c.okA W σ Γ t1, r1.reps, fun a h => e1.okf' h, ?_⟩
  cases q : f ds with
  | ok d u => rw [q] at p1; exact fun v H' sm r => p1 v H' (e1.same sm) (.inl r)
  | er x u => rw [q] at p1; exact fun cls dd H' sm r => p1 cls dd H' (e1.same sm) r
  | bad => rw [q] at p1; exact p1.elim
theorem pm_callS {k : Nat} {x : Str} {f : Fn} {e : Expr} {es : List Expr} {m : Ar T} {p pos : Pos} (F : GoodX X k x f) (hr : Room k X.A) (hp : Pass X B) (ha : Am X W B true (e :: es) m) (hg : Gl X x := by rfl)
    (hdb : (x == ("__debug__" : Str)) = false := by decide) (he : starEach (e :: es) X.env = (false, eval e X.env) :: starEach es X.env := by rfl) (hpl : (backTo pos (starEach es X.env)).any (·.1) = false := by rfl) :
    Pm X W B s (.Call (.Name x p) (e :: es) [] pos) (mCallS f m) := by
  obtain ⟨a, fd, ps, h1, h2, h3, h4⟩ := F.ex
  refine pm_of (pe_callS h4 hr hg h1 h2 h3 hp ha hdb he hpl) fun c σ H Γ t Q e p => tMA_bind e p fun ds t1 vs H1 e1 r1 p1 => ?_
  refine ⟨ds, c.ok0, r1.all e1, fun a h => e1.okf a (e1.dom a h), ?_⟩
  cases q : f ds with
  | ok d u =>
    rw [q] at p1
    by_cases hl : D.lf d = true
    · simp only [hl, if_true] at p1; exact fun v H' sm r => p1 v H' (e1.same sm) (.inl (r.lf hl))
    · simp only [hl] at p1; exact p1.elim
  | er x u =>
    rw [q] at p1
    by_cases hl : lfs (x.fs.map (·.2)) = true
    · simp only [hl, if_true] at p1; exact fun cls dd H' sm r => p1 cls dd H' (e1.same sm) (r.lf hl)
    · simp only [hl] at p1; exact p1.elim
  | bad => rw [q] at p1; exact p1.elim
/-- a call of a built-in by its name keeps to f on data -/
def CallD (X : Cx) (r : List V → Hp → VK → Prop) (f : List D → Option D) : Prop := ∀ {T : Type} {W : Wd T} {c : Cf T} {σ : L2.St} {H : Hp} {Γ : Gm} {t : T} {s1 : Bool} {ds : List D} {z : D} {vs : List V} {Q : VK},
  Sit X.K W c σ H Γ t → RepsT s1 X.K (c.okA W σ Γ t) σ Γ H ds vs → f ds = some z → (∀ w H1, Same H H1 → Rep X.K (c.okA W σ Γ t) H1 z w → Q w H1) → r vs H Q
def mBlt (f : List D → Option D) (m : Ar T) : Ex T := fun Γ t => (m Γ t).bind fun ds t1 => ofO (f ds) t1
theorem tCB_M {r : List V → Hp → VK → Prop} {f : List D → Option D} {m : Ar T} {Q : VK} (hr : CallD X r f) (e : Sit X.K W c σ H Γ t) (p : Post X.K X.mg W B c σ Γ s (mBlt f m Γ t) Q) : tCB r (tMA X.K X.mg W B s1 m) σ H Q :=
  tMA_bind e p fun ds t1 vs H1 e1 r1 p1 => by
    cases q : f ds with
    | none => rw [q] at p1; exact p1.elim
    | some z => rw [q] at p1; exact hr e1 r1 q fun w H2 sm rw => p1 w H2 (e1.same sm) (.inl rw)
end
end DC
/-! ## operations on data -/
namespace DC
open PySem L2
/-! ### equality -/
mutual
def D.eqv : D → D → Bool
  | .non, .non => true
  | .bl a, .bl b => a == b
  | .bl a, .int j => (if a then 1 else 0) == j
  | .int i, .bl b => i == (if b then 1 else 0)
  | .int i, .int j => i == j
  | .str x, .str y => x == y
  | .lst xs, .lst ys => eqvs xs ys
  | .tup xs, .tup ys => eqvs xs ys
  | _, _ => false
def eqvs : List D → List D → Bool
  | [], [] => true
  | x :: xs, y :: ys => D.eqv x y && eqvs xs ys
  | _, _ => false
end
mutual
def D.py : D → PyData
  | .non => .none
  | .bl b => .bool b
  | .int i => .int i
  | .str z => .str z
  | .tup ds => .tuple (pys ds)
  | .lst ds => .list (pys ds)
  | .adr _ => .dict []
def pys : List D → List PyData
  | [] => []
  | d :: ds => D.py d :: pys ds
end
mutual
/-- no object but lists and tuples, not deeper than n -/
def D.sh : D → Nat → Bool
  | .non, _ => true
  | .bl _, _ => true
  | .int _, _ => true
  | .str z, _ => z.cps.all (· < 0x110000)
  | .tup ds, n => match n with
    | 0 => false
    | m + 1 => shs ds m
  | .lst ds, n => match n with
    | 0 => false
    | m + 1 => shs ds m
  | .adr _, _ => false
def shs : List D → Nat → Bool
  | [], _ => true
  | d :: ds, n => D.sh d n && shs ds n
end
mutual
theorem eqv_py : ∀ (a b : D) {n m : Nat}, a.sh n = true → b.sh m = true → PyData.eqv a.py b.py = D.eqv a b
  | .non, b, _, _, _, h => by cases b <;> first | rfl | (unfold D.sh at h; cases h)
  | .bl _, b, _, _, _, h => by cases b <;> first | rfl | (unfold D.sh at h; cases h)
  | .int _, b, _, _, _, h => by cases b <;> first | rfl | (unfold D.sh at h; cases h)
  | .str _, b, _, _, _, h => by cases b <;> first | rfl | (unfold D.sh at h; cases h)
  | .adr _, _, _, _, h, _ => by unfold D.sh at h; cases h
  | .tup xs, b, n, m, h1, h2 => by
    cases b with
    | tup ys =>
      unfold D.sh at h1 h2
      cases n with
      | zero => cases h1
      | succ n =>
        cases m with
        | zero => cases h2
        | succ m =>
          unfold D.py D.eqv PyData.eqv
          exact eqvs_py xs ys h1 h2
    | adr a => unfold D.sh at h2; cases h2
    | _ => simp only [D.py, D.eqv, PyData.eqv]
  | .lst xs, b, n, m, h1, h2 => by
    cases b with
    | lst ys =>
      unfold D.sh at h1 h2
      cases n with
      | zero => cases h1
      | succ n =>
        cases m with
        | zero => cases h2
        | succ m =>
          unfold D.py D.eqv PyData.eqv
          exact eqvs_py xs ys h1 h2
    | adr a => unfold D.sh at h2; cases h2
    | _ => simp only [D.py, D.eqv, PyData.eqv]
theorem eqvs_py : ∀ (as bs : List D) {n m : Nat}, shs as n = true → shs bs m = true → PyData.eqvAll (pys as) (pys bs) = eqvs as bs
  | [], [], _, _, _, _ => rfl
  | [], _ :: _, _, _, _, _ => by simp only [pys, eqvs, PyData.eqvAll]
  | _ :: _, [], _, _, _, _ => by simp only [pys, eqvs, PyData.eqvAll]
  | a :: as, b :: bs, n, m, h1, h2 => by
    unfold shs at h1 h2
    obtain ⟨h3, h4⟩ := Bool.and_eq_true_iff.mp h1
    obtain ⟨h5, h6⟩ := Bool.and_eq_true_iff.mp h2
    unfold pys eqvs PyData.eqvAll
    rw [eqv_py a b h3 h5, eqvs_py as bs h4 h6]
end
mutual
theorem sh_lay : ∀ (d : D) (n : Nat), d.sh n = true → d.py.canLay0 = true ∧ d.py.depth ≤ n
  | .non, n, _ => ⟨rfl, Nat.zero_le _⟩
  | .bl _, n, _ => ⟨rfl, Nat.zero_le _⟩
  | .int _, n, _ => ⟨rfl, Nat.zero_le _⟩
  | .str z, n, h => by
    unfold D.sh at h
    exact ⟨by unfold D.py PyData.canLay0; exact h, by simp only [D.py, PyData.depth]; exact Nat.zero_le _⟩
  | .adr _, _, h => by unfold D.sh at h; cases h
  | .tup ds, n, h => by
    unfold D.sh at h
    cases n with
    | zero => cases h
    | succ n =>
      obtain ⟨h1, h2⟩ := shs_lay ds n h
      exact ⟨by unfold D.py PyData.canLay0; exact h1, by simp only [D.py, PyData.depth]; omega⟩
  | .lst ds, n, h => by
    unfold D.sh at h
    cases n with
    | zero => cases h
    | succ n =>
      obtain ⟨h1, h2⟩ := shs_lay ds n h
      exact ⟨by unfold D.py PyData.canLay0; exact h1, by simp only [D.py, PyData.depth]; omega⟩
theorem shs_lay : ∀ (ds : List D) (n : Nat), shs ds n = true → PyData.canLayAll0 (pys ds) = true ∧ PyData.depthAll (pys ds) ≤ n
  | [], n, _ => ⟨rfl, Nat.zero_le _⟩
  | d :: ds, n, h => by
    unfold shs at h
    obtain ⟨h3, h4⟩ := Bool.and_eq_true_iff.mp h
    obtain ⟨h1, h2⟩ := sh_lay d n h3
    obtain ⟨h5, h6⟩ := shs_lay ds n h4
    refine ⟨by unfold pys PyData.canLayAll0; rw [h1, h5]; rfl, ?_⟩
    unfold pys PyData.depthAll
    exact Nat.max_le.mpr ⟨h2, h6⟩
end
theorem shaped_of {d : D} {n : Nat} (h : d.sh n = true) (hn : n ≤ 64) : SeqAt.shaped d.py = true := by
  obtain ⟨h1, h2⟩ := sh_lay d n h
  unfold SeqAt.shaped
  rw [h1, decide_eq_true (Nat.le_trans h2 hn)]
  rfl
section
variable {T : Type} {X : Cx} {K : PySem.W.Frag} {mg : Str → Option Value} {W : Wd T} {B : WX} {s s1 s2 s3 : Bool}
variable {c : Cf T} {σ : L2.St} {H H' : Hp} {Γ : Gm} {t t' : T}
mutual
theorem dp_of {ok : Addr → Prop} : ∀ {d : D} {v : V} {n : Nat}, d.sh n = true → Rep K ok H d v → Dp K H v d.py
  | .non, v, _, _, h => by unfold Rep at h; subst h; exact .non
  | .bl b, v, _, _, h => by unfold Rep at h; subst h; exact .bl b
  | .int i, v, _, _, h => by unfold Rep at h; subst h; exact .int i
  | .str z, v, _, _, h => by unfold Rep at h; subst h; exact .str z
  | .adr _, _, _, h, _ => by unfold D.sh at h; cases h
  | .tup ds, v, n, hs, h => by
    unfold Rep at h
    obtain ⟨a, vs, rfl, h1, h2⟩ := h
    unfold D.sh at hs
    cases n with
    | zero => cases hs
    | succ n => exact .tup h1 (dps_of hs h2)
  | .lst ds, v, n, hs, h => by
    unfold Rep at h
    obtain ⟨a, vs, rfl, h1, h2⟩ := h
    unfold D.sh at hs
    cases n with
    | zero => cases hs
    | succ n => exact .lst h1.sql (dps_of hs h2)
theorem dps_of {ok : Addr → Prop} : ∀ {ds : List D} {vs : List V} {n : Nat}, shs ds n = true → Reps K ok H ds vs → DpAll K H vs (pys ds)
  | [], vs, _, _, h => by unfold Reps at h; subst h; exact .nil
  | d :: ds, vs, n, hs, h => by
    unfold Reps at h
    obtain ⟨v, r, rfl, h1, h2⟩ := h
    unfold shs at hs
    obtain ⟨h3, h4⟩ := Bool.and_eq_true_iff.mp hs
    exact .cons (dp_of h3 h1) (dps_of h4 h2)
end
theorem RepT.dp {d : D} {v : V} {n : Nat} (e : Sit K W c σ H Γ t) (h : RepT s K (c.okA W σ Γ t) σ Γ H d v) (hs : d.sh n = true) : Dp K H v d.py := dp_of hs (h.all e)
/-- a flat value -/
def D.flat : D → Bool
  | .non => true
  | .bl _ => true
  | .int _ => true
  | .str _ => true
  | _ => false
def D.v : D → V
  | .non => .non
  | .bl b => .bl b
  | .int i => .int i
  | .str z => .str z
  | _ => .non
theorem RepT.flat {ok : Addr → Prop} {d : D} {v : V} (h : RepT s K ok σ Γ H d v) (hf : d.flat = true) : v = d.v := by
  cases d with
  | non => exact h.non
  | bl b => exact h.bl
  | int i => exact h.int
  | str z => exact h.str
  | _ => cases hf
theorem Rep.flat {ok : Addr → Prop} {d : D} {v : V} (h : Rep K ok H d v) (hf : d.flat = true) : v = d.v := RepT.flat (s := false) (σ := []) (Γ := []) (.inl h) hf
theorem Reps.flat {ok : Addr → Prop} : ∀ {ds : List D} {vs : List V}, Reps K ok H ds vs → ds.all D.flat = true → vs = ds.map D.v
  | [], vs, h, _ => by unfold Reps at h; subst h; rfl
  | d :: ds, vs, h, hf => by
    unfold Reps at h
    obtain ⟨v, r, rfl, h1, h2⟩ := h
    rw [List.all_cons] at hf
    obtain ⟨h3, h4⟩ := Bool.and_eq_true_iff.mp hf
    rw [h1.flat h3, h2.flat h4]
    rfl
theorem flatV_v : ∀ {d : D}, d.flat = true → flatV d.v = true
  | .non, _ => rfl
  | .bl _, _ => rfl
  | .int _, _ => rfl
  | .str _, _ => rfl
theorem eqV_v : ∀ {a b : D}, a.flat = true → b.flat = true → eqV a.v b.v = D.eqv a b
  | .non, b, _, h => by cases b <;> first | rfl | cases h
  | .bl _, b, _, h => by cases b <;> first | rfl | cases h
  | .int _, b, _, h => by cases b <;> first | rfl | cases h
  | .str _, b, _, h => by cases b <;> first | rfl | cases h
/-- both of one kind or one of them None: == without a look into them -/
def D.scal : D → D → Bool
  | .non, .non => true | .non, .int _ => true | .int _, .non => true | .non, .bl _ => true | .bl _, .non => true | .non, .str _ => true | .str _, .non => true
  | .int _, .int _ => true | .bl _, .bl _ => true | .str _, .str _ => true
  | .int _, .str _ => true | .str _, .int _ => true | .bl _, .str _ => true | .str _, .bl _ => true
  | _, _ => false
def dEq (a b : D) : Option D := if D.scal a b = true then some (.bl (D.eqv a b)) else if D.sh a 60 = true ∧ D.sh b 60 = true then some (.bl (D.eqv a b)) else none
def dNe (a b : D) : Option D := if D.scal a b = true then some (.bl (!D.eqv a b)) else if D.sh a 60 = true ∧ D.sh b 60 = true then some (.bl (!D.eqv a b)) else none
theorem scal_flat {a b : D} (h : D.scal a b = true) : a.flat = true ∧ b.flat = true ∧ scal a.v b.v = true ∧ decide (a.v = b.v) = D.eqv a b := by
  cases a <;> cases b <;> first | (cases h; done) | exact ⟨rfl, rfl, rfl, rfl⟩ | exact ⟨rfl, rfl, rfl, dec_int⟩ | exact ⟨rfl, rfl, rfl, dec_bl⟩ | exact ⟨rfl, rfl, rfl, dec_str⟩
theorem opd_eq : OpD X (fun x y H Q => rEq x y H Q ∨ rEqD X.K x y H Q) dEq := by
  intro T W c σ H Γ t s1 s2 x y z v u Q e rx ry hf q
  unfold dEq at hf
  by_cases h1 : D.scal x y = true
  · rw [if_pos h1] at hf
    cases hf
    obtain ⟨f1, f2, f3, f4⟩ := scal_flat h1
    rw [rx.flat f1, ry.flat f2]
    exact .inl ⟨f3, by rw [f4]; exact q _ H (Same.refl H) (by unfold Rep; rfl)⟩
  · rw [if_neg h1] at hf
    by_cases h2 : D.sh x 60 = true ∧ D.sh y 60 = true
    · rw [if_pos h2] at hf
      cases hf
      refine .inr ⟨x.py, y.py, rx.dp e h2.1, ry.dp e h2.2, shaped_of h2.1 (by decide), shaped_of h2.2 (by decide), ?_⟩
      rw [eqv_py x y h2.1 h2.2]
      exact q _ H (Same.refl H) (by unfold Rep; rfl)
    · rw [if_neg h2] at hf; cases hf
theorem opd_ne : OpD X (fun x y H Q => rNe x y H Q ∨ rNeD X.K x y H Q) dNe := by
  intro T W c σ H Γ t s1 s2 x y z v u Q e rx ry hf q
  unfold dNe at hf
  by_cases h1 : D.scal x y = true
  · rw [if_pos h1] at hf
    cases hf
    obtain ⟨f1, f2, f3, f4⟩ := scal_flat h1
    rw [rx.flat f1, ry.flat f2]
    exact .inl ⟨f3, by rw [f4]; exact q _ H (Same.refl H) (by unfold Rep; rfl)⟩
  · rw [if_neg h1] at hf
    by_cases h2 : D.sh x 60 = true ∧ D.sh y 60 = true
    · rw [if_pos h2] at hf
      cases hf
      refine .inr ⟨x.py, y.py, rx.dp e h2.1, ry.dp e h2.2, shaped_of h2.1 (by decide), shaped_of h2.2 (by decide), ?_⟩
      rw [eqv_py x y h2.1 h2.2]
      exact q _ H (Same.refl H) (by unfold Rep; rfl)
    · rw [if_neg h2] at hf; cases hf
theorem or_eq (hu : X.A.units + 64 < cLine) : OpR X (compareOp .Eq) (fun x y H Q => rEq x y H Q ∨ rEqD X.K x y H Q) := OpR.or op_eq (op_eqD hu)
theorem or_ne (hu : X.A.units + 64 < cLine) : OpR X (compareOp .NotEq) (fun x y H Q => rNe x y H Q ∨ rNeD X.K x y H Q) := OpR.or op_ne (op_neD hu)
/-! ### whole numbers -/
theorem rep_int {ok : Addr → Prop} {i : Int} : Rep K ok H (.int i) (.int i) := by unfold Rep; rfl
theorem rep_bl {ok : Addr → Prop} {b : Bool} : Rep K ok H (.bl b) (.bl b) := by unfold Rep; rfl
theorem rep_str {ok : Addr → Prop} {z : Str} : Rep K ok H (.str z) (.str z) := by unfold Rep; rfl
theorem rep_non {ok : Addr → Prop} : Rep K ok H .non .non := by unfold Rep; rfl
def dI (f : Int → Int → Option D) : D → D → Option D
  | .int i, .int j => f i j
  | _, _ => none
theorem dI_some {f : Int → Int → Option D} {x y z : D} (h : dI f x y = some z) : ∃ i j, x = .int i ∧ y = .int j ∧ f i j = some z := by
  cases x <;> cases y <;> first | cases h; done | exact ⟨_, _, rfl, rfl, h⟩
def dSub : D → D → Option D := dI fun i j => some (.int (i - j))
theorem opd_sub : OpD X (rI0 fun i j => .int (i - j)) dSub := by
  intro T W c σ H Γ t s1 s2 x y z v u Q e rx ry hf q
  obtain ⟨i, j, rfl, rfl, h⟩ := dI_some hf
  cases h
  rw [rx.int, ry.int]
  exact ⟨i, j, rfl, rfl, q _ H (Same.refl H) rep_int⟩
/-- when a product is made -/
def MulOk (i j : Int) : Prop := i.natAbs < 18446744073709551616 ∨ j.natAbs < 18446744073709551616 ∨ i.natAbs.log2 + j.natAbs.log2 < 1000000
instance (i j : Int) : Decidable (MulOk i j) := by unfold MulOk; infer_instance
def dMulI : D → D → Option D := dI fun i j => if MulOk i j then some (.int (i * j)) else none
theorem or_mulI : OpR X (binaryOp .Mult) (fun x y H Q => (rI CMul fun i j => V.int (i * j)) x y H Q ∨ (rI CMulW fun i j => V.int (i * j)) x y H Q) := OpR.or op_mul op_mulW
theorem opd_mulI : OpD X (fun x y H Q => (rI CMul fun i j => V.int (i * j)) x y H Q ∨ (rI CMulW fun i j => V.int (i * j)) x y H Q) dMulI := by
  intro T W c σ H Γ t s1 s2 x y z v u Q e rx ry hf q
  obtain ⟨i, j, rfl, rfl, h⟩ := dI_some hf
  rw [rx.int, ry.int]
  by_cases hm : MulOk i j
  · simp only [hm, if_true] at h
    cases h
    have k := q _ H (Same.refl H) rep_int
    rcases hm with hm | hm | hm
    · exact .inl ⟨i, j, rfl, rfl, .inl (by omega), k⟩
    · exact .inl ⟨i, j, rfl, rfl, .inr (by omega), k⟩
    · exact .inr ⟨i, j, rfl, rfl, hm, k⟩
  · simp only [hm, if_false] at h
    cases h
def dDiv : D → D → Option D := dI fun i j => if 0 < j ∧ j.natAbs.log2 < 9000 then some (.int (i / j)) else none
theorem opd_div : OpD X (rI CDivW fun i j => .int (i / j)) dDiv := by
  intro T W c σ H Γ t s1 s2 x y z v u Q e rx ry hf q
  obtain ⟨i, j, rfl, rfl, h⟩ := dI_some hf
  rw [rx.int, ry.int]
  by_cases hm : 0 < j ∧ j.natAbs.log2 < 9000
  · simp only [hm, and_self, if_true] at h
    cases h
    exact ⟨i, j, rfl, rfl, hm, q _ H (Same.refl H) rep_int⟩
  · simp only [hm, if_false] at h; cases h
def dMod : D → D → Option D := dI fun i j => if 0 < j then some (.int (i % j)) else none
theorem opd_mod : OpD X (rI (fun _ j => 0 < j) fun i j => .int (i % j)) dMod := by
  intro T W c σ H Γ t s1 s2 x y z v u Q e rx ry hf q
  obtain ⟨i, j, rfl, rfl, h⟩ := dI_some hf
  rw [rx.int, ry.int]
  by_cases hm : 0 < j
  · simp only [hm, if_true] at h
    cases h
    exact ⟨i, j, rfl, rfl, hm, q _ H (Same.refl H) rep_int⟩
  · simp only [hm, if_false] at h; cases h
def dPow : D → D → Option D := dI fun i j => if 0 ≤ j ∧ j ≤ 1000000 ∧ i.natAbs < 18446744073709551616 then some (.int (i ^ j.toNat)) else none
theorem opd_pow : OpD X (rI CPow fun i j => .int (i ^ j.toNat)) dPow := by
  intro T W c σ H Γ t s1 s2 x y z v u Q e rx ry hf q
  obtain ⟨i, j, rfl, rfl, h⟩ := dI_some hf
  rw [rx.int, ry.int]
  by_cases hm : 0 ≤ j ∧ j ≤ 1000000 ∧ i.natAbs < 18446744073709551616
  · simp only [hm, and_self, if_true] at h
    cases h
    exact ⟨i, j, rfl, rfl, ⟨hm.1, hm.2.1, by simpa using hm.2.2⟩, q _ H (Same.refl H) rep_int⟩
  · simp only [hm, if_false] at h; cases h
def dNeg : D → Option D
  | .int i => some (.int (-i))
  | _ => none
theorem und_neg : UnD X (rU fun i => .int (-i)) dNeg := by
  intro T W c σ H Γ t s1 x z v Q e rx hf q
  cases x with
  | int i => cases hf; rw [rx.int]; exact ⟨i, rfl, q _ H (Same.refl H) rep_int⟩
  | _ => cases hf
def dCmp (p : Int → Int → Bool) : D → D → Option D := dI fun i j => some (.bl (p i j))
theorem opd_cmp (p : Int → Int → Bool) : OpD X (rI0 fun i j => .bl (p i j)) (dCmp p) := by
  intro T W c σ H Γ t s1 s2 x y z v u Q e rx ry hf q
  obtain ⟨i, j, rfl, rfl, h⟩ := dI_some hf
  cases h
  rw [rx.int, ry.int]
  exact ⟨i, j, rfl, rfl, q _ H (Same.refl H) rep_bl⟩
def dLt : D → D → Option D := dCmp fun i j => decide (i < j)
def dLe : D → D → Option D := dCmp fun i j => decide (i ≤ j)
def dGt : D → D → Option D := dCmp fun i j => decide (j < i)
def dGe : D → D → Option D := dCmp fun i j => decide (j ≤ i)
theorem opd_lt : OpD X (rI0 fun i j => .bl (decide (i < j))) dLt := opd_cmp _
theorem opd_le : OpD X (rI0 fun i j => .bl (decide (i ≤ j))) dLe := opd_cmp _
theorem opd_gt : OpD X (rI0 fun i j => .bl (decide (j < i))) dGt := opd_cmp _
theorem opd_ge : OpD X (rI0 fun i j => .bl (decide (j ≤ i))) dGe := opd_cmp _
/-! ### + and * -/
def dAdd : D → D → Option D
  | .int i, .int j => some (.int (i + j))
  | .str x, .str y => if x.length + y.length ≤ 16777216 then some (.str (x ++ y)) else none
  | .tup xs, .tup ys => if xs.length + ys.length ≤ 16777216 then some (.tup (xs ++ ys)) else none
  | _, _ => none
abbrev rAddA (K : PySem.W.Frag) : R2 := fun x y H Q => (rI0 fun i j => V.int (i + j)) x y H Q ∨ ((∃ i j, x = .str i ∧ y = .str j ∧ i.length + j.length ≤ sizeLine ∧ Q (.str (i ++ j)) H) ∨ rCatA K x y H Q)
theorem or_add : OpR X (binaryOp .Add) (rAddA X.K) := OpR.or op_add (OpR.or op_add_str op_catA)
theorem nil_reps {ok : Addr → Prop} {ds : List D} {vs : List V} (h : Reps K ok H ds vs) : vs = [] ↔ ds = [] := by
  have := h.length
  constructor
  · intro e; subst e; cases ds with
    | nil => rfl
    | cons _ _ => simp at this
  · intro e; subst e; cases vs with
    | nil => rfl
    | cons _ _ => simp at this
theorem opd_add : OpD X (rAddA X.K) dAdd := by
  intro T W c σ H Γ t s1 s2 x y z v u Q e rx ry hf q
  unfold dAdd at hf
  split at hf
  · cases hf
    rw [rx.int, ry.int]
    exact .inl ⟨_, _, rfl, rfl, q _ H (Same.refl H) rep_int⟩
  · rename_i x y
    by_cases hz : x.length + y.length ≤ 16777216
    · rw [if_pos hz] at hf
      cases hf
      rw [rx.str, ry.str]
      exact .inr (.inl ⟨_, _, rfl, rfl, by rw [sizeLine_eq]; exact hz, q _ H (Same.refl H) rep_str⟩)
    · rw [if_neg hz] at hf; cases hf
  · rename_i xs ys
    by_cases hz : xs.length + ys.length ≤ 16777216
    · rw [if_pos hz] at hf
      cases hf
      obtain ⟨a, vs, rfl, h1, h2⟩ := rx.tup
      obtain ⟨b, us, rfl, h3, h4⟩ := ry.tup
      refine .inr (.inr ⟨a, b, vs, us, rfl, rfl, h1, h3, by rw [h2.length, h4.length, sizeLine_eq]; exact hz, fun w => ?_, fun _ w => ?_, fun _ _ p hp => ?_⟩)
      · have e1 := (nil_reps h2).mp w
        subst e1
        refine q _ H (Same.refl H) ?_
        rw [List.nil_append]
        unfold Rep
        exact ⟨b, us, rfl, h3, h4⟩
      · have e1 := (nil_reps h4).mp w
        subst e1
        refine q _ H (Same.refl H) ?_
        rw [List.append_nil]
        unfold Rep
        exact ⟨a, vs, rfl, h1, h2⟩
      · exact q _ _ (same_upd hp) (rep_tup (h2.append h4) hp)
    · rw [if_neg hz] at hf; cases hf
  · cases hf
/-- xs + ys of lists, a new list -/
def mCat (a b : Ex T) : Ar T := fun Γ t => (a Γ t).bind fun x t1 => (b Γ t1).bind fun y t2 => match x, y with
  | .lst xs, .lst ys => if xs.length + ys.length ≤ 16777216 then .ok (xs ++ ys) t2 else .bad
  | _, _ => .bad
theorem lm_cat {a b : Expr} {ma mb : Ex T} {pos : Pos} (ha : Pm X W B s1 a ma) (hb : Pm X W B s2 b mb) : Lm X W B (.BinOp a .Add b pos) (mCat ma mb) :=
  lm_of (pe_op op_cat ha hb) fun c σ H Γ t Q e p => tM_bindL e p fun x t1 v H1 e1 r1 p1 => tM_bindL e1.rb (p1.rb e1) fun y t2 u H2 e2 r2 p2 => by
    have r1' := keepT e1 e2 r1
    cases x with
    | lst xs =>
      cases y with
      | lst ys =>
        by_cases hz : xs.length + ys.length ≤ 16777216
        · simp only [hz, if_true] at p2
          obtain ⟨l1, vs, rfl, h1, h2⟩ := RepT.lst (e1.un e2) r1'
          obtain ⟨l2, us, rfl, h3, h4⟩ := RepT.lst e2 r2
          have hl : (vs ++ us).length ≤ 16777216 := by rw [List.length_append, h2.length, h4.length]; exact hz
          exact ⟨l1, l2, vs, us, rfl, rfl, h1.2, h3.2, by rw [← List.length_append, sizeLine_eq]; exact hl, fun q hq => p2 _ _ _ e2 hq (h2.append h4) hl⟩
        · simp only [hz, if_false] at p2; exact p2.elim
      | _ => exact p2.elim
    | _ => exact p2.elim
/-- xs * k of a list, a new list -/
def mRep (a b : Ex T) : Ar T := fun Γ t => (a Γ t).bind fun x t1 => (b Γ t1).bind fun y t2 => match x, y with
  | .lst xs, .int k => if k.natAbs ≤ 16777216 ∧ xs.length * k.toNat ≤ 16777216 then .ok (List.replicate k.toNat xs).flatten t2 else .bad
  | _, _ => .bad
theorem Reps.flat_rep {ok : Addr → Prop} {ds : List D} {vs : List V} (h : Reps K ok H ds vs) : ∀ n : Nat, Reps K ok H (List.replicate n ds).flatten (List.replicate n vs).flatten
  | 0 => by simpa using Reps.nil
  | n + 1 => by
    rw [List.replicate_succ, List.replicate_succ, List.flatten_cons, List.flatten_cons]
    exact h.append (Reps.flat_rep h n)
theorem len_rep {α : Type} (xs : List α) : ∀ n : Nat, (List.replicate n xs).flatten.length = xs.length * n
  | 0 => by simp
  | n + 1 => by rw [List.replicate_succ, List.flatten_cons, List.length_append, len_rep xs n, Nat.mul_succ]; omega
theorem lm_rep {a b : Expr} {ma mb : Ex T} {pos : Pos} (ha : Pm X W B s1 a ma) (hb : Pm X W B s2 b mb) : Lm X W B (.BinOp a .Mult b pos) (mRep ma mb) :=
  lm_of (pe_op op_rep ha hb) fun c σ H Γ t Q e p => tM_bindL e p fun x t1 v H1 e1 r1 p1 => tM_bindL e1.rb (p1.rb e1) fun y t2 u H2 e2 r2 p2 => by
    have r1' := keepT e1 e2 r1
    cases x with
    | lst xs =>
      cases y with
      | int k =>
        by_cases hz : k.natAbs ≤ 16777216 ∧ xs.length * k.toNat ≤ 16777216
        · simp only [hz, and_self, if_true] at p2
          obtain ⟨l1, vs, rfl, h1, h2⟩ := RepT.lst (e1.un e2) r1'
          rw [r2.int]
          refine ⟨l1, k, vs, rfl, rfl, h1.2, by omega, by omega, by rw [h2.length, sizeLine_eq]; exact hz.2, fun q hq => p2 _ _ _ e2 hq (h2.flat_rep _) ?_⟩
          rw [len_rep, h2.length]; exact hz.2
        · simp only [hz, if_false] at p2; exact p2.elim
      | _ => exact p2.elim
    | _ => exact p2.elim
/-! ### is None -/
def D.isNon : D → Bool
  | .non => true
  | _ => false
def dIs (x y : D) : Option D := match y with
  | .non => some (.bl x.isNon)
  | _ => none
def dIsNot (x y : D) : Option D := match y with
  | .non => some (.bl (!x.isNon))
  | _ => none
theorem RepT.isNon {x : D} {v : V} (e : Sit K W c σ H Γ t) (h : RepT s K (c.okA W σ Γ t) σ Γ H x v) : decide (v = .non) = x.isNon := by
  cases x with
  | non => rw [h.non]; rfl
  | bl b => rw [h.bl]; rfl
  | int b => rw [h.int]; rfl
  | str b => rw [h.str]; rfl
  | adr b => rw [h.adr]; rfl
  | tup ds => obtain ⟨a, vs, rfl, _⟩ := h.tup; rfl
  | lst ds => obtain ⟨a, vs, rfl, _⟩ := h.lst e; rfl
theorem opd_is : OpD X (fun x y H Q => y = .non ∧ Q (.bl (decide (x = .non))) H) dIs := by
  intro T W c σ H Γ t s1 s2 x y z v u Q e rx ry hf q
  cases y with
  | non =>
    cases hf
    exact ⟨ry.non, by rw [rx.isNon e]; exact q _ H (Same.refl H) rep_bl⟩
  | _ => cases hf
theorem opd_isnot : OpD X (fun x y H Q => y = .non ∧ Q (.bl (!decide (x = .non))) H) dIsNot := by
  intro T W c σ H Γ t s1 s2 x y z v u Q e rx ry hf q
  cases y with
  | non =>
    cases hf
    exact ⟨ry.non, by rw [rx.isNon e]; exact q _ H (Same.refl H) rep_bl⟩
  | _ => cases hf
/-! ### in -/
def dIn (neg : Bool) (x y : D) : Option D := match y with
  | .str j => (match x with
    | .str i => some (.bl (neg ^^ !(Builtin.Str.occurrences j i 0 j.length 1).isEmpty))
    | _ => none)
  | .tup ds => if x.flat = true ∧ ds.all D.flat = true then some (.bl (neg ^^ ds.any fun z => D.eqv z x)) else none
  | .lst ds => if x.flat = true ∧ ds.all D.flat = true then some (.bl (neg ^^ ds.any fun z => D.eqv z x)) else
      if x.sh 60 = true ∧ shs ds 60 = true then some (.bl (neg ^^ ds.any fun z => D.eqv z x)) else none
  | _ => none
theorem any_v {x : D} (hx : x.flat = true) : ∀ {ds : List D}, ds.all D.flat = true → inV x.v (ds.map D.v) = ds.any fun z => D.eqv z x
  | [], _ => rfl
  | d :: ds, h => by
    rw [List.all_cons] at h
    obtain ⟨h1, h2⟩ := Bool.and_eq_true_iff.mp h
    have ih := any_v hx h2
    unfold inV at ih ⊢
    rw [List.map_cons, List.any_cons, List.any_cons, ih, eqV_v h1 hx]
theorem flatV_all : ∀ {ds : List D}, ds.all D.flat = true → (ds.map D.v).all flatV = true
  | [], _ => rfl
  | d :: ds, h => by
    rw [List.all_cons] at h
    obtain ⟨h1, h2⟩ := Bool.and_eq_true_iff.mp h
    rw [List.map_cons, List.all_cons, flatV_v h1, flatV_all h2]; rfl
theorem any_py {x : D} {n : Nat} (hx : x.sh n = true) : ∀ {ds : List D} {m : Nat}, shs ds m = true → ((pys ds).any fun z => PyData.eqv z x.py) = ds.any fun z => D.eqv z x
  | [], _, _ => rfl
  | d :: ds, m, h => by
    unfold shs at h
    obtain ⟨h1, h2⟩ := Bool.and_eq_true_iff.mp h
    unfold pys
    rw [List.any_cons, List.any_cons, any_py hx h2, eqv_py d x h1 hx]
abbrev rInA (K : PySem.W.Frag) (neg : Bool) (rs : R2) : R2 := fun x y H Q => rs x y H Q ∨ (rIn K neg x y H Q ∨ (if neg = true then rNotInD K x y H Q else rInD K x y H Q))
abbrev rInS (neg : Bool) : R2 := fun x y H Q => ∃ i j, x = .str i ∧ y = .str j ∧ Q (.bl (if neg = true then !(!(Builtin.Str.occurrences j i 0 j.length 1).isEmpty) else !(Builtin.Str.occurrences j i 0 j.length 1).isEmpty)) H
theorem or_in (hu : X.A.units + 65 < cLine) : OpR X (compareOp .In) (rInA X.K false (rInS false)) := OpR.or op_in_str (OpR.or op_in_seq (op_inD hu))
theorem or_notin (hu : X.A.units + 65 < cLine) : OpR X (compareOp .NotIn) (rInA X.K true (rInS true)) := OpR.or op_notin_str (OpR.or op_notIn_seq (op_notInD hu))
theorem opd_in (neg : Bool) : OpD X (rInA X.K neg (rInS neg)) (dIn neg) := by
  intro T W c σ H Γ t s1 s2 x y z v u Q e rx ry hf q
  unfold dIn at hf
  have hn : ∀ b : Bool, (if neg = true then !b else b) = (neg ^^ b) := fun b => by cases neg <;> cases b <;> rfl
  cases y with
  | str j =>
    cases x with
    | str i =>
      cases hf
      rw [rx.str, ry.str]
      exact .inl ⟨i, j, rfl, rfl, by rw [hn]; exact q _ H (Same.refl H) rep_bl⟩
    | _ => cases hf
  | tup ds =>
    by_cases h1 : x.flat = true ∧ ds.all D.flat = true
    · simp only [h1, and_self, if_true] at hf
      cases hf
      obtain ⟨a, vs, rfl, h2, h3⟩ := ry.tup
      have e3 := h3.flat h1.2
      subst e3
      rw [rx.flat h1.1]
      exact .inr (.inl ⟨a, _, rfl, .inr h2, flatV_v h1.1, flatV_all h1.2, by rw [hn, any_v h1.1 h1.2]; exact q _ H (Same.refl H) rep_bl⟩)
    · simp only [h1, if_false] at hf; cases hf
  | lst ds =>
    by_cases h1 : x.flat = true ∧ ds.all D.flat = true
    · simp only [h1, and_self, if_true] at hf
      cases hf
      obtain ⟨a, vs, rfl, h2, h3⟩ := ry.lst e
      have e3 := h3.flat h1.2
      subst e3
      rw [rx.flat h1.1]
      exact .inr (.inl ⟨a, _, rfl, .inl h2.sql, flatV_v h1.1, flatV_all h1.2, by rw [hn, any_v h1.1 h1.2]; exact q _ H (Same.refl H) rep_bl⟩)
    · simp only [h1, if_false] at hf
      by_cases h4 : x.sh 60 = true ∧ shs ds 60 = true
      · simp only [h4, and_self, if_true] at hf
        cases hf
        have hl : (D.lst ds).sh 61 = true := by unfold D.sh; exact h4.2
        have d1 := rx.dp e h4.1
        have d2 := ry.dp e hl
        have s1 := shaped_of h4.1 (by decide : 60 ≤ 64)
        have s2 := shaped_of hl (by decide : 61 ≤ 64)
        refine .inr (.inr ?_)
        have k := q (.bl (neg ^^ ds.any fun z => D.eqv z x)) H (Same.refl H) rep_bl
        rw [← any_py h4.1 h4.2] at k
        cases neg with
        | true => exact ⟨x.py, pys ds, d1, d2, s1, s2, by simpa using k⟩
        | false => exact ⟨x.py, pys ds, d1, d2, s1, s2, by simpa using k⟩
      · simp only [h4, if_false] at hf; cases hf
  | _ => cases hf
/-! ### items by place -/
def dIx (x y : D) : Option D := match x, y with
  | .tup ds, .int i => atI ds i
  | .lst ds, .int i => atI ds i
  | .str z, .int i => if z.length ≤ 16777216 then (atI z.cps.toList i).map fun cp => D.str ⟨#[cp]⟩ else none
  | _, _ => none
theorem Reps.atI {ok : Addr → Prop} {ds : List D} {vs : List V} {i : Int} {d : D} (h : Reps K ok H ds vs) (e : L2.atI ds i = some d) : ∃ v, L2.atI vs i = some v ∧ Rep K ok H d v := by
  unfold L2.atI at e ⊢
  rw [h.length]
  cases q : ixN ds.length i with
  | none => rw [q] at e; cases e
  | some j =>
    rw [q] at e
    exact h.get e
abbrev rIxA (K : PySem.W.Frag) : R2 := fun x y H Q => rIxT K x y H Q ∨ (rIxL K x y H Q ∨ rIxS x y H Q)
theorem IxR.or {r r' : R2} (h : IxR X r) (h' : IxR X r') : IxR X (fun x y H Q => r x y H Q ∨ r' x y H Q) := by
  intro value slice pins s σ H x y v u Q I rx ry q hs
  rcases q with q | q
  · exact h value slice pins s σ H x y v u Q I rx ry q hs
  · exact h' value slice pins s σ H x y v u Q I rx ry q hs
theorem ix_all : IxR X (rIxA X.K) := IxR.or ix_tup (IxR.or ix_list ix_str)
theorem opd_ix : OpD X (rIxA X.K) dIx := by
  intro T W c σ H Γ t s1 s2 x y z v u Q e rx ry hf q
  unfold dIx at hf
  split at hf
  · obtain ⟨a, vs, rfl, h2, h3⟩ := rx.tup
    obtain ⟨w, h4, h5⟩ := h3.atI hf
    rw [ry.int]
    exact .inl ⟨a, vs, _, w, rfl, rfl, h2, h4, q w H (Same.refl H) h5⟩
  · obtain ⟨a, vs, rfl, h2, h3⟩ := rx.lst e
    obtain ⟨w, h4, h5⟩ := h3.atI hf
    rw [ry.int]
    exact .inr (.inl ⟨a, vs, _, w, rfl, rfl, h2.sql, h4, q w H (Same.refl H) h5⟩)
  · rename_i z0 i
    by_cases hz : z0.length ≤ 16777216
    · rw [if_pos hz] at hf
      cases h6 : L2.atI z0.cps.toList i with
      | none => rw [h6] at hf; cases hf
      | some cp =>
        rw [h6] at hf
        cases hf
        rw [rx.str, ry.int]
        exact .inr (.inr ⟨z0, i, cp, rfl, rfl, by rw [sizeLine_eq]; exact hz, h6, q _ H (Same.refl H) rep_str⟩)
    · rw [if_neg hz] at hf; cases hf
  · cases hf
theorem pm_ix {a b : Expr} {ma mb : Ex T} {pos : Pos} (ha : Pm X W B s1 a ma) (hb : Pm X W B s2 b mb) (hs : PlainIx b) : Pm X W B s (.Subscript a b pos) (mOp dIx ma mb) :=
  pm_of (pe_ix ix_all ha hb hs) fun c σ H Γ t Q e p => tOp_M opd_ix e p
end
end DC
/-! ## slices, built-ins -/
namespace DC
open PySem L2
section
variable {T : Type} {X : Cx} {K : PySem.W.Frag} {mg : Str → Option Value} {W : Wd T} {B : WX} {s s1 s2 s3 : Bool}
variable {c : Cf T} {σ : L2.St} {H H' : Hp} {Γ : Gm} {t t' : T}
/-! ### slices -/
abbrev Po (T : Type) := Gm → T → Rs T (Option Int)
def PostO (K : PySem.W.Frag) (mg : Str → Option Value) (W : Wd T) (B : WX) (c : Cf T) (σ : L2.St) (Γ : Gm) (r : Rs T (Option Int)) (Q : Option Int → Hp → Prop) : Prop := match r with
  | .ok b t => ∀ H, Sit K W c σ H Γ t → Q b H
  | .er e t => ∀ cls dd H, Sit K W c σ H Γ t → ErRep K mg (c.okA W σ Γ t) H e cls dd → B cls dd σ H
  | .bad => False
def tMO (K : PySem.W.Frag) (mg : Str → Option Value) (W : Wd T) (B : WX) (m : Po T) : TO := fun σ H Q => ∃ (c : Cf T) (Γ : Gm) (t : T), Sit K W c σ H Γ t ∧ PostO K mg W B c σ Γ (m Γ t) Q
abbrev Om {T : Type} (X : Cx) (W : Wd T) (B : WX) (e : Option Expr) (m : Po T) : Prop := PO X e (tMO X.K X.mg W B m)
def mNo : Po T := fun _ t => .ok none t
def mPart (m : Ex T) : Po T := fun Γ t => (m Γ t).bind fun d t1 => match d with
  | .int i => .ok (some i) t1
  | _ => .bad
theorem om_none : Om X W B none (mNo : Po T) := ⟨fun pins s σ H Q I ⟨c, Γ, t, e, p⟩ => po_none.run pins s σ H Q I (p H e)⟩
theorem om_some {e : Expr} {m : Ex T} (h : Pm X W B s e m) : Om X W B (some e) (mPart m) := ⟨fun pins s0 σ H Q I ⟨c, Γ, t, e, p⟩ => (po_some h).run pins s0 σ H Q I (by
  refine ⟨c, Γ, t, e, ?_⟩
  unfold mPart at p
  revert p
  cases m Γ t with
  | ok d t1 =>
    cases d with
    | int i => exact fun p v H1 e1 r1 => ⟨i, r1.int, p H1 e1⟩
    | _ => exact fun p => p.elim
  | er x t1 => exact fun p => p
  | bad => exact fun p => p)⟩
theorem tMO_bind {m : Po T} {f : Option Int → T → Rs T D} {Q : VK} {R : Option Int → Hp → Prop} (e : Sit K W c σ H Γ t) (p : Post K mg W B c σ Γ s ((m Γ t).bind f) Q)
    (k : ∀ d t1 H1, Sit K W c σ H1 Γ t1 → Post K mg W B c σ Γ s (f d t1) Q → R d H1) : tMO K mg W B m σ H R := by
  refine ⟨c, Γ, t, e, ?_⟩
  cases q : m Γ t with
  | ok d t1 => rw [q] at p; exact fun H1 e1 => k d t1 H1 e1 p
  | er x t1 => rw [q] at p; exact p
  | bad => rw [q] at p; exact p
theorem tMO_bindL {m : Po T} {f : Option Int → T → Rs T (List D)} {Q : VK} {R : Option Int → Hp → Prop} (e : Sit K W c σ H Γ t) (p : PostL K mg W B c σ Γ ((m Γ t).bind f) Q)
    (k : ∀ d t1 H1, Sit K W c σ H1 Γ t1 → PostL K mg W B c σ Γ (f d t1) Q → R d H1) : tMO K mg W B m σ H R := by
  refine ⟨c, Γ, t, e, ?_⟩
  cases q : m Γ t with
  | ok d t1 => rw [q] at p; exact fun H1 e1 => k d t1 H1 e1 p
  | er x t1 => rw [q] at p; exact p
  | bad => rw [q] at p; exact p
def cut {α : Type} (xs : List α) (lo hi : Option Int) : List α := (xs.drop (HT.sIx xs.length 0 lo)).take (HT.sIx xs.length xs.length hi - HT.sIx xs.length 0 lo)
theorem Reps.cut {ok : Addr → Prop} {ds : List D} {vs : List V} (h : Reps K ok H ds vs) (lo hi : Option Int) : Reps K ok H (DC.cut ds lo hi) (cutV vs lo hi) := by
  unfold DC.cut cutV
  rw [h.length]
  exact (h.drop _).take _
theorem cut_whole {α : Type} {xs : List α} {lo hi : Option Int} (h : HT.sIx xs.length 0 lo = 0 ∧ HT.sIx xs.length xs.length hi = xs.length) : DC.cut xs lo hi = xs := by
  unfold DC.cut
  rw [h.1, h.2, List.drop_zero, Nat.sub_zero, List.take_length]
def dSl (x : D) (lo hi : Option Int) : Option D := match x with
  | .tup ds => some (.tup (cut ds lo hi))
  | .str z => if z.length ≤ 16777216 then some (.str (cutS z lo hi)) else none
  | _ => none
def mSl (a : Ex T) (lo hi : Po T) : Ex T := fun Γ t => (a Γ t).bind fun x t1 => (lo Γ t1).bind fun l t2 => (hi Γ t2).bind fun h t3 => ofO (dSl x l h) t3
theorem pm_sl {a : Expr} {lo hi : Option Expr} {ma : Ex T} {ml mh : Po T} {p2 pos : Pos} (ha : Pm X W B s1 a ma) (hl : Om X W B lo ml) (hh : Om X W B hi mh) : Pm X W B s (.Subscript a (.Slice lo hi none p2) pos) (mSl ma ml mh) :=
  pm_of (pe_slice (SlR.or sl_tupA sl_str) ha hl hh) fun c σ H Γ t Q e p => tM_bind e p fun x t1 v H1 e1 r1 p1 => tMO_bind e1.rb (p1.rb e1) fun l t2 H2 e2 p2 => tMO_bind e2.rb (p2.rb e2) fun h t3 H3 e3 p3 => by
    have r3 := keepT e2 e3 (keepT e1 e2 r1)
    cases x with
    | tup ds =>
      obtain ⟨a, vs, rfl, h1, h2⟩ := r3.tup
      refine .inl ⟨a, vs, rfl, h1, fun w => ?_, fun _ q hq => ?_⟩
      · refine p3 _ H3 e3 (.inl ?_)
        rw [h2.length] at w
        rw [cut_whole w]
        unfold Rep
        exact ⟨a, vs, rfl, h1, h2⟩
      · exact p3 _ _ (e3.new hq) (.inl (rep_tup (h2.cut l h) hq))
    | str z =>
      by_cases hz : z.length ≤ 16777216
      · simp only [dSl, hz, if_true] at p3
        rw [r3.str]
        exact .inr ⟨z, rfl, by rw [sizeLine_eq]; exact hz, p3 _ H3 e3 (.inl rep_str)⟩
      · simp only [dSl, hz, if_false] at p3; exact p3.elim
    | _ => exact p3.elim
/-- a slice of a list, a new list -/
def mSlL (a : Ex T) (lo hi : Po T) : Ar T := fun Γ t => (a Γ t).bind fun x t1 => (lo Γ t1).bind fun l t2 => (hi Γ t2).bind fun h t3 => match x with
  | .lst ds => if ds.length ≤ 16777216 then .ok (cut ds l h) t3 else .bad
  | _ => .bad
theorem lm_sl {a : Expr} {lo hi : Option Expr} {ma : Ex T} {ml mh : Po T} {p2 pos : Pos} (ha : Pm X W B s1 a ma) (hl : Om X W B lo ml) (hh : Om X W B hi mh) : Lm X W B (.Subscript a (.Slice lo hi none p2) pos) (mSlL ma ml mh) :=
  lm_of (pe_slice sl_list ha hl hh) fun c σ H Γ t Q e p => tM_bindL e p fun x t1 v H1 e1 r1 p1 => tMO_bindL e1.rb (p1.rb e1) fun l t2 H2 e2 p2 => tMO_bindL e2.rb (p2.rb e2) fun h t3 H3 e3 p3 => by
    have r3 := keepT e2 e3 (keepT e1 e2 r1)
    cases x with
    | lst ds =>
      by_cases hz : ds.length ≤ 16777216
      · simp only [hz, if_true] at p3
        obtain ⟨a, vs, rfl, h1, h2⟩ := RepT.lst ((e1.un e2).un e3) r3
        refine ⟨a, vs, rfl, h1.sql, fun q hq => p3 _ _ _ e3 hq (h2.cut l h) ?_⟩
        have := cutV_length vs l h
        have := h2.length
        omega
      · simp only [hz, if_false] at p3; exact p3.elim
    | _ => exact p3.elim
/-! ### built-ins by name -/
theorem pm_blt {id : String} {r : List V → Hp → VK → Prop} {f : List D → Option D} {x : Str} {e : Expr} {es : List Expr} {m : Ar T} {p pos : Pos} (hc : CallR X (.builtin id) r) (hr : CallD X r f) (hm : X.mg x = none) (hv : bootBuiltins x = some (.builtin id)) (ha : Am X W B s1 (e :: es) m)
    (hg : Gl X x := by rfl) (hn : x ≠ "__name__" := by decide) (hdb : (x == ("__debug__" : Str)) = false := by decide)
    (he : starEach (e :: es) X.env = (false, eval e X.env) :: starEach es X.env := by rfl) (hpl : (backTo pos (starEach es X.env)).any (·.1) = false := by rfl) : Pm X W B s (.Call (.Name x p) (e :: es) [] pos) (mBlt f m) :=
  pm_of (pe_callB hc hg hm hv ha hn hdb he hpl) fun c σ H Γ t Q e p => tCB_M hr e p
theorem pm_ty {id : String} {r : List V → Hp → VK → Prop} {f : List D → Option D} {x : Str} {e : Expr} {es : List Expr} {m : Ar T} {p pos : Pos} (hc : CallR X (.type id) r) (hr : CallD X r f) (hm : X.mg x = none) (hv : bootBuiltins x = some (.type id)) (ha : Am X W B s1 (e :: es) m)
    (hg : Gl X x := by rfl) (hn : x ≠ "__name__" := by decide) (hdb : (x == ("__debug__" : Str)) = false := by decide)
    (he : starEach (e :: es) X.env = (false, eval e X.env) :: starEach es X.env := by rfl) (hpl : (backTo pos (starEach es X.env)).any (·.1) = false := by rfl) : Pm X W B s (.Call (.Name x p) (e :: es) [] pos) (mBlt f m) :=
  pm_of (pe_callTy hc hg hm hv ha hn hdb he hpl) fun c σ H Γ t Q e p => tCB_M hr e p
theorem RepsT.one {d : D} {ok : Addr → Prop} {vs : List V} (h : RepsT s K ok σ Γ H [d] vs) : ∃ v, vs = [v] ∧ RepT s K ok σ Γ H d v := by
  obtain ⟨v, r, rfl, h1, h2⟩ := h
  have e : r = [] := h2
  subst e
  exact ⟨v, rfl, h1⟩
theorem RepsT.two {d d' : D} {ok : Addr → Prop} {vs : List V} (h : RepsT s K ok σ Γ H [d, d'] vs) : ∃ v v', vs = [v, v'] ∧ RepT s K ok σ Γ H d v ∧ RepT s K ok σ Γ H d' v' := by
  obtain ⟨v, r, rfl, h1, h2⟩ := h
  obtain ⟨v', rfl, h3⟩ := RepsT.one h2
  exact ⟨v, v', rfl, h1, h3⟩
def d1 (f : D → Option D) : List D → Option D
  | [x] => f x
  | _ => none
def d2 (f : D → D → Option D) : List D → Option D
  | [x, y] => f x y
  | _ => none
theorem d1_some {f : D → Option D} {ds : List D} {z : D} (h : d1 f ds = some z) : ∃ x, ds = [x] ∧ f x = some z := by
  match ds, h with
  | [x], h => exact ⟨x, rfl, h⟩
theorem d2_some {f : D → D → Option D} {ds : List D} {z : D} (h : d2 f ds = some z) : ∃ x y, ds = [x, y] ∧ f x y = some z := by
  match ds, h with
  | [x, y], h => exact ⟨x, y, rfl, h⟩
def dLen : D → Option D
  | .str z => if z.length ≤ 16777216 then some (.int z.length) else none
  | .tup ds => some (.int ds.length)
  | .lst ds => some (.int ds.length)
  | _ => none
theorem cd_len : CallD X (fun xs H Q => ∃ x n, xs = [x] ∧ LenV X.K x H n ∧ Q (.int n) H) (d1 dLen) := by
  intro T W c σ H Γ t s1 ds z vs Q e r hf q
  obtain ⟨x, rfl, hx⟩ := d1_some hf
  obtain ⟨v, rfl, rv⟩ := r.one
  cases x with
  | str y =>
    change (if y.length ≤ 16777216 then some (D.int y.length) else none) = some z at hx
    by_cases hz : y.length ≤ 16777216
    · rw [if_pos hz] at hx
      cases hx
      rw [rv.str]
      exact ⟨_, y.length, rfl, ⟨by rw [sizeLine_eq]; exact hz, rfl⟩, q _ H (Same.refl H) rep_int⟩
    · rw [if_neg hz] at hx; cases hx
  | tup ys =>
    cases hx
    obtain ⟨a, us, rfl, h1, h2⟩ := rv.tup
    exact ⟨_, ys.length, rfl, .inr ⟨us, h1, h2.length.symm⟩, q _ H (Same.refl H) rep_int⟩
  | lst ys =>
    cases hx
    obtain ⟨a, us, rfl, h1, h2⟩ := rv.lst e
    exact ⟨_, ys.length, rfl, .inl ⟨us, h1.sql, h2.length.symm⟩, q _ H (Same.refl H) rep_int⟩
  | _ => cases hx
def dAbs : D → Option D
  | .int i => some (.int (if i < 0 then -i else i))
  | _ => none
theorem cd_abs : CallD X (fun xs H Q => ∃ i, xs = [.int i] ∧ Q (.int (if i < 0 then -i else i)) H) (d1 dAbs) := by
  intro T W c σ H Γ t s1 ds z vs Q e r hf q
  obtain ⟨x, rfl, hx⟩ := d1_some hf
  obtain ⟨v, rfl, rv⟩ := r.one
  cases x with
  | int i => cases hx; rw [rv.int]; exact ⟨i, rfl, q _ H (Same.refl H) rep_int⟩
  | _ => cases hx
def dMax2 : D → D → Option D := dI fun i j => some (.int (if j > i then j else i))
def dMin2 : D → D → Option D := dI fun i j => some (.int (if j < i then j else i))
theorem cd_max2 : CallD X (fun xs H Q => ∃ i j, xs = [.int i, .int j] ∧ Q (.int (if j > i then j else i)) H) (d2 dMax2) := by
  intro T W c σ H Γ t s1 ds z vs Q e r hf q
  obtain ⟨x, y, rfl, hx⟩ := d2_some hf
  obtain ⟨v, v', rfl, r1, r2⟩ := r.two
  obtain ⟨i, j, rfl, rfl, h⟩ := dI_some hx
  cases h
  rw [r1.int, r2.int]
  exact ⟨i, j, rfl, q _ H (Same.refl H) rep_int⟩
theorem cd_min2 : CallD X (fun xs H Q => ∃ i j, xs = [.int i, .int j] ∧ Q (.int (if j < i then j else i)) H) (d2 dMin2) := by
  intro T W c σ H Γ t s1 ds z vs Q e r hf q
  obtain ⟨x, y, rfl, hx⟩ := d2_some hf
  obtain ⟨v, v', rfl, r1, r2⟩ := r.two
  obtain ⟨i, j, rfl, rfl, h⟩ := dI_some hx
  cases h
  rw [r1.int, r2.int]
  exact ⟨i, j, rfl, q _ H (Same.refl H) rep_int⟩
/-- int(n), int(flag), (int(text): elsewhere) -/
def dInt1 : D → Option D
  | .int i => some (.int i)
  | .bl b => some (.int (if b then 1 else 0))
  | _ => none
theorem cd_int1 : CallD X (fun xs H Q => (∃ i, xs = [.int i] ∧ Q (.int i) H) ∨ ∃ k, xs = [.bl k] ∧ Q (.int (if k then 1 else 0)) H) (d1 dInt1) := by
  intro T W c σ H Γ t s1 ds z vs Q e r hf q
  obtain ⟨x, rfl, hx⟩ := d1_some hf
  obtain ⟨v, rfl, rv⟩ := r.one
  cases x with
  | int i => cases hx; rw [rv.int]; exact .inl ⟨i, rfl, q _ H (Same.refl H) rep_int⟩
  | bl b => cases hx; rw [rv.bl]; exact .inr ⟨b, rfl, q _ H (Same.refl H) rep_int⟩
  | _ => cases hx
def dStrI : D → Option D
  | .int i => if i.natAbs.log2 < 1920 then some (.str (toString i)) else none
  | _ => none
theorem cd_strI : CallD X (fun xs H Q => ∃ i, xs = [.int i] ∧ i.natAbs.log2 < 1920 ∧ Q (.str (toString i)) H) (d1 dStrI) := by
  intro T W c σ H Γ t s1 ds z vs Q e r hf q
  obtain ⟨x, rfl, hx⟩ := d1_some hf
  obtain ⟨v, rfl, rv⟩ := r.one
  cases x with
  | int i =>
    change (if i.natAbs.log2 < 1920 then some (D.str (toString i)) else none) = some z at hx
    by_cases hz : i.natAbs.log2 < 1920
    · rw [if_pos hz] at hx
      cases hx
      rw [rv.int]
      exact ⟨i, rfl, hz, q _ H (Same.refl H) rep_str⟩
    · rw [if_neg hz] at hx; cases hx
  | _ => cases hx
/-- tuple(xs) -/
def dTupOf : D → Option D
  | .tup ds => some (.tup ds)
  | .lst ds => some (.tup ds)
  | _ => none
theorem cd_tupOf : CallD X (fun xs H Q => ∃ p ys, xs = [.ref p] ∧ ((SqL X.K H p ys ∧ ∀ l, H l = none → Q (.ref l) (upd H l (.tup ys))) ∨ (SqT X.K H p ys ∧ Q (.ref p) H))) (d1 dTupOf) := by
  intro T W c σ H Γ t s1 ds z vs Q e r hf q
  obtain ⟨x, rfl, hx⟩ := d1_some hf
  obtain ⟨v, rfl, rv⟩ := r.one
  cases x with
  | tup ys =>
    cases hx
    obtain ⟨a, us, rfl, h1, h2⟩ := rv.tup
    exact ⟨a, us, rfl, .inr ⟨h1, q _ H (Same.refl H) (by unfold Rep; exact ⟨a, us, rfl, h1, h2⟩)⟩⟩
  | lst ys =>
    cases hx
    obtain ⟨a, us, rfl, h1, h2⟩ := rv.lst e
    exact ⟨a, us, rfl, .inl ⟨h1.sql, fun l hl => q _ _ (same_upd hl) (rep_tup h2 hl)⟩⟩
  | _ => cases hx
/-- ints, truth values of a list -/
def dInts : List D → Option (List Int)
  | [] => some []
  | .int i :: ds => (dInts ds).map (i :: ·)
  | _ => none
theorem dInts_v {ok : Addr → Prop} : ∀ {ds : List D} {ns : List Int} {vs : List V}, dInts ds = some ns → Reps K ok H ds vs → vs = ns.map V.int
  | [], ns, vs, h, r => by cases h; unfold Reps at r; exact r
  | d :: ds, ns, vs, h, r => by
    cases d with
    | int i =>
      unfold dInts at h
      cases q : dInts ds with
      | none => rw [q] at h; cases h
      | some ms =>
        rw [q] at h
        cases h
        unfold Reps at r
        obtain ⟨v, w, rfl, r1, r2⟩ := r
        unfold Rep at r1
        rw [r1, dInts_v q r2]
        rfl
    | _ => cases h
def dBls : List D → Option (List Bool)
  | [] => some []
  | .bl i :: ds => (dBls ds).map (i :: ·)
  | _ => none
theorem dBls_v {ok : Addr → Prop} : ∀ {ds : List D} {ns : List Bool} {vs : List V}, dBls ds = some ns → Reps K ok H ds vs → vs = ns.map V.bl
  | [], ns, vs, h, r => by cases h; unfold Reps at r; exact r
  | d :: ds, ns, vs, h, r => by
    cases d with
    | bl i =>
      unfold dBls at h
      cases q : dBls ds with
      | none => rw [q] at h; cases h
      | some ms =>
        rw [q] at h
        cases h
        unfold Reps at r
        obtain ⟨v, w, rfl, r1, r2⟩ := r
        unfold Rep at r1
        rw [r1, dBls_v q r2]
        rfl
    | _ => cases h
def dSum : D → Option D
  | .lst ds => (dInts ds).map fun ns => .int ns.sum
  | _ => none
theorem cd_sum : CallD X (rSum X.K) (d1 dSum) := by
  intro T W c σ H Γ t s1 ds z vs Q e r hf q
  obtain ⟨x, rfl, hx⟩ := d1_some hf
  obtain ⟨v, rfl, rv⟩ := r.one
  cases x with
  | lst ys =>
    obtain ⟨a, us, rfl, h1, h2⟩ := rv.lst e
    change (dInts ys).map (fun ns => D.int ns.sum) = some z at hx
    cases hq : dInts ys with
    | none => rw [hq] at hx; cases hx
    | some ns =>
      rw [hq] at hx
      cases hx
      have ev := dInts_v hq h2
      subst ev
      exact ⟨a, ns, rfl, h1.sql, q _ H (Same.refl H) rep_int⟩
  | _ => cases hx
def dAll : D → Option D
  | .lst ds => (dBls ds).map fun ns => .bl (ns.all id)
  | _ => none
theorem cd_all : CallD X (rAll X.K) (d1 dAll) := by
  intro T W c σ H Γ t s1 ds z vs Q e r hf q
  obtain ⟨x, rfl, hx⟩ := d1_some hf
  obtain ⟨v, rfl, rv⟩ := r.one
  cases x with
  | lst ys =>
    obtain ⟨a, us, rfl, h1, h2⟩ := rv.lst e
    change (dBls ys).map (fun ns => D.bl (ns.all id)) = some z at hx
    cases hq : dBls ys with
    | none => rw [hq] at hx; cases hx
    | some ns =>
      rw [hq] at hx
      cases hx
      have ev := dBls_v hq h2
      subst ev
      exact ⟨a, ns, rfl, h1.sql, q _ H (Same.refl H) rep_bl⟩
  | _ => cases hx
/-- list(xs), a new list -/
def mListOf (m : Ar T) : Ar T := fun Γ t => (m Γ t).bind fun ds t1 => match ds with
  | [x] => (match dItems x with
    | some es => if es.length ≤ 16777216 then .ok es t1 else .bad
    | none => .bad)
  | _ => .bad
theorem lm_list {e : Expr} {es : List Expr} {m : Ar T} {p pos : Pos} (hm : X.mg "list" = none) (ha : Am X W B s1 (e :: es) m) (hg : Gl X "list" := by rfl)
    (he : starEach (e :: es) X.env = (false, eval e X.env) :: starEach es X.env := by rfl) (hpl : (backTo pos (starEach es X.env)).any (·.1) = false := by rfl) : Lm X W B (.Call (.Name "list" p) (e :: es) [] pos) (mListOf m) :=
  lm_of (pe_callTy call_list_of hg hm (by decide +kernel) ha (by decide) (by decide) he hpl) fun c σ H Γ t Q e p => tMA_bindL e p fun ds t1 vs H1 e1 r1 p1 => by
    match ds, p1, r1 with
    | [x], p1, r1 =>
      obtain ⟨v, rfl, rv⟩ := r1.one
      cases hq : dItems x with
      | none => simp only [hq] at p1; exact p1.elim
      | some es =>
        simp only [hq] at p1
        by_cases hz : es.length ≤ 16777216
        · simp only [hz, if_true] at p1
          obtain ⟨a, us, rfl, h1, h2⟩ := rv.seq e1 hq
          exact ⟨a, us, rfl, h1.symm, fun l hl => p1 _ _ _ e1 hl h2 (by rw [h2.length]; exact hz)⟩
        · simp only [hz, if_false] at p1; exact p1.elim
/-- sorted(ints), a new list -/
def sInts (ns : List Int) : List Int := ns.mergeSort (fun a b => decide (a ≤ b))
def mSortI (m : Ar T) : Ar T := fun Γ t => (m Γ t).bind fun ds t1 => match ds with
  | [.lst es] => (match dInts es with
    | some ns => if ns.length ≤ 16777216 then .ok ((sInts ns).map D.int) t1 else .bad
    | none => .bad)
  | _ => .bad
theorem reps_ints {ok : Addr → Prop} : ∀ ns : List Int, Reps K ok H (ns.map D.int) (ns.map V.int)
  | [] => Reps.nil
  | n :: ns => .cons rep_int (reps_ints ns)
theorem sorted_eq {ns ms : List Int} (h1 : ms.Perm ns) (h2 : ms.Pairwise (· ≤ ·)) : ms = sInts ns := by
  have h3 : (sInts ns).Perm ns := List.mergeSort_perm ns _
  have h4 : (sInts ns).Pairwise (fun a b => (decide (a ≤ b)) = true) := List.pairwise_mergeSort (by intro a b c h h'; simp at *; omega) (by intro a b; simp; omega) ns
  refine List.Perm.eq_of_pairwise (le := fun a b => a ≤ b) ?_ h2 (h4.imp (by intro a b h; simpa using h)) (h1.trans h3.symm)
  intro a b _ _ h h'
  omega
/-! ### isinstance -/
inductive Bt | int | bl | str | tup | lst
def Bt.name : Bt → String
  | .int => "int" | .bl => "bool" | .str => "str" | .tup => "tuple" | .lst => "list"
def D.is : D → Bt → Option Bool
  | .adr _, _ => none
  | .int _, .int => some true
  | .bl _, .int => some true
  | .bl _, .bl => some true
  | .str _, .str => some true
  | .tup _, .tup => some true
  | .lst _, .lst => some true
  | _, _ => some false
def D.tyn : D → String
  | .non => "NoneType" | .bl _ => "bool" | .int _ => "int" | .str _ => "str" | .tup _ => "tuple" | .lst _ => "list" | .adr _ => ""
theorem kit_t : kitB "int" "int" = some true ∧ kitB "bool" "int" = some true ∧ kitB "bool" "bool" = some true ∧ kitB "str" "str" = some true ∧ kitB "tuple" "tuple" = some true ∧ kitB "list" "list" = some true := by decide +kernel
theorem kit_i : kitB "NoneType" "int" = some false ∧ kitB "str" "int" = some false ∧ kitB "tuple" "int" = some false ∧ kitB "list" "int" = some false := by decide +kernel
theorem kit_b : kitB "NoneType" "bool" = some false ∧ kitB "int" "bool" = some false ∧ kitB "str" "bool" = some false ∧ kitB "tuple" "bool" = some false ∧ kitB "list" "bool" = some false := by decide +kernel
theorem kit_s : kitB "NoneType" "str" = some false ∧ kitB "bool" "str" = some false ∧ kitB "int" "str" = some false ∧ kitB "tuple" "str" = some false ∧ kitB "list" "str" = some false := by decide +kernel
theorem kit_u : kitB "NoneType" "tuple" = some false ∧ kitB "bool" "tuple" = some false ∧ kitB "int" "tuple" = some false ∧ kitB "str" "tuple" = some false ∧ kitB "list" "tuple" = some false := by decide +kernel
theorem kit_l : kitB "NoneType" "list" = some false ∧ kitB "bool" "list" = some false ∧ kitB "int" "list" = some false ∧ kitB "str" "list" = some false ∧ kitB "tuple" "list" = some false := by decide +kernel
theorem kit_is {d : D} {b : Bt} {r : Bool} (h : d.is b = some r) : kitB d.tyn b.name = some r := by
  cases d with
  | non => cases b <;> cases h <;> first | exact kit_i.1 | exact kit_b.1 | exact kit_s.1 | exact kit_u.1 | exact kit_l.1
  | bl _ => cases b <;> cases h <;> first | exact kit_t.2.1 | exact kit_t.2.2.1 | exact kit_s.2.1 | exact kit_u.2.1 | exact kit_l.2.1
  | int _ => cases b <;> cases h <;> first | exact kit_t.1 | exact kit_b.2.1 | exact kit_s.2.2.1 | exact kit_u.2.2.1 | exact kit_l.2.2.1
  | str _ => cases b <;> cases h <;> first | exact kit_t.2.2.2.1 | exact kit_i.2.1 | exact kit_b.2.2.1 | exact kit_u.2.2.2.1 | exact kit_l.2.2.2.1
  | tup _ => cases b <;> cases h <;> first | exact kit_t.2.2.2.2.1 | exact kit_i.2.2.1 | exact kit_b.2.2.2.1 | exact kit_s.2.2.2.1 | exact kit_l.2.2.2.2
  | lst _ => cases b <;> cases h <;> first | exact kit_t.2.2.2.2.2 | exact kit_i.2.2.2 | exact kit_b.2.2.2.2 | exact kit_s.2.2.2.2 | exact kit_u.2.2.2.2
  | adr _ => cases h
theorem tyx_of {a : Addr} {vs : List V} (h : SqT K H a vs) : TyX K H (.ref a) (.type "tuple") := by
  rcases h with (h | ⟨o, h⟩) | ⟨o, its, n, h1, h2, _⟩
  · exact .base (.tup h)
  · exact .fTuple h
  · exact .kTuple h1 h2
theorem RepT.tyx {d : D} {v : V} {b : Bt} {k : Bool} (e : Sit K W c σ H Γ t) (h : RepT s K (c.okA W σ Γ t) σ Γ H d v) (hd : d.is b = some k) : TyX K H v (.type d.tyn) := by
  cases d with
  | non => rw [h.non]; exact .base .non
  | bl _ => rw [h.bl]; exact .base (.bl _)
  | int _ => rw [h.int]; exact .base (.int _)
  | str _ => rw [h.str]; exact .base (.str _)
  | tup _ => obtain ⟨a, us, rfl, h1, h2⟩ := h.tup; exact tyx_of h1
  | lst _ => obtain ⟨a, us, rfl, h1, h2⟩ := h.lst e; exact .base (.lst h1.2)
  | adr _ => cases hd
def dIsi (b : Bt) (d : D) : Option D := (d.is b).map D.bl
theorem pm_isi {a : Expr} {ma : Ex T} {y : Str} {p p2 pos : Pos} (b : Bt) (hm : X.mg "isinstance" = none) (hy : X.mg y = none) (hv : bootBuiltins y = some (.type b.name)) (ha : Pm X W B s1 a ma) (hg : Gl X "isinstance" := by rfl) (hgy : Gl X y := by rfl)
    (hn : y ≠ "__name__" := by decide) (hdb : (y == ("__debug__" : Str)) = false := by decide)
    (he : starEach [a, .Name y p2] X.env = (false, eval a X.env) :: starEach [.Name y p2] X.env := by rfl) (hpl : (backTo pos (starEach [.Name y p2] X.env)).any (·.1) = false := by rfl) :
    Pm X W B s (.Call (.Name "isinstance" p) [a, .Name y p2] [] pos) (mUn (dIsi b) ma) :=
  pm_of (pe_callB call_isi hg hm PyProof.Rows.boot_isinstance (pa_cons ha (pa_cons (pe_bltn (v := .ty b.name) hgy hy hv rfl hn hdb) pa_nil) he) (by decide) (by decide) he hpl) fun c σ H Γ t Q e p =>
    tM_bind e p fun d t1 v H1 e1 r1 p1 => by
      cases q : d.is b with
      | none => unfold dIsi at p1; rw [q] at p1; exact p1.elim
      | some k =>
        unfold dIsi at p1
        rw [q] at p1
        exact ⟨v, .ty b.name, .type d.tyn, .type b.name, k, rfl, .ty _, r1.tyx e1 q, kit_ty (kit_is q), p1 _ H1 e1 (.inl rep_bl)⟩
def dIsi2 (b b' : Bt) (d : D) : Option D := match d.is b with
  | some true => some (.bl true)
  | some false => (d.is b').map D.bl
  | none => none
theorem kitAny_two {t c c' : Value} {r : Bool} (h : PySem.W.kitOne K t c = some false) (h' : PySem.W.kitOne K t c' = some r) : PySem.W.kitAny K t [c, c'] = some r :=
  kitAny_cons h (fun _ => kitAny_cons h' (fun e => by subst e; rfl) fun e => e) fun e => nomatch e
/-- isinstance(x, (A, B)) of built-in types -/
theorem pm_isi2 {a : Expr} {ma : Ex T} {y y' : Str} {p p2 p3 p4 pos : Pos} {x1} (b b' : Bt) (hm : X.mg "isinstance" = none) (hy : X.mg y = none) (hv : bootBuiltins y = some (.type b.name)) (hy' : X.mg y' = none) (hv' : bootBuiltins y' = some (.type b'.name)) (ha : Pm X W B s1 a ma)
    (hg : Gl X "isinstance" := by rfl) (hgy : Gl X y := by rfl) (hgy' : Gl X y' := by rfl)
    (hn : y ≠ "__name__" := by decide) (hdb : (y == ("__debug__" : Str)) = false := by decide) (hn' : y' ≠ "__name__" := by decide) (hdb' : (y' == ("__debug__" : Str)) = false := by decide)
    (he : starEach [a, .Tuple [.Name y p2, .Name y' p3] x1 p4] X.env = (false, eval a X.env) :: starEach [.Tuple [.Name y p2, .Name y' p3] x1 p4] X.env := by rfl) (hpl : (backTo pos (starEach [.Tuple [.Name y p2, .Name y' p3] x1 p4] X.env)).any (·.1) = false := by rfl) :
    Pm X W B s (.Call (.Name "isinstance" p) [a, .Tuple [.Name y p2, .Name y' p3] x1 p4] [] pos) (mUn (dIsi2 b b') ma) :=
  pm_of (pe_callB call_isiT hg hm PyProof.Rows.boot_isinstance (pa_cons ha (pa_cons (pe_tup (pa_cons (pe_bltn (v := .ty b.name) hgy hy hv rfl hn hdb) (pa_cons (pe_bltn (v := .ty b'.name) hgy' hy' hv' rfl hn' hdb') pa_nil))) pa_nil) he) (by decide) (by decide) he hpl) fun c σ H Γ t Q e p =>
    tM_bind e p fun d t1 v H1 e1 r1 p1 => by
      refine ⟨by show 2 ≤ sizeLine; rw [sizeLine_eq]; decide, fun q hq => ?_⟩
      have e2 := e1.new (o := .tup [.ty b.name, .ty b'.name]) hq
      have r2 := r1.same (same_upd (o := .tup [.ty b.name, .ty b'.name]) hq)
      have k2 : Paired ClsV [V.ty b.name, V.ty b'.name] [.type b.name, .type b'.name] := .cons (.ty _) (.cons (.ty _) .nil)
      cases h1 : d.is b with
      | none => unfold dIsi2 at p1; rw [h1] at p1; exact p1.elim
      | some k =>
        unfold dIsi2 at p1
        rw [h1] at p1
        have ty := r2.tyx e2 h1
        cases k with
        | true => exact ⟨v, q, _, _, _, true, rfl, upd_same, k2, ty, kitAny_cons (kit_ty (kit_is h1)) (fun z => nomatch z) (fun _ => rfl), p1 _ _ e2 (.inl rep_bl)⟩
        | false =>
          cases h2 : d.is b' with
          | none => simp only [h2] at p1; exact p1.elim
          | some k' =>
            simp only [h2] at p1
            exact ⟨v, q, _, _, _, k', rfl, upd_same, k2, ty, kitAny_two (kit_ty (kit_is h1)) (kit_ty (kit_is h2)), p1 _ _ e2 (.inl rep_bl)⟩
end
end DC
/-! ## targets, what is walked, comprehensions -/
namespace DC
open PySem L2 PySem.Spec
section
variable {T : Type} {X : Cx} {K : PySem.W.Frag} {mg : Str → Option Value} {W : Wd T} {B : WX} {s s1 s2 s3 : Bool}
variable {c : Cf T} {σ : L2.St} {H H' : Hp} {Γ : Gm} {t t' : T}
/-! ### targets -/
abbrev Tg := D → Gm → Option Gm
abbrev Tgs := List D → Gm → Option Gm
/-- but for the slots ks -/
def But (ks : List Nat) (σ σ' : L2.St) : Prop := σ'.length = σ.length ∧ ∀ j, j ∉ ks → σ'[j]? = σ[j]?
theorem But.refl : But [] σ σ := ⟨rfl, fun _ _ => rfl⟩
def tMG (K : PySem.W.Frag) (W : Wd T) (ks : List Nat) (m : Tg) : TG := fun v σ H Q => ∃ (c : Cf T) (Γ : Gm) (t : T) (d : D), Sit K W c σ H Γ t ∧ Rep K (c.okA W σ Γ t) H d v ∧ match m d Γ with
  | some Γ' => ∀ σ', Sit K W c σ' H Γ' t → But ks σ σ' → Q σ' H
  | none => False
def tMGs (K : PySem.W.Frag) (W : Wd T) (ks : List Nat) (m : Tgs) : List V → L2.St → Hp → (L2.St → Hp → Prop) → Prop := fun vs σ H Q => ∃ (c : Cf T) (Γ : Gm) (t : T) (ds : List D), Sit K W c σ H Γ t ∧ Reps K (c.okA W σ Γ t) H ds vs ∧ match m ds Γ with
  | some Γ' => ∀ σ', Sit K W c σ' H Γ' t → But ks σ σ' → Q σ' H
  | none => False
/-- m touches the slots ks alone -/
def TgBut {α : Type} (ks : List Nat) (m : α → Gm → Option Gm) : Prop := ∀ d Γ Γ', m d Γ = some Γ' → ∀ j, j ∉ ks → Γ'[j]? = Γ[j]?
structure Gt {T : Type} (X : Cx) (W : Wd T) (ks : List Nat) (e : Expr) (m : Tg) : Prop where
  pg : PG X e (tMG X.K W ks m)
  but : TgBut ks m
structure Gts {T : Type} (X : Cx) (W : Wd T) (ks : List Nat) (es : List Expr) (m : Tgs) : Prop where
  pg : PGs X es (tMGs X.K W ks m)
  but : TgBut ks m
theorem but_name (i : Nat) : TgBut [i] (fun (d : D) (Γ : Gm) => some (Γ.set i (some (Sl.dat d)))) := fun d Γ Γ' h j hj => by
  cases h
  rw [List.getElem?_set_ne (fun z => hj (by simp [z]))]
theorem gt_of {ks : List Nat} {e : Expr} {g : TG} {m : Tg} (hb : TgBut ks m) (h : PG X e g) (imp : ∀ c σ H Γ t d v (Q : L2.St → Hp → Prop), Sit X.K W c σ H Γ t → Rep X.K (c.okA W σ Γ t) H d v → (match m d Γ with | some Γ' => ∀ σ', Sit X.K W c σ' H Γ' t → But ks σ σ' → Q σ' H | none => False) → g v σ H Q) : Gt X W ks e m :=
  ⟨⟨fun pins s σ H v u Q I r ⟨c, Γ, t, d, e, rp, p⟩ => h.run pins s σ H v u Q I r (imp c σ H Γ t d v Q e rp p)⟩, hb⟩
theorem gts_of {ks : List Nat} {es : List Expr} {g : List V → L2.St → Hp → (L2.St → Hp → Prop) → Prop} {m : Tgs} (hb : TgBut ks m) (h : PGs X es g) (imp : ∀ c σ H Γ t ds vs (Q : L2.St → Hp → Prop), Sit X.K W c σ H Γ t → Reps X.K (c.okA W σ Γ t) H ds vs → (match m ds Γ with | some Γ' => ∀ σ', Sit X.K W c σ' H Γ' t → But ks σ σ' → Q σ' H | none => False) → g vs σ H Q) : Gts X W ks es m :=
  ⟨⟨fun pins s σ H v u Q I r ⟨c, Γ, t, d, e, rp, p⟩ => h.run pins s σ H v u Q I r (imp c σ H Γ t d v Q e rp p)⟩, hb⟩
def gN (i : Nat) : Tg := fun d Γ => some (Γ.set i (some (.dat d)))
def gsN : Tgs := fun ds Γ => match ds with
  | [] => some Γ
  | _ => none
def gsC (g : Tg) (r : Tgs) : Tgs := fun ds Γ => match ds with
  | d :: es => (g d Γ).bind fun Γ1 => r es Γ1
  | [] => none
def gT (n : Nat) (r : Tgs) : Tg := fun d Γ => match d with
  | .tup ds => if ds.length = n then r ds Γ else none
  | _ => none
def gL (n : Nat) (r : Tgs) : Tg := fun d Γ => match d with
  | .lst ds => if ds.length = n then r ds Γ else none
  | _ => none
theorem gt_name (i : Nat) {x : Str} {pos : Pos} (hN : X.N.Nodup) (hi : X.N[i]? = some x := by rfl) (hx : Loc X.env.scope x := by first | exact Or.inl rfl | exact Or.inr rfl)
    (hf : X.fn x = true ∨ X.env.scope.names.lookup x = some .local := by first | exact .inl rfl | exact .inr rfl) : Gt X W [i] (.Name x pos) (gN i) :=
  gt_of (but_name i) (pg_name hN hi hx) fun c σ H Γ t d v Q e r p => p _ (e.set r i) ⟨by simp, fun j hj => by rw [List.getElem?_set_ne (fun z => hj (by simp [z]))]⟩
theorem gts_nil : Gts X W [] [] gsN := gts_of (fun ds Γ Γ' h j _ => by cases ds <;> cases h; rfl) pgs_nil fun c σ H Γ t ds vs Q e r p => by
  cases ds with
  | nil => unfold Reps at r; exact ⟨r, p σ e But.refl⟩
  | cons _ _ => exact p.elim
theorem but_cons {k1 k2 : List Nat} {g : Tg} {r : Tgs} (h1 : TgBut k1 g) (h2 : TgBut k2 r) : TgBut (k1 ++ k2) (gsC g r) := fun ds Γ Γ' h j hj => by
  rw [List.mem_append, not_or] at hj
  cases ds with
  | nil => cases h
  | cons d es =>
    change (g d Γ).bind (fun Γ1 => r es Γ1) = some Γ' at h
    cases q : g d Γ with
    | none => rw [q] at h; cases h
    | some Γ1 =>
      rw [q] at h
      rw [h2 es Γ1 Γ' h j hj.2, h1 d Γ Γ1 q j hj.1]
theorem keepG {Γ' : Gm} {σ' : L2.St} {v : V} {d : D} (e : Sit K W c σ H Γ t) (e' : Sit K W (c.rb σ H Γ t) σ' H Γ' t) (r : Rep K (c.okA W σ Γ t) H d v) : Rep K (c.okA W σ' Γ' t) H d v := e.rep e' r
theorem gts_cons {k1 k2 : List Nat} {a : Expr} {es : List Expr} {g : Tg} {r : Tgs} (ha : Gt X W k1 a g) (hr : Gts X W k2 es r) (hs : List.map (fun x => x.snd) (assignEach (a :: es) X.env) = assign a X.env :: List.map (fun x => x.snd) (assignEach es X.env) := by rfl) : Gts X W (k1 ++ k2) (a :: es) (gsC g r) := gts_of (but_cons ha.but hr.but) (pgs_cons ha.pg hr.pg hs) fun c σ H Γ t ds vs Q e rp p => by
  cases ds with
  | nil => exact p.elim
  | cons d es' =>
    unfold Reps at rp
    obtain ⟨v, rv, rfl, h1, h2⟩ := rp
    refine ⟨v, rv, rfl, c.rb σ H Γ t, Γ, t, d, e.rb, h1, ?_⟩
    change (match (g d Γ).bind fun Γ1 => r es' Γ1 with | some Γ' => ∀ σ', Sit X.K W c σ' H Γ' t → But (k1 ++ k2) σ σ' → Q σ' H | none => False) at p
    cases q : g d Γ with
    | none => rw [q] at p; exact p
    | some Γ1 =>
      rw [q] at p
      intro σ1 e1 b1
      refine ⟨c, Γ1, t, es', e.un e1, e.reps e1 h2, ?_⟩
      change (match r es' Γ1 with | some Γ' => ∀ σ', Sit X.K W c σ' H Γ' t → But (k1 ++ k2) σ σ' → Q σ' H | none => False) at p
      cases q2 : r es' Γ1 with
      | none => rw [q2] at p; exact p
      | some Γ2 =>
        rw [q2] at p
        exact fun σ2 e2 b2 => p σ2 e2 ⟨b2.1.trans b1.1, fun j hj => by
          rw [List.mem_append, not_or] at hj
          rw [b2.2 j hj.2, b1.2 j hj.1]⟩
theorem gt_tup {ks : List Nat} {es : List Expr} {r : Tgs} {k} {pos : Pos} {n : Nat} (hc : X.calm = true) (hr : Gts X W ks es r) (hn : (assignEach es X.env).length = n := by rfl) (hst : (assignEach es X.env).findIdx? (·.1) = none := by rfl) : Gt X W ks (.Tuple es k pos) (gT n r) :=
  gt_of (fun d Γ Γ' h j hj => by
    cases d with
    | tup ds =>
      by_cases hl : ds.length = n
      · simp only [gT, hl, if_true] at h
        exact hr.but ds Γ Γ' h j hj
      · simp only [gT, hl, if_false] at h; cases h
    | _ => cases h) (pg_tup (n := n) hc hr.pg hn hst) fun c σ H Γ t d v Q e rp p => by
    cases d with
    | tup ds =>
      unfold Rep at rp
      obtain ⟨a, vs, rfl, h1, h2⟩ := rp
      by_cases hl : ds.length = n
      · simp only [gT, hl, if_true] at p
        exact ⟨a, vs, rfl, h1, by rw [h2.length]; exact hl, c, Γ, t, ds, e, h2, p⟩
      · simp only [gT, hl, if_false] at p
    | _ => exact p.elim

theorem gt_lst {ks : List Nat} {es : List Expr} {r : Tgs} {k} {pos : Pos} {n : Nat} (hc : X.calm = true) (hr : Gts X W ks es r) (hn : (assignEach es X.env).length = n := by rfl) (hst : (assignEach es X.env).findIdx? (·.1) = none := by rfl) : Gt X W ks (.Tuple es k pos) (gL n r) :=
  gt_of (fun d Γ Γ' h j hj => by
    cases d with
    | lst ds =>
      by_cases hl : ds.length = n
      · simp only [gL, hl, if_true] at h
        exact hr.but ds Γ Γ' h j hj
      · simp only [gL, hl, if_false] at h; cases h
    | _ => cases h) (pg_unl (n := n) hc hr.pg hn hst) fun c σ H Γ t d v Q e rp p => by
    cases d with
    | lst ds =>
      unfold Rep at rp
      obtain ⟨a, vs, rfl, h1, h2⟩ := rp
      by_cases hl : ds.length = n
      · simp only [gL, hl, if_true] at p
        exact ⟨a, vs, rfl, h1.sql, by rw [h2.length]; exact hl, c, Γ, t, ds, e, h2, p⟩
      · simp only [gL, hl, if_false] at p
    | _ => exact p.elim
/-! ### what is walked -/
/-- J gives the items ds, one after another, while what stood within ok stands -/
def WalkD (K : PySem.W.Frag) (ok : Addr → Prop) (H : Hp) (J : It) (ds : List D) : Prop :=
  Walk J ds.length (fun H2 => Kp ok H H2) (fun i H2 x H3 => Same H2 H3 ∧ ∀ d ok', ds[i]? = some d → (∀ b, H b ≠ none → ok b → ok' b) → Rep K ok' H3 d x)
def PostI (K : PySem.W.Frag) (mg : Str → Option Value) (W : Wd T) (B : WX) (c : Cf T) (σ : L2.St) (Γ : Gm) (r : Rs T (List D)) (R : It → Hp → Prop) : Prop := match r with
  | .ok ds t => ∀ J H, Sit K W c σ H Γ t → WalkD K (c.okA W σ Γ t) H J ds → R J H
  | .er e t => ∀ cls dd H, Sit K W c σ H Γ t → ErRep K mg (c.okA W σ Γ t) H e cls dd → B cls dd σ H
  | .bad => False
def tMI (K : PySem.W.Frag) (mg : Str → Option Value) (W : Wd T) (B : WX) (m : Ar T) : TI := fun σ H R => ∃ (c : Cf T) (Γ : Gm) (t : T), Sit K W c σ H Γ t ∧ PostI K mg W B c σ Γ (m Γ t) R
abbrev Im {T : Type} (X : Cx) (W : Wd T) (B : WX) (tg e : Expr) (m : Ar T) : Prop := PI X tg e (tMI X.K X.mg W B m)
theorem im_of {tg e : Expr} {te : TI} {m : Ar T} (h : PI X tg e te) (imp : ∀ c σ H Γ t R, Sit X.K W c σ H Γ t → PostI X.K X.mg W B c σ Γ (m Γ t) R → te σ H R) : Im X W B tg e m :=
  ⟨fun pins s σ H Q I ⟨c, Γ, t, e, p⟩ => h.run pins s σ H Q I (imp c σ H Γ t Q e p)⟩
theorem tM_bindI {m : Ex T} {f : D → T → Rs T (List D)} {Q : It → Hp → Prop} {R : VK} (e : Sit K W c σ H Γ t) (p : PostI K mg W B c σ Γ ((m Γ t).bind f) Q)
    (k : ∀ d t1 v H1, Sit K W c σ H1 Γ t1 → RepT s1 K (c.okA W σ Γ t1) σ Γ H1 d v → PostI K mg W B c σ Γ (f d t1) Q → R v H1) : tM K mg W B s1 m σ H R := by
  refine ⟨c, Γ, t, e, ?_⟩
  cases q : m Γ t with
  | ok d t1 => rw [q] at p; exact fun v H1 e1 r1 => k d t1 v H1 e1 r1 p
  | er x t1 => rw [q] at p; exact p
  | bad => rw [q] at p; exact p
theorem tMA_bindI {m : Ar T} {f : List D → T → Rs T (List D)} {Q : It → Hp → Prop} {R : List V → Hp → Prop} (e : Sit K W c σ H Γ t) (p : PostI K mg W B c σ Γ ((m Γ t).bind f) Q)
    (k : ∀ d t1 v H1, Sit K W c σ H1 Γ t1 → RepsT s1 K (c.okA W σ Γ t1) σ Γ H1 d v → PostI K mg W B c σ Γ (f d t1) Q → R v H1) : tMA K mg W B s1 m σ H R := by
  refine ⟨c, Γ, t, e, ?_⟩
  cases q : m Γ t with
  | ok d t1 => rw [q] at p; exact fun v H1 e1 r1 => k d t1 v H1 e1 r1 p
  | er x t1 => rw [q] at p; exact p
  | bad => rw [q] at p; exact p
/-- a list or tuple -/
def iSeq (K : PySem.W.Frag) (tl : TE) : TI := fun σ H R => tl σ H fun x H1 => ∃ a, x = .ref a ∧ ((∃ xs, SqL K H1 a xs ∧ R (Itl K a) H1) ∨ ∃ xs, SqT K H1 a xs ∧ R (Itt K a) H1)
theorem pi_seq {tg l : Expr} {tl : TE} (hl : PE X l tl) : PI X tg l (iSeq X.K tl) := by
  refine ⟨fun pins s0 σ H R I h => thn (hl.run pins s0 σ H _ I h) fun v s2 ⟨x, H2, J2, r2, a, ex, w⟩ => ?_⟩
  subst ex
  cases r2
  have fresh := J2.hok.fresh (Nat.le_refl s2.heap.objs.size)
  have fp : ∀ b ∈ [s2.heap.objs.size], FpOk X pins H2 b := fun b hb => by
    rw [List.mem_singleton] at hb
    rw [hb]
    exact J2.fpOk (Nat.le_refl _) fresh
  rcases w with ⟨xs, q, w⟩ | ⟨xs, q, w⟩
  · obtain ⟨its, _, pl, _⟩ := J2.list q
    exact wpAny_pyIter_list pl.isList ⟨_, _, _, _, H2, rfl, J2.kept (t' := s2.toks) fun _ _ z => Heap.get?_push_of_some _ z, turn_list a _, ⟨_, Heap.get?_push_size _ rfl, rfl, rfl⟩, fp, w⟩
  · obtain ⟨its, _, pt, _⟩ := J2.tuple q
    exact wpAny_pyIter_tuple (items := its.toArray) pt ⟨_, _, _, _, H2, rfl, J2.kept (t' := s2.toks) fun _ _ z => Heap.get?_push_of_some _ z, turn_tuple a _, ⟨_, Heap.get?_push_size _ rfl, rfl, rfl⟩, fp, w⟩
def mItems (m : Ex T) : Ar T := fun Γ t => (m Γ t).bind fun d t1 => ofO (dItems d) t1
theorem walkD_list {ok : Addr → Prop} {a : Addr} {ds : List D} {vs : List V} (h1 : LNode K ok H a vs) (h2 : Reps K ok H ds vs) : WalkD K ok H (Itl K a) ds := by
  unfold WalkD
  rw [← h2.length]
  refine (walk_list (K := K) (a := a) (xs := vs)).mono (fun H2 k => .inl (.inl (k _ _ h1.2 (.inr h1.1)))) fun i H2 x H3 _ k y => ?_
  obtain ⟨e1, e2⟩ := y
  subst e1
  refine ⟨Same.refl _, fun d ok' hd hk => ?_⟩
  obtain ⟨v, h3, h4⟩ := h2.get hd
  rw [e2] at h3
  cases h3
  exact h4.kp k hk
theorem walkD_tup {ok : Addr → Prop} {a : Addr} {ds : List D} {vs : List V} (h1 : SqT K H a vs) (h2 : Reps K ok H ds vs) : WalkD K ok H (Itt K a) ds := by
  unfold WalkD
  rw [← h2.length]
  refine (walk_tup (K := K) (a := a) (xs := vs)).mono (fun H2 k => SqT.kp k h1) fun i H2 x H3 _ k y => ?_
  obtain ⟨e1, e2⟩ := y
  subst e1
  refine ⟨Same.refl _, fun d ok' hd hk => ?_⟩
  obtain ⟨v, h3, h4⟩ := h2.get hd
  rw [e2] at h3
  cases h3
  exact h4.kp k hk
theorem im_seq {tg e : Expr} {m : Ex T} (h : Pm X W B false e m) : Im X W B tg e (mItems m) :=
  im_of (pi_seq h) fun c σ H Γ t R e p => tM_bindI e p fun d t1 v H1 e1 r1 p1 => by
    have r := r1.rep
    cases d with
    | lst ds =>
      unfold Rep at r
      obtain ⟨a, vs, rfl, h1, h2⟩ := r
      exact ⟨a, rfl, .inl ⟨vs, h1.sql, p1 _ H1 e1 (walkD_list h1 h2)⟩⟩
    | tup ds =>
      unfold Rep at r
      obtain ⟨a, vs, rfl, h1, h2⟩ := r
      exact ⟨a, rfl, .inr ⟨vs, h1, p1 _ H1 e1 (walkD_tup h1 h2)⟩⟩
    | _ => exact p1.elim
/-- the whole numbers from lo, n of them -/
def dRange (lo : Int) (n : Nat) : List D := (List.range n).map fun (i : Nat) => D.int (lo + (i : Int))
theorem dRange_len {lo : Int} {n : Nat} : (dRange lo n).length = n := by simp [dRange]
theorem walkD_range {ok : Addr → Prop} {lo : Int} {n : Nat} : WalkD K ok H (Itr lo n) (dRange lo n) := by
  unfold WalkD
  rw [dRange_len]
  refine (walk_range (lo := lo) (n := n)).mono (fun _ _ => trivial) fun i H2 x H3 hi k y => ?_
  obtain ⟨e1, e2⟩ := y
  subst e1 e2
  refine ⟨Same.refl _, fun d ok' hd hk => ?_⟩
  have : d = .int (lo + (i : Int)) := by
    unfold dRange at hd
    rw [List.getElem?_map, List.getElem?_range hi] at hd
    exact (Option.some.inj hd).symm
  subst this
  exact rep_int
def mRange1 (m : Ar T) : Ar T := fun Γ t => (m Γ t).bind fun ds t1 => match ds with
  | [.int j] => if j.natAbs < 4611686018427387904 then .ok (dRange 0 j.toNat) t1 else .bad
  | _ => .bad
def mRange2 (m : Ar T) : Ar T := fun Γ t => (m Γ t).bind fun ds t1 => match ds with
  | [.int i, .int j] => if i.natAbs < 4611686018427387904 ∧ j.natAbs < 4611686018427387904 then .ok (dRange i (j - i).toNat) t1 else .bad
  | _ => .bad
theorem im_range1 {tg a : Expr} {m : Ar T} {p pos : Pos} (hm : X.mg "range" = none) (ha : Am X W B s1 [a] m) (hg : Gl X "range" := by rfl) (hs : starEach [a] X.env = [(false, eval a X.env)] := by rfl) : Im X W B tg (.Call (.Name "range" p) [a] [] pos) (mRange1 m) :=
  im_of (pi_range1 hg hm ha hs) fun c σ H Γ t R e p => tMA_bindI e p fun ds t1 vs H1 e1 r1 p1 => by
    match ds, p1, r1 with
    | [.int j], p1, r1 =>
      obtain ⟨v, rfl, rv⟩ := r1.one
      by_cases hz : j.natAbs < 4611686018427387904
      · simp only [hz, if_true] at p1
        rw [rv.int]
        exact ⟨j, rfl, by omega, by omega, p1 _ H1 e1 walkD_range⟩
      · simp only [hz, if_false] at p1; exact p1.elim
theorem im_range2 {tg a b : Expr} {m : Ar T} {p pos : Pos} (hm : X.mg "range" = none) (ha : Am X W B s1 [a, b] m) (hg : Gl X "range" := by rfl) (hs : starEach [a, b] X.env = [(false, eval a X.env), (false, eval b X.env)] := by rfl) (hs2 : starEach [b] X.env = [(false, eval b X.env)] := by rfl) : Im X W B tg (.Call (.Name "range" p) [a, b] [] pos) (mRange2 m) :=
  im_of (pi_range2 hg hm ha hs hs2) fun c σ H Γ t R e p => tMA_bindI e p fun ds t1 vs H1 e1 r1 p1 => by
    match ds, p1, r1 with
    | [.int i, .int j], p1, r1 =>
      obtain ⟨v, v', rfl, rv, rv'⟩ := r1.two
      by_cases hz : i.natAbs < 4611686018427387904 ∧ j.natAbs < 4611686018427387904
      · simp only [hz, and_self, if_true] at p1
        rw [rv.int, rv'.int]
        exact ⟨i, j, rfl, by omega, p1 _ H1 e1 walkD_range⟩
      · simp only [hz, if_false] at p1; exact p1.elim
/-- a text's signs -/
def dSigns (z : Str) : List D := z.cps.toList.map fun cp => D.str ⟨#[cp]⟩
def mSigns (m : Ex T) : Ar T := fun Γ t => (m Γ t).bind fun d t1 => match d with
  | .str z => .ok (dSigns z) t1
  | _ => .bad
theorem im_signs {tg e : Expr} {m : Ex T} (h : Pm X W B s1 e m) : Im X W B tg e (mSigns m) :=
  im_of (pi_str h) fun c σ H Γ t R e p => tM_bindI e p fun d t1 v H1 e1 r1 p1 => by
    cases d with
    | str z =>
      refine ⟨z, r1.str, p1 _ H1 e1 ?_⟩
      unfold WalkD
      have hl : (dSigns z).length = z.cps.size := by simp [dSigns]
      rw [hl]
      refine (walk_str (z := z)).mono (fun _ _ => trivial) fun i H2 x H3 hi k y => ?_
      obtain ⟨e1, cp, e2, e3⟩ := y
      subst e1 e3
      refine ⟨Same.refl _, fun d ok' hd hk => ?_⟩
      have : d = .str ⟨#[cp]⟩ := by
        unfold dSigns at hd
        rw [List.getElem?_map, Array.getElem?_toList, e2] at hd
        exact (Option.some.inj hd).symm
      subst this
      exact rep_str
    | _ => exact p1.elim
end
end DC
/-! ## comprehensions -/
namespace DC
open PySem L2 PySem.Spec
section
variable {T : Type} {X : Cx} {K : PySem.W.Frag} {mg : Str → Option Value} {W : Wd T} {B : WX} {s s1 s2 s3 : Bool}
variable {c : Cf T} {σ σ' : L2.St} {H H' : Hp} {Γ Γ' : Gm} {t t' : T}
def wipeG (Γ : Gm) : List Nat → Gm
  | [] => Γ
  | v :: vs => (wipeG Γ vs).set v none
theorem Sit.wipe (e : Sit K W c σ H Γ t) : ∀ vs : List Nat, Sit K W c (wipe σ vs) H (wipeG Γ vs) t
  | [] => e
  | v :: vs => (Sit.wipe e vs).wipe1 v
theorem wipe_get (σ : L2.St) (j : Nat) : ∀ vs : List Nat, (wipe σ vs)[j]? = if j ∈ vs then (if j < σ.length then some none else none) else σ[j]?
  | [] => by simp [L2.wipe]
  | v :: vs => by
    unfold L2.wipe
    by_cases e : v = j
    · subst e
      simp only [List.mem_cons, true_or, if_true]
      by_cases hl : v < σ.length
      · rw [List.getElem?_set_self (by rw [wipe_length]; exact hl), if_pos hl]
      · rw [if_neg hl, List.getElem?_eq_none (by simpa [wipe_length] using hl)]
    · rw [List.getElem?_set_ne e, wipe_get σ j vs]
      simp only [List.mem_cons, show ¬ j = v from fun z => e z.symm, false_or]
theorem wipe_but {ks vs : List Nat} {σ2 : L2.St} (hk : ∀ k ∈ ks, k ∈ vs) (b : But ks (wipe σ vs) σ2) : wipe σ2 vs = wipe σ vs := by
  have hl : σ2.length = σ.length := b.1.trans (wipe_length σ vs)
  apply List.ext_getElem?
  intro j
  rw [wipe_get, wipe_get, hl]
  by_cases hj : j ∈ vs
  · rw [if_pos hj, if_pos hj]
  · rw [if_neg hj, if_neg hj, b.2 j (fun z => hj (hk j z)), wipe_get, if_neg hj]
theorem wipeG_get (Γ : Gm) (j : Nat) : ∀ vs : List Nat, j ∉ vs → (wipeG Γ vs)[j]? = Γ[j]?
  | [], _ => rfl
  | v :: vs, h => by
    unfold wipeG
    rw [List.mem_cons, not_or] at h
    rw [List.getElem?_set_ne (fun z => h.1 z.symm), wipeG_get Γ j vs h.2]
/-- a cell of the interpreter's own: a list that grows -/
def Cf.cell (c : Cf T) (σ : L2.St) (H : Hp) (Γ : Gm) (t : T) (p : Addr) (us : List V) : Cf T := { H0 := upd H p (.lst us), t0 := t, O0 := fun a => Own σ Γ a ∨ a = p, ok0 := fun a => c.ok0 a ∧ a ≠ p }
theorem Sit.mkCell {ws0 : List V} (e : Sit K W c σ H Γ t) {p : Addr} (hp : H p = none) : Sit K W (c.cell σ H Γ t p ws0) σ (upd H p (.lst ws0)) Γ t :=
  have sm : Same H (upd H p (.lst ws0)) := same_upd hp
  have ne : ∀ a, H a ≠ none → a ≠ p := fun a h z => h (z ▸ hp)
  have hk : ∀ b, H b ≠ none → c.okA W σ Γ t b → (c.cell σ H Γ t p ws0).okA W σ Γ t b := fun b hb z => ⟨⟨z.1, ne b hb⟩, z.2.1, z.2.2⟩
  have kp : Kp (c.okA W σ Γ t) H (upd H p (.lst ws0)) := fun a o q _ => sm a o q
  { wr := W.stay e.wr fun a o q _ => sm a o q
    keep := fun a o q _ => q
    dom := fun a q => q
    okf := fun a q => by
      have na : a ≠ p := fun z => by
        subst z
        change upd H a (.lst ws0) a = none at q
        rw [upd_same] at q; cases q
      refine ⟨?_, na⟩
      change upd H p (.lst ws0) a = none at q
      rw [upd_ne na] at q
      exact e.okf a (e.dom a q)
    ft := fun a q => .inl q
    len := e.len
    dat := fun i d h => by
      obtain ⟨v, h1, h2⟩ := e.dat i d h
      exact ⟨v, h1, h2.kp kp hk⟩
    own := fun i ds h => by
      obtain ⟨q, vs, h1, h2, h3, h4, h5, h6⟩ := e.own i ds h
      exact ⟨q, vs, h1, .inl (.inl ⟨i, ds, h, h1⟩), ⟨h3, ne q (by rw [h5]; exact fun z => nomatch z)⟩, h4, sm _ _ h5, h6.kp kp hk⟩
    dis := e.dis }
/-- the slots' own lists as they were: the slots are what they were -/
theorem Sit.back (e : Sit K W c σ H Γ t) (q : Sit K W (c.rb σ H Γ t) σ' H' Γ' t') (ho : ∀ (i : Nat) (ds : List D), Γ[i]? = some (some (.own ds)) → Γ'[i]? = some (some (.own ds)) ∧ σ'[i]? = σ[i]?) : Sit K W c σ H' Γ t' :=
  have hk : ∀ b, H b ≠ none → c.okA W σ Γ t b → c.okA W σ Γ t' b := fun b hb z => ⟨z.1, fun y => by
    rcases q.ft b y with w | w
    · exact z.2.1 w
    · exact hb w, z.2.2⟩
  { SitW.un e q.toSitW with
    len := e.len
    dat := fun i d h => by
      obtain ⟨v, h1, h2⟩ := e.dat i d h
      exact ⟨v, h1, h2.kp (e.kp q.toSitW) hk⟩
    own := fun i ds h => by
      obtain ⟨p, vs, h1, h2, h3, h4, h5, h6⟩ := e.own i ds h
      obtain ⟨g1, g2⟩ := ho i ds h
      obtain ⟨p', vs', w1, w2, w3, w4, w5, w6⟩ := q.own i ds g1
      rw [g2, h1] at w1
      cases w1
      refine ⟨p, vs', h1, h2, h3, w4, w5, w6.weak fun b z => ⟨z.1, z.2.1, fun y => ?_⟩⟩
      obtain ⟨j, es, y1, y2⟩ := y
      obtain ⟨g3, g4⟩ := ho j es y1
      exact z.2.2 ⟨j, es, g3, by rw [g4]; exact y2⟩
    dis := e.dis }
/-- the cell is changed -/
theorem Sit.mutCell (e : Sit K W c σ H Γ t) {p : Addr} {us vs : List V} (h0 : c.O0 p) (hk0 : ¬ c.ok0 p) (hf : ¬ W.foot t p) (hp : H p = some (.lst us)) : Sit K W c σ (upd H p (.lst vs)) Γ t :=
  have st : ∀ a o, H a = some o → (Imm o = true ∨ a ≠ p) → upd H p (.lst vs) a = some o := fun a o q hs => by
    have ne : a ≠ p := by
      rcases hs with hs | hs
      · rintro rfl
        rw [hp] at q
        cases q
        cases hs
      · exact hs
    rw [upd_ne ne]; exact q
  have kp : Kp (c.okA W σ Γ t) H (upd H p (.lst vs)) := fun a o q hs => st a o q (by
    rcases hs with hs | hs
    · exact .inl hs
    · exact .inr fun z => hk0 (z ▸ hs.1))
  { wr := W.stay e.wr fun a o q hs => st a o q (by
      rcases hs with hs | hs
      · exact .inl hs
      · exact .inr fun z => hf (z ▸ hs))
    keep := fun a o q hs => st a o (e.keep a o q hs) (by
      rcases hs with hs | hs
      · exact .inl hs
      · exact .inr fun z => hs.2 (z ▸ h0))
    dom := fun a q => e.dom a (by
      by_cases z : a = p
      · subst z; rw [upd_same] at q; cases q
      · rw [upd_ne z] at q; exact q)
    okf := e.okf
    ft := e.ft
    len := e.len
    dat := fun i d h => by
      obtain ⟨v, h1, h2⟩ := e.dat i d h
      exact ⟨v, h1, h2.kp kp fun _ _ z => z⟩
    own := fun i ds h => by
      obtain ⟨q, ws, h1, h2, h3, h4, h5, h6⟩ := e.own i ds h
      exact ⟨q, ws, h1, h2, h3, h4, by
        rw [upd_ne (fun z => hk0 (by rw [← z]; exact h3))]; exact h5, h6.kp kp fun _ _ z => z⟩
    dis := e.dis }
def unset (H : Hp) (p : Addr) : Hp := fun a => if a = p then none else H a
theorem unset_same {p : Addr} : unset H p p = none := by unfold unset; rw [if_pos rfl]
theorem unset_ne {p a : Addr} (h : a ≠ p) : unset H p a = H a := by unfold unset; rw [if_neg h]
theorem upd_unset {p : Addr} {o : HO} (h : H p = some o) : upd (unset H p) p o = H := by
  funext a
  by_cases e : a = p
  · subst e; rw [upd_same, h]
  · rw [upd_ne e, unset_ne e]
/-- the cell is taken out -/
theorem Sit.unCell {ws0 : List V} {p : Addr} {us : List V} (e : Sit K W c σ H Γ t) (hn : H p = none) (q : Sit K W (c.cell σ H Γ t p ws0) σ H' Γ t') (hp : H' p = some (.lst us)) : Sit K W c σ (unset H' p) Γ t' ∧ ∀ b, (c.cell σ H Γ t p ws0).okA W σ Γ t' b → c.okA W σ Γ t' b :=
  have fp : ¬ W.foot t' p := fun z => by
    rcases q.ft p z with w | w
    · exact W.live e.wr w hn
    · change upd H p (.lst ws0) p = none at w
      rw [upd_same] at w; cases w
  have hkk : ∀ b, (c.cell σ H Γ t p ws0).okA W σ Γ t' b → c.okA W σ Γ t' b := fun b z => ⟨z.1.1, z.2.1, z.2.2⟩
  have st : ∀ a o, H' a = some o → (Imm o = true ∨ a ≠ p) → unset H' p a = some o := fun a o w hs => by
    have ne : a ≠ p := by
      rcases hs with hs | hs
      · rintro rfl
        rw [hp] at w
        cases w
        cases hs
      · exact hs
    rw [unset_ne ne]; exact w
  have kp : Kp ((c.cell σ H Γ t p ws0).okA W σ Γ t') H' (unset H' p) := fun a o w hs => st a o w (by
    rcases hs with hs | hs
    · exact .inl hs
    · exact .inr hs.1.2)
  ⟨{ wr := W.stay q.wr fun a o w hs => st a o w (by
        rcases hs with hs | hs
        · exact .inl hs
        · exact .inr fun z => fp (z ▸ hs))
     keep := fun a o w hs => by
        have hH := e.keep a o w hs
        have ne : a ≠ p := fun z => by subst z; rw [hn] at hH; cases hH
        have h2 : (c.cell σ H Γ t p ws0).H0 a = some o := by
          show upd H p (.lst ws0) a = some o
          rw [upd_ne ne]; exact hH
        refine st a o (q.keep a o h2 ?_) (.inr ne)
        rcases hs with hs | ⟨h3, h4⟩
        · exact .inl hs
        · refine .inr ⟨fun z => ?_, fun z => ?_⟩
          · rcases e.ft a z with y | y
            · exact h3 y
            · rw [y] at w; cases w
          · rcases z with z | z
            · obtain ⟨i, ds, z1, z2⟩ := z
              obtain ⟨p', vs', y1, y2, _⟩ := e.own i ds z1
              rw [z2] at y1
              cases y1
              rcases y2 with y2 | y2
              · exact h4 y2
              · rw [y2] at w; cases w
            · exact ne z
     dom := fun a w => by
        by_cases z : a = p
        · exact z ▸ e.dom p hn
        · rw [unset_ne z] at w
          have h2 := q.dom a w
          change upd H p (.lst ws0) a = none at h2
          rw [upd_ne z] at h2
          exact e.dom a h2
     okf := e.okf
     ft := fun a z => by
        rcases q.ft a z with w | w
        · exact e.ft a w
        · change upd H p (.lst ws0) a = none at w
          have na : a ≠ p := fun y => by subst y; rw [upd_same] at w; cases w
          rw [upd_ne na] at w
          exact .inr (e.dom a w)
     len := e.len
     dat := fun i d h => by
        obtain ⟨v, h1, h2⟩ := q.dat i d h
        exact ⟨v, h1, h2.kp kp fun b _ z => hkk b z⟩
     own := fun i ds h => by
        obtain ⟨r, ws, h1, h2, h3, h4, h5, h6⟩ := q.own i ds h
        obtain ⟨r', ws', g1, g2, g3, _⟩ := e.own i ds h
        rw [h1] at g1
        cases g1
        exact ⟨r, ws, h1, g2, g3, h4, st _ _ h5 (.inr h3.2), h6.kp kp fun b _ z => hkk b z⟩
     dis := e.dis }, hkk⟩
/-! ### the rule -/
def notOwn (Γ : Gm) (i : Nat) : Bool := match Γ[i]? with
  | some (some (.own _)) => false
  | _ => true
def BF : WX := fun _ _ _ _ => False
def lcGo (tgt : Tg) (cond : Te T) (elt : Ex T) (Γw : Gm) : List D → List D → T → Rs T (List D)
  | [], acc, t => .ok acc t
  | d :: ds, acc, t => match tgt d Γw with
    | none => .bad
    | some Γ2 => match cond Γ2 t with
      | .ok true t1 => (match elt Γ2 t1 with
        | .ok x t2 => if acc.length < 16777216 then lcGo tgt cond elt Γw ds (acc ++ [x]) t2 else .bad
        | _ => .bad)
      | .ok false t1 => lcGo tgt cond elt Γw ds acc t1
      | _ => .bad
def mLc (own : List Nat) (it : Ar T) (tgt : Tg) (cond : Te T) (elt : Ex T) : Ar T := fun Γ t => (it Γ t).bind fun ds t1 => if own.all (notOwn Γ) = true then lcGo tgt cond elt (wipeG Γ own) ds [] t1 else .bad
def mYes : Te T := fun _ t => .ok true t
abbrev Ts {T : Type} (X : Cx) (W : Wd T) (es : List Expr) (m : Te T) : Prop := PTs X es (tMT X.K X.mg W BF m)
theorem ts_nil : Ts X W [] (mYes : Te T) := ⟨fun pins s σ H Q I ⟨c, Γ, t, e, p⟩ => pts_nil.run pins s σ H Q I (p H e)⟩
theorem ts_one {e : Expr} {m : Te T} (h : Tm X W BF e m) : Ts X W [e] m := pts_one h
theorem tMI_bindL {m : Ar T} {f : List D → T → Rs T (List D)} {Q : VK} {R : It → Hp → Prop} (e : Sit K W c σ H Γ t) (p : PostL K mg W B c σ Γ ((m Γ t).bind f) Q)
    (k : ∀ ds t1 J H1, Sit K W c σ H1 Γ t1 → WalkD K (c.okA W σ Γ t1) H1 J ds → PostL K mg W B c σ Γ (f ds t1) Q → R J H1) : tMI K mg W B m σ H R := by
  refine ⟨c, Γ, t, e, ?_⟩
  cases q : m Γ t with
  | ok d t1 => rw [q] at p; exact fun J H1 e1 w => k d t1 J H1 e1 w p
  | er x t1 => rw [q] at p; exact p
  | bad => rw [q] at p; exact p
theorem tLc_M {own ks : List Nat} {mi : Ar T} {gt : Tg} {mc : Te T} {me : Ex T} {Q : VK} (hks : ks.all (fun k => own.contains k) = true) (hb : TgBut ks gt) (e : Sit K W c σ H Γ t) (p : PostL K mg W B c σ Γ (mLc own mi gt mc me Γ t) Q) :
    tLc (tMI K mg W B mi) (tMG K W ks gt) (tMT K mg W BF mc) (tM K mg W BF false me) own σ H Q := by
  have hk' : ∀ k ∈ ks, k ∈ own := fun k hk => by
    have := List.all_eq_true.mp hks k hk
    simpa using this
  refine tMI_bindL e p fun ds t1 J H1 e1 w p1 => ?_
  by_cases hno : own.all (notOwn Γ) = true
  rotate_left
  · simp only [hno] at p1; exact p1.elim
  simp only [hno, if_true] at p1
  intro q hq
  have ec := e1.mkCell (ws0 := []) hq
  have nfq : ∀ t2, SitW K W (c.cell σ H1 Γ t1 q []) H1 t2 → True := fun _ _ => trivial
  have footq : ∀ {H2 : Hp} {t2 : T}, SitW K W (c.cell σ H1 Γ t1 q []) H2 t2 → ¬ W.foot t2 q := fun {H2 t2} r z => by
    rcases r.ft q z with y | y
    · exact W.live e1.wr y hq
    · change upd H1 q (.lst []) q = none at y
      rw [upd_same] at y; cases y
  have ownq : ∀ {H2 : Hp} {t2 : T} {σ2 : L2.St} {Γ2 : Gm}, Sit K W (c.cell σ H1 Γ t1 q []) σ2 H2 Γ2 t2 → ¬ Own σ2 Γ2 q := fun {H2 t2 σ2 Γ2} r z => by
    obtain ⟨i, es, z1, z2⟩ := z
    obtain ⟨p', us, y1, _, y3, _⟩ := r.own i es z1
    rw [z2] at y1
    cases y1
    exact y3.2 rfl
  refine lc_it w (fun i H2 => ∃ (accV : List V) (acc : List D) (t2 : T), Sit K W (c.cell σ H1 Γ t1 q []) σ H2 Γ t2 ∧ H2 q = some (.lst accV) ∧ acc.length ≤ 16777216 ∧ Reps K ((c.cell σ H1 Γ t1 q []).okA W σ Γ t2) H2 acc accV ∧
    PostL K mg W B c σ Γ (lcGo gt mc me (wipeG Γ own) (ds.drop i) acc t2) Q) ⟨[], [], t1, ec, upd_same, by decide, Reps.nil, p1⟩ ?_ ?_ ?_
  · rintro i H2 _ ⟨accV, acc, t2, e2, _, _, _, _⟩ a o ha hs
    have na : a ≠ q := fun z => by subst z; rw [hq] at ha; cases ha
    refine e2.keep a o (by show upd H1 q (.lst []) a = some o; rw [upd_ne na]; exact ha) ?_
    rcases hs with hs | hs
    · exact .inl hs
    · refine .inr ⟨hs.2.1, fun z => ?_⟩
      rcases z with z | z
      · exact hs.2.2 z
      · exact na z
  · rintro i x H2 H3 hi ⟨accV, acc, t2, e2, h2, hl2, r2, p2⟩ ⟨sm, hy⟩
    obtain ⟨d, hd⟩ : ∃ d, ds[i]? = some d := ⟨ds[i], by simp [hi]⟩
    have hdrop : ds.drop i = d :: ds.drop (i + 1) := by
      rw [List.drop_eq_getElem_cons hi]
      have : ds[i] = d := by
        have h0 := hd
        rw [List.getElem?_eq_getElem hi] at h0
        exact Option.some.inj h0
      rw [this]
    rw [hdrop] at p2
    have e3 := e2.rb.same sm
    have ew := e3.wipe own
    have hx := hy d (((c.cell σ H1 Γ t1 q []).rb σ H2 Γ t2).okA W (wipe σ own) (wipeG Γ own) t2) hd fun b hb z => by
      have hf : ¬ W.foot t2 b := fun y => by
        rcases e2.ft b y with y | y
        · exact z.2.1 y
        · change upd H1 q (.lst []) b = none at y
          have nb : b ≠ q := fun y => hb (y ▸ hq)
          rw [upd_ne nb] at y
          exact hb y
      refine ⟨⟨z.1, fun y => hb (y ▸ hq)⟩, hf, fun y => z.2.2 ?_⟩
      obtain ⟨j, es, y1, y2⟩ := y
      by_cases hj : j ∈ own
      · exfalso
        have : (wipe σ own)[j]? = if j < σ.length then some none else none := by rw [wipe_get, if_pos hj]
        rw [this] at y2
        split at y2 <;> cases y2
      · rw [wipeG_get Γ j own hj] at y1
        rw [wipe_get, if_neg hj] at y2
        exact ⟨j, es, y1, y2⟩
    refine ⟨_, _, t2, d, ew, hx, ?_⟩
    unfold lcGo at p2
    cases hg : gt d (wipeG Γ own) with
    | none => rw [hg] at p2; exact p2.elim
    | some Γ2 =>
      rw [hg] at p2
      intro σ2 e4 b4
      refine ⟨wipe_but hk' b4, ?_⟩
      have q3 : H3 q = some (.lst accV) := sm _ _ h2
      have r3 : Reps K ((c.cell σ H1 Γ t1 q []).okA W σ Γ t2) H3 acc accV := r2.same sm
      -- the test
      refine ⟨_, Γ2, t2, e4.rb, ?_⟩
      cases hc : mc Γ2 t2 with
      | er y t3 => simp only [hc] at p2; exact p2.elim
      | bad => simp only [hc] at p2; exact p2.elim
      | ok b t3 =>
        intro H4 e5
        have e5' := e4.un e5
        have oq4 : ¬ Own σ2 Γ2 q := fun z => by
          obtain ⟨i', es, z1, z2⟩ := z
          obtain ⟨p', us, y1, _, y3, _⟩ := e4.own i' es z1
          rw [z2] at y1
          cases y1
          exact y3.2 rfl
        have fq2 : ¬ W.foot t2 q := footq e2.toSitW
        have q4 : H4 q = some (.lst accV) := e5.keep q _ q3 (.inr ⟨fq2, oq4⟩)
        have hownΓ : ∀ (j : Nat) (es : List D), Γ[j]? = some (some (.own es)) → j ∉ own := fun j es hj hm => by
          have := List.all_eq_true.mp hno j hm
          unfold notOwn at this
          rw [hj] at this
          cases this
        have stay : ∀ (j : Nat), j ∉ own → σ2[j]? = σ[j]? := fun j hj => by
          rw [b4.2 j (fun z => hj (hk' j z)), wipe_get, if_neg hj]
        have stayΓ : ∀ (j : Nat), j ∉ own → Γ2[j]? = Γ[j]? := fun j hj => by
          rw [hb d (wipeG Γ own) Γ2 hg j (fun z => hj (hk' j z)), wipeG_get Γ j own hj]
        have ho : ∀ (j : Nat) (es : List D), Γ[j]? = some (some (.own es)) → Γ2[j]? = some (some (.own es)) ∧ σ2[j]? = σ[j]? := fun j es hj =>
          ⟨(stayΓ j (hownΓ j es hj)).trans hj, stay j (hownΓ j es hj)⟩
        have e6 := e2.back e5' ho
        have r6 : Reps K ((c.cell σ H1 Γ t1 q []).okA W σ Γ t3) H4 acc accV := r2.kp (e2.kp e5'.toSitW) fun b' hb' z => ⟨z.1, fun y => by
          rcases e5'.ft b' y with y | y
          · exact z.2.1 y
          · exact hb' y, z.2.2⟩
        cases b with
        | false =>
          simp only [hc] at p2
          rw [if_neg Bool.false_ne_true]
          exact ⟨accV, acc, t3, e6, q4, hl2, r6, p2⟩
        | true =>
          simp only [hc] at p2
          rw [if_pos rfl]
          refine ⟨_, Γ2, t3, e5'.rb, ?_⟩
          cases hm : me Γ2 t3 with
          | er y t4 => simp only [hm] at p2; exact p2.elim
          | bad => simp only [hm] at p2; exact p2.elim
          | ok z t4 =>
            simp only [hm] at p2
            intro y H5 e7 r7
            have e7' := e5'.un e7
            have e8 := e2.back e7' ho
            have oq5 : ¬ Own σ2 Γ2 q := oq4
            have q5 : H5 q = some (.lst accV) := e7.keep q _ q4 (.inr ⟨footq e6.toSitW, oq5⟩)
            have r8 : Reps K ((c.cell σ H1 Γ t1 q []).okA W σ Γ t4) H5 acc accV := r2.kp (e2.kp e7'.toSitW) fun b' hb' w => ⟨w.1, fun y => by
              rcases e7'.ft b' y with y | y
              · exact w.2.1 y
              · exact hb' y, w.2.2⟩
            have r9 : Rep K ((c.cell σ H1 Γ t1 q []).okA W σ Γ t4) H5 z y := r7.rep.weak fun b' w => ⟨w.1, w.2.1, fun ⟨j', es, y1, y2⟩ => w.2.2 (by
              obtain ⟨g1, g2⟩ := ho j' es y1
              exact ⟨j', es, g1, by rw [g2]; exact y2⟩)⟩
            by_cases hz : acc.length < 16777216
            · simp only [hz, if_true] at p2
              refine ⟨accV, q5, by rw [r8.length, sizeLine_eq]; exact hz, accV ++ [y], acc ++ [z], t4, ?_, upd_same, by rw [List.length_append, List.length_singleton]; omega, ?_, p2⟩
              · exact e8.mutCell (.inr rfl) (fun w => w.2 rfl) (footq e8.toSitW) q5
              · refine (r8.append (.cons r9 .nil)).kp (fun a o ha hs => ?_) fun _ _ w => w
                have na : a ≠ q := by
                  rcases hs with hs | hs
                  · rintro rfl
                    rw [q5] at ha
                    cases ha
                    cases hs
                  · exact hs.1.2
                rw [upd_ne na]; exact ha
            · simp only [hz, if_false] at p2; exact p2.elim
  · rintro H2 ⟨accV, acc, t2, e2, h2, hl2, r2, p2⟩
    rw [List.drop_length] at p2
    have := e1.unCell hq e2 h2
    have k := p2 q accV (unset H2 q) this.1 unset_same (r2.kp (fun a o ha hs => by
      have na : a ≠ q := by
        rcases hs with hs | hs
        · rintro rfl
          rw [h2] at ha
          cases ha
          cases hs
        · exact hs.1.2
      rw [unset_ne na]; exact ha) fun b _ z => this.2 b z) (by rw [r2.length]; exact hl2)
    rw [upd_unset h2] at k
    exact k
theorem lm_lc {elt tg iter : Expr} {ifs : List Expr} {scope : Scope} {own : List (Str × Nat)} {ks : List Nat} {pos : Pos} {mi : Ar T} {gt : Tg} {mc : Te T} {me : Ex T} (hc : X.calm = true) (hN : X.N.Nodup) (hi : Im X W B tg iter mi) (ok : BlkOk X.N X.env.scope scope own)
    (hg : ∀ (s : Shared) (H : Hp) (C : Addr) (cl : List (Str × Addr)) (fp : List Addr), Gt (X.blk s H scope (compEnvC scope cl C X.env) fp) W ks tg gt)
    (ht : ∀ (s : Shared) (H : Hp) (C : Addr) (cl : List (Str × Addr)) (fp : List Addr), Ts (X.blk s H scope (compEnvC scope cl C X.env) fp) W ifs mc)
    (he : ∀ (s : Shared) (H : Hp) (C : Addr) (cl : List (Str × Addr)) (fp : List Addr), Pm (X.blk s H scope (compEnvC scope cl C X.env) fp) W BF false elt me)
    (hks : ks.all (fun k => (own.map (·.2)).contains k) = true := by rfl) (hs : ∀ x, foldedSetIterable iter X.env x = pure x := by intro _; rfl) : Lm X W B (.ListComp elt [⟨tg, iter, ifs, 0⟩] scope pos) (mLc (own.map (·.2)) mi gt mc me) :=
  lm_of (pe_lc hc hN hi ok (fun s H C cl fp => (hg s H C cl fp).pg) ht he hs) fun c σ H Γ t Q e p => tLc_M hks (hg X.s_0 X.H_0 0 [] []).but e p
end
end DC
/-! ## statements -/
namespace DC
open PySem L2 PySem.Spec
inductive Fl (T : Type) where
  | nx (Γ : Gm) (t : T) | rt (d : D) (t : T) | bk (Γ : Gm) (t : T) | ct (Γ : Gm) (t : T) | er (e : Er) (Γ : Gm) (t : T) | bad
abbrev Bl (T : Type) := Gm → T → Fl T
section
variable {T : Type} {X : Cx} {K : PySem.W.Frag} {mg : Str → Option Value} {W : Wd T} {B : WX} {s s1 s2 s3 : Bool}
variable {c : Cf T} {σ σ' : L2.St} {H H' : Hp} {Γ Γ' : Gm} {t t' : T}
def PostS (K : PySem.W.Frag) (mg : Str → Option Value) (W : Wd T) (B : WX) (c : Cf T) (r : Fl T) (D : Ends) : Prop := match r with
  | .nx Γ t => ∀ σ H, Sit K W c σ H Γ t → D.nx σ H
  | .rt d t => ∀ v H, SitW K W c H t → Rep K (fun a => c.ok0 a ∧ ¬ W.foot t a) H d v → D.rt v H
  | .bk Γ t => ∀ σ H, Sit K W c σ H Γ t → D.bk σ H
  | .ct Γ t => ∀ σ H, Sit K W c σ H Γ t → D.ct σ H
  | .er e Γ t => ∀ cls dd σ H, Sit K W c σ H Γ t → ErRep K mg (c.okA W σ Γ t) H e cls dd → B cls dd σ H
  | .bad => False
def tMS (K : PySem.W.Frag) (mg : Str → Option Value) (W : Wd T) (B : WX) (m : Bl T) : TS := fun D σ H => ∃ (c : Cf T) (Γ : Gm) (t : T), Sit K W c σ H Γ t ∧ PostS K mg W B c (m Γ t) D
abbrev Sm {T : Type} (X : Cx) (W : Wd T) (B : WX) (st : Stmt) (m : Bl T) : Prop := PS X st (tMS X.K X.mg W B m)
abbrev Bm {T : Type} (X : Cx) (W : Wd T) (B : WX) (st : List Stmt) (m : Bl T) : Prop := PSs X st (tMS X.K X.mg W B m)
theorem sm_of {st : Stmt} {te : TS} {m : Bl T} (h : PS X st te) (imp : ∀ c σ H Γ t D, Sit X.K W c σ H Γ t → PostS X.K X.mg W B c (m Γ t) D → te D σ H) : Sm X W B st m :=
  ⟨fun pins s σ H Q I ⟨c, Γ, t, e, p⟩ => h.run pins s σ H Q I (imp c σ H Γ t Q e p)⟩
theorem bm_of {st : List Stmt} {te : TS} {m : Bl T} (h : PSs X st te) (imp : ∀ c σ H Γ t D, Sit X.K W c σ H Γ t → PostS X.K X.mg W B c (m Γ t) D → te D σ H) : Bm X W B st m :=
  ⟨fun pins s σ H Q I ⟨c, Γ, t, e, p⟩ => h.run pins s σ H Q I (imp c σ H Γ t Q e p)⟩
theorem PostS.rb {r : Fl T} {D : Ends} (e : Sit K W c σ H Γ t) (p : PostS K mg W B c r D) : PostS K mg W B (c.rb σ H Γ t) r D := by
  cases r with
  | nx Γ' t' => exact fun σ' H' q => p σ' H' (e.un q)
  | rt d t' => exact fun v H' q r => p v H' (SitW.un e q) r
  | bk Γ' t' => exact fun σ' H' q => p σ' H' (e.un q)
  | ct Γ' t' => exact fun σ' H' q => p σ' H' (e.un q)
  | er x Γ' t' => exact fun cls dd σ' H' q r => p cls dd σ' H' (e.un q) r
  | bad => exact p
/-- a part's result, then a statement's -/
def Rs.fl {α : Type} (r : Rs T α) (Γ : Gm) (f : α → T → Fl T) : Fl T := match r with
  | .ok a t => f a t
  | .er e t => .er e Γ t
  | .bad => .bad
theorem tM_bindS {m : Ex T} {f : D → T → Fl T} {Q : Ends} {R : VK} (e : Sit K W c σ H Γ t) (p : PostS K mg W B c ((m Γ t).fl Γ f) Q)
    (k : ∀ d t1 v H1, Sit K W c σ H1 Γ t1 → RepT s1 K (c.okA W σ Γ t1) σ Γ H1 d v → PostS K mg W B c (f d t1) Q → R v H1) : tM K mg W B s1 m σ H R := by
  refine ⟨c, Γ, t, e, ?_⟩
  cases q : m Γ t with
  | ok d t1 => rw [q] at p; exact fun v H1 e1 r1 => k d t1 v H1 e1 r1 p
  | er x t1 => rw [q] at p; exact fun cls dd H1 e1 r1 => p cls dd σ H1 e1 r1
  | bad => rw [q] at p; exact p
theorem tMA_bindS {m : Ar T} {f : List D → T → Fl T} {Q : Ends} {R : List V → Hp → Prop} (e : Sit K W c σ H Γ t) (p : PostS K mg W B c ((m Γ t).fl Γ f) Q)
    (k : ∀ d t1 v H1, Sit K W c σ H1 Γ t1 → RepsT s1 K (c.okA W σ Γ t1) σ Γ H1 d v → PostS K mg W B c (f d t1) Q → R v H1) : tMA K mg W B s1 m σ H R := by
  refine ⟨c, Γ, t, e, ?_⟩
  cases q : m Γ t with
  | ok d t1 => rw [q] at p; exact fun v H1 e1 r1 => k d t1 v H1 e1 r1 p
  | er x t1 => rw [q] at p; exact fun cls dd H1 e1 r1 => p cls dd σ H1 e1 r1
  | bad => rw [q] at p; exact p
theorem tMT_bindS {m : Te T} {f : Bool → T → Fl T} {Q : Ends} {R : Bool → Hp → Prop} (e : Sit K W c σ H Γ t) (p : PostS K mg W B c ((m Γ t).fl Γ f) Q)
    (k : ∀ d t1 H1, Sit K W c σ H1 Γ t1 → PostS K mg W B c (f d t1) Q → R d H1) : tMT K mg W B m σ H R := by
  refine ⟨c, Γ, t, e, ?_⟩
  cases q : m Γ t with
  | ok d t1 => rw [q] at p; exact fun H1 e1 => k d t1 H1 e1 p
  | er x t1 => rw [q] at p; exact fun cls dd H1 e1 r1 => p cls dd σ H1 e1 r1
  | bad => rw [q] at p; exact p
theorem tML_bindS {m : Ar T} {f : List D → T → Fl T} {Q : Ends} {R : VK} (e : Sit K W c σ H Γ t) (p : PostS K mg W B c ((m Γ t).fl Γ f) Q)
    (k : ∀ ds t1 a vs H1, Sit K W c σ H1 Γ t1 → H1 a = none → Reps K (c.okA W σ Γ t1) H1 ds vs → vs.length ≤ 16777216 → PostS K mg W B c (f ds t1) Q → R (.ref a) (upd H1 a (.lst vs))) : tML K mg W B m σ H R := by
  refine ⟨c, Γ, t, e, ?_⟩
  cases q : m Γ t with
  | ok d t1 => rw [q] at p; exact fun a vs H1 e1 hn r hl => k d t1 a vs H1 e1 hn r hl p
  | er x t1 => rw [q] at p; exact fun cls dd H1 e1 r1 => p cls dd σ H1 e1 r1
  | bad => rw [q] at p; exact p
theorem tMI_bindS {m : Ar T} {f : List D → T → Fl T} {Q : Ends} {R : It → Hp → Prop} (e : Sit K W c σ H Γ t) (p : PostS K mg W B c ((m Γ t).fl Γ f) Q)
    (k : ∀ ds t1 J H1, Sit K W c σ H1 Γ t1 → WalkD K (c.okA W σ Γ t1) H1 J ds → PostS K mg W B c (f ds t1) Q → R J H1) : tMI K mg W B m σ H R := by
  refine ⟨c, Γ, t, e, ?_⟩
  cases q : m Γ t with
  | ok d t1 => rw [q] at p; exact fun J H1 e1 w => k d t1 J H1 e1 w p
  | er x t1 => rw [q] at p; exact fun cls dd H1 e1 r1 => p cls dd σ H1 e1 r1
  | bad => rw [q] at p; exact p
/-! ### blocks -/
def sNil : Bl T := fun Γ t => .nx Γ t
def sSeq (a b : Bl T) : Bl T := fun Γ t => match a Γ t with
  | .nx Γ1 t1 => b Γ1 t1
  | r => r
theorem bm_nil : Bm X W B [] (sNil : Bl T) := bm_of pss_nil fun c σ H Γ t D e p => p σ H e
theorem bm_cons {st : Stmt} {rest : List Stmt} {a b : Bl T} (h1 : Sm X W B st a) (h2 : Bm X W B rest b) : Bm X W B (st :: rest) (sSeq a b) :=
  bm_of (pss_cons h1 h2) fun c σ H Γ t D e p => by
    refine ⟨c, Γ, t, e, ?_⟩
    unfold sSeq at p
    revert p
    cases a Γ t with
    | nx Γ1 t1 => exact fun p σ1 H1 e1 => ⟨c, Γ1, t1, e1, p⟩
    | rt d t1 => exact fun p => p
    | bk Γ1 t1 => exact fun p => p
    | ct Γ1 t1 => exact fun p => p
    | er x Γ1 t1 => exact fun p => p
    | bad => exact fun p => p
theorem bm_one {st : Stmt} {a : Bl T} (h1 : Sm X W B st a) : Bm X W B [st] a := bm_of (pss_one h1) fun c σ H Γ t D e p => ⟨c, Γ, t, e, p⟩
theorem sm_pass {pos : Pos} : Sm X W B (.Pass pos) (sNil : Bl T) := sm_of ps_pass fun c σ H Γ t D e p => p σ H e
def sBrk : Bl T := fun Γ t => .bk Γ t
def sCnt : Bl T := fun Γ t => .ct Γ t
theorem sm_break {pos : Pos} : Sm X W B (.Break pos) (sBrk : Bl T) := sm_of ps_break fun c σ H Γ t D e p => p σ H e
theorem sm_cont {pos : Pos} : Sm X W B (.Continue pos) (sCnt : Bl T) := sm_of ps_continue fun c σ H Γ t D e p => p σ H e
/-! ### return, expressions, stores -/
def sRet (m : Ex T) : Bl T := fun Γ t => (m Γ t).fl Γ fun d t1 => .rt d t1
theorem sm_ret {a : Expr} {m : Ex T} {pos : Pos} (h : Pm X W B s a m) : Sm X W B (.Return (some a) pos) (sRet m) :=
  sm_of (ps_ret h) fun c σ H Γ t D e p => tM_bindS e p fun d t1 v H1 e1 r1 p1 => p1 v H1 e1.toSitW (r1.out e1)
def sRetN : Bl T := fun Γ t => .rt .non t
theorem sm_retN {pos : Pos} : Sm X W B (.Return none pos) (sRetN : Bl T) := sm_of ps_retN fun c σ H Γ t D e p => p _ H e.toSitW rep_non
def sDrop (m : Ex T) : Bl T := fun Γ t => (m Γ t).fl Γ fun _ t1 => .nx Γ t1
theorem sm_expr {a : Expr} {m : Ex T} {pos : Pos} (h : Pm X W B s a m) (hs : swapsWith a none pos.line X.env = pure false := by rfl) : Sm X W B (.Expr a pos) (sDrop m) :=
  sm_of (ps_expr h hs) fun c σ H Γ t D e p => tM_bindS e p fun d t1 v H1 e1 r1 p1 => p1 σ H1 e1
def sAsg (m : Ex T) (g : Tg) : Bl T := fun Γ t => (m Γ t).fl Γ fun d t1 => match g d Γ with
  | some Γ1 => .nx Γ1 t1
  | none => .bad
theorem sm_asg {a tg : Expr} {m : Ex T} {g : Tg} {ks : List Nat} {pos : Pos} (h : Pm X W B false a m) (hg : Gt X W ks tg g) (hs : swapsWithSole [tg] a pos.line X.env = pure false := by rfl) (hw : swappedStores [tg] a X.env = pure none := by rfl)
    (h1 : (assignEach [tg] X.env).map (·.2) = [assign tg X.env] := by rfl) : Sm X W B (.Assign [tg] a pos) (sAsg m g) :=
  sm_of (ps_asg h hg.pg hs hw h1) fun c σ H Γ t D e p => tM_bindS e p fun d t1 v H1 e1 r1 p1 => by
    refine ⟨c, Γ, t1, d, e1, r1.rep, ?_⟩
    cases q : g d Γ with
    | none => rw [q] at p1; exact p1.elim
    | some Γ1 => rw [q] at p1; exact fun σ1 e2 _ => p1 σ1 H1 e2
def sSet (i : Nat) (m : Ex T) : Bl T := fun Γ t => (m Γ t).fl Γ fun d t1 => .nx (Γ.set i (some (.dat d))) t1
theorem sm_set (i : Nat) {x : Str} {a : Expr} {m : Ex T} {pos pos' : Pos} (hN : X.N.Nodup) (h : Pm X W B false a m) (hi : X.N[i]? = some x := by rfl) (hx : Loc X.env.scope x := by first | exact Or.inl rfl | exact Or.inr rfl)
    (hs : swapsWith a (some (.Name x pos')) pos.line X.env = pure false := by rfl) (hf : X.fn x = true ∨ X.env.scope.names.lookup x = some .local := by first | exact .inl rfl | exact .inr rfl) : Sm X W B (.Assign [.Name x pos'] a pos) (sSet i m) :=
  sm_of (ps_set hN hi hx h hs hf) fun c σ H Γ t D e p => tM_bindS e p fun d t1 v H1 e1 r1 p1 => p1 _ H1 (e1.set r1.rep i)
/-- a name takes a new list as its own -/
def sOwn (i : Nat) (m : Ar T) : Bl T := fun Γ t => (m Γ t).fl Γ fun ds t1 => .nx (Γ.set i (some (.own ds))) t1
theorem sm_own (i : Nat) {x : Str} {a : Expr} {m : Ar T} {pos pos' : Pos} (hN : X.N.Nodup) (h : Lm X W B a m) (hi : X.N[i]? = some x := by rfl) (hx : Loc X.env.scope x := by first | exact Or.inl rfl | exact Or.inr rfl)
    (hs : swapsWith a (some (.Name x pos')) pos.line X.env = pure false := by rfl) (hf : X.fn x = true ∨ X.env.scope.names.lookup x = some .local := by first | exact .inl rfl | exact .inr rfl) : Sm X W B (.Assign [.Name x pos'] a pos) (sOwn i m) :=
  sm_of (ps_set hN hi hx h hs hf) fun c σ H Γ t D e p => tML_bindS e p fun ds t1 a vs H1 e1 hn r hl p1 => p1 _ _ (e1.setOwn hn r i)
/-- name = [..], on one line -/
theorem sm_setLc (i : Nat) {y : Str} {py : Pos} {elt tg iter : Expr} {ifs : List Expr} {scope : Scope} {own : List (Str × Nat)} {ks : List Nat} {pos spos : Pos} {mi : Ar T} {gt : Tg} {mc : Te T} {me : Ex T} (hc : X.calm = true) (hN : X.N.Nodup) (hyl : X.env.scope.names.lookup y = some .local)
    (hsw : swapsWith (.ListComp elt [⟨tg, iter, ifs, 0⟩] scope pos) (some (.Name y py)) spos.line X.env = pure true) (hi : Im X W B tg iter mi) (ok : BlkOk X.N X.env.scope scope own)
    (hg : ∀ (s : Shared) (H : Hp) (C : Addr) (cl : List (Str × Addr)) (fp : List Addr), Gt (X.blk s H scope (compEnvC scope cl C X.env) fp) W ks tg gt)
    (ht : ∀ (s : Shared) (H : Hp) (C : Addr) (cl : List (Str × Addr)) (fp : List Addr), Ts (X.blk s H scope (compEnvC scope cl C X.env) fp) W ifs mc)
    (he : ∀ (s : Shared) (H : Hp) (C : Addr) (cl : List (Str × Addr)) (fp : List Addr), Pm (X.blk s H scope (compEnvC scope cl C X.env) fp) W BF false elt me)
    (hy : X.N[i]? = some y := by rfl) (hks : ks.all (fun k => (own.map (·.2)).contains k) = true := by rfl) (hs : ∀ x, foldedSetIterable iter X.env x = pure x := by intro _; rfl) :
    Sm X W B (.Assign [.Name y py] (.ListComp elt [⟨tg, iter, ifs, 0⟩] scope pos) spos) (sSet i (mL (mLc (own.map (·.2)) mi gt mc me))) :=
  sm_of (ps_setLc hc hN hy hyl hsw hi ok (fun s H C cl fp => (hg s H C cl fp).pg) ht he hs) fun c σ H Γ t D e p => by
    show tLc (tMI X.K X.mg W B mi) (tMG X.K W ks gt) (tMT X.K X.mg W BF mc) (tM X.K X.mg W BF false me) (own.map (·.2)) σ H (fun x H1 => D.nx (σ.set i (some x)) H1)
    refine tLc_M hks (hg X.s_0 X.H_0 0 [] []).but e ?_
    unfold sSet mL at p
    revert p
    cases mLc (own.map (·.2)) mi gt mc me Γ t with
    | ok ds t1 => exact fun p a vs H1 e1 hn r _ => p _ _ ((e1.new hn).set (rep_lst r hn (e1.okf' hn)) i)
    | er x t1 => exact fun p cls dd H1 e1 r1 => p cls dd σ H1 e1 r1
    | bad => exact fun p => p
/-! ### a, b = e1, e2 -/
def setAll : List Nat → List D → Gm → Option Gm
  | [], [], Γ => some Γ
  | i :: is, d :: ds, Γ => setAll is ds (Γ.set i (some (.dat d)))
  | _, _, _ => none
def sPar (is : List Nat) (m : Ar T) : Bl T := fun Γ t => (m Γ t).fl Γ fun ds t1 => match setAll is ds Γ with
  | some Γ1 => .nx Γ1 t1
  | none => .bad
theorem sm_par {i j : Nat} {x y : Str} {a b : Expr} {m : Ar T} {px py pt pos : Pos} {kt k2 pt2} (hc : X.calm = true) (hN : X.N.Nodup) (ha : Am X W B false [a, b] m)
    (hx : X.env.scope.names.lookup x = some .local) (hy : X.env.scope.names.lookup y = some .local) (hi : X.N[i]? = some x := by rfl) (hj : X.N[j]? = some y := by rfl) (hij : i ≠ j := by decide)
    (hw : swappedStores [.Tuple [.Name x px, .Name y py] kt pt] (.Tuple [a, b] k2 pt2) X.env = pure (some [x, y]) := by rfl)
    (hs : swapsWithSole [.Tuple [.Name x px, .Name y py] kt pt] (.Tuple [a, b] k2 pt2) pos.line X.env = pure false := by rfl) : Sm X W B (.Assign [.Tuple [.Name x px, .Name y py] kt pt] (.Tuple [a, b] k2 pt2) pos) (sPar [i, j] m) :=
  sm_of (ps_par hc hN hi hj hij hx hy ha hw hs) fun c σ H Γ t D e p => tMA_bindS e p fun ds t1 vs H1 e1 r1 p1 => by
    match ds, p1, r1 with
    | [d, d'], p1, r1 =>
      obtain ⟨v, v', rfl, h1, h2⟩ := r1.two
      refine ⟨v, v', rfl, p1 _ H1 ((e1.set h1.rep i).set ?_ j)⟩
      exact h2.rep.weak fun b z => okA_set (o := some (.dat d)) (fun _ z => nomatch z) z
    | [], p1, _ => exact p1.elim
    | [_], p1, _ => exact p1.elim
    | _ :: _ :: _ :: _, p1, _ => exact p1.elim
theorem sm_par3 {i j l : Nat} {x y z : Str} {a b c : Expr} {m : Ar T} {px py pz pt pos : Pos} {kt k2 pt2} (hc : X.calm = true) (hN : X.N.Nodup) (ha : Am X W B false [a, b, c] m)
    (hx : X.env.scope.names.lookup x = some .local) (hy : X.env.scope.names.lookup y = some .local) (hz : X.env.scope.names.lookup z = some .local) (hi : X.N[i]? = some x := by rfl) (hj : X.N[j]? = some y := by rfl) (hl : X.N[l]? = some z := by rfl) (hij : i ≠ j := by decide) (hil : i ≠ l := by decide) (hjl : j ≠ l := by decide)
    (hw : swappedStores [.Tuple [.Name x px, .Name y py, .Name z pz] kt pt] (.Tuple [a, b, c] k2 pt2) X.env = pure (some [x, y, z]) := by rfl)
    (hs : swapsWithSole [.Tuple [.Name x px, .Name y py, .Name z pz] kt pt] (.Tuple [a, b, c] k2 pt2) pos.line X.env = pure false := by rfl) : Sm X W B (.Assign [.Tuple [.Name x px, .Name y py, .Name z pz] kt pt] (.Tuple [a, b, c] k2 pt2) pos) (sPar [i, j, l] m) :=
  sm_of (ps_par3 hc hN hi hj hl hij hil hjl hx hy hz ha hw hs) fun c σ H Γ t D e p => tMA_bindS e p fun ds t1 vs H1 e1 r1 p1 => by
    match ds, p1, r1 with
    | [d, d', d''], p1, r1 =>
      obtain ⟨v, r, rfl, h1, h2⟩ := r1
      obtain ⟨v', v'', rfl, h3, h4⟩ := RepsT.two h2
      have w1 : ∀ b, c.okA W σ Γ t1 b → c.okA W (σ.set i (some v)) (Γ.set i (some (.dat d))) t1 b := fun b z => okA_set (o := some (.dat d)) (fun _ z => nomatch z) z
      have w2 : ∀ b, c.okA W (σ.set i (some v)) (Γ.set i (some (.dat d))) t1 b → c.okA W ((σ.set i (some v)).set j (some v')) ((Γ.set i (some (.dat d))).set j (some (.dat d'))) t1 b := fun b z => okA_set (o := some (.dat d')) (fun _ z => nomatch z) z
      exact ⟨v, v', v'', rfl, p1 _ H1 (((e1.set h1.rep i).set (h3.rep.weak w1) j).set (h4.rep.weak fun b z => w2 b (w1 b z)) l)⟩
    | [], p1, _ => exact p1.elim
    | [_], p1, _ => exact p1.elim
    | [_, _], p1, _ => exact p1.elim
    | _ :: _ :: _ :: _ :: _, p1, _ => exact p1.elim
/-! ### if, for -/
def sIf (x : Te T) (a b : Bl T) : Bl T := fun Γ t => (x Γ t).fl Γ fun k t1 => if k = true then a Γ t1 else b Γ t1
theorem sm_if {x : Expr} {p q : List Stmt} {mx : Te T} {ma mb : Bl T} {pos : Pos} (hx : Tm X W B x mx) (ha : Bm X W B p ma) (hb : Bm X W B q mb) : Sm X W B (.If x p q pos) (sIf mx ma mb) :=
  sm_of (ps_if hx ha hb) fun c σ H Γ t D e p => tMT_bindS e p fun k t1 H1 e1 p1 => by
    cases k with
    | true => exact ⟨_, Γ, t1, e1.rb, PostS.rb e1 p1⟩
    | false => exact ⟨_, Γ, t1, e1.rb, PostS.rb e1 p1⟩
def forGo (g : Tg) (b : Bl T) : List D → Bl T
  | [], Γ, t => .nx Γ t
  | d :: ds, Γ, t => match g d Γ with
    | none => .bad
    | some Γ1 => match b Γ1 t with
      | .nx Γ2 t2 => forGo g b ds Γ2 t2
      | .ct Γ2 t2 => forGo g b ds Γ2 t2
      | .bk Γ2 t2 => .nx Γ2 t2
      | r => r
def sFor (it : Ar T) (g : Tg) (b : Bl T) : Bl T := fun Γ t => (it Γ t).fl Γ fun ds t1 => forGo g b ds Γ t1
theorem sm_for {tg iter : Expr} {body : List Stmt} {mi : Ar T} {g : Tg} {mb : Bl T} {ks : List Nat} {pos : Pos} (hp : PassesOwn (model X.prog X.w) X.A X.env X.xe) (hc : X.calm = true) (hi : Im X W B tg iter mi) (hg : Gt X W ks tg g) (hb : Bm X W B body mb)
    (hs : ∀ x, foldedSetIterable iter X.env x = pure x := by intro _; rfl) : Sm X W B (.For tg iter body [] pos) (sFor mi g mb) :=
  sm_of (ps_for hp hc hi hg.pg hb hs) fun c σ H Γ t D e p => tMI_bindS e p fun ds t1 J H1 e1 w p1 => by
    refine for_it w (fun i σ2 H2 => ∃ Γ2 t2, Sit X.K W (c.rb σ H1 Γ t1) σ2 H2 Γ2 t2 ∧ PostS X.K X.mg W B c (forGo g mb (ds.drop i) Γ2 t2) D) ⟨Γ, t1, e1.rb, p1⟩ ?_ ?_ ?_
    · rintro i σ2 H2 _ ⟨Γ2, t2, e2, _⟩
      exact e1.kp e2.toSitW
    · rintro i x σ2 H2 H3 hi' ⟨Γ2, t2, e2, p2⟩ ⟨sm, hy⟩
      obtain ⟨d, hd⟩ : ∃ d, ds[i]? = some d := ⟨ds[i], by simp [hi']⟩
      have hdrop : ds.drop i = d :: ds.drop (i + 1) := by
        rw [List.drop_eq_getElem_cons hi']
        have h0 := hd
        rw [List.getElem?_eq_getElem hi'] at h0
        rw [Option.some.inj h0]
      rw [hdrop] at p2
      unfold forGo at p2
      have e3 := e2.same sm
      refine ⟨c.rb σ H1 Γ t1, Γ2, t2, d, e3, hy d _ hd fun b hb' z => e1.okA_up e2 hb' z, ?_⟩
      cases hq : g d Γ2 with
      | none => rw [hq] at p2; exact p2.elim
      | some Γ3 =>
        rw [hq] at p2
        intro σ3 e4 _
        refine ⟨c.rb σ H1 Γ t1, Γ3, t2, e4, ?_⟩
        revert p2
        show PostS X.K X.mg W B c (match mb Γ3 t2 with
          | .nx Γ2 t2 => forGo g mb (ds.drop (i + 1)) Γ2 t2
          | .ct Γ2 t2 => forGo g mb (ds.drop (i + 1)) Γ2 t2
          | .bk Γ2 t2 => .nx Γ2 t2
          | r => r) D → _
        cases mb Γ3 t2 with
        | nx Γ4 t4 => exact fun p2 σ4 H4 e5 => ⟨Γ4, t4, e5, p2⟩
        | ct Γ4 t4 => exact fun p2 σ4 H4 e5 => ⟨Γ4, t4, e5, p2⟩
        | bk Γ4 t4 => exact fun p2 σ4 H4 e5 => p2 σ4 H4 (e1.un e5)
        | rt d t4 => exact fun p2 v H4 e5 r5 => p2 v H4 (SitW.un e1 e5) r5
        | er x Γ4 t4 => exact fun p2 cls dd σ4 H4 e5 r5 => p2 cls dd σ4 H4 (e1.un e5) r5
        | bad => exact fun p2 => p2
    · rintro σ2 H2 ⟨Γ2, t2, e2, p2⟩
      rw [List.drop_length] at p2
      exact p2 σ2 H2 (e1.un e2)
/-! ### x += e -/
def sAug (i : Nat) (f : Int → Int → Int) (m : Ex T) : Bl T := fun Γ t => match Γ[i]? with
  | some (some (.dat (.int a))) => (m Γ t).fl Γ fun d t1 => (match d with
    | .int b => .nx (Γ.set i (some (.dat (.int (f a b))))) t1
    | _ => .bad)
  | _ => .bad
theorem sm_aug (i : Nat) {x : Str} {a : Expr} {m : Ex T} {op : Operator} {f : Int → Int → Int} {pos pos' : Pos} (hN : X.N.Nodup) (h : Pm X W B s a m) (ho : PIp X op (ipI f)) (hi : X.N[i]? = some x := by rfl) (hx : Loc X.env.scope x := by first | exact Or.inl rfl | exact Or.inr rfl)
    (hf : X.fn x = true ∨ X.env.scope.names.lookup x = some .local := by first | exact .inl rfl | exact .inr rfl) : Sm X W B (.AugAssign (.Name x pos') op a pos) (sAug i f m) :=
  sm_of (ps_aug hN hi hx h ho hf) fun c σ H Γ t D e p => by
    unfold sAug at p
    split at p
    · rename_i a0 h1
      obtain ⟨v, h2, h3⟩ := e.dat i _ h1
      unfold Rep at h3
      subst h3
      refine ⟨_, h2, tM_bindS e p fun d t1 u H1 e1 r1 p1 => ?_⟩
      cases d with
      | int b0 => exact ⟨a0, b0, rfl, r1.int, p1 _ H1 (e1.set rep_int i)⟩
      | _ => exact p1.elim
    · exact p.elim
end
end DC
/-! ## a local's own list changed; defs -/
namespace DC
open PySem L2 PySem.Spec
section
variable {T : Type} {X : Cx} {K : PySem.W.Frag} {mg : Str → Option Value} {W : Wd T} {B : WX} {s s1 s2 s3 : Bool}
variable {c : Cf T} {σ σ' : L2.St} {H H' : Hp} {Γ Γ' : Gm} {t t' : T}
def ownAt (Γ : Gm) (i : Nat) : Option (List D) := match Γ[i]? with
  | some (some (.own ds)) => some ds
  | _ => none
theorem ownAt_some {i : Nat} {ds : List D} (h : ownAt Γ i = some ds) : Γ[i]? = some (some (.own ds)) := by
  unfold ownAt at h
  split at h
  · cases h; assumption
  · cases h
theorem Sit.ownAt (e : Sit K W c σ H Γ t) {i : Nat} {ds : List D} (h : DC.ownAt Γ i = some ds) : ∃ p vs, σ[i]? = some (some (.ref p)) ∧ H p = some (.lst vs) ∧ Reps K (c.okA W σ Γ t) H ds vs := by
  obtain ⟨p, vs, h1, _, _, _, h5, h6⟩ := e.own i ds (ownAt_some h)
  exact ⟨p, vs, h1, h5, h6⟩
/-- x.append(e), x a local's own list -/
def sApp (i : Nat) (m : Ex T) : Bl T := fun Γ t => match ownAt Γ i with
  | some ds => (m Γ t).fl Γ fun d t1 => if ds.length < 16777216 then .nx (Γ.set i (some (.own (ds ++ [d])))) t1 else .bad
  | none => .bad
theorem sm_app (i : Nat) {x : Str} {a : Expr} {m : Ex T} {p1 p2 p3 p4 : Pos} (h : Pm X W B false a m) (hN : X.N[i]? = some x := by rfl) (hv : Vis X.env.scope x := by first | exact Or.inl rfl | exact Or.inr (Or.inl rfl) | exact Or.inr (Or.inr rfl)) (hd : (x == ("__debug__" : Str)) = false := by decide)
    (hcd : (x == ("__classdict__" : Str)) = false := by decide) (hbase : attributeBase (.Name x p1) "append" X.env (eval (.Name x p1) X.env) = eval (.Name x p1) X.env := by rfl)
    (hfew : ((backTo p3 (starEach [a] X.env)).all (fun x => !x.1) && (backToKw p3 (keywordEach [] X.env)).all (fun x => x.1.isSome) && decide ([a].length + ([] : List Keyword).length + (if ([] : List Keyword).isEmpty then 0 else 1) < 30)) = true := by rfl)
    (hline : (p2.endLine == p3.line) = true := by rfl) (hs : starEach [a] X.env = (false, eval a X.env) :: starEach [] X.env := by rfl) (hplain : (backTo p3 (starEach [] X.env)).any (·.1) = false := by rfl)
    (hsw : swapsWith (.Call (.Attribute (.Name x p1) "append" p2) [a] [] p3) none p4.line X.env = pure false := by rfl) : Sm X W B (.Expr (.Call (.Attribute (.Name x p1) "append" p2) [a] [] p3) p4) (sApp i m) :=
  sm_of (ps_expr (pe_bm PySem.F.plainAttrs_list PySem.F.slot_list_append PySem.F.type_list_append mt_append (pv i hN hv hd hcd) (pa_cons h pa_nil hs) hbase hfew hline hs hplain) hsw) fun c σ H Γ t D e p => by
    unfold sApp at p
    cases q : ownAt Γ i with
    | none => rw [q] at p; exact p.elim
    | some ds =>
      rw [q] at p
      obtain ⟨l, vs, h1, h2, h3⟩ := e.ownAt q
      refine ⟨_, h1, .inl ⟨rfl, _, SqL.of h2⟩, tM_bindS e p fun d t1 v H1 e1 r1 p1 => ?_⟩
      obtain ⟨l', vs', h1', h2', h3'⟩ := e1.ownAt q
      rw [h1] at h1'
      cases h1'
      by_cases hz : ds.length < 16777216
      · simp only [hz, if_true] at p1
        refine ⟨l, vs', v, rfl, rfl, h2', by rw [h3'.length, sizeLine_eq]; exact hz, p1 σ _ (e1.mutOwn (ownAt_some q) h1 (h3'.append (.cons r1.rep .nil)))⟩
      · simp only [hz, if_false] at p1; exact p1.elim
/-- x.extend(e), x a local's own list, e a new list -/
def sExt (i : Nat) (m : Ar T) : Bl T := fun Γ t => match ownAt Γ i with
  | some ds => (m Γ t).fl Γ fun es t1 => if ds.length + es.length ≤ 16777216 then .nx (Γ.set i (some (.own (ds ++ es)))) t1 else .bad
  | none => .bad
theorem sm_ext (i : Nat) {x : Str} {a : Expr} {m : Ar T} {p1 p2 p3 p4 : Pos} (h : Lm X W B a m) (hN : X.N[i]? = some x := by rfl) (hv : Vis X.env.scope x := by first | exact Or.inl rfl | exact Or.inr (Or.inl rfl) | exact Or.inr (Or.inr rfl)) (hd : (x == ("__debug__" : Str)) = false := by decide)
    (hcd : (x == ("__classdict__" : Str)) = false := by decide) (hbase : attributeBase (.Name x p1) "extend" X.env (eval (.Name x p1) X.env) = eval (.Name x p1) X.env := by rfl)
    (hfew : ((backTo p3 (starEach [a] X.env)).all (fun x => !x.1) && (backToKw p3 (keywordEach [] X.env)).all (fun x => x.1.isSome) && decide ([a].length + ([] : List Keyword).length + (if ([] : List Keyword).isEmpty then 0 else 1) < 30)) = true := by rfl)
    (hline : (p2.endLine == p3.line) = true := by rfl) (hs : starEach [a] X.env = (false, eval a X.env) :: starEach [] X.env := by rfl) (hplain : (backTo p3 (starEach [] X.env)).any (·.1) = false := by rfl)
    (hsw : swapsWith (.Call (.Attribute (.Name x p1) "extend" p2) [a] [] p3) none p4.line X.env = pure false := by rfl) : Sm X W B (.Expr (.Call (.Attribute (.Name x p1) "extend" p2) [a] [] p3) p4) (sExt i m) :=
  sm_of (ps_expr (pe_bm PySem.F.plainAttrs_list PySem.F.slot_list_extend PySem.F.type_list_extend mt_extend (pv i hN hv hd hcd) (pa_cons h pa_nil hs) hbase hfew hline hs hplain) hsw) fun c σ H Γ t D e p => by
    unfold sExt at p
    cases q : ownAt Γ i with
    | none => rw [q] at p; exact p.elim
    | some ds =>
      rw [q] at p
      obtain ⟨l, vs, h1, h2, h3⟩ := e.ownAt q
      refine ⟨_, h1, .inl ⟨rfl, _, SqL.of h2⟩, tML_bindS e p fun es t1 a us H1 e1 hn r hl p1 => ?_⟩
      obtain ⟨l', vs', h1', h2', h3'⟩ := e1.ownAt q
      rw [h1] at h1'
      cases h1'
      have nl : l ≠ a := fun z => by rw [z, hn] at h2'; cases h2'
      by_cases hz : ds.length + es.length ≤ 16777216
      · simp only [hz, if_true] at p1
        have e2 := e1.new (o := .lst us) hn
        have sm : Same H1 (upd H1 a (.lst us)) := same_upd hn
        refine ⟨l, a, vs', us, rfl, rfl, by rw [upd_ne nl]; exact h2', upd_same, by rw [h3'.length, r.length, sizeLine_eq]; exact hz, p1 σ _ (e2.mutOwn (ownAt_some q) h1 ((h3'.same sm).append (r.same sm)))⟩
      · simp only [hz, if_false] at p1; exact p1.elim
/-- x[k] = e, x a local's own list -/
def sPut (i : Nat) (k m : Ex T) : Bl T := fun Γ t => match ownAt Γ i with
  | some ds => (m Γ t).fl Γ fun d t1 => (k Γ t1).fl Γ fun j t2 => (match j with
    | .int j => (match ixN ds.length j with
      | some n => .nx (Γ.set i (some (.own (ds.set n d)))) t2
      | none => .bad)
    | _ => .bad)
  | none => .bad
theorem sm_put (i : Nat) {a o kx : Expr} {m mk : Ex T} {p2 p3 : Pos} (h : Pm X W B false a m) (hg : PG X (.Subscript o kx p2) (gSub (tVar i) (tM X.K X.mg W B s mk) rSetL))
    (hs : swapsWithSole [.Subscript o kx p2] a p3.line X.env = pure false := by rfl) (hw : swappedStores [.Subscript o kx p2] a X.env = pure none := by rfl)
    (h1 : (assignEach [.Subscript o kx p2] X.env).map (·.2) = [assign (.Subscript o kx p2) X.env] := by rfl) : Sm X W B (.Assign [.Subscript o kx p2] a p3) (sPut i mk m) :=
  sm_of (ps_asg h hg hs hw h1) fun c σ H Γ t D e p => by
    unfold sPut at p
    cases q : ownAt Γ i with
    | none => rw [q] at p; exact p.elim
    | some ds =>
      rw [q] at p
      refine tM_bindS e p fun d t1 v H1 e1 r1 p1 => ?_
      obtain ⟨l, vs, g1, g2, g3⟩ := e1.ownAt q
      refine ⟨_, g1, tM_bindS e1.rb (p1.rb e1) fun j t2 u H2 e2 r2 p2 => ?_⟩
      have e2' := e1.un e2
      have r1' := e1.rep e2 r1.rep
      obtain ⟨l', vs', g1', g2', g3'⟩ := e2'.ownAt q
      rw [g1] at g1'
      cases g1'
      cases j with
      | int j =>
        cases hq : ixN ds.length j with
        | none => simp only [hq] at p2; exact p2.elim
        | some n =>
          simp only [hq] at p2
          exact ⟨l, vs', j, n, rfl, r2.int, g2', by rw [g3'.length]; exact hq, p2 σ _ (e2.mutOwn (ownAt_some q) g1 (g3'.set r1' n))⟩
      | _ => exact p2.elim
/-! ### x, y = e1, e2 with a new list among them -/
/-- the last of the arguments a new list -/
def mSnoc (m : Ar T) (l : Ar T) : Gm → T → Rs T (List D × List D) := fun Γ t => (m Γ t).bind fun ds t1 => (l Γ t1).bind fun es t2 => .ok (ds, es) t2
end
/-! ### defs -/
/-- the slots at a def's entry -/
def slots0 (n : Nat) (ds : List D) : Gm := ds.map (fun d => some (Sl.dat d)) ++ List.replicate (n - ds.length) none
def runDef (np n : Nat) (m : Bl Unit) : Fn := fun ds => if ds.length = np then (match m (slots0 n ds) () with
  | .nx _ t => .ok .non t
  | .rt d t => .ok d t
  | .er e _ t => .er e t
  | _ => .bad) else .bad
section
variable {P : Program} {w : World} {K : PySem.W.Frag} {mg : Str → Option Value} {base : Heap}
theorem start_get {n : Nat} {N : List Str} {vs : List V} (hn : N.length = n) : L2.start N vs = vs.map some ++ List.replicate (n - vs.length) none := by unfold L2.start; rw [hn]
theorem start_sit {ok : Addr → Prop} {H : Hp} {N : List Str} {n : Nat} {ds : List D} {vs : List V} (hn : N.length = n) (h : Reps K ok H ds vs) (hk : ∀ a, H a = none → ok a) : Sit K W0 { H0 := H, t0 := (), O0 := fun _ => False, ok0 := ok } (L2.start N vs) H (slots0 n ds) () := by
  have hl := h.length
  have no : ∀ (i : Nat) (es : List D), (slots0 n ds)[i]? ≠ some (some (.own es)) := fun i es z => by
    unfold slots0 at z
    rw [List.getElem?_append] at z
    split at z
    · rw [List.getElem?_map] at z
      cases q : ds[i]? with
      | none => rw [q] at z; cases z
      | some d => rw [q] at z; cases z
    · rw [List.getElem?_replicate] at z
      split at z <;> cases z
  have nown : ∀ a, ¬ Own (L2.start N vs) (slots0 n ds) a := fun a ⟨i, es, h1, _⟩ => no i es h1
  refine ⟨⟨trivial, fun a o q _ => q, fun a q => q, hk, fun a z => z.elim⟩, ?_, fun i d hd => ?_, fun i es z => absurd z (no i es), fun i _ di _ _ _ z => absurd z (no i di)⟩
  · unfold slots0 L2.start
    rw [List.length_append, List.length_append, List.length_map, List.length_map, List.length_replicate, List.length_replicate, hl, hn]
  · unfold slots0 at hd
    rw [List.getElem?_append] at hd
    split at hd
    · rename_i hi
      rw [List.getElem?_map] at hd
      cases q : ds[i]? with
      | none => rw [q] at hd; cases hd
      | some d' =>
        rw [q] at hd
        cases hd
        obtain ⟨v, h1, h2⟩ := h.get q
        refine ⟨v, ?_, h2.weak fun a z => ⟨z, fun y => y.elim, nown a⟩⟩
        unfold L2.start
        rw [List.getElem?_append_left (by rw [List.length_map]; exact (List.getElem?_eq_some_iff.mp h1).1), List.getElem?_map, h1]
        rfl
    · rw [List.getElem?_replicate] at hd
      split at hd <;> cases hd
/-- what is wanted of an exception that leaves a def -/
abbrev WD (E : XK) : WX := fun cls d _ H => E cls d H
theorem def_ok {x qual : Str} {st : Stmt} {f : Addr} {fd : FuncData} {N ps : List Str} {k np n : Nat} {m : Bl Unit} (F : Fun K x qual st f fd) (S : FnScope N ps (defScope st)) (hnp : ps.length = np) (hn : N.length = n)
    (h : ∀ (cdv : Value) (A : Around) (outer : List PySem.Env) (s : Shared) (H : Hp) (E : XK), Room k (A.deeper (PyProof.Rows.envOfC qual (defScope st) s.heap.objs.size f cdv)) → Bm (cxOf (L2.CX P w) P w K mg base N qual (defScope st) f cdv A outer s H E) W0 (WD E) (defBody st) m) :
    FnOk P w K mg base (L2.CX P w) (k + 1) f fd ps (spP K mg (runDef np n m)) := by
  refine F.okX S (fun vs H Q E h => ?_) fun cdv A outer s H vs Q E hr hsp => ⟨_, h cdv A outer s H E hr, ?_⟩
  · obtain ⟨ds, ok, h1, _, h2⟩ := h
    rw [h1.length, hnp]
    by_cases q : ds.length = np
    · exact q
    · unfold runDef at h2
      rw [if_neg q] at h2
      exact h2.elim
  · obtain ⟨ds, ok, h1, h2, h3⟩ := hsp
    unfold runDef at h3
    by_cases q : ds.length = np
    · rw [if_pos q] at h3
      refine ⟨_, slots0 n ds, (), start_sit hn h1 h2, ?_⟩
      revert h3
      show (match (match m (slots0 n ds) () with | .nx _ t => Rs.ok D.non t | .rt d t => .ok d t | .er e _ t => .er e t | _ => .bad) with
        | .ok d _ => ∀ v H', Same H H' → Rep K ok H' d v → Q v H'
        | .er e _ => ∀ cls dd H', Same H H' → ErRep K mg ok H' e cls dd → E cls dd H'
        | .bad => False) → PostS K mg W0 (WD E) _ (m (slots0 n ds) ()) _
      have sm : ∀ {H1 : Hp}, SitW K W0 { H0 := H, t0 := (), O0 := fun _ => False, ok0 := ok } H1 () → Same H H1 := fun e a o z => e.keep a o z (.inr ⟨fun y => y, fun y => y⟩)
      cases m (slots0 n ds) () with
      | nx Γ t => exact fun h3 σ H1 e1 => h3 _ H1 (sm e1.toSitW) rep_non
      | rt d t => exact fun h3 v H1 e1 r1 => h3 v H1 (sm e1) (r1.weak fun _ z => z.1)
      | er e Γ t =>
        intro h3 cls dd σ H1 e1 r1
        obtain ⟨C, g1, g2, g3⟩ := r1
        refine h3 cls dd H1 (sm e1.toSitW) ⟨C, g1, g2, ?_⟩
        rcases g3 with g3 | ⟨d, fv, g3, g4, g5, g6⟩
        · exact .inl g3
        · exact .inr ⟨d, fv, g3, g4, g5, g6.weak fun a z => z.1⟩
      | bk Γ t => exact fun h3 => h3.elim
      | ct Γ t => exact fun h3 => h3.elim
      | bad => exact fun h3 => h3
    · rw [if_neg q] at h3; exact h3.elim
/-- what may leave, in a def's body and in a comprehension's block -/
theorem pass_def {qual : Str} {sc : Scope} {N : List Str} {f : Addr} {cdv : Value} {A : Around} {outer : List PySem.Env} {s : Shared} {H : Hp} {E : XK} : Pass (cxOf (L2.CX P w) P w K mg base N qual sc f cdv A outer s H E) (WD E) := fun σ => passAt (takes_of rfl rfl rfl rfl) σ
theorem pass_blk {X : Cx} : Pass X BF := fun σ pins H s e s' I c => by
  obtain ⟨_, _, _, _, _, _, _, _, _, _, _, _, z⟩ := c
  exact z.elim
theorem passes_def {qual : Str} {sc : Scope} {N : List Str} {f : Addr} {cdv : Value} {A : Around} {outer : List PySem.Env} {s : Shared} {H : Hp} {E : XK} : PassesOwn (model P w) (cxOf (L2.CX P w) P w K mg base N qual sc f cdv A outer s H E).A (cxOf (L2.CX P w) P w K mg base N qual sc f cdv A outer s H E).env (cxOf (L2.CX P w) P w K mg base N qual sc f cdv A outer s H E).xe := passes_of rfl
end
end DC
/-! ## chains of comparisons, f-strings, methods of texts -/
namespace DC
open PySem L2 PyProof.Rows
section
variable {T : Type} {X : Cx} {K : PySem.W.Frag} {mg : Str → Option Value} {W : Wd T} {B : WX} {s s1 s2 s3 : Bool}
variable {c : Cf T} {σ : L2.St} {H H' : Hp} {Γ : Gm} {t t' : T}
/-! ### a op b op c .. -/
abbrev Ct (T : Type) := D → Ex T
def ctLast (f : D → D → Option D) (mb : Ex T) : Ct T := fun x Γ t => (mb Γ t).bind fun y t1 => ofO (f x y) t1
def ctLink (f : D → D → Option D) (mb : Ex T) (r : Ct T) : Ct T := fun x Γ t => (mb Γ t).bind fun y t1 => match f x y with
  | some (.bl true) => r y Γ t1
  | some (.bl false) => .ok (.bl false) t1
  | _ => .bad
def mChain (ma : Ex T) (r : Ct T) : Ex T := fun Γ t => (ma Γ t).bind fun x t1 => r x Γ t1
structure Chm (X : Cx) (W : Wd T) (B : WX) (ops : List CmpOp) (es : List Expr) (r : Ct T) : Prop where
  run : ∀ (pos : Pos) (pins : List (Addr × Obj)) (s : Shared) (σ : L2.St) (H : Hp) (Q : VK) (x : V) (v : Value) (d : D) (c : Cf T) (Γ : Gm) (t : T) (sf : Bool), Inv X pins σ H s → RelV x v → Sit X.K W c σ H Γ t → RepT sf X.K (c.okA W σ Γ t) σ Γ H d x →
    Post X.K X.mg W B c σ Γ false (r d Γ t) Q → (∀ whole, whole = compareChain pos v ops (evalEach es X.env) → wpAny (model X.prog X.w) X.A whole (EP X pins σ Q) X.xe s)
  tst : ∀ (pos : Pos) (pins : List (Addr × Obj)) (s : Shared) (σ : L2.St) (H : Hp) (Q : Bool → Hp → Prop) (x : V) (v : Value) (d : D) (c : Cf T) (Γ : Gm) (t : T) (sf : Bool), Inv X pins σ H s → RelV x v → Sit X.K W c σ H Γ t → RepT sf X.K (c.okA W σ Γ t) σ Γ H d x →
    Post X.K X.mg W B c σ Γ false (r d Γ t) (fun y H' => ∃ k, y = .bl k ∧ Q k H') → (∀ whole, whole = testChain pos v ops (evalEach es X.env) → wpAny (model X.prog X.w) X.A whole (TP X pins σ Q) X.xe s)
theorem each_cons {e : Expr} {es : List Expr} {env : PySem.Env} : evalEach (e :: es) env = eval e env :: evalEach es env := by first | rfl | simp [evalEach]
theorem each_nil {env : PySem.Env} : evalEach [] env = [] := by first | rfl | simp [evalEach]
theorem chm_last {op : CmpOp} {b : Expr} {mb : Ex T} {r : R2} {f : D → D → Option D} (ho : OpR X (compareOp op) r) (hr : OpD X r f) (hb : Pm X W B s2 b mb) : Chm X W B [op] [b] (ctLast f mb) := by
  have step : ∀ (pins : List (Addr × Obj)) (s : Shared) (σ : L2.St) (H : Hp) (Q : VK) (x : V) (v : Value) (d : D) (c : Cf T) (Γ : Gm) (t : T) (sf : Bool), Inv X pins σ H s → RelV x v → Sit X.K W c σ H Γ t → RepT sf X.K (c.okA W σ Γ t) σ Γ H d x →
      Post X.K X.mg W B c σ Γ false (ctLast f mb d Γ t) Q → wpAny (model X.prog X.w) X.A (eval b X.env) (fun u s1 => wpAny (model X.prog X.w) X.A (compareOp op v u) (EP X pins σ Q) X.xe s1) X.xe s := by
    intro pins s σ H Q x v d c Γ t s1 I rx e rd p
    refine thn (hb.run pins s σ H (fun y H2 => r x y H2 Q) I (tM_bind e.rb (Post.rb e p) fun dy t1 y H2 e2 r2 p2 => ?_)) fun u s2 ⟨y, H2, I2, ry, q2⟩ => ho pins s2 σ H2 x y v u Q I2 rx ry q2
    cases q : f d dy with
    | none => rw [q] at p2; exact p2.elim
    | some z => rw [q] at p2; exact hr e2 (keepT e e2 rd) r2 q fun w H3 sm rw => p2 w H3 (e2.same sm) (.inl rw)
  refine ⟨fun pos pins s σ H Q x v d c Γ t s1 I rx e rd p whole hw => ?_, fun pos pins s σ H Q x v d c Γ t s1 I rx e rd p whole hw => ?_⟩
  · subst hw
    rw [each_cons, each_nil]
    exact chain_last (step pins s σ H Q x v d c Γ t s1 I rx e rd p)
  · subst hw
    rw [each_cons, each_nil]
    refine test_last (thn (step pins s σ H _ x v d c Γ t s1 I rx e rd p) fun u s2 h2 => thn h2 fun w s3 ⟨z, H3, I3, rz, k, ez, q3⟩ => ?_)
    subst ez
    cases rz
    exact wpAny_truthy_bool ⟨H3, I3, q3⟩
theorem chm_link {op op' : CmpOp} {ops : List CmpOp} {b b' : Expr} {es : List Expr} {mb : Ex T} {g : Ct T} {r : R2} {f : D → D → Option D} (ho : OpR X (compareOp op) r) (hr : OpD X r f) (hb : Pm X W B s2 b mb) (h : Chm X W B (op' :: ops) (b' :: es) g) :
    Chm X W B (op :: op' :: ops) (b :: b' :: es) (ctLink f mb g) := by
  have step : ∀ (pins : List (Addr × Obj)) (s : Shared) (σ : L2.St) (H : Hp) (Q : VK) (x : V) (v : Value) (d : D) (c : Cf T) (Γ : Gm) (t : T) (sf : Bool), Inv X pins σ H s → RelV x v → Sit X.K W c σ H Γ t → RepT sf X.K (c.okA W σ Γ t) σ Γ H d x →
      Post X.K X.mg W B c σ Γ false (ctLink f mb g d Γ t) Q → wpAny (model X.prog X.w) X.A (eval b X.env) (fun u s1 => wpAny (model X.prog X.w) X.A (compareOp op v u) (fun w s2' => ∃ k H3 dy y t1, w = .bool k ∧ Inv X pins σ H3 s2' ∧ RelV y u ∧ Sit X.K W (c.rb σ H Γ t) σ H3 Γ t1 ∧ RepT s2 X.K (c.okA W σ Γ t1) σ Γ H3 dy y ∧
        (if k = true then Post X.K X.mg W B (c.rb σ H Γ t) σ Γ false (g dy Γ t1) Q else Q (.bl false) H3)) X.xe s1) X.xe s := by
    intro pins s σ H Q x v d c Γ t s1 I rx e rd p
    refine thn (hb.run pins s σ H (fun y H2 => r x y H2 fun z H3 => ∃ k dy t1, z = .bl k ∧ Sit X.K W (c.rb σ H Γ t) σ H3 Γ t1 ∧ RepT s2 X.K (c.okA W σ Γ t1) σ Γ H3 dy y ∧
        (if k = true then Post X.K X.mg W B (c.rb σ H Γ t) σ Γ false (g dy Γ t1) Q else Q (.bl false) H3)) I (tM_bind e.rb (Post.rb e p) fun dy t1 y H2 e2 r2 p2 => ?_))
      fun u s2 ⟨y, H2, I2, ry, q2⟩ => thn (ho pins s2 σ H2 x y v u _ I2 rx ry q2) fun w s3 ⟨z, H3, I3, rz, k, dy, t1, ez, e3, r3, q3⟩ => ?_
    · cases q : f d dy with
      | none => rw [q] at p2; exact p2.elim
      | some z =>
        rw [q] at p2
        refine hr e2 (keepT e e2 rd) r2 q fun w H3 sm rw => ?_
        cases z with
        | bl k =>
          have hk : w = .bl k := by unfold Rep at rw; exact rw
          refine ⟨k, dy, t1, hk, e2.same sm, r2.same sm, ?_⟩
          cases k with
          | true => exact p2
          | false => subst hk; exact p2 _ H3 (e2.same sm) (.inl rw)
        | _ => exact p2.elim
    · subst ez
      cases rz
      exact ⟨k, H3, dy, y, t1, rfl, I3, ry, e3, r3, q3⟩
  refine ⟨fun pos pins s σ H Q x v d c Γ t s1 I rx e rd p whole hw => ?_, fun pos pins s σ H Q x v d c Γ t s1 I rx e rd p whole hw => ?_⟩
  · subst hw
    rw [each_cons, each_cons]
    refine chain_link (thn (step pins s σ H Q x v d c Γ t s1 I rx e rd p) fun u s2'' h2 => thn h2 fun w s3 ⟨k, H3, dy, y, t1, ew, I3, ry, e3, r3, q3⟩ => ?_)
    subst ew
    refine wpAny_truthy_bool ?_
    cases k with
    | true => exact ite_tt (h.run pos pins s3 σ H3 Q y u dy _ Γ t1 s2 I3 ry e3 r3 q3 _ (by rw [each_cons]))
    | false => exact ite_ff ⟨.bl false, H3, I3, rfl, q3⟩
  · subst hw
    rw [each_cons, each_cons]
    refine test_link (thn (step pins s σ H _ x v d c Γ t s1 I rx e rd p) fun u s2'' h2 => thn h2 fun w s3 ⟨k, H3, dy, y, t1, ew, I3, ry, e3, r3, q3⟩ => ?_)
    subst ew
    refine wpAny_truthy_bool ?_
    cases k with
    | true => exact ite_tt (h.tst pos pins s3 σ H3 Q y u dy _ Γ t1 s2 I3 ry e3 r3 q3 _ (by rw [each_cons]))
    | false =>
      obtain ⟨k', e', q'⟩ := q3
      cases e'
      exact ite_ff ⟨H3, I3, q'⟩
theorem pm_chain {op op' : CmpOp} {ops : List CmpOp} {a b b' : Expr} {es : List Expr} {ma : Ex T} {g : Ct T} {pos : Pos} (ha : Pm X W B s1 a ma) (h : Chm X W B (op :: op' :: ops) (b :: b' :: es) g) (hm : lastMarks (op :: op' :: ops) (b :: b' :: es) = false := by with_unfolding_all rfl) :
    Pm X W B false (.Compare a (op :: op' :: ops) (b :: b' :: es) pos) (mChain ma g) := by
  refine ⟨fun pins s σ H Q I ⟨c, Γ, t, e, p⟩ => ?_⟩
  refine Compare_chain (thn (ha.run pins s σ H (fun x H1 => ∃ d t1, Sit X.K W c σ H1 Γ t1 ∧ RepT s1 X.K (c.okA W σ Γ t1) σ Γ H1 d x ∧ Post X.K X.mg W B c σ Γ false (g d Γ t1) Q) I (tM_bind e p fun d t1 x H1 e1 r1 p1 => ⟨d, t1, e1, r1, p1⟩)) fun v s1' ⟨x, H1, I1, rx, d, t1, e1, r1, p1⟩ => ?_) hm
  refine h.run pos pins s1' σ H1 Q x v d c Γ t1 s1 I1 rx e1 r1 p1 _ ?_
  rw [each_cons, each_cons]
theorem tm_chain {op op' : CmpOp} {ops : List CmpOp} {a b b' : Expr} {es : List Expr} {ma : Ex T} {g : Ct T} {pos : Pos} (ha : Pm X W B s1 a ma) (h : Chm X W B (op :: op' :: ops) (b :: b' :: es) g) (hm : lastMarks (op :: op' :: ops) (b :: b' :: es) = false := by with_unfolding_all rfl) :
    Tm X W B (.Compare a (op :: op' :: ops) (b :: b' :: es) pos) (mTest (mChain ma g)) := by
  refine ⟨fun pins s σ H Q I ⟨c, Γ, t, e, p⟩ => ?_⟩
  have p0 : Post X.K X.mg W B c σ Γ false (mChain ma g Γ t) (fun y H' => ∃ k, y = .bl k ∧ Q k H') := by
    unfold mTest at p
    revert p
    cases mChain ma g Γ t with
    | ok d t1 =>
      intro p v H1 e1 r1
      cases d with
      | bl b => exact ⟨b, r1.bl, p H1 e1⟩
      | _ => exact p.elim
    | er x t1 => exact fun p => p
    | bad => exact fun p => p
  refine isTrue_chain (thn (ha.run pins s σ H (fun x H1 => ∃ d t1, Sit X.K W c σ H1 Γ t1 ∧ RepT s1 X.K (c.okA W σ Γ t1) σ Γ H1 d x ∧ Post X.K X.mg W B c σ Γ false (g d Γ t1) (fun y H' => ∃ k, y = .bl k ∧ Q k H')) I (tM_bind e p0 fun d t1 x H1 e1 r1 p1 => ⟨d, t1, e1, r1, p1⟩)) fun v s1' ⟨x, H1, I1, rx, d, t1, e1, r1, p1⟩ => ?_) hm
  refine h.tst pos pins s1' σ H1 Q x v d c Γ t1 s1 I1 rx e1 r1 p1 _ ?_
  rw [each_cons, each_cons]
/-! ### f-strings -/
def dFmt : D → Option Str
  | .str y => if y.length ≤ sizeLine then some y else none
  | .int i => if i.natAbs.log2 < 1920 then some (toString i) else none
  | _ => none
def mFmt (m : Ex T) : Ex T := fun Γ t => (m Γ t).bind fun d t1 => ofO ((dFmt d).map D.str) t1
theorem pm_fmt {e : Expr} {m : Ex T} {pos : Pos} (h : Pm X W B s1 e m) : Pm X W B s (.FormattedValue e (-1) none pos) (mFmt m) :=
  pm_of (pe_fmt h) fun c σ H Γ t Q e p => tM_bind e p fun d t1 v H1 e1 r1 p1 => by
    cases d with
    | str y =>
      by_cases q : y.length ≤ sizeLine
      · simp only [dFmt, q, if_true] at p1; exact .inl ⟨y, r1.str, q, p1 _ H1 e1 (.inl rep_str)⟩
      · simp only [dFmt, q, if_false] at p1; exact p1.elim
    | int i =>
      by_cases q : i.natAbs.log2 < 1920
      · simp only [dFmt, q, if_true] at p1; exact .inr ⟨i, r1.int, q, p1 _ H1 e1 (.inl rep_str)⟩
      · simp only [dFmt, q, if_false] at p1; exact p1.elim
    | _ => exact p1.elim
abbrev Jt (T : Type) := Str → Gm → T → Rs T Str
def jNil : Jt T := fun acc _ t => .ok acc t
def jCons (m : Ex T) (r : Jt T) : Jt T := fun acc Γ t => (m Γ t).bind fun d t1 => match d with
  | .str y => if (acc ++ y).length ≤ sizeLine then r (acc ++ y) Γ t1 else .bad
  | _ => .bad
def mJoin (r : Jt T) : Ex T := fun Γ t => (r Str.empty Γ t).bind fun z t1 => .ok (.str z) t1
def PostZ (K : PySem.W.Frag) (mg : Str → Option Value) (W : Wd T) (B : WX) (c : Cf T) (σ : L2.St) (Γ : Gm) (r : Rs T Str) (Q : Str → Hp → Prop) : Prop := match r with
  | .ok z t => ∀ H, Sit K W c σ H Γ t → Q z H
  | .er e t => ∀ cls dd H, Sit K W c σ H Γ t → ErRep K mg (c.okA W σ Γ t) H e cls dd → B cls dd σ H
  | .bad => False
structure Jm (X : Cx) (W : Wd T) (B : WX) (es : List Expr) (r : Jt T) : Prop where
  ex : ∃ ts, PJ X es ts ∧ ∀ (c : Cf T) (σ : L2.St) (H : Hp) (Γ : Gm) (t : T) (acc : Str) (Q : Str → Hp → Prop), Sit X.K W c σ H Γ t → PostZ X.K X.mg W B c σ Γ (r acc Γ t) Q → tJs ts acc σ H Q
theorem jm_nil : Jm X W B [] (jNil : Jt T) := ⟨[], .nil, fun c σ H Γ t acc Q e p => p H e⟩
theorem jm_cons {e : Expr} {es : List Expr} {m : Ex T} {r : Jt T} (h : Pm X W B false e m) (hr : Jm X W B es r) : Jm X W B (e :: es) (jCons m r) := by
  obtain ⟨ts, h1, h2⟩ := hr.ex
  refine ⟨_, .cons h h1, fun c σ H Γ t acc Q e p => ?_⟩
  refine ⟨c, Γ, t, e, ?_⟩
  unfold jCons at p
  revert p
  cases m Γ t with
  | ok d t1 =>
    intro p v H1 e1 r1
    cases d with
    | str y =>
      by_cases q : (acc ++ y).length ≤ sizeLine
      · simp only [Rs.bind, q, if_true] at p
        exact ⟨y, r1.str, q, h2 c σ H1 Γ t1 _ Q e1 p⟩
      · simp only [Rs.bind, q, if_false] at p; exact p.elim
    | _ => exact p.elim
  | er x t1 => exact fun p => p
  | bad => exact fun p => p
theorem pm_join {v1 v2 : Expr} {rest : List Expr} {r : Jt T} {pos : Pos} (h : Jm X W B (v1 :: v2 :: rest) r) : Pm X W B s (.JoinedStr (v1 :: v2 :: rest) pos) (mJoin r) := by
  obtain ⟨ts, h1, h2⟩ := h.ex
  refine pm_of (pe_joined h1) fun c σ H Γ t Q e p => h2 c σ H Γ t _ _ e ?_
  unfold mJoin at p
  revert p
  cases r Str.empty Γ t with
  | ok z t1 => exact fun p H1 e1 => p _ H1 e1 (.inl rep_str)
  | er x t1 => exact fun p => p
  | bad => exact fun p => p
theorem pm_fs1 {e : Expr} {m : Ex T} {pos : Pos} (h : Pm X W B s e m) : Pm X W B s (.JoinedStr [e] pos) m := pm_of (pe_joined1 h) fun c σ H Γ t Q e p => ⟨c, Γ, t, e, p⟩
/-! ### methods of texts -/
def dStrs : List D → Option (List Str)
  | [] => some []
  | .str z :: ds => (dStrs ds).map (z :: ·)
  | _ => none
theorem dStrs_v {ok : Addr → Prop} : ∀ {ds : List D} {zs : List Str} {vs : List V}, dStrs ds = some zs → Reps K ok H ds vs → vs = zs.map V.str
  | [], zs, vs, h, r => by cases h; unfold Reps at r; exact r
  | d :: ds, zs, vs, h, r => by
    unfold Reps at r
    obtain ⟨v, w, rfl, r1, r2⟩ := r
    cases d with
    | str z =>
      unfold dStrs at h
      cases q : dStrs ds with
      | none => rw [q] at h; cases h
      | some zs' =>
        rw [q] at h; cases h
        unfold Rep at r1
        rw [dStrs_v q r2, r1]; rfl
    | _ => cases h
theorem reps_strs {ok : Addr → Prop} : ∀ zs : List Str, Reps K ok H (zs.map D.str) (zs.map V.str)
  | [] => by unfold Reps; rfl
  | z :: zs => by
    show Reps K ok H (D.str z :: zs.map D.str) _
    unfold Reps
    exact ⟨_, _, rfl, rep_str, reps_strs zs⟩
def dJoin (x y : D) : Option D := match x with
  | .str a => match dItems y with
    | some ds => match dStrs ds with
      | some zs => if (zs.map (·.length)).sum + zs.length * a.length ≤ 16777216 then some (.str (Txt.join a zs)) else none
      | none => none
    | none => none
  | _ => none
def mM1 (f : Str → D → Option D) (mo me : Ex T) : Ex T := fun Γ t => (mo Γ t).bind fun x t1 => match x with
  | .str a => (me Γ t1).bind fun y t2 => ofO (f a y) t2
  | _ => .bad
def dJoinS (a : Str) (y : D) : Option D := dJoin (.str a) y
theorem pm_joinS {o e : Expr} {mo me : Ex T} {apos pos : Pos} (ho : Pm X W B s1 o mo) (he : Pm X W B s2 e me) (hs : starEach [e] X.env = [(false, eval e X.env)] := by rfl) (hbase : attributeBase o "join" X.env (eval o X.env) = eval o X.env := by rfl) (hline : (apos.endLine == pos.line) = true := by rfl) :
    Pm X W B s (.Call (.Attribute o "join" apos) [e] [] pos) (mM1 dJoinS mo me) :=
  pm_of (pe_join ho he hs hbase hline) fun c σ H Γ t Q e p => tM_bind e p fun x t1 v H1 e1 r1 p1 => by
    cases x with
    | str a =>
      refine ⟨⟨a, r1.str⟩, tM_bind e1.rb (Post.rb e1 p1) fun y t2 u H2 e2 r2 p2 => ?_⟩
      cases q : dItems y with
      | none => simp only [dJoinS, dJoin, q] at p2; exact p2.elim
      | some ds =>
        cases q2 : dStrs ds with
        | none => simp only [dJoinS, dJoin, q, q2] at p2; exact p2.elim
        | some zs =>
          by_cases q3 : (zs.map (·.length)).sum + zs.length * a.length ≤ 16777216
          · simp only [dJoinS, dJoin, q, q2, q3, if_true] at p2
            obtain ⟨p, vs, h1, h2, h3⟩ := r2.seq e2 q
            have h4 := dStrs_v q2 h3
            subst h4 h1
            exact ⟨a, p, zs, r1.str, rfl, h2.symm, q3, p2 _ H2 e2 (.inl rep_str)⟩
          · simp only [dJoinS, dJoin, q, q2, q3, if_false] at p2; exact p2.elim
    | _ => exact p1.elim
def mSplit (mo : Ex T) (me : Ex T) : Ar T := fun Γ t => (mo Γ t).bind fun x t1 => match x with
  | .str a => (me Γ t1).bind fun y t2 => (match y with
    | .str b => if (b.length == 0) = false ∧ a.length + 2 ≤ 16777216 then .ok ((Txt.split a b).map D.str) t2 else .bad
    | _ => .bad)
  | _ => .bad
theorem lm_split {o e : Expr} {mo me : Ex T} {apos pos : Pos} (ho : Pm X W B s1 o mo) (he : Pm X W B s2 e me) (hs : starEach [e] X.env = [(false, eval e X.env)] := by rfl) (hbase : attributeBase o "split" X.env (eval o X.env) = eval o X.env := by rfl) (hline : (apos.endLine == pos.line) = true := by rfl) :
    Lm X W B (.Call (.Attribute o "split" apos) [e] [] pos) (mSplit mo me) :=
  lm_of (pe_split ho he hs hbase hline) fun c σ H Γ t Q e p => tM_bindL e p fun x t1 v H1 e1 r1 p1 => by
    cases x with
    | str a =>
      refine ⟨⟨a, r1.str⟩, tM_bindL e1.rb (PostL.rb e1 p1) fun y t2 u H2 e2 r2 p2 => ?_⟩
      cases y with
      | str b =>
        by_cases q : (b.length == 0) = false ∧ a.length + 2 ≤ 16777216
        · simp only [q, and_self, if_true] at p2
          have hz : 16777216 ≤ sizeLine := by decide
          have hl : (Txt.split a b).length ≤ 16777216 := Nat.le_trans (PyProof.Rows.split_le a b) q.2
          exact ⟨a, b, r1.str, by rw [r2.str], q.1, by omega, fun l hl' => p2 l _ H2 e2 hl' (reps_strs _) (by rw [List.length_map]; exact hl)⟩
        · simp only [q, if_false] at p2; exact p2.elim
      | _ => exact p2.elim
    | _ => exact p1.elim
/-! ### int(x): a text, an int, a bool -/
def dIntA : D → Option D
  | .str a => if a.length ≤ 640 then (PySem.intText? a).map D.int else none
  | d => dInt1 d
theorem CallR.or {f : Value} {r r' : List V → Hp → VK → Prop} (h : CallR X f r) (h' : CallR X f r') : CallR X f (fun xs H Q => r xs H Q ∨ r' xs H Q) := by
  intro pins s σ H xs us Q I rs q
  rcases q with q | q
  · exact h pins s σ H xs us Q I rs q
  · exact h' pins s σ H xs us Q I rs q
abbrev rIntA : List V → Hp → VK → Prop := fun xs H Q => (∃ a n, xs = [.str a] ∧ PySem.intText? a = some n ∧ a.length ≤ 640 ∧ Q (.int n) H) ∨ ((∃ i, xs = [.int i] ∧ Q (.int i) H) ∨ ∃ k, xs = [.bl k] ∧ Q (.int (if k then 1 else 0)) H)
theorem call_intA : CallR X (.type "int") rIntA := CallR.or call_int_str call_int1
theorem cd_intA : CallD X rIntA (d1 dIntA) := by
  intro T W c σ H Γ t s1 ds z vs Q e r hf q
  obtain ⟨x, rfl, hx⟩ := d1_some hf
  obtain ⟨v, rfl, rv⟩ := r.one
  cases x with
  | str a =>
    unfold dIntA at hx
    by_cases h : a.length ≤ 640
    · simp only [h, if_true] at hx
      cases h2 : PySem.intText? a with
      | none => rw [h2] at hx; cases hx
      | some n =>
        rw [h2] at hx; cases hx
        exact .inl ⟨a, n, by rw [rv.str], h2, h, q _ H (Same.refl H) rep_int⟩
    · simp only [h, if_false] at hx; cases hx
  | int i => cases hx; rw [rv.int]; exact .inr (.inl ⟨i, rfl, q _ H (Same.refl H) rep_int⟩)
  | bl k => cases hx; rw [rv.bl]; exact .inr (.inr ⟨k, rfl, q _ H (Same.refl H) rep_int⟩)
  | _ => cases hx
end
end DC
/-! ## defs that keep a world -/
namespace DC
open PySem L2 PyProof.Rows
section
variable {T : Type} {X : Cx} {K : PySem.W.Frag} {mg : Str → Option Value} {W : Wd T} {B : WX} {s s1 s2 s3 : Bool}
variable {c : Cf T} {σ : L2.St} {H H' : Hp} {Γ : Gm} {t t' : T}
abbrev FnW (T : Type) := List D → T → Rs T D
def Cf.out (c : Cf T) (W : Wd T) (t : T) (a : Addr) : Prop := c.ok0 a ∧ ¬ W.foot t a
def spW (K : PySem.W.Frag) (mg : Str → Option Value) (W : Wd T) (f : FnW T) : Sp := fun vs H Q E => ∃ (c : Cf T) (ds : List D) (t : T), (∀ a, ¬ c.O0 a) ∧ SitW K W c H t ∧ Reps K (c.out W t) H ds vs ∧ match f ds t with
  | .ok d t' => ∀ v H', SitW K W c H' t' → Rep K (c.out W t') H' d v → Q v H'
  | .er e t' => ∀ cls dd H', SitW K W c H' t' → ErRep K mg (c.out W t') H' e cls dd → E cls dd H'
  | .bad => False
def mCallW (f : FnW T) (m : Ar T) : Ex T := fun Γ t => (m Γ t).bind fun ds t1 => f ds t1
structure GoodW (P : Program) (w : World) (K : PySem.W.Frag) (mg : Str → Option Value) (base : Heap) (W : Wd T) (k : Nat) (x : Str) (f : FnW T) : Prop where
  ex : ∃ (a : Addr) (fd : FuncData) (ps : List Str), mg x = some (.ref a) ∧ PySem.W.keepIn K (.ref a) = true ∧ Binds K fd ps [] ∧ FnOk P w K mg base (L2.CX P w) k a fd ps (spW K mg W f)
abbrev GoodWX (X : Cx) (W : Wd T) (k : Nat) (x : Str) (f : FnW T) : Prop := GoodW X.prog X.w X.K X.mg X.base W k x f
/-- what a call is asked from -/
def Cf.call (c : Cf T) (σ : L2.St) (H : Hp) (Γ : Gm) (t : T) : Cf T := { H0 := H, t0 := t, O0 := fun _ => False, ok0 := fun a => c.ok0 a ∧ ¬ Own σ Γ a }
theorem Sit.call (e : Sit K W c σ H Γ t) : SitW K W (c.call σ H Γ t) H t where
  wr := e.wr
  keep := fun a o h _ => h
  dom := fun a h => h
  okf := fun a h => let z := e.okf' h; ⟨z.1, z.2.2⟩
  ft := fun a h => .inl h
theorem Sit.called (e : Sit K W c σ H Γ t) (q : SitW K W (c.call σ H Γ t) H' t') : Sit K W c σ H' Γ t' := by
  have q0 : SitW K W (c.rb σ H Γ t) H' t' :=
    { wr := q.wr, keep := fun a o h hs => q.keep a o h (hs.imp id fun z => ⟨z.1, fun y => y⟩), dom := q.dom, okf := fun a h => e.okf a (e.dom a h), ft := q.ft }
  have up : ∀ b, H b ≠ none → c.okA W σ Γ t b → c.okA W σ Γ t' b := fun b hn hb => ⟨hb.1, fun z => by
    rcases q.ft b z with w | w
    · exact hb.2.1 w
    · exact hn w, hb.2.2⟩
  refine e.un { q0 with len := e.len, dat := fun i d h => ?_, own := fun i ds h => ?_, dis := e.dis }
  · obtain ⟨v, h1, h2⟩ := e.dat i d h
    exact ⟨v, h1, h2.kp (e.kp q0) up⟩
  · obtain ⟨p, vs, h1, h2, h3, h4, h5, h6⟩ := e.own i ds h
    have hn : H p ≠ none := by rw [h5]; exact fun z => nomatch z
    refine ⟨p, vs, h1, .inl ⟨i, ds, h, h1⟩, h3, fun z => ?_, q.keep p _ h5 (.inr ⟨h4, fun y => y⟩), h6.kp (e.kp q0) up⟩
    rcases q.ft p z with w | w
    · exact h4 w
    · exact hn w
theorem pm_callW {k : Nat} {x : Str} {f : FnW T} {e : Expr} {es : List Expr} {m : Ar T} {p pos : Pos} (F : GoodWX X W k x f) (hr : Room k X.A) (hp : Pass X B) (ha : Am X W B false (e :: es) m) (hg : Gl X x := by rfl)
    (hdb : (x == ("__debug__" : Str)) = false := by decide) (he : starEach (e :: es) X.env = (false, eval e X.env) :: starEach es X.env := by rfl) (hpl : (backTo pos (starEach es X.env)).any (·.1) = false := by rfl) :
    Pm X W B s (.Call (.Name x p) (e :: es) [] pos) (mCallW f m) := by
  obtain ⟨a, fd, ps, h1, h2, h3, h4⟩ := F.ex
  refine pm_of (pe_callS h4 hr hg h1 h2 h3 hp ha hdb he hpl) fun c σ H Γ t Q e p => tMA_bind e p fun ds t1 vs H1 e1 r1 p1 => ?_
  refine ⟨c.call σ H1 Γ t1, ds, t1, fun _ z => z, e1.call, r1.reps.weak fun a z => ⟨⟨z.1, z.2.2⟩, z.2.1⟩, ?_⟩
  cases q : f ds t1 with
  | ok d u => rw [q] at p1; exact fun v H' sw r => p1 v H' (e1.called sw) (.inl (r.weak fun a z => ⟨z.1.1, z.2, z.1.2⟩))
  | er x u =>
    rw [q] at p1
    refine fun cls dd H' sw r => p1 cls dd H' (e1.called sw) ?_
    obtain ⟨C, g1, g2, g3⟩ := r
    refine ⟨C, g1, g2, g3.imp id fun ⟨d, fv, g3, g4, g5, g6⟩ => ⟨d, fv, g3, g4, g5, g6.weak fun a z => ⟨z.1.1, z.2, z.1.2⟩⟩⟩
  | bad => rw [q] at p1; exact p1.elim
end
/-! ### defs -/
def runDefW {T : Type} (np n : Nat) (m : Bl T) : FnW T := fun ds t => if ds.length = np then (match m (slots0 n ds) t with
  | .nx _ t => .ok .non t
  | .rt d t => .ok d t
  | .er e _ t => .er e t
  | _ => .bad) else .bad
section
variable {T : Type} {P : Program} {w : World} {K : PySem.W.Frag} {mg : Str → Option Value} {base : Heap} {W : Wd T}
theorem start_sitW {c : Cf T} {t : T} {H : Hp} {N : List Str} {n : Nat} {ds : List D} {vs : List V} (hn : N.length = n) (hO : ∀ a, ¬ c.O0 a) (e : SitW K W c H t) (h : Reps K (c.out W t) H ds vs) : Sit K W c (L2.start N vs) H (slots0 n ds) t := by
  have hl := h.length
  have no : ∀ (i : Nat) (es : List D), (slots0 n ds)[i]? ≠ some (some (.own es)) := fun i es z => by
    unfold slots0 at z
    rw [List.getElem?_append] at z
    split at z
    · rw [List.getElem?_map] at z
      cases q : ds[i]? with
      | none => rw [q] at z; cases z
      | some d => rw [q] at z; cases z
    · rw [List.getElem?_replicate] at z
      split at z <;> cases z
  have nown : ∀ a, ¬ Own (L2.start N vs) (slots0 n ds) a := fun a ⟨i, es, h1, _⟩ => no i es h1
  refine { e with len := ?_, dat := fun i d hd => ?_, own := fun i es z => absurd z (no i es), dis := fun i _ di _ _ _ z => absurd z (no i di) }
  · unfold slots0 L2.start
    rw [List.length_append, List.length_append, List.length_map, List.length_map, List.length_replicate, List.length_replicate, hl, hn]
  · unfold slots0 at hd
    rw [List.getElem?_append] at hd
    split at hd
    · rename_i hi
      rw [List.getElem?_map] at hd
      cases q : ds[i]? with
      | none => rw [q] at hd; cases hd
      | some d' =>
        rw [q] at hd
        cases hd
        obtain ⟨v, h1, h2⟩ := h.get q
        refine ⟨v, ?_, h2.weak fun a z => ⟨z.1, z.2, nown a⟩⟩
        unfold L2.start
        rw [List.getElem?_append_left (by rw [List.length_map]; exact (List.getElem?_eq_some_iff.mp h1).1), List.getElem?_map, h1]
        rfl
    · rw [List.getElem?_replicate] at hd
      split at hd <;> cases hd
theorem def_okW {x qual : Str} {st : Stmt} {f : Addr} {fd : FuncData} {N ps : List Str} {k np n : Nat} {m : Bl T} (F : Fun K x qual st f fd) (S : FnScope N ps (defScope st)) (hnp : ps.length = np) (hn : N.length = n)
    (h : ∀ (cdv : Value) (A : Around) (outer : List PySem.Env) (s : Shared) (H : Hp) (E : XK), Room k (A.deeper (PyProof.Rows.envOfC qual (defScope st) s.heap.objs.size f cdv)) → Bm (cxOf (L2.CX P w) P w K mg base N qual (defScope st) f cdv A outer s H E) W (WD E) (defBody st) m) :
    FnOk P w K mg base (L2.CX P w) (k + 1) f fd ps (spW K mg W (runDefW np n m)) := by
  refine F.okX S (fun vs H Q E h => ?_) fun cdv A outer s H vs Q E hr hsp => ⟨_, h cdv A outer s H E hr, ?_⟩
  · obtain ⟨c, ds, t, _, _, h1, h2⟩ := h
    rw [h1.length, hnp]
    by_cases q : ds.length = np
    · exact q
    · unfold runDefW at h2
      rw [if_neg q] at h2
      exact h2.elim
  · obtain ⟨c, ds, t, hO, e, h1, h3⟩ := hsp
    unfold runDefW at h3
    by_cases q : ds.length = np
    · rw [if_pos q] at h3
      refine ⟨c, slots0 n ds, t, start_sitW hn hO e h1, ?_⟩
      revert h3
      show (match (match m (slots0 n ds) t with | .nx _ t => Rs.ok D.non t | .rt d t => .ok d t | .er e _ t => .er e t | _ => .bad) with
        | .ok d t' => ∀ v H', SitW K W c H' t' → Rep K (c.out W t') H' d v → Q v H'
        | .er e t' => ∀ cls dd H', SitW K W c H' t' → ErRep K mg (c.out W t') H' e cls dd → E cls dd H'
        | .bad => False) → PostS K mg W (WD E) _ (m (slots0 n ds) t) _
      cases m (slots0 n ds) t with
      | nx Γ t => exact fun h3 σ H1 e1 => h3 _ H1 e1.toSitW rep_non
      | rt d t => exact fun h3 v H1 e1 r1 => h3 v H1 e1 r1
      | er e Γ t =>
        intro h3 cls dd σ H1 e1 r1
        obtain ⟨C, g1, g2, g3⟩ := r1
        exact h3 cls dd H1 e1.toSitW ⟨C, g1, g2, g3.imp id fun ⟨d, fv, g3, g4, g5, g6⟩ => ⟨d, fv, g3, g4, g5, g6.weak fun a z => ⟨z.1, z.2.1⟩⟩⟩
      | bk Γ t => exact fun h3 => h3.elim
      | ct Γ t => exact fun h3 => h3.elim
      | bad => exact fun h3 => h3
    · rw [if_neg q] at h3; exact h3.elim
end
end DC
/-! ## while; the deck's world -/
namespace DC
open PySem L2 PyProof.Rows
section
variable {T : Type} {X : Cx} {K : PySem.W.Frag} {mg : Str → Option Value} {W : Wd T} {B : WX} {s s1 s2 s3 : Bool}
variable {c : Cf T} {σ : L2.St} {H H' : Hp} {Γ : Gm} {t t' : T}
/-! ### while c: .. -/
def whGo (c : Te T) (b : Bl T) : Nat → Bl T
  | 0, _, _ => .bad
  | n + 1, Γ, t => (c Γ t).fl Γ fun k t1 => if k = true then (match b Γ t1 with
    | .nx Γ2 t2 => whGo c b n Γ2 t2
    | .ct Γ2 t2 => whGo c b n Γ2 t2
    | .bk Γ2 t2 => .nx Γ2 t2
    | r => r) else .nx Γ t1
def sWhile (m : Gm → T → Nat) (c : Te T) (b : Bl T) : Bl T := fun Γ t => whGo c b (m Γ t) Γ t
theorem sm_while (m : Gm → T → Nat) {x : Expr} {body : List Stmt} {mc : Te T} {mb : Bl T} {pos : Pos} (hp : PassesOwn (model X.prog X.w) X.A X.env X.xe) (hc : Tm X W B x mc) (hb : Bm X W B body mb) : Sm X W B (.While x body [] pos) (sWhile m mc mb) :=
  sm_of (ps_while hp hc hb) fun c σ H Γ t D e p => by
    refine ⟨fun n σ2 H2 => ∃ Γ2 t2, Sit X.K W (c.rb σ H Γ t) σ2 H2 Γ2 t2 ∧ PostS X.K X.mg W B c (whGo mc mb n Γ2 t2) D, ⟨m Γ t, Γ, t, e.rb, p⟩, ?_⟩
    rintro n σ2 H2 ⟨Γ2, t2, e2, p2⟩
    cases n with
    | zero => exact p2.elim
    | succ n =>
      refine ⟨c.rb σ H Γ t, Γ2, t2, e2, ?_⟩
      unfold whGo at p2
      revert p2
      cases mc Γ2 t2 with
      | bad => exact fun p2 => p2
      | er x t3 => exact fun p2 cls dd H3 e3 r3 => p2 cls dd σ2 H3 (e.un e3) r3
      | ok k t3 =>
        cases k with
        | false => exact fun p2 H3 e3 => p2 σ2 H3 (e.un e3)
        | true =>
          intro p2 H3 e3
          refine ite_tt ⟨fun σ4 H4 => ∃ Γ4 t4, Sit X.K W (c.rb σ H Γ t) σ4 H4 Γ4 t4 ∧ PostS X.K X.mg W B c (whGo mc mb n Γ4 t4) D, fun σ' H' z => ⟨n, Nat.lt_succ_self n, z⟩, ?_⟩
          refine ⟨c.rb σ H Γ t, Γ2, t3, e3, ?_⟩
          revert p2
          show PostS X.K X.mg W B c (match mb Γ2 t3 with
            | .nx Γ2 t2 => whGo mc mb n Γ2 t2
            | .ct Γ2 t2 => whGo mc mb n Γ2 t2
            | .bk Γ2 t2 => .nx Γ2 t2
            | r => r) D → _
          cases mb Γ2 t3 with
          | nx Γ4 t4 => exact fun p2 σ4 H4 e5 => ⟨Γ4, t4, e5, p2⟩
          | ct Γ4 t4 => exact fun p2 σ4 H4 e5 => ⟨Γ4, t4, e5, p2⟩
          | bk Γ4 t4 => exact fun p2 σ4 H4 e5 => p2 σ4 H4 (e.un e5)
          | rt d t4 => exact fun p2 v H4 e5 r5 => p2 v H4 (SitW.un e e5) r5
          | er x Γ4 t4 => exact fun p2 cls dd σ4 H4 e5 r5 => p2 cls dd σ4 H4 (e.un e5) r5
          | bad => exact fun p2 => p2
/-! ### a list of the world is changed -/
theorem Sit.mutW (e : Sit K W c σ H Γ t) {p : Addr} {us vs : List V} (hf : W.foot t p) (hp : H p = some (.lst us)) (hr : W.rep K t' (upd H p (.lst vs))) (hm : ∀ a, W.foot t' a → W.foot t a) : Sit K W c σ (upd H p (.lst vs)) Γ t' :=
  have st : ∀ a o, H a = some o → (Imm o = true ∨ a ≠ p) → upd H p (.lst vs) a = some o := fun a o q hs => by
    have ne : a ≠ p := by
      rcases hs with hs | hs
      · rintro rfl
        rw [hp] at q
        cases q
        cases hs
      · exact hs
    rw [upd_ne ne]; exact q
  have kp : Kp (c.okA W σ Γ t) H (upd H p (.lst vs)) := fun a o q hs => st a o q (hs.imp id fun hs z => hs.2.1 (z ▸ hf))
  have up : ∀ b, H b ≠ none → c.okA W σ Γ t b → c.okA W σ Γ t' b := fun b _ z => ⟨z.1, fun y => z.2.1 (hm b y), z.2.2⟩
  { wr := hr
    keep := fun a o q hs => st a o (e.keep a o q hs) (hs.imp id fun hs z => by
      subst z
      rcases e.ft a hf with w | w
      · exact hs.1 w
      · rw [q] at w; cases w)
    dom := fun a q => e.dom a (by
      by_cases z : a = p
      · subst z; rw [upd_same] at q; cases q
      · rw [upd_ne z] at q; exact q)
    okf := e.okf
    ft := fun a z => e.ft a (hm a z)
    len := e.len
    dat := fun i d h => by
      obtain ⟨v, h1, h2⟩ := e.dat i d h
      exact ⟨v, h1, h2.kp kp up⟩
    own := fun i ds h => by
      obtain ⟨q, ws, h1, h2, h3, h4, h5, h6⟩ := e.own i ds h
      exact ⟨q, ws, h1, h2, h3, fun z => h4 (hm _ z), st q _ h5 (.inr fun z => h4 (z ▸ hf)), h6.kp kp up⟩
    dis := e.dis }
end
/-! ### the deck -/
structure Dk where
  gr : List Int
  sm : List Int
  n : Int
structure DkA where
  p : Addr
  p0 : Addr
  p1 : Addr
def WDk (a : DkA) : Wd Dk where
  rep := fun _ t H => (a.p ≠ a.p0 ∧ a.p ≠ a.p1 ∧ a.p0 ≠ a.p1) ∧ H a.p = some (.lst [.ref a.p0, .ref a.p1, .int t.n]) ∧ H a.p0 = some (.lst (t.gr.map V.int)) ∧ H a.p1 = some (.lst (t.sm.map V.int))
  foot := fun _ b => b = a.p ∨ b = a.p0 ∨ b = a.p1
  live := fun h f => by
    obtain ⟨_, h1, h2, h3⟩ := h
    rcases f with rfl | rfl | rfl
    · rw [h1]; exact fun z => nomatch z
    · rw [h2]; exact fun z => nomatch z
    · rw [h3]; exact fun z => nomatch z
  stay := fun h k => ⟨h.1, k _ _ h.2.1 (.inr (.inl rfl)), k _ _ h.2.2.1 (.inr (.inr (.inl rfl))), k _ _ h.2.2.2 (.inr (.inr (.inr rfl)))⟩
section
variable {X : Cx} {K : PySem.W.Frag} {mg : Str → Option Value} {a : DkA} {B : WX} {s s1 s2 s3 : Bool}
variable {c : Cf Dk} {σ : L2.St} {H H' : Hp} {Γ : Gm} {t t' : Dk}
theorem Sit.dkN (e : Sit K (WDk a) c σ H Γ t) (n : Int) : Sit K (WDk a) c σ (upd H a.p (.lst [.ref a.p0, .ref a.p1, .int n])) Γ { t with n := n } := by
  obtain ⟨⟨n1, n2, n3⟩, h1, h2, h3⟩ := e.wr
  exact e.mutW (.inl rfl) h1 ⟨⟨n1, n2, n3⟩, upd_same, by rw [upd_ne (Ne.symm n1)]; exact h2, by rw [upd_ne (Ne.symm n2)]; exact h3⟩ fun _ z => z
theorem Sit.dkG (e : Sit K (WDk a) c σ H Γ t) (gs : List Int) : Sit K (WDk a) c σ (upd H a.p0 (.lst (gs.map V.int))) Γ { t with gr := gs } := by
  obtain ⟨⟨n1, n2, n3⟩, h1, h2, h3⟩ := e.wr
  exact e.mutW (.inr (.inl rfl)) h2 ⟨⟨n1, n2, n3⟩, by rw [upd_ne n1]; exact h1, upd_same, by rw [upd_ne (Ne.symm n3)]; exact h3⟩ fun _ z => z
/-- slot i holds the deck -/
def isDk (a : DkA) (Γ : Gm) (i : Nat) : Bool := match Γ[i]? with
  | some (some (.dat (.adr b))) => decide (b = a.p)
  | _ => false
theorem Sit.isDk (e : Sit K (WDk a) c σ H Γ t) {i : Nat} (h : DC.isDk a Γ i = true) : σ[i]? = some (some (.ref a.p)) := by
  unfold DC.isDk at h
  split at h
  · rename_i b hb
    have hb' := of_decide_eq_true h
    subst hb'
    obtain ⟨v, h1, h2⟩ := e.dat i _ hb
    unfold Rep at h2
    subst h2
    exact h1
  · cases h
def mDk (a : DkA) (i : Nat) (f : Dk → Option D) : Ex Dk := fun Γ t => if isDk a Γ i = true then ofO (f t) t else .bad
theorem mDk_post {i : Nat} {f : Dk → Option D} {Q : VK} (p : Post K mg (WDk a) B c σ Γ s (mDk a i f Γ t) Q) : isDk a Γ i = true ∧ ∃ d, f t = some d ∧ ∀ v H, Sit K (WDk a) c σ H Γ t → RepT s K (c.okA (WDk a) σ Γ t) σ Γ H d v → Q v H := by
  unfold mDk at p
  by_cases h : isDk a Γ i = true
  · rw [if_pos h] at p
    cases q : f t with
    | none => rw [q] at p; exact p.elim
    | some d => rw [q] at p; exact ⟨h, d, rfl, p⟩
  · rw [if_neg h] at p; exact p.elim
/-- deck[2] -/
def dkN (t : Dk) : Option D := some (.int t.n)
theorem pm_dkN (i : Nat) {x : Str} {j : Nat} {p1 p2 p3 : Pos} (hN : X.N[i]? = some x := by rfl) (hv : Vis X.env.scope x := by first | exact Or.inl rfl | exact Or.inr (Or.inl rfl) | exact Or.inr (Or.inr rfl)) (hd : (x == ("__debug__" : Str)) = false := by decide)
    (hcd : (x == ("__classdict__" : Str)) = false := by decide) : Pm X (WDk a) B s (.Subscript (.Name x p1) (.Constant (.int 2) j p2) p3) (mDk a i dkN) :=
  pm_of (pe_ix ix_list (pv i hN hv hd hcd) pe_int (fun _ _ => rfl)) fun c σ H Γ t Q e p => by
    obtain ⟨h, d, h1, k⟩ := mDk_post p
    cases h1
    obtain ⟨_, w1, w2, w3⟩ := e.wr
    exact ⟨_, e.isDk h, a.p, _, 2, .int t.n, rfl, rfl, SqL.of w1, rfl, k _ H e (.inl rep_int)⟩
/-- deck[0][0] -/
def dkG (t : Dk) : Option D := (t.gr.head?).map D.int
theorem pm_dkG (i : Nat) {x : Str} {j j' : Nat} {p1 p2 p3 p4 p5 : Pos} (hN : X.N[i]? = some x := by rfl) (hv : Vis X.env.scope x := by first | exact Or.inl rfl | exact Or.inr (Or.inl rfl) | exact Or.inr (Or.inr rfl)) (hd : (x == ("__debug__" : Str)) = false := by decide)
    (hcd : (x == ("__classdict__" : Str)) = false := by decide) : Pm X (WDk a) B s (.Subscript (.Subscript (.Name x p1) (.Constant (.int 0) j p2) p3) (.Constant (.int 0) j' p4) p5) (mDk a i dkG) :=
  pm_of (pe_ix ix_list (pe_ix ix_list (pv i hN hv hd hcd) pe_int (fun _ _ => rfl)) pe_int (fun _ _ => rfl)) fun c σ H Γ t Q e p => by
    obtain ⟨h, d, h1, k⟩ := mDk_post p
    obtain ⟨_, w1, w2, w3⟩ := e.wr
    refine ⟨_, e.isDk h, a.p, _, 0, .ref a.p0, rfl, rfl, SqL.of w1, rfl, ?_⟩
    unfold dkG at h1
    cases q : t.gr with
    | nil => rw [q] at h1; cases h1
    | cons g gs =>
      rw [q] at h1 w2
      cases h1
      refine ⟨a.p0, _, 0, .int g, rfl, rfl, SqL.of w2, ?_, k _ H e (.inl rep_int)⟩
      unfold L2.atI L2.ixN
      simp
/-- len(deck[1]) -/
def dkL (t : Dk) : Option D := some (.int t.sm.length)
theorem pm_dkL (i : Nat) {x : Str} {j : Nat} {p0 p1 p2 p3 pos : Pos} (hm : X.mg "len" = none) (hN : X.N[i]? = some x := by rfl) (hv : Vis X.env.scope x := by first | exact Or.inl rfl | exact Or.inr (Or.inl rfl) | exact Or.inr (Or.inr rfl)) (hd : (x == ("__debug__" : Str)) = false := by decide)
    (hcd : (x == ("__classdict__" : Str)) = false := by decide) (hg : Gl X "len" := by rfl)
    (he : starEach [.Subscript (.Name x p1) (.Constant (.int 1) j p2) p3] X.env = (false, eval (.Subscript (.Name x p1) (.Constant (.int 1) j p2) p3) X.env) :: starEach [] X.env := by rfl) (hpl : (backTo pos (starEach [] X.env)).any (·.1) = false := by rfl) :
    Pm X (WDk a) B s (.Call (.Name "len" p0) [.Subscript (.Name x p1) (.Constant (.int 1) j p2) p3] [] pos) (mDk a i dkL) :=
  pm_of (pe_callB call_len hg hm (by decide +kernel) (pa_cons (pe_ix ix_list (pv i hN hv hd hcd) pe_int (fun _ _ => rfl)) pa_nil he) (by decide) (by decide) he hpl) fun c σ H Γ t Q e p => by
    obtain ⟨h, d, h1, k⟩ := mDk_post p
    cases h1
    obtain ⟨_, w1, w2, w3⟩ := e.wr
    exact ⟨_, e.isDk h, a.p, _, 1, .ref a.p1, rfl, rfl, SqL.of w1, rfl, .ref a.p1, t.sm.length, rfl, .inl ⟨_, SqL.of w3, by rw [List.length_map]⟩, k _ H e (.inl rep_int)⟩
/-- deck[1][e] -/
def mDkS (a : DkA) (i : Nat) (m : Ex Dk) : Ex Dk := fun Γ t => if isDk a Γ i = true then (m Γ t).bind fun x t1 => (match x with
  | .int k => ofO ((L2.atI t1.sm k).map D.int) t1
  | _ => .bad) else .bad
theorem atI_map {α β : Type} (f : α → β) (xs : List α) (i : Int) : L2.atI (xs.map f) i = (L2.atI xs i).map f := by
  unfold L2.atI
  rw [List.length_map]
  cases L2.ixN xs.length i with
  | none => rfl
  | some j => simp
theorem pm_dkS (i : Nat) {x : Str} {j : Nat} {e : Expr} {m : Ex Dk} {p1 p2 p3 p4 : Pos} (h : Pm X (WDk a) B s1 e m) (hs : PlainIx e) (hN : X.N[i]? = some x := by rfl) (hv : Vis X.env.scope x := by first | exact Or.inl rfl | exact Or.inr (Or.inl rfl) | exact Or.inr (Or.inr rfl)) (hd : (x == ("__debug__" : Str)) = false := by decide)
    (hcd : (x == ("__classdict__" : Str)) = false := by decide) : Pm X (WDk a) B s (.Subscript (.Subscript (.Name x p1) (.Constant (.int 1) j p2) p3) e p4) (mDkS a i m) :=
  pm_of (pe_ix ix_list (pe_ix ix_list (pv i hN hv hd hcd) pe_int (fun _ _ => rfl)) h hs) fun c σ H Γ t Q e p => by
    unfold mDkS at p
    by_cases h : isDk a Γ i = true
    · rw [if_pos h] at p
      obtain ⟨_, w1, w2, w3⟩ := e.wr
      refine ⟨_, e.isDk h, a.p, _, 1, .ref a.p1, rfl, rfl, SqL.of w1, rfl, tM_bind e p fun d t1 v H1 e1 r1 p1 => ?_⟩
      obtain ⟨_, u1, u2, u3⟩ := e1.wr
      cases d with
      | int k =>
        cases q : L2.atI t1.sm k with
        | none => simp only [q] at p1; exact p1.elim
        | some z =>
          simp only [q] at p1
          exact ⟨a.p1, _, k, .int z, rfl, r1.int, SqL.of u3, by rw [atI_map, q]; rfl, p1 _ H1 e1 (.inl rep_int)⟩
      | _ => exact p1.elim
    · rw [if_neg h] at p; exact p.elim
/-- deck[0] != [] -/
def mDkE (a : DkA) (i : Nat) : Te Dk := fun Γ t => if isDk a Γ i = true ∧ t.gr.length ≤ 1000000 then .ok (!t.gr.isEmpty) t else .bad
theorem dp_ints : ∀ gs : List Int, DpAll K H (gs.map V.int) (gs.map PyData.int)
  | [] => .nil
  | g :: gs => .cons (.int g) (dp_ints gs)
theorem pys_ints : ∀ gs : List Int, pys (gs.map D.int) = gs.map PyData.int
  | [] => rfl
  | g :: gs => by
    show pys (D.int g :: gs.map D.int) = _
    unfold pys
    rw [pys_ints gs]; rfl
theorem shs_ints (n : Nat) : ∀ gs : List Int, shs (gs.map D.int) n = true
  | [] => rfl
  | g :: gs => by
    show shs (D.int g :: gs.map D.int) n = true
    unfold shs
    rw [shs_ints n gs]; rfl
theorem shd (gs : List Int) : SeqAt.shaped (.list (gs.map PyData.int)) = true := by
  have h : (D.lst (gs.map D.int)).sh 1 = true := by unfold D.sh; exact shs_ints 0 gs
  have := shaped_of h (by decide)
  unfold D.py at this
  rw [pys_ints] at this
  exact this
theorem eqe (gs : List Int) : PyData.eqv (.list (gs.map PyData.int)) (.list []) = gs.isEmpty := by
  have h : (D.lst (gs.map D.int)).sh 1 = true := by unfold D.sh; exact shs_ints 0 gs
  have h0 : (D.lst []).sh 1 = true := rfl
  have := eqv_py (.lst (gs.map D.int)) (.lst []) h h0
  unfold D.py at this
  rw [pys_ints] at this
  rw [show pys [] = [] from rfl] at this
  rw [this]
  cases gs <;> rfl
theorem tm_dkE (hu : X.A.units + 64 < cLine) (i : Nat) {x : Str} {j : Nat} {p1 p2 p3 p4 p5 : Pos} (hN : X.N[i]? = some x := by rfl) (hv : Vis X.env.scope x := by first | exact Or.inl rfl | exact Or.inr (Or.inl rfl) | exact Or.inr (Or.inr rfl)) (hd : (x == ("__debug__" : Str)) = false := by decide)
    (hcd : (x == ("__classdict__" : Str)) = false := by decide) (hm : behindInMarks .NotEq (.List [] p4) = false := nomark _) : Tm X (WDk a) B (.Compare (.Subscript (.Name x p1) (.Constant (.int 0) j p2) p3) [.NotEq] [.List [] p4] p5) (mDkE a i) :=
  tm_of (pt_cmpR (op_neD hu) (pe_ix ix_list (pv i hN hv hd hcd) pe_int (fun _ _ => rfl)) (pe_lst pa_nil) hm) fun c σ H Γ t Q e p => by
    unfold mDkE at p
    by_cases h : isDk a Γ i = true ∧ t.gr.length ≤ 1000000
    · simp only [h, and_self, if_true] at p
      obtain ⟨_, w1, w2, w3⟩ := e.wr
      refine ⟨_, e.isDk h.1, a.p, _, 0, .ref a.p0, rfl, rfl, SqL.of w1, rfl, ?_⟩
      refine ⟨by decide, fun l hl => ?_⟩
      have ne : a.p0 ≠ l := fun z => by rw [z, hl] at w2; cases w2
      refine ⟨.list (t.gr.map PyData.int), .list [], .lst (SqL.of (by rw [upd_ne ne]; exact w2)) (dp_ints _), .lst (SqL.of upd_same) .nil, ?_, by decide, !t.gr.isEmpty, ?_, p _ (e.new hl)⟩
      · exact shd t.gr
      · rw [eqe t.gr]
    · rw [if_neg h] at p; exact p.elim
/-- deck[2] = e -/
def sDkN (a : DkA) (i : Nat) (m : Ex Dk) : Bl Dk := fun Γ t => (m Γ t).fl Γ fun d t1 => match d with
  | .int k => if isDk a Γ i = true then .nx Γ { t1 with n := k } else .bad
  | _ => .bad
theorem sm_dkN (i : Nat) {x : Str} {j : Nat} {e : Expr} {m : Ex Dk} {p1 p2 p3 p4 : Pos} (h : Pm X (WDk a) B s1 e m) (hN : X.N[i]? = some x := by rfl) (hv : Vis X.env.scope x := by first | exact Or.inl rfl | exact Or.inr (Or.inl rfl) | exact Or.inr (Or.inr rfl)) (hd : (x == ("__debug__" : Str)) = false := by decide)
    (hcd : (x == ("__classdict__" : Str)) = false := by decide)
    (hs : swapsWithSole [.Subscript (.Name x p1) (.Constant (.int 2) j p2) p3] e p4.line X.env = pure false := by rfl) (hw : swappedStores [.Subscript (.Name x p1) (.Constant (.int 2) j p2) p3] e X.env = pure none := by rfl)
    (h1 : (assignEach [.Subscript (.Name x p1) (.Constant (.int 2) j p2) p3] X.env).map (·.2) = [assign (.Subscript (.Name x p1) (.Constant (.int 2) j p2) p3) X.env] := by rfl) : Sm X (WDk a) B (.Assign [.Subscript (.Name x p1) (.Constant (.int 2) j p2) p3] e p4) (sDkN a i m) :=
  sm_of (ps_asg h (pg_sub (pv i hN hv hd hcd) pe_int set_list) hs hw h1) fun c σ H Γ t D e p => tM_bindS e p fun d t1 v H1 e1 r1 p1 => by
    cases d with
    | int k =>
      by_cases h : isDk a Γ i = true
      · simp only [h, if_true] at p1
        obtain ⟨_, w1, w2, w3⟩ := e1.wr
        have := r1.int
        subst this
        exact ⟨_, e1.isDk h, a.p, _, 2, 2, rfl, rfl, w1, rfl, p1 σ _ (e1.dkN k)⟩
      · simp only [h] at p1; exact p1.elim
    | _ => exact p1.elim
/-- deck[0][0] = e -/
def sDkG (a : DkA) (i : Nat) (m : Ex Dk) : Bl Dk := fun Γ t => (m Γ t).fl Γ fun d t1 => match d with
  | .int k => (match t1.gr with
    | _ :: gs => if isDk a Γ i = true then .nx Γ { t1 with gr := k :: gs } else .bad
    | [] => .bad)
  | _ => .bad
theorem sm_dkG (i : Nat) {x : Str} {j j' : Nat} {e : Expr} {m : Ex Dk} {p1 p2 p3 p4 p5 p6 : Pos} (h : Pm X (WDk a) B s1 e m) (hN : X.N[i]? = some x := by rfl) (hv : Vis X.env.scope x := by first | exact Or.inl rfl | exact Or.inr (Or.inl rfl) | exact Or.inr (Or.inr rfl)) (hd : (x == ("__debug__" : Str)) = false := by decide)
    (hcd : (x == ("__classdict__" : Str)) = false := by decide)
    (hs : swapsWithSole [.Subscript (.Subscript (.Name x p1) (.Constant (.int 0) j p2) p3) (.Constant (.int 0) j' p4) p5] e p6.line X.env = pure false := by rfl) (hw : swappedStores [.Subscript (.Subscript (.Name x p1) (.Constant (.int 0) j p2) p3) (.Constant (.int 0) j' p4) p5] e X.env = pure none := by rfl)
    (h1 : (assignEach [.Subscript (.Subscript (.Name x p1) (.Constant (.int 0) j p2) p3) (.Constant (.int 0) j' p4) p5] X.env).map (·.2) = [assign (.Subscript (.Subscript (.Name x p1) (.Constant (.int 0) j p2) p3) (.Constant (.int 0) j' p4) p5) X.env] := by rfl) :
    Sm X (WDk a) B (.Assign [.Subscript (.Subscript (.Name x p1) (.Constant (.int 0) j p2) p3) (.Constant (.int 0) j' p4) p5] e p6) (sDkG a i m) :=
  sm_of (ps_asg h (pg_sub (pe_ix ix_list (pv i hN hv hd hcd) pe_int (fun _ _ => rfl)) pe_int set_list) hs hw h1) fun c σ H Γ t D e p => tM_bindS e p fun d t1 v H1 e1 r1 p1 => by
    cases d with
    | int k =>
      obtain ⟨_, w1, w2, w3⟩ := e1.wr
      have := r1.int
      subst this
      cases q : t1.gr with
      | nil => simp only [q] at p1; exact p1.elim
      | cons g gs =>
        by_cases h : isDk a Γ i = true
        · simp only [q, h, if_true] at p1
          rw [q] at w2
          refine ⟨_, e1.isDk h, a.p, _, 0, .ref a.p0, rfl, rfl, SqL.of w1, rfl, a.p0, _, 0, 0, rfl, rfl, w2, by unfold ixN; simp, p1 σ _ (e1.dkG (k :: gs))⟩
        · simp only [q, h] at p1; exact p1.elim
    | _ => exact p1.elim
/-- deck[0].pop(0) -/
def sDkP (a : DkA) (i : Nat) : Bl Dk := fun Γ t => match t.gr with
  | _ :: gs => if isDk a Γ i = true then .nx Γ { t with gr := gs } else .bad
  | [] => .bad
theorem sm_dkP (i : Nat) {x : Str} {j j' : Nat} {p1 p2 p3 p4 p5 p6 p7 : Pos} (hN : X.N[i]? = some x := by rfl) (hv : Vis X.env.scope x := by first | exact Or.inl rfl | exact Or.inr (Or.inl rfl) | exact Or.inr (Or.inr rfl)) (hd : (x == ("__debug__" : Str)) = false := by decide)
    (hcd : (x == ("__classdict__" : Str)) = false := by decide)
    (hbase : attributeBase (.Subscript (.Name x p1) (.Constant (.int 0) j p2) p3) "pop" X.env (eval (.Subscript (.Name x p1) (.Constant (.int 0) j p2) p3) X.env) = eval (.Subscript (.Name x p1) (.Constant (.int 0) j p2) p3) X.env := by rfl)
    (hfew : ((backTo p6 (starEach [.Constant (.int 0) j' p5] X.env)).all (fun x => !x.1) && (backToKw p6 (keywordEach [] X.env)).all (fun x => x.1.isSome) && decide ([Expr.Constant (.int 0) j' p5].length + ([] : List Keyword).length + (if ([] : List Keyword).isEmpty then 0 else 1) < 30)) = true := by rfl)
    (hline : (p4.endLine == p6.line) = true := by rfl) (hs : starEach [.Constant (.int 0) j' p5] X.env = (false, eval (.Constant (.int 0) j' p5) X.env) :: starEach [] X.env := by rfl) (hplain : (backTo p6 (starEach [] X.env)).any (·.1) = false := by rfl)
    (hsw : swapsWith (.Call (.Attribute (.Subscript (.Name x p1) (.Constant (.int 0) j p2) p3) "pop" p4) [.Constant (.int 0) j' p5] [] p6) none p7.line X.env = pure false := by rfl) :
    Sm X (WDk a) B (.Expr (.Call (.Attribute (.Subscript (.Name x p1) (.Constant (.int 0) j p2) p3) "pop" p4) [.Constant (.int 0) j' p5] [] p6) p7) (sDkP a i) :=
  sm_of (ps_expr (pe_bm PySem.F.plainAttrs_list PySem.F.slot_list_pop PySem.F.type_list_pop mt_popAt (pe_ix ix_list (pv i hN hv hd hcd) pe_int (fun _ _ => rfl)) (pa_cons pe_int pa_nil hs) hbase hfew hline hs hplain) hsw) fun c σ H Γ t D e p => by
    unfold sDkP at p
    obtain ⟨_, w1, w2, w3⟩ := e.wr
    cases q : t.gr with
    | nil => rw [q] at p; exact p.elim
    | cons g gs =>
      rw [q] at p
      by_cases h : isDk a Γ i = true
      · simp only [h, if_true] at p
        rw [q] at w2
        refine ⟨_, e.isDk h, a.p, _, 0, .ref a.p0, rfl, rfl, SqL.of w1, rfl, .inl ⟨rfl, _, SqL.of w2⟩, a.p0, _, 0, 0, .int g, rfl, rfl, w2, by decide, by decide, ?_, rfl, p σ _ (e.dkG gs)⟩
        unfold seqIndex?
        simp
      · simp only [h] at p; exact p.elim
end
end DC
/-! ## star targets -/
namespace DC
open PySem L2 PyProof.Rows
theorem star_items {prog : Program} {w : World} {A : Around} {E : Value → Shared → Prop} {s : Shared} {a : Addr} {its : Array Value} {n i : Nat} {Q : List Value → Shared → Prop} (hl : s.heap.IsList a its) (hh : A.handled = none) (hi : i < n) (hn : n ≤ its.size + 1) (hz : its.size ≤ sizeLine)
    (k : ∀ (h' : Heap) (tk : Nat), (∀ b o, s.heap.get? b = some o → h'.get? b = some o) → Q (its.toList.take i ++ [.ref h'.objs.size] ++ (its.toList.drop i).drop (its.size + 1 - n)) { s with heap := h'.push { cls := .type "list", data := .seq ((its.toList.drop i).take (its.size + 1 - n)).toArray }, toks := tk }) :
    wpAny (model prog w) A (unpackItems (.ref a) n (some i)) Q E s := by
  have hn0 : its.toList.length = its.size := by simp
  have ne : a ≠ s.heap.objs.size := by
    obtain ⟨_, q, _⟩ := hl
    exact Nat.ne_of_lt (Heap.lt_size q)
  have lt : a < s.heap.objs.size := by
    obtain ⟨_, q, _⟩ := hl
    exact Heap.lt_size q
  unfold unpackItems notIterableAtAll
  refine wpAny_bind (wpAny_bind (wpAny_specialOf hl.typeIs slot_list_iter.lookup (wpAny_pure ?_)))
  simp only [Bool.false_eq_true, if_false]
  refine wpAny_bind (wpAny_holding (wpAny_pyIter_list hl ?_))
  refine wpAny_bind (wpAny_holding (PySem.W.kun_draw ne i 0 _ _ ⟨_, Heap.get?_push_size _ rfl, rfl, rfl⟩ (hl.push _) (by omega) fun h1 it1 sb => ?_))
  rw [Nat.zero_add] at it1
  have l1 : h1.IsList a its := (hl.push _).extBut sb.extBut ne
  have g1 : s.heap.objs.size < h1.objs.size := by
    obtain ⟨_, q, _⟩ := it1
    exact Heap.lt_size q
  have g2 : a < h1.objs.size := by
    obtain ⟨_, q, _⟩ := l1
    exact Heap.lt_size q
  have e1 : (List.take i (List.drop 0 its.toList)).length = i := by rw [List.drop_zero, List.length_take, hn0]; omega
  rw [if_neg (by rw [e1]; omega)]
  have e2 : (its.toList.drop i).length = its.size - i := by rw [List.length_drop, hn0]
  refine wpAny_bind (wpAny_holding (PySem.W.kun_collect (s := { s with heap := h1 }) (T := "list_iterator") (.inr (.inr (.inl rfl))) (Walks.list (A := A.in1) hh s.heap.objs.size a ne its) (fun j u st => st.1.typeIs) (k := i) (by omega) ⟨it1, l1⟩ g1 g2 (fun h2 tk hk => ?_) hz))
  dsimp only
  rw [if_neg (by rw [e2]; omega)]
  have e3 : (its.toList.drop i).length - (n - 1 - i) = its.size + 1 - n := by rw [e2]; omega
  rw [e3]
  refine wpAny_bind (wpAny_newList (s := { s with heap := h2, toks := tk }) (wpAny_pure ?_) (by rw [List.length_take, e2]; omega))
  have := k h2 tk fun b o q => hk b o (fun z => by subst z; exact absurd (Heap.lt_size q) (Nat.lt_irrefl _)) (sb.extBut b o (fun z => by subst z; exact absurd (Heap.lt_size q) (Nat.lt_irrefl _)) (Heap.get?_push_of_some _ q))
  rw [List.drop_zero]
  exact this
section
variable {X : Cx}
def gStr (K : PySem.W.Frag) (n i : Nat) (t : TGs) : TG := fun v σ H Q => ∃ a xs, v = .ref a ∧ SqL K H a xs ∧ n ≤ xs.length + 1 ∧ ∀ p, H p = none → t (xs.take i ++ [.ref p] ++ (xs.drop i).drop (xs.length + 1 - n)) σ (upd H p (.lst ((xs.drop i).take (xs.length + 1 - n)))) Q
theorem vals_app : ∀ {xs ys : List V} {us ws : List Value}, Vals xs us → Vals ys ws → Vals (xs ++ ys) (us ++ ws)
  | _, _, _, _, .nil, h => h
  | _, _, _, _, .cons r t, h => .cons r (vals_app t h)
theorem vals_take : ∀ {xs : List V} {us : List Value} (n : Nat), Vals xs us → Vals (xs.take n) (us.take n)
  | _, _, 0, _ => .nil
  | _, _, _ + 1, .nil => .nil
  | _, _, n + 1, .cons r t => .cons r (vals_take n t)
theorem vals_drop : ∀ {xs : List V} {us : List Value} (n : Nat), Vals xs us → Vals (xs.drop n) (us.drop n)
  | _, _, 0, h => h
  | _, _, _ + 1, .nil => .nil
  | _, _, n + 1, .cons _ t => vals_drop n t
theorem pg_star {es : List Expr} {k : Nat} {t : TGs} {n i : Nat} {pos : Pos} (hc : X.calm = true) (h : PGs X es t)
    (hn : (assignEach es X.env).length = n := by rfl) (hst : (assignEach es X.env).findIdx? (·.1) = some i := by rfl) (hi : i < n := by decide) : PG X (.Tuple es k pos) (gStr X.K n i t) := by
  refine ⟨fun pins s σ H v u Q I r hw => ?_⟩
  obtain ⟨a, xs, e1, hq, hl, hw⟩ := hw
  subst e1
  cases r
  obtain ⟨its, rv, pl, hz⟩ := I.list hq
  have hlen := rv.length
  rw [PyProof.Rows.assign_Tuple]
  refine wpAny_bind (wpAny_standAt ?_)
  unfold unpack
  rw [hn, hst]
  have hsz : its.toArray.size = xs.length := by rw [List.size_toArray]; omega
  refine wpAny_bind (wpAny_holding (star_items pl.isList (I.ok.hd hc) hi (by rw [hsz]; exact hl) (by rw [hsz]; exact hz) fun h' tk hk => ?_))
  have I1 : Inv X pins σ H { s with heap := h', toks := tk } := I.kept hk
  have hp := I1.hok.fresh (Nat.le_refl _)
  have vm : Vals ((xs.drop i).take (xs.length + 1 - n)) ((its.drop i).take (xs.length + 1 - n)) := vals_take _ (vals_drop _ rv)
  have I2 : Inv X pins σ (upd H h'.objs.size (.lst ((xs.drop i).take (xs.length + 1 - n)))) { s with heap := h'.push { cls := .type "list", data := .seq ((its.drop i).take (xs.length + 1 - n)).toArray }, toks := tk } :=
    I1.laid (fun b u q => Heap.get?_push_of_some _ q) (Nat.le_refl _) ⟨by rw [List.length_take, List.length_drop]; omega, _, _, vm, Heap.get?_push_size _ rfl⟩
  rw [hsz]
  exact h.run pins _ σ _ _ _ Q I2 (vals_app (vals_app (vals_take i rv) (.cons (show L2.RelV (.ref h'.objs.size) (.ref h'.objs.size) from rfl) .nil)) (vals_drop _ (vals_drop _ rv))) (hw _ hp)
end
section
variable {T : Type} {X : Cx} {K : PySem.W.Frag} {mg : Str → Option Value} {W : Wd T} {B : WX} {s s1 s2 s3 : Bool}
variable {c : Cf T} {σ σ' : L2.St} {H H' : Hp} {Γ Γ' : Gm} {t t' : T}
theorem gts_star {ks : List Nat} {e : Expr} {p : Pos} {es : List Expr} {g : Tgs} (h : Gts X W ks (e :: es) g) (hs : (assignEach (.Starred e p :: es) X.env).map (·.2) = (assignEach (e :: es) X.env).map (·.2) := by rfl) : Gts X W ks (.Starred e p :: es) g :=
  ⟨⟨fun pins s σ H vs us Q I r q => by rw [hs]; exact h.pg.run pins s σ H vs us Q I r q⟩, h.but⟩
def sStar (n i : Nat) (m : Ex T) (r : Tgs) : Bl T := fun Γ t => (m Γ t).fl Γ fun d t1 => match d with
  | .lst ds => if n ≤ ds.length + 1 then (match r (ds.take i ++ [.lst ((ds.drop i).take (ds.length + 1 - n))] ++ (ds.drop i).drop (ds.length + 1 - n)) Γ with
    | some Γ1 => .nx Γ1 t1
    | none => .bad) else .bad
  | _ => .bad
theorem Reps.sameH {ok : Addr → Prop} {ds : List D} {vs : List V} (k : Same H H') (h : Reps K ok H ds vs) : Reps K ok H' ds vs := h.kp (fun a o q _ => k a o q) fun _ _ z => z
theorem sm_star {a : Expr} {es : List Expr} {m : Ex T} {r : Tgs} {ks : List Nat} {k n i : Nat} {p1 pos : Pos} (hc : X.calm = true) (h : Pm X W B false a m) (hr : Gts X W ks es r)
    (hn : (assignEach es X.env).length = n := by rfl) (hst : (assignEach es X.env).findIdx? (·.1) = some i := by rfl) (hi : i < n := by decide)
    (hs : swapsWithSole [.Tuple es k p1] a pos.line X.env = pure false := by rfl) (hw : swappedStores [.Tuple es k p1] a X.env = pure none := by rfl)
    (h1 : (assignEach [.Tuple es k p1] X.env).map (·.2) = [assign (.Tuple es k p1) X.env] := by rfl) : Sm X W B (.Assign [.Tuple es k p1] a pos) (sStar n i m r) :=
  sm_of (ps_asg h (pg_star hc hr.pg hn hst hi) hs hw h1) fun c σ H Γ t D e p => tM_bindS e p fun d t1 v H1 e1 r1 p1 => by
    cases d with
    | lst ds =>
      by_cases hz : n ≤ ds.length + 1
      · simp only [hz, if_true] at p1
        have rr := r1.rep
        unfold Rep at rr
        obtain ⟨l, vs, rfl, h2, h3⟩ := rr
        have hlen := h3.length
        refine ⟨l, vs, rfl, h2.sql, by omega, fun q hq => ?_⟩
        have sm : Same H1 (upd H1 q (.lst ((vs.drop i).take (vs.length + 1 - n)))) := same_upd hq
        have h4 := h3.sameH sm
        refine ⟨c, Γ, t1, ds.take i ++ [.lst ((ds.drop i).take (ds.length + 1 - n))] ++ (ds.drop i).drop (ds.length + 1 - n), e1.new hq, ?_, ?_⟩
        · rw [hlen]
          rw [hlen] at h4
          refine Reps.append (Reps.append (h4.take i) (.cons ?_ (by unfold Reps; rfl))) ((h4.drop i).drop _)
          unfold Rep
          exact ⟨q, _, rfl, ⟨e1.okf' hq, by rw [← hlen]; exact upd_same⟩, (h4.drop i).take _⟩
        · cases q2 : r (ds.take i ++ [.lst ((ds.drop i).take (ds.length + 1 - n))] ++ (ds.drop i).drop (ds.length + 1 - n)) Γ with
          | none => rw [q2] at p1; exact p1.elim
          | some Γ1 => rw [q2] at p1; exact fun σ1 e2 _ => p1 σ1 _ e2
      · simp only [hz, if_false] at p1; exact p1.elim
    | _ => exact p1.elim
end
end DC
/-! ## stores within a test, pairs with a new list, repr -/
namespace DC
open PySem L2 PyProof.Rows
section
variable {T : Type} {X : Cx} {K : PySem.W.Frag} {mg : Str → Option Value} {W : Wd T} {B : WX} {s s1 s2 s3 : Bool}
variable {c : Cf T} {σ σ' : L2.St} {H H' : Hp} {Γ Γ' : Gm} {t t' : T}
/-! ### tests that store a name -/
inductive Fw (T : Type) where
  | ok (b : Bool) (Γ : Gm) (t : T) | er (e : Er) (Γ : Gm) (t : T) | bad
abbrev Tx (T : Type) := Gm → T → Fw T
def PostX (K : PySem.W.Frag) (mg : Str → Option Value) (W : Wd T) (B : WX) (c : Cf T) (r : Fw T) (Q : Bool → L2.St → Hp → Prop) : Prop := match r with
  | .ok b Γ t => ∀ σ H, Sit K W c σ H Γ t → Q b σ H
  | .er e Γ t => ∀ cls dd σ H, Sit K W c σ H Γ t → ErRep K mg (c.okA W σ Γ t) H e cls dd → B cls dd σ H
  | .bad => False
def tMX (K : PySem.W.Frag) (mg : Str → Option Value) (W : Wd T) (B : WX) (m : Tx T) : TTw := fun σ H Q => ∃ (c : Cf T) (Γ : Gm) (t : T), Sit K W c σ H Γ t ∧ PostX K mg W B c (m Γ t) Q
abbrev Xm {T : Type} (X : Cx) (W : Wd T) (B : WX) (e : Expr) (m : Tx T) : Prop := PTw X e (tMX X.K X.mg W B m)
/-- (x := e) op b -/
def xNm (i : Nat) (f : D → D → Option D) (m mb : Ex T) : Tx T := fun Γ t => match m Γ t with
  | .ok d t1 => (match mb (Γ.set i (some (.dat d))) t1 with
    | .ok y t2 => (match f d y with
      | some (.bl k) => .ok k (Γ.set i (some (.dat d))) t2
      | _ => .bad)
    | .er e t2 => .er e (Γ.set i (some (.dat d))) t2
    | .bad => .bad)
  | .er e t1 => .er e Γ t1
  | .bad => .bad
theorem xm_nm (i : Nat) {x : Str} {op : CmpOp} {e b : Expr} {m mb : Ex T} {r : R2} {f : D → D → Option D} {p1 p2 pos : Pos} (hN : X.N.Nodup) (ho : OpR X (compareOp op) r) (hr : OpD X r f) (h : Pm X W B false e m) (hb : Pm X W B false b mb) (hm : behindInMarks op b = false)
    (hi : X.N[i]? = some x := by rfl) (hx : Loc X.env.scope x := by first | exact Or.inl rfl | exact Or.inr rfl) (hf : X.fn x = true ∨ X.env.scope.names.lookup x = some .local := by first | exact .inl rfl | exact .inr rfl) :
    Xm X W B (.Compare (.NamedExpr (.Name x p1) e p2) [op] [b] pos) (xNm i f m mb) := by
  refine ⟨fun pins s σ H Q I ⟨c, Γ, t, e0, p⟩ => (ptw_cmp ho (pew_named hN hi hx (pew_of h) hf) hb hm).run pins s σ H Q I ⟨c, Γ, t, e0, ?_⟩⟩
  unfold xNm at p
  cases q : m Γ t with
  | bad => rw [q] at p; exact p.elim
  | er x t1 => rw [q] at p; exact fun cls dd H1 e1 r1 => p cls dd σ H1 e1 r1
  | ok d t1 =>
    rw [q] at p
    intro v H1 e1 r1
    have e2 := e1.set r1.rep i
    refine ⟨c.rb (σ.set i (some v)) H1 (Γ.set i (some (.dat d))) t1, Γ.set i (some (.dat d)), t1, e2.rb, ?_⟩
    dsimp only at p
    cases q2 : mb (Γ.set i (some (.dat d))) t1 with
    | bad => rw [q2] at p; exact p.elim
    | er x t2 => rw [q2] at p; exact fun cls dd H2 e3 r3 => p cls dd _ H2 (e2.un e3) r3
    | ok y t2 =>
      rw [q2] at p
      dsimp only at p
      intro u H2 e3 r3
      cases q3 : f d y with
      | none => rw [q3] at p; exact p.elim
      | some z =>
        rw [q3] at p
        cases z with
        | bl k =>
          have rv : RepT false X.K (c.okA W (σ.set i (some v)) (Γ.set i (some (.dat d))) t1) (σ.set i (some v)) (Γ.set i (some (.dat d))) H1 d v := .inl (r1.rep.weak fun b z => okA_set (o := some (.dat d)) (fun _ z => nomatch z) z)
          exact hr (e2.un e3) (keepT e2 e3 rv) r3 q3 fun w H3 sm rw' => ⟨k, by unfold Rep at rw'; exact rw', p _ H3 ((e2.un e3).same sm)⟩
        | _ => exact p.elim
def xOr (a : Tx T) (b : Te T) : Tx T := fun Γ t => match a Γ t with
  | .ok true Γ1 t1 => .ok true Γ1 t1
  | .ok false Γ1 t1 => (match b Γ1 t1 with
    | .ok k t2 => .ok k Γ1 t2
    | .er e t2 => .er e Γ1 t2
    | .bad => .bad)
  | r => r
theorem xm_or {a b : Expr} {rest : List Expr} {ma : Tx T} {mb : Te T} {pos : Pos} (ha : Xm X W B a ma) (hb : Wm X W B (.BoolOp .Or (b :: rest) pos) mb) : Xm X W B (.BoolOp .Or (a :: b :: rest) pos) (xOr ma mb) := by
  refine ⟨fun pins s σ H Q I ⟨c, Γ, t, e0, p⟩ => ?_⟩
  refine isTrue_or (thn (ha.run pins s σ H (fun k σ1 H1 => if k = true then Q true σ1 H1 else tMT X.K X.mg W B mb σ1 H1 (fun b H2 => Q b σ1 H2)) I ⟨c, Γ, t, e0, ?_⟩) fun k s1 ⟨σ1, H1, I1, q1⟩ => ?_)
  · unfold xOr at p
    cases q : ma Γ t with
    | bad => rw [q] at p; exact p.elim
    | er x Γ1 t1 => rw [q] at p; exact p
    | ok k Γ1 t1 =>
      rw [q] at p
      intro σ1 H1 e1
      cases k with
      | true => exact p σ1 H1 e1
      | false =>
        refine ite_ff ⟨c, Γ1, t1, e1, ?_⟩
        dsimp only at p
        cases q2 : mb Γ1 t1 with
        | bad => rw [q2] at p; exact p.elim
        | er x t2 => rw [q2] at p; exact fun cls dd H2 e3 r3 => p cls dd _ H2 e3 r3
        | ok k2 t2 => rw [q2] at p; exact fun H2 e2 => p σ1 H2 e2
  · cases k with
    | true => exact ite_tt ⟨σ1, H1, I1, q1⟩
    | false => exact ite_ff (thn (hb.run _ pins s1 σ1 H1 _ I1 q1) fun b s2 ⟨H2, I2, q2⟩ => ⟨σ1, H2, I2, q2⟩)
def sIfX (x : Tx T) (a b : Bl T) : Bl T := fun Γ t => match x Γ t with
  | .ok k Γ1 t1 => if k = true then a Γ1 t1 else b Γ1 t1
  | .er e Γ1 t1 => .er e Γ1 t1
  | .bad => .bad
theorem sm_ifX {x : Expr} {p q : List Stmt} {mx : Tx T} {ma mb : Bl T} {pos : Pos} (hx : Xm X W B x mx) (ha : Bm X W B p ma) (hb : Bm X W B q mb) : Sm X W B (.If x p q pos) (sIfX mx ma mb) :=
  sm_of (ps_ifW hx ha hb) fun c σ H Γ t D e p => by
    refine ⟨c, Γ, t, e, ?_⟩
    unfold sIfX at p
    cases q : mx Γ t with
    | bad => rw [q] at p; exact p.elim
    | er x Γ1 t1 => rw [q] at p; exact p
    | ok k Γ1 t1 =>
      rw [q] at p
      intro σ1 H1 e1
      cases k with
      | true => exact ite_tt ⟨c, Γ1, t1, e1, p⟩
      | false => exact ite_ff ⟨c, Γ1, t1, e1, p⟩
/-! ### a new empty list and a value, stored together -/
def Cf.pin (c : Cf T) (σ : L2.St) (H : Hp) (Γ : Gm) (t : T) (p : Addr) : Cf T := { H0 := upd H p (.lst []), t0 := t, O0 := Own σ Γ, ok0 := fun a => c.ok0 a ∧ a ≠ p }
theorem Sit.pin (e : Sit K W c σ H Γ t) {p : Addr} (hp : H p = none) : Sit K W (c.pin σ H Γ t p) σ (upd H p (.lst [])) Γ t := by
  have e' := e.new (o := .lst []) hp
  have hn : ∀ a, H a ≠ none → a ≠ p := fun a z y => z (by rw [y]; exact hp)
  have up : ∀ b, H b ≠ none → c.okA W σ Γ t b → (c.pin σ H Γ t p).okA W σ Γ t b := fun b z y => ⟨⟨y.1, hn b z⟩, y.2⟩
  have sm := same_upd (o := .lst []) hp
  exact {
    wr := e'.wr
    keep := fun a o h _ => h
    dom := fun a h => h
    okf := fun a h => by
      have ne : a ≠ p := fun z => by
        have h' : upd H p (.lst []) a = none := h
        rw [z, upd_same] at h'
        cases h'
      exact ⟨e'.okf a (e'.dom a h), ne⟩
    ft := fun a h => .inl h
    len := e.len
    dat := fun i d h => by
      obtain ⟨v, h1, h2⟩ := e.dat i d h
      exact ⟨v, h1, h2.kp (fun a o q _ => sm a o q) up⟩
    own := fun i ds h => by
      obtain ⟨q, vs, h1, h2, h3, h4, h5, h6⟩ := e.own i ds h
      exact ⟨q, vs, h1, .inl ⟨i, ds, h, h1⟩, ⟨h3, hn q (by rw [h5]; exact fun z => nomatch z)⟩, h4, sm _ _ h5, h6.kp (fun a o q _ => sm a o q) up⟩
    dis := e.dis }
theorem own_set_new {p : Addr} {i : Nat} {ds : List D} {a : Addr} (h : Own (σ.set i (some (.ref p))) (Γ.set i (some (.own ds))) a) : Own σ Γ a ∨ a = p := by
  obtain ⟨j, es, h1, h2⟩ := h
  by_cases q : i = j
  · subst q
    rw [List.getElem?_set] at h2
    rw [if_pos rfl] at h2
    split at h2
    · cases h2; exact .inr rfl
    · cases h2
  · rw [List.getElem?_set_ne q] at h1 h2
    exact .inl ⟨j, es, h1, h2⟩
theorem Sit.unpin (e : Sit K W c σ H Γ t) {p : Addr} (hp : H p = none) (q : Sit K W (c.pin σ H Γ t p) σ H' Γ t') (i : Nat) :
    Sit K W c (σ.set i (some (.ref p))) H' (Γ.set i (some (.own []))) t' ∧ ∀ b, (c.pin σ H Γ t p).okA W σ Γ t' b → c.okA W (σ.set i (some (.ref p))) (Γ.set i (some (.own []))) t' b := by
  have np : ¬ W.foot t p := fun z => W.live e.wr z hp
  have npo : ¬ Own σ Γ p := fun ⟨j, es, h1, h2⟩ => by
    obtain ⟨p', vs, g1, _, _, _, g5, _⟩ := e.own j es h1
    rw [h2] at g1; cases g1
    rw [hp] at g5; cases g5
  have hH : H' p = some (.lst []) := q.keep p _ upd_same (.inr ⟨np, npo⟩)
  have np' : ¬ W.foot t' p := fun z => by
    rcases q.ft p z with w | w
    · exact np w
    · have w' : upd H p (.lst []) p = none := w
      rw [upd_same] at w'; cases w'
  have q0 : SitW K W (c.rb σ H Γ t) H' t' :=
    { wr := q.wr
      keep := fun a o h hs => q.keep a o (by
        show upd H p (.lst []) a = some o
        rw [upd_ne (fun z => by subst z; have h' : H a = some o := h; rw [hp] at h'; cases h')]; exact h) hs
      dom := fun a h => by
        have h' : upd H p (.lst []) a = none := q.dom a h
        by_cases z : a = p
        · subst z; rw [upd_same] at h'; cases h'
        · rw [upd_ne z] at h'; exact h'
      okf := fun a h => e.okf a (e.dom a h)
      ft := fun a h => by
        rcases q.ft a h with w | w
        · exact .inl w
        · have w' : upd H p (.lst []) a = none := w
          by_cases z : a = p
          · subst z; rw [upd_same] at w'; cases w'
          · rw [upd_ne z] at w'; exact .inr w' }
  have u0 := SitW.un e q0
  have up : ∀ b, (c.pin σ H Γ t p).okA W σ Γ t' b → c.okA W (σ.set i (some (.ref p))) (Γ.set i (some (.own []))) t' b := fun b z => ⟨z.1.1, z.2.1, fun y => by
    rcases own_set_new y with w | w
    · exact z.2.2 w
    · exact z.1.2 w⟩
  refine ⟨{ u0 with len := by rw [List.length_set, List.length_set]; exact q.len, dat := fun j d h => ?_, own := fun j ds h => ?_, dis := fun j k dj dk a hjk h1 h2 h3 h4 => ?_ }, up⟩
  · by_cases z : i = j
    · subst z
      rw [List.getElem?_set, if_pos rfl] at h
      split at h <;> cases h
    · rw [List.getElem?_set_ne z] at h ⊢
      obtain ⟨v, g1, g2⟩ := q.dat j d h
      exact ⟨v, g1, g2.weak up⟩
  · by_cases z : i = j
    · subst z
      rw [List.getElem?_set, if_pos rfl] at h
      split at h
      · rename_i hl
        cases h
        refine ⟨p, [], ?_, .inr (e.dom p hp), e.okf p (e.dom p hp), np', hH, by unfold Reps; rfl⟩
        rw [List.getElem?_set, if_pos rfl, if_pos (by rw [← q.len]; exact hl)]
      · cases h
    · rw [List.getElem?_set_ne z] at h ⊢
      obtain ⟨p', vs, g1, g2, g3, g4, g5, g6⟩ := q.own j ds h
      refine ⟨p', vs, g1, ?_, g3.1, g4, g5, g6.weak up⟩
      rcases g2 with ⟨l, es, w1, w2⟩ | w
      · obtain ⟨p2, vs2, x1, x2, _⟩ := e.own l es w1
        rw [w2] at x1; cases x1
        exact x2
      · have w' : upd H p (.lst []) p' = none := w
        rw [upd_ne g3.2] at w'
        exact .inr (e.dom _ w')
  · by_cases z : i = j
    · subst z
      rw [List.getElem?_set, if_pos rfl] at h3
      rw [List.getElem?_set_ne hjk] at h2 h4
      split at h3
      · cases h3
        obtain ⟨p', vs, g1, _, g3, _⟩ := q.own k dk h2
        rw [h4] at g1; cases g1
        exact g3.2 rfl
      · cases h3
    · by_cases y : i = k
      · subst y
        rw [List.getElem?_set, if_pos rfl] at h4
        rw [List.getElem?_set_ne z] at h1 h3
        split at h4
        · cases h4
          obtain ⟨p', vs, g1, _, g3, _⟩ := q.own j dj h1
          rw [h3] at g1; cases g1
          exact g3.2 rfl
        · cases h4
      · rw [List.getElem?_set_ne z] at h1 h3
        rw [List.getElem?_set_ne y] at h2 h4
        exact q.dis j k dj dk a hjk h1 h2 h3 h4
/-- x, y = [], e -/
def sParO (i j : Nat) (m : Ex T) : Bl T := fun Γ t => match m Γ t with
  | .ok d t1 => .nx ((Γ.set i (some (.own []))).set j (some (.dat d))) t1
  | _ => .bad
theorem sm_parO {i j : Nat} {x y : Str} {b : Expr} {m : Ex T} {px py pt pe pos : Pos} {kt k2 pt2} (hc : X.calm = true) (hN : X.N.Nodup) (hb : Pm X W B false b m)
    (hx : X.env.scope.names.lookup x = some .local) (hy : X.env.scope.names.lookup y = some .local) (hi : X.N[i]? = some x := by rfl) (hj : X.N[j]? = some y := by rfl) (hij : i ≠ j := by decide)
    (hs0 : starEach (.List [] pe :: [b]) X.env = (false, eval (.List [] pe) X.env) :: starEach [b] X.env := by rfl) (hs1 : starEach [b] X.env = (false, eval b X.env) :: starEach [] X.env := by rfl)
    (hw : swappedStores [.Tuple [.Name x px, .Name y py] kt pt] (.Tuple [.List [] pe, b] k2 pt2) X.env = pure (some [x, y]) := by rfl)
    (hs : swapsWithSole [.Tuple [.Name x px, .Name y py] kt pt] (.Tuple [.List [] pe, b] k2 pt2) pos.line X.env = pure false := by rfl) : Sm X W B (.Assign [.Tuple [.Name x px, .Name y py] kt pt] (.Tuple [.List [] pe, b] k2 pt2) pos) (sParO i j m) :=
  sm_of (ps_par hc hN hi hj hij hx hy (pa_cons (pe_lst pa_nil) (pa_cons hb pa_nil hs1) hs0) hw hs) fun c σ H Γ t D e p => by
    refine ⟨by decide, fun l hl => ?_⟩
    refine ⟨c.pin σ H Γ t l, Γ, t, e.pin hl, ?_⟩
    unfold sParO at p
    cases q : m Γ t with
    | bad => rw [q] at p; exact p.elim
    | er x t1 => rw [q] at p; exact p.elim
    | ok d t1 =>
      rw [q] at p
      intro v H1 e1 r1
      obtain ⟨e2, up⟩ := e.unpin hl e1 i
      exact ⟨_, _, rfl, p _ H1 (e2.set (r1.rep.weak up) j)⟩
/-- x, y = e, [] -/
def sParE (i j : Nat) (m : Ex T) : Bl T := fun Γ t => (m Γ t).fl Γ fun d t1 => .nx ((Γ.set i (some (.dat d))).set j (some (.own []))) t1
theorem sm_parE {i j : Nat} {x y : Str} {b : Expr} {m : Ex T} {px py pt pe pos : Pos} {kt k2 pt2} (hc : X.calm = true) (hN : X.N.Nodup) (hb : Pm X W B false b m)
    (hx : X.env.scope.names.lookup x = some .local) (hy : X.env.scope.names.lookup y = some .local) (hi : X.N[i]? = some x := by rfl) (hj : X.N[j]? = some y := by rfl) (hij : i ≠ j := by decide)
    (hs0 : starEach (b :: [.List [] pe]) X.env = (false, eval b X.env) :: starEach [.List [] pe] X.env := by rfl) (hs1 : starEach [.List [] pe] X.env = (false, eval (.List [] pe) X.env) :: starEach [] X.env := by rfl)
    (hw : swappedStores [.Tuple [.Name x px, .Name y py] kt pt] (.Tuple [b, .List [] pe] k2 pt2) X.env = pure (some [x, y]) := by rfl)
    (hs : swapsWithSole [.Tuple [.Name x px, .Name y py] kt pt] (.Tuple [b, .List [] pe] k2 pt2) pos.line X.env = pure false := by rfl) : Sm X W B (.Assign [.Tuple [.Name x px, .Name y py] kt pt] (.Tuple [b, .List [] pe] k2 pt2) pos) (sParE i j m) :=
  sm_of (ps_par hc hN hi hj hij hx hy (pa_cons hb (pa_cons (pe_lst pa_nil) pa_nil hs1) hs0) hw hs) fun c σ H Γ t D e p => tM_bindS e p fun d t1 v H1 e1 r1 p1 => by
    refine ⟨by decide, fun l hl => ⟨_, _, rfl, p1 _ _ ?_⟩⟩
    exact (e1.set r1.rep i).setOwn hl (by unfold Reps; rfl) j
/-! ### repr of nested data -/
def rRepr (K : PySem.W.Frag) : List V → Hp → VK → Prop := fun xs H Q => ∃ (p : Addr) (d : PyData), xs = [.ref p] ∧ Dp K H (.ref p) d ∧ d.showable = true ∧ d.hasDict = false ∧ d.depth ≤ 64 ∧ d.shown.length ≤ sizeLine ∧ Q (.str d.shown) H
theorem cr_repr (hg : X.A.guards = some []) (hu : X.A.units + 65 < cLine) : CallR X (.builtin "repr") (rRepr X.K) := by
  intro pins s σ H xs us Q I rs h
  obtain ⟨p, d, rfl, hd, h1, h2, h3, h4, q⟩ := h
  cases rs with
  | cons r rr =>
    cases rr
    cases r
    obtain ⟨as, rd⟩ := Dp.reads I d _ _ hd (show L2.RelV (.ref p) (.ref p) from rfl)
    exact repr_of_reads' rd h1 (fun z => by rw [h2] at z; cases z) hg (by omega) (fun b o e => e) (fun h' u tk hk => ⟨.str d.shown, H, I.kept hk, ⟨u, rfl⟩, q⟩) h4
mutual
theorem py_noDict : ∀ {d : D} {n : Nat}, d.sh n = true → d.py.hasDict = false
  | .non, _, _ => by simp [D.py, PyData.hasDict]
  | .bl _, _, _ => by simp [D.py, PyData.hasDict]
  | .int _, _, _ => by simp [D.py, PyData.hasDict]
  | .str _, _, _ => by simp [D.py, PyData.hasDict]
  | .adr _, _, h => by unfold D.sh at h; cases h
  | .tup ds, n, h => by
    unfold D.sh at h
    cases n with
    | zero => cases h
    | succ n => simp [D.py, PyData.hasDict, pys_noDict h]
  | .lst ds, n, h => by
    unfold D.sh at h
    cases n with
    | zero => cases h
    | succ n => simp [D.py, PyData.hasDict, pys_noDict h]
theorem pys_noDict : ∀ {ds : List D} {n : Nat}, shs ds n = true → PyData.hasDictAll (pys ds) = false
  | [], _, _ => by simp [pys, PyData.hasDictAll]
  | d :: ds, n, h => by
    unfold shs at h
    obtain ⟨h1, h2⟩ := Bool.and_eq_true_iff.mp h
    simp [pys, PyData.hasDictAll, py_noDict h1, pys_noDict h2]
end
def dRepr (d : D) : Option D := match d with
  | .tup _ => if d.sh 60 = true ∧ d.py.showable = true ∧ d.py.shown.length ≤ 16777216 then some (.str d.py.shown) else none
  | .lst _ => if d.sh 60 = true ∧ d.py.showable = true ∧ d.py.shown.length ≤ 16777216 then some (.str d.py.shown) else none
  | _ => none
theorem cd_repr : CallD X (rRepr X.K) (d1 dRepr) := by
  intro T W c σ H Γ t s1 ds z vs Q e r hf q
  obtain ⟨x, rfl, hx⟩ := d1_some hf
  obtain ⟨v, rfl, rv⟩ := r.one
  have hz : 16777216 ≤ sizeLine := by decide
  have fin : ∀ p, v = .ref p → (if x.sh 60 = true ∧ x.py.showable = true ∧ x.py.shown.length ≤ 16777216 then some (D.str x.py.shown) else none) = some z → rRepr X.K [v] H Q := fun p hp hx => by
    by_cases h : x.sh 60 = true ∧ x.py.showable = true ∧ x.py.shown.length ≤ 16777216
    · rw [if_pos h] at hx
      cases hx
      subst hp
      exact ⟨p, x.py, rfl, rv.dp e h.1, h.2.1, py_noDict h.1, Nat.le_trans (sh_lay x 60 h.1).2 (by decide), Nat.le_trans h.2.2 hz, q _ H (Same.refl H) rep_str⟩
    · rw [if_neg h] at hx; cases hx
  cases x with
  | tup ds =>
    obtain ⟨a, vs, rfl, h2, h3⟩ := rv.tup
    exact fin a rfl hx
  | lst ds =>
    obtain ⟨a, vs, rfl, h2, h3⟩ := rv.lst e
    exact fin a rfl hx
  | _ => cases hx
end
end DC
/-! ## enumerate, zip, step ranges; products -/
namespace DC
open PySem L2 PyProof.Rows RZ
section
variable {T : Type} {X : Cx} {K : PySem.W.Frag} {mg : Str → Option Value} {W : Wd T} {B : WX} {s s1 s2 s3 : Bool}
variable {c : Cf T} {σ σ' : L2.St} {H H' : Hp} {Γ Γ' : Gm} {t t' : T}
def dPairs (f g : Nat → Option D) (n : Nat) : List D := (List.range n).filterMap fun i => (f i).bind fun x => (g i).map fun y => D.tup [x, y]
/-- the items with their places -/
def dEnum (k : Nat) : List D → List D
  | [] => []
  | d :: ds => .tup [.int (k : Nat), d] :: dEnum (k + 1) ds
theorem dEnum_get : ∀ (ds : List D) (k i : Nat), (dEnum k ds)[i]? = (ds[i]?).map fun d => D.tup [.int ((k + i : Nat) : Int), d]
  | [], _, _ => rfl
  | d :: ds, k, 0 => rfl
  | d :: ds, k, i + 1 => by
    show (dEnum (k + 1) ds)[i]? = (ds[i]?).map _
    rw [dEnum_get ds (k + 1) i, show k + 1 + i = k + (i + 1) by omega]
theorem dEnum_len : ∀ (ds : List D) (k : Nat), (dEnum k ds).length = ds.length
  | [], _ => rfl
  | d :: ds, k => by
    show (dEnum (k + 1) ds).length + 1 = _
    rw [dEnum_len ds (k + 1)]; rfl
def dZip : List D → List D → List D
  | d :: ds, e :: es => .tup [d, e] :: dZip ds es
  | _, _ => []
theorem dZip_get : ∀ (ds es : List D) (i : Nat) (z : D), (dZip ds es)[i]? = some z → ∃ d e, ds[i]? = some d ∧ es[i]? = some e ∧ z = .tup [d, e]
  | d :: ds, e :: es, 0, z, h => by
    cases h
    exact ⟨d, e, rfl, rfl, rfl⟩
  | d :: ds, e :: es, i + 1, z, h => dZip_get ds es i z h
  | [], _, i, z, h => by unfold dZip at h; cases h
  | _ :: _, [], i, z, h => by unfold dZip at h; cases h
theorem dZip_len : ∀ ds es : List D, (dZip ds es).length = min ds.length es.length
  | d :: ds, e :: es => by
    show (dZip ds es).length + 1 = min (ds.length + 1) (es.length + 1)
    rw [dZip_len ds es]; omega
  | [], _ => by unfold dZip; simp
  | _ :: _, [] => by unfold dZip; simp
theorem walkD_pair {ok : Addr → Prop} {H2 H3 : Hp} {x : V} {u v : V} {Q : Addr} {d : D} (hq : H2 Q = none) (h3 : H3 = upd H2 Q (.tup [u, v])) (hx : x = .ref Q) {d1 d2 : D} (k : Kp ok H H2) (r1 : Rep K ok H d1 u) (r2 : Rep K ok H d2 v) (ed : d = .tup [d1, d2]) :
    Same H2 H3 ∧ ∀ ok', (∀ b, H b ≠ none → ok b → ok' b) → Rep K ok' H3 d x := by
  subst h3 hx ed
  refine ⟨same_upd hq, fun ok' hk => ?_⟩
  have k3 : Kp ok H (upd H2 Q (.tup [u, v])) := fun a o q hs => same_upd hq a o (k a o q hs)
  unfold Rep
  exact ⟨Q, [u, v], rfl, SqT.of upd_same, .cons (r1.kp k3 hk) (.cons (r2.kp k3 hk) (by unfold Reps; rfl))⟩
theorem walkD_enum {ok : Addr → Prop} {a : Addr} {ds : List D} {vs : List V} (h1 : LNode K ok H a vs) (h2 : Reps K ok H ds vs) : WalkD K ok H (Ite K a) (dEnum 0 ds) := by
  unfold WalkD
  rw [dEnum_len, ← h2.length]
  refine (walk_enum (K := K) (a := a) (xs := vs)).mono (fun H2 k => .inl (.inl (k _ _ h1.2 (.inr h1.1)))) fun i H2 x H3 _ k y => ?_
  obtain ⟨Q, u, v, e1, e2, e3, e4, e5⟩ := y
  cases e4
  obtain ⟨d0, g1, g2⟩ := h2.back e5
  have := walkD_pair (K := K) (ok := ok) (H := H) e2 e3 e1 k (rep_int (i := (i : Int))) g2 rfl
  refine ⟨this.1, fun d ok' hd hk => ?_⟩
  rw [dEnum_get, g1] at hd
  have ed : D.tup [.int ((0 + i : Nat) : Int), d0] = d := Option.some.inj hd
  rw [Nat.zero_add] at ed
  rw [← ed]
  exact this.2 ok' hk
def mEnum (m : Ar T) : Ar T := fun Γ t => (m Γ t).bind fun ds t1 => match ds with
  | [.lst es] => .ok (dEnum 0 es) t1
  | _ => .bad
theorem im_enum {a : Expr} {m : Ar T} {p pos tpos : Pos} {elts : List Expr} {kk : Nat} (hm : X.mg "enumerate" = none) (ha : Am X W B false [a] m) (hg : Gl X "enumerate" := by rfl) (hs : starEach [a] X.env = [(false, eval a X.env)] := by rfl) : Im X W B (.Tuple elts kk tpos) (.Call (.Name "enumerate" p) [a] [] pos) (mEnum m) :=
  im_of (pi_enum hg hm ha hs) fun c σ H Γ t R e p => tMA_bindI e p fun ds t1 vs H1 e1 r1 p1 => by
    match ds, p1, r1 with
    | [.lst es], p1, r1 =>
      obtain ⟨v, rfl, rv⟩ := r1.one
      have rr := rv.rep
      unfold Rep at rr
      obtain ⟨l, us, rfl, g1, g2⟩ := rr
      exact ⟨l, us, rfl, g1.sql, p1 _ H1 e1 (walkD_enum g1 g2)⟩
theorem walk_zipT {a b : Addr} {xs ys : List V} {n : Nat} (hn : n = min xs.length ys.length) : L2.Walk (ItzT K a b) n (fun H => SqT K H a xs ∧ SqT K H b ys) (YPair (fun i => xs[i]?) (fun i => ys[i]?)) := by
  subst hn
  refine ⟨fun i _ hi q => ?_, fun _ q => ⟨xs, ys, q.1, q.2, by omega⟩, fun i H v H' _ q y => ?_⟩
  · have h1 : i < xs.length := by omega
    have h2 : i < ys.length := by omega
    exact ⟨xs, ys, xs[i], ys[i], q.1, q.2, by simp [h1], by simp [h2]⟩
  · obtain ⟨Q, x, z, h1, h2, h3, h4, h5⟩ := y
    exact ⟨Q, x, z, h1, h2, h3, h4 xs q.1, h5 ys q.2⟩
theorem zip_step {ok : Addr → Prop} {ds es : List D} {vs us : List V} (h2 : Reps K ok H ds vs) (g2 : Reps K ok H es us) {i : Nat} {H2 H3 : Hp} {x : V} (k : Kp ok H H2) (y : YPair (fun i => vs[i]?) (fun i => us[i]?) i H2 x H3) :
    Same H2 H3 ∧ ∀ d ok', (dZip ds es)[i]? = some d → (∀ b, H b ≠ none → ok b → ok' b) → Rep K ok' H3 d x := by
  obtain ⟨Q, u, v, e1, e2, e3, e4, e5⟩ := y
  obtain ⟨d1, f1, f2⟩ := h2.back e4
  obtain ⟨d2, f3, f4⟩ := g2.back e5
  have := walkD_pair (K := K) (ok := ok) (H := H) e2 e3 e1 k f2 f4 rfl
  refine ⟨this.1, fun d ok' hd hk => ?_⟩
  obtain ⟨x1, x2, y1, y2, y3⟩ := dZip_get ds es i d hd
  rw [f1] at y1
  rw [f3] at y2
  cases y1
  cases y2
  rw [y3]
  exact this.2 ok' hk
theorem walkD_zip {ok : Addr → Prop} {a b : Addr} {ds es : List D} {vs us : List V} (h1 : LNode K ok H a vs) (h2 : Reps K ok H ds vs) (g1 : LNode K ok H b us) (g2 : Reps K ok H es us) : WalkD K ok H (Itz K a b) (dZip ds es) := by
  unfold WalkD
  rw [dZip_len, ← h2.length, ← g2.length]
  exact (walk_zip (K := K) (a := a) (b := b) (xs := vs) (ys := us) rfl).mono (fun H2 k => ⟨.inl (.inl (k _ _ h1.2 (.inr h1.1))), .inl (.inl (k _ _ g1.2 (.inr g1.1)))⟩) fun i H2 x H3 _ k y => zip_step h2 g2 k y
theorem walkD_zipT {ok : Addr → Prop} {a b : Addr} {ds es : List D} {vs us : List V} (h1 : SqT K H a vs) (h2 : Reps K ok H ds vs) (g1 : SqT K H b us) (g2 : Reps K ok H es us) : WalkD K ok H (ItzT K a b) (dZip ds es) := by
  unfold WalkD
  rw [dZip_len, ← h2.length, ← g2.length]
  exact (walk_zipT (K := K) (a := a) (b := b) (xs := vs) (ys := us) rfl).mono (fun H2 k => ⟨SqT.kp k h1, SqT.kp k g1⟩) fun i H2 x H3 _ k y => zip_step h2 g2 k y
def mZip2 (m : Ar T) : Ar T := fun Γ t => (m Γ t).bind fun ds t1 => match ds with
  | [.lst es, .lst fs] => .ok (dZip es fs) t1
  | [.tup es, .tup fs] => .ok (dZip es fs) t1
  | _ => .bad
theorem im_zip2 {a b : Expr} {m : Ar T} {p pos tpos : Pos} {elts : List Expr} {kk : Nat} (hm : X.mg "zip" = none) (ha : Am X W B false [a, b] m) (hg : Gl X "zip" := by rfl) (hs : starEach [a, b] X.env = (false, eval a X.env) :: starEach [b] X.env := by rfl) (hpl : (backTo pos (starEach [b] X.env)).any (·.1) = false := by rfl) :
    Im X W B (.Tuple elts kk tpos) (.Call (.Name "zip" p) [a, b] [] pos) (mZip2 m) :=
  im_of (pi_zipA hg hm ha hs hpl) fun c σ H Γ t R e p => tMA_bindI e p fun ds t1 vs H1 e1 r1 p1 => by
    match ds, p1, r1 with
    | [.lst es, .lst fs], p1, r1 =>
      obtain ⟨v, v', rfl, rv, rv'⟩ := r1.two
      have rr := rv.rep
      have rr' := rv'.rep
      unfold Rep at rr rr'
      obtain ⟨l, us, rfl, g1, g2⟩ := rr
      obtain ⟨l', us', rfl, g1', g2'⟩ := rr'
      exact ⟨l, l', us, us', rfl, .inl ⟨g1.sql, g1'.sql, p1 _ H1 e1 (walkD_zip g1 g2 g1' g2')⟩⟩
    | [.tup es, .tup fs], p1, r1 =>
      obtain ⟨v, v', rfl, rv, rv'⟩ := r1.two
      obtain ⟨l, us, rfl, g1, g2⟩ := rv.tup
      obtain ⟨l', us', rfl, g1', g2'⟩ := rv'.tup
      exact ⟨l, l', us, us', rfl, .inr ⟨g1, g1', p1 _ H1 e1 (walkD_zipT g1 g2 g1' g2')⟩⟩
def dRangeC (lo c : Int) (n : Nat) : List D := (List.range n).map fun (i : Nat) => D.int (lo + (i : Int) * c)
theorem walkD_rangeC {ok : Addr → Prop} {lo k : Int} {n : Nat} : WalkD K ok H (Itc lo k n) (dRangeC lo k n) := by
  unfold WalkD
  rw [show (dRangeC lo k n).length = n by simp [dRangeC]]
  refine (walk_rangeC (lo := lo) (c := k) (n := n)).mono (fun _ _ => trivial) fun i H2 x H3 hi _ y => ?_
  obtain ⟨e1, e2⟩ := y
  subst e1 e2
  refine ⟨Same.refl _, fun d ok' hd hk => ?_⟩
  have : d = .int (lo + (i : Int) * k) := by
    unfold dRangeC at hd
    rw [List.getElem?_map, List.getElem?_range hi] at hd
    exact (Option.some.inj hd).symm
  subst this
  exact rep_int
def mRange3 (m : Ar T) : Ar T := fun Γ t => (m Γ t).bind fun ds t1 => match ds with
  | [.int i, .int j, .int k] => if k ≠ 0 ∧ k.natAbs < 1073741824 ∧ Builtin.Range.small i j k = true ∧ 0 ≤ Builtin.Range.rangeSize i j k then .ok (dRangeC i k (Builtin.Range.rangeSize i j k).toNat) t1 else .bad
  | _ => .bad
theorem RepsT.three {d d' d'' : D} {ok : Addr → Prop} {vs : List V} (h : RepsT s K ok σ Γ H [d, d', d''] vs) : ∃ v v' v'', vs = [v, v', v''] ∧ RepT s K ok σ Γ H d v ∧ RepT s K ok σ Γ H d' v' ∧ RepT s K ok σ Γ H d'' v'' := by
  obtain ⟨v, r, rfl, h1, h2⟩ := h
  obtain ⟨v', v'', rfl, h3, h4⟩ := RepsT.two h2
  exact ⟨v, v', v'', rfl, h1, h3, h4⟩
theorem im_range3 {tg a b c0 : Expr} {m : Ar T} {p pos : Pos} (hm : X.mg "range" = none) (ha : Am X W B s1 [a, b, c0] m) (hg : Gl X "range" := by rfl) (hs : starEach [a, b, c0] X.env = (false, eval a X.env) :: starEach [b, c0] X.env := by rfl) (hpl : (backTo pos (starEach [b, c0] X.env)).any (·.1) = false := by rfl) :
    Im X W B tg (.Call (.Name "range" p) [a, b, c0] [] pos) (mRange3 m) :=
  im_of (pi_range3 hg hm ha hs hpl) fun c σ H Γ t R e p => tMA_bindI e p fun ds t1 vs H1 e1 r1 p1 => by
    match ds, p1, r1 with
    | [.int i, .int j, .int k], p1, r1 =>
      obtain ⟨v, v', v'', rfl, rv, rv', rv''⟩ := r1.three
      dsimp only at p1
      by_cases hz : k ≠ 0 ∧ k.natAbs < 1073741824 ∧ Builtin.Range.small i j k = true ∧ 0 ≤ Builtin.Range.rangeSize i j k
      · rw [if_pos hz] at p1
        rw [rv.int, rv'.int, rv''.int]
        exact ⟨i, j, k, _, rfl, ⟨hz.1, hz.2.1, hz.2.2.1, by omega⟩, p1 _ H1 e1 walkD_rangeC⟩
      · rw [if_neg hz] at p1; exact p1.elim
/-! ### products of a tuple, of a text -/
def dMul (x y : D) : Option D := match x, y with
  | .tup ds, .int k => if ds ≠ [] ∧ 2 ≤ k ∧ k ≤ 1000 ∧ ds.length ≤ 1000 then some (.tup (List.replicate k.toNat ds).flatten) else none
  | _, _ => dMulI x y
abbrev rMulA (K : PySem.W.Frag) : R2 := fun x y H Q => ((rI CMul fun i j => V.int (i * j)) x y H Q ∨ (rI CMulW fun i j => V.int (i * j)) x y H Q) ∨ rRepT K x y H Q
theorem or_mul : OpR X (binaryOp .Mult) (rMulA X.K) := OpR.or or_mulI op_repT
theorem opd_mul : OpD X (rMulA X.K) dMul := by
  intro T W c σ H Γ t s1 s2 x y z v u Q e rx ry hf q
  have fin : dMulI x y = some z → rMulA X.K v u H Q := fun h => .inl (opd_mulI e rx ry h q)
  cases x with
  | tup ds =>
    cases y with
    | int k =>
      have hf' : (if ds ≠ [] ∧ 2 ≤ k ∧ k ≤ 1000 ∧ ds.length ≤ 1000 then some (D.tup (List.replicate k.toNat ds).flatten) else none) = some z := hf
      by_cases h : ds ≠ [] ∧ 2 ≤ k ∧ k ≤ 1000 ∧ ds.length ≤ 1000
      · rw [if_pos h] at hf'
        cases hf'
        obtain ⟨a, vs, rfl, h2, h3⟩ := rx.tup
        rw [ry.int]
        refine .inr ⟨a, k, vs, rfl, rfl, h2, ?_, h.2.1, h.2.2.1, by rw [h3.length]; exact h.2.2.2, fun p hp => q _ _ (same_upd hp) ?_⟩
        · intro z
          exact h.1 ((nil_reps h3).mp z)
        · unfold Rep
          exact ⟨p, _, rfl, SqT.of upd_same, (Reps.flat_rep h3 k.toNat).sameH (same_upd hp)⟩
      · rw [if_neg h] at hf'; cases hf'
    | _ => exact fin hf
  | _ => exact fin hf
end
end DC
/-! ## the script's world -/
namespace DC
open PySem L2 PyProof.Rows
/-- the script: a list of ints that nothing changes -/
def WSc (a : Addr) (ns : List Int) : Wd Unit where
  rep := fun K _ H => (∃ o, H a = some (.frz o (.lst (ns.map V.int)))) ∨ ∃ vs : List V, vs = ns.map V.int ∧ ∀ H', SqL K H' a vs
  foot := fun _ _ => False
  live := fun _ h => h.elim
  stay := fun h k => h.imp (fun ⟨o, z⟩ => ⟨o, k _ _ z (.inl rfl)⟩) id
section
variable {X : Cx} {K : PySem.W.Frag} {mg : Str → Option Value} {a : Addr} {ns : List Int} {B : WX} {s s1 s2 s3 : Bool}
variable {c : Cf Unit} {σ : L2.St} {H H' : Hp} {Γ : Gm} {t t' : Unit}
theorem sc_sql (h : (WSc a ns).rep K t H) : SqL K H a (ns.map V.int) := by
  rcases h with ⟨o, h⟩ | ⟨vs, rfl, h⟩
  · exact .inl (.inr ⟨o, h⟩)
  · exact h H
def isSc (a : Addr) (Γ : Gm) (i : Nat) : Bool := match Γ[i]? with
  | some (some (.dat (.adr b))) => decide (b = a)
  | _ => false
theorem Sit.isSc {W : Wd Unit} (e : Sit K W c σ H Γ t) {i : Nat} (h : DC.isSc a Γ i = true) : σ[i]? = some (some (.ref a)) := by
  unfold DC.isSc at h
  split at h
  · rename_i b hb
    have hb' := of_decide_eq_true h
    subst hb'
    obtain ⟨v, h1, h2⟩ := e.dat i _ hb
    unfold Rep at h2
    subst h2
    exact h1
  · cases h
/-- len(script) -/
def mScLen (a : Addr) (ns : List Int) (i : Nat) : Ex Unit := fun Γ t => if isSc a Γ i = true then .ok (.int ns.length) t else .bad
theorem pm_scLen (i : Nat) {x : Str} {p0 p1 pos : Pos} (hm : X.mg "len" = none) (hN : X.N[i]? = some x := by rfl) (hv : Vis X.env.scope x := by first | exact Or.inl rfl | exact Or.inr (Or.inl rfl) | exact Or.inr (Or.inr rfl)) (hd : (x == ("__debug__" : Str)) = false := by decide)
    (hcd : (x == ("__classdict__" : Str)) = false := by decide) (hg : Gl X "len" := by rfl)
    (he : starEach [.Name x p1] X.env = (false, eval (.Name x p1) X.env) :: starEach [] X.env := by rfl) (hpl : (backTo pos (starEach [] X.env)).any (·.1) = false := by rfl) :
    Pm X (WSc a ns) B s (.Call (.Name "len" p0) [.Name x p1] [] pos) (mScLen a ns i) :=
  pm_of (pe_callB call_len hg hm (by decide +kernel) (pa_cons (pv i hN hv hd hcd) pa_nil he) (by decide) (by decide) he hpl) fun c σ H Γ t Q e p => by
    unfold mScLen at p
    by_cases h : isSc a Γ i = true
    · rw [if_pos h] at p
      exact ⟨_, e.isSc h, .ref a, ns.length, rfl, .inl ⟨_, sc_sql e.wr, by rw [List.length_map]⟩, p _ H e (.inl rep_int)⟩
    · rw [if_neg h] at p; exact p.elim
/-- script[:63] -/
def mScSl (a : Addr) (ns : List Int) (i : Nat) : Ar Unit := fun Γ t => if isSc a Γ i = true ∧ ns.length ≤ 16777216 then .ok (cut (ns.map D.int) none (some 63)) t else .bad
theorem lm_scSl (i : Nat) {x : Str} {j : Nat} {p1 p2 p3 p4 : Pos} (hN : X.N[i]? = some x := by rfl) (hv : Vis X.env.scope x := by first | exact Or.inl rfl | exact Or.inr (Or.inl rfl) | exact Or.inr (Or.inr rfl)) (hd : (x == ("__debug__" : Str)) = false := by decide)
    (hcd : (x == ("__classdict__" : Str)) = false := by decide) : Lm X (WSc a ns) B (.Subscript (.Name x p1) (.Slice none (some (.Constant (.int 63) j p2)) none p3) p4) (mScSl a ns i) :=
  lm_of (pe_slice sl_list (pv i hN hv hd hcd) po_none (po_some pe_int)) fun c σ H Γ t Q e p => by
    unfold mScSl at p
    by_cases h : isSc a Γ i = true ∧ ns.length ≤ 16777216
    · rw [if_pos h] at p
      refine ⟨_, e.isSc h.1, 63, rfl, a, _, rfl, sc_sql e.wr, fun q hq => ?_⟩
      have h2 : Reps X.K (c.okA (WSc a ns) σ Γ t) H (ns.map D.int) (ns.map V.int) := reps_ints ns
      refine p q _ H e hq (h2.cut none (some 63)) ?_
      have := cutV_length (ns.map V.int) none (some 63)
      rw [List.length_map] at this
      omega
    · rw [if_neg h] at p; exact p.elim
end
end DC
/-! ## the law's own call: no repr is under way around it -/
namespace DC
open PySem PySem.Spec PyProof.Rows L2
section
variable {P : Program} {w : World} {K : PySem.W.Frag} {mg : Str → Option Value} {base : Heap}
/-- a def's promise from one place A -/
def RunAt (P : Program) (w : World) (K : PySem.W.Frag) (mg : Str → Option Value) (base : Heap) (CX : CXT) (A : Around) (f : Addr) (fd : FuncData) (ps : List Str) (sp : Sp) : Prop :=
  ∀ (outer : List PySem.Env) (s : Shared) (H : Hp) (args : Args) (us : List Value) (vs : List V) (Q : VK) (E : XK), Env0 P w K mg base A outer s H → BindsTo s fd args (ps.zip us) → Vals vs us → sp vs H Q E →
    codeAny (model P w) A (.call (.ref f) args) (CR CX outer P w H s Q E) s
theorem run_at {x qual : Str} {st : Stmt} {f : Addr} {fd : FuncData} {N ps : List Str} {k : Nat} {sp : Sp} {A : Around} (F : Fun K x qual st f fd) (S : FnScope N ps (defScope st)) (hr : Room (k + 1) A) (len : ∀ vs H Q E, sp vs H Q E → vs.length = ps.length)
    (hb : ∀ (cdv : Value) (outer : List PySem.Env) (s : Shared) (H : Hp) (vs : List V) (Q : VK) (E : XK), Room k (A.deeper (envOfC qual (defScope st) s.heap.objs.size f cdv)) → sp vs H Q E →
      ∃ t, PSs (cxOf (L2.CX P w) P w K mg base N qual (defScope st) f cdv A outer s H E) (defBody st) t ∧ t { nx := fun _ H' => Q .non H', rt := Q } (start N vs) H) : RunAt P w K mg base (L2.CX P w) A f fd ps sp := by
  obtain ⟨oc, od, kV, doc, pm, an, cdv, ct, osl, rfl, lk, hcd⟩ := F.ex
  intro outer s H args us vs Q E en bd rv hs
  have n0 := len vs H Q E hs
  have kin : K.In s.heap := en.mod.kin.keeps fun a o z => (en.bs a o z).1
  have nol : s.heap.NoLimit := en.mod.nolimit.keeps fun a o z => (en.bs a o z).1
  have kd : ∀ z ∈ ps.zip us, (defScope st).names.lookup z.1 = some .local ∨ ((defScope st).names.lookup z.1 = some .cell ∧ ((cellsFrom (s.heap.objs.size + 1) (defScope st).names []).lookup z.1).isSome = true) := fun z hz => by
    rcases S.par z.1 (List.of_mem_zip (a := z.1) (b := z.2) hz).1 with h | h
    · exact Or.inl h
    · exact Or.inr ⟨h, PySem.W.cellsFrom_some _ _ _ (Or.inl h)⟩
  apply codeAny_call_function hr.depth (kin _ _ lk) rfl S.co S.gen rfl (PySem.W.codeRec_of kin hcd)
  apply bd
  apply wpAny_newFunctionEnv_cells S.kind kd
  intro env henv s1 ic
  subst henv
  refine ⟨nol.keeps ic.toInCall.keep, codeAny_func ?_⟩
  obtain ⟨t, h1, h2⟩ := hb cdv outer s H vs Q E (hr.deeper _) hs
  have J : Inv (cxOf (L2.CX P w) P w K mg base N qual (defScope st) f cdv A outer s H E) [] (start N vs) H s1 := inv_start S hr.hd en n0 rv ic
  apply wpAny_mono (h1.run [] s1 (start N vs) H _ J h2)
  · intro fl s2 z
    cases fl with
    | ret u =>
      obtain ⟨v, τ, H2, J2, r2, q2⟩ := z
      exact ⟨v, H2, J2.os, J2.bare, J2.base, J2.hok, r2, q2⟩
    | next =>
      obtain ⟨τ, H2, J2, q2⟩ := z
      exact ⟨.non, H2, J2.os, J2.bare, J2.base, J2.hok, rfl, q2⟩
    | brk => obtain ⟨_, _, _, q2⟩ := z; exact q2.elim
    | cont => obtain ⟨_, _, _, q2⟩ := z; exact q2.elim
  · intro e s2 z
    exact z
/-- the law is called with its script, from the row's own place -/
theorem law_g {mb : Str → Option Value} {CX : CXT} {fa sc : Addr} {fd : FuncData} {x : Str} {sp : Sp} {s1 : Shared} {vs : List Value} {ns : List Int} (kin : K.In s1.heap) (nm : s1.heap.Ns mainGlobals mg) (nb : s1.heap.Ns builtinsNs mb) (bb : ∀ x : Str, x ≠ "__name__" → mb x = bootBuiltins x) (nol : s1.heap.NoLimit) (ng : s1.gens = #[])
    (hsc : s1.heap.get? sc = some { cls := .type "list", data := .seq vs.toArray }) (hin : IntsAre vs ns) (hle : ns.length ≤ sizeLine) (R : ∀ base : Heap, K.In base → base.Ns mainGlobals mg → RunAt P w K mg base CX callerA fa fd [x] sp)
    (hbd : ∀ (s : Shared) (u : Value), BindsTo s fd ⟨[u], []⟩ [(x, u)]) (hsp : ∀ H : Hp, Only H → SqL K H sc (ns.map V.int) → sp [.ref sc] H (fun v _ => v = .bl true) fun _ _ _ => False) (hno : ∀ H e s', CX [] H s1 (fun _ _ _ => False) e s' → False) :
    codeAny (model P w) callerA (.call (.ref fa) ⟨[.ref sc], []⟩) (fun r s2 => r = .ok (.ret (.bool true)) ∧ OldK s1.heap s2.heap ∧ s2.os = s1.os ∧ AllBare s2.gens) s1 := by
  have vals := vals_ints hin
  have vlen := hin.length
  -- H tracks the script at most
  have main : ∀ H : Hp, Only H → SqL K H sc (ns.map V.int) → HOk P w H s1.heap → (∀ a, H a ≠ none → a = sc) → (H sc ≠ none → K.lookup sc = none) → codeAny (model P w) callerA (.call (.ref fa) ⟨[.ref sc], []⟩) (fun r s2 => r = .ok (.ret (.bool true)) ∧ OldK s1.heap s2.heap ∧ s2.os = s1.os ∧ AllBare s2.gens) s1 := by
    intro H only sq ok0 just lone
    have stays : ∀ {a : Addr} {o : Obj}, s1.heap.get? a = some o → H a = none → (hidT s1.heap H).get? a = some o := fun z h => hidT_get z h
    have nod : ∀ {a : Addr} {o : Obj} {es : Array DictEntry} {ep : Nat}, s1.heap.get? a = some o → o.data = .dict es ep → H a = none := by
      intro a o es ep z hd
      cases q : H a with
      | none => rfl
      | some u =>
        obtain rfl : a = sc := just a (by rw [q]; simp)
        rw [hsc] at z
        cases z
        exact nomatch (show Data.seq vs.toArray _ = Data.dict es ep from hd)
    have nss : ∀ {a : Addr} {m : Str → Option Value}, s1.heap.Ns a m → (hidT s1.heap H).Ns a m := by
      rintro a m ⟨o, es, ep, z, hd, r⟩
      exact ⟨o, es, ep, stays z (nod z hd), hd, r⟩
    have kinT : K.In (hidT s1.heap H) := by
      intro a o z
      refine stays (kin a o z) ?_
      cases q : H a with
      | none => rfl
      | some u =>
        obtain rfl : a = sc := just a (by rw [q]; simp)
        rw [lone (by rw [q]; simp)] at z
        cases z
    obtain ⟨mc, l1, l2⟩ := nol
    have md : Mod K mg (hidT s1.heap H) := ⟨kinT, nss nm, ⟨mb, nss nb, bb⟩, ⟨mc, nss l1, l2⟩⟩
    have en : Env0 P w K mg (hidT s1.heap H) callerA [] s1 H := ⟨rfl, md, fun a o z => of_hidT z, Nat.le_of_eq (hidT_size _ _), trivial, fun a z => absurd (show a ∈ ([] : List Addr) from z) (by simp), ok0, .of_eq ng⟩
    apply codeAny_mono (R _ kinT (nss nm) [] s1 H ⟨[.ref sc], []⟩ [.ref sc] [.ref sc] _ _ en (hbd s1 (.ref sc)) (.cons rfl .nil) (hsp H only sq))
    intro r s2 z
    cases r with
    | error e => exact (hno H e s2 z).elim
    | ok fl =>
      cases fl with
      | next => exact z.elim
      | brk => exact z.elim
      | cont => exact z.elim
      | ret u =>
        obtain ⟨v, H2, os, bare, un, ok2, rv, q⟩ := z
        obtain rfl : v = .bl true := q
        obtain rfl : u = Value.bool true := rv
        refine ⟨rfl, OldK.of_keep ?_, os, bare⟩
        intro a o z
        cases q : H a with
        | none => exact un.keep a o z q (fun y => absurd (show a ∈ ([] : List Addr) from y) (by simp)) (by simp)
        | some u =>
          rcases only a with y | ⟨ob, xs, y⟩
          · rw [q] at y; cases y
          · have y2 := un.frzs a ob _ y
            obtain ⟨f1, _⟩ := ok0 a _ y
            obtain ⟨f2, _⟩ := ok2 a _ y2
            rw [z] at f1
            cases f1
            exact f2
  cases hk : K.lookup sc with
  | some o =>
    have z := kin sc o hk
    rw [hsc] at z
    cases z
    exact main (fun _ => none) (fun _ => Or.inl rfl) (Or.inr ⟨_, vs.toArray, _, hk, rfl, rfl, rfl, by rw [List.size_toArray, vlen]; exact hle, by simpa using vals⟩) (fun a u y => nomatch (show (none : Option HO) = some u from y)) (fun a y => absurd rfl y) fun y => absurd rfl y
  | none =>
    let ob : Obj := { cls := .type "list", data := .seq vs.toArray }
    let H1 : Hp := fun a => if a = sc then some (.frz ob (.lst (ns.map V.int))) else none
    have at_ : H1 sc = some (.frz ob (.lst (ns.map V.int))) := if_pos rfl
    have off : ∀ a, a ≠ sc → H1 a = none := fun a h => if_neg h
    refine main H1 (fun a => ?_) (Or.inl (Or.inr ⟨ob, at_⟩)) (fun a u y => ?_) (fun a y => ?_) fun _ => hk
    · by_cases h : a = sc
      · subst h; exact Or.inr ⟨_, _, at_⟩
      · exact Or.inl (off a h)
    · by_cases h : a = sc
      · subst h
        cases at_.symm.trans y
        exact ⟨hsc, by rw [List.length_map]; exact hle, vs, _, vals, hsc⟩
      · cases (off a h).symm.trans y
    · by_cases h : a = sc
      · exact h
      · exact absurd (off a h) y
end
/-- the law row from the law's promise, made at the row's own place -/
theorem walk_g {l : PySem.W.OpenLaw} {n : Nat} {q : Program} {loose : List Str} {XP : (Str → Option Value) → Heap → Prop} {YP : World → Heap → Prop} {d : DefRec} {CX : World → CXT} {x : Str} (hn : l.most = some n) (hn2 : n ≤ sizeLine) (hdf : d.params.defaults = [])
    (F : ∀ (w : World) (mg : Str → Option Value) (fa : Addr) (h : Heap), YP w h → h.Ns mainGlobals mg → mg d.name = some (.ref fa) → ∃ (K : PySem.W.Frag) (fd : FuncData) (sp : Sp), K.In h ∧ (∀ (s : Shared) (u : Value), BindsTo s fd ⟨[u], []⟩ [(x, u)]) ∧
      (∀ (H : Hp) (a : Addr) (ns : List Int), ns.length ≤ n → Only H → SqL K H a (ns.map V.int) → sp [.ref a] H (fun v _ => v = .bl true) fun _ _ _ => False) ∧ ∀ base : Heap, K.In base → base.Ns mainGlobals mg → RunAt l.prog w K mg base (CX w) callerA fa fd [x] sp)
    (hno : ∀ (w : World) (H : Hp) (s : Shared) (e : Value) (s' : Shared), CX w [] H s (fun _ _ _ => False) e s' → False) : PySem.W.WalkO q loose XP YP l.row.toRowW d [] (fun f vs => PySem.call f vs) := by
  apply Att.attach_call hn hdf
  intro w s0 s1 mg mb fa o pm cd doc a vs ns G Y ho hd hcd hmg hobj hints hlen hg
  obtain ⟨K, fd, sp, kin, hb, hsp, hR⟩ := F w mg fa s1.heap Y G.T.g hmg
  exact law_g kin G.T.g G.T.b G.T.builtins G.T.nolimit hg hobj hints (Nat.le_trans hlen hn2) hR hb (fun H only sq => hsp H a ns hlen only sq) fun H e s' => hno w H s1 e s'
end DC
/-! ## the law: its deck, then the rest -/
namespace DC
open PySem PySem.Spec PyProof.Rows L2
def spLaw (K : PySem.W.Frag) : Sp := fun vs H Q _ => ∃ (a : Addr) (ns : List Int), vs = [.ref a] ∧ ns.length ≤ 63 ∧ Only H ∧ SqL K H a (ns.map V.int) ∧ ∀ H', Q (.bl true) H'
theorem sc_rep {K : PySem.W.Frag} {H : Hp} {a : Addr} {ns : List Int} (ho : Only H) (h : SqL K H a (ns.map V.int)) : (WSc a ns).rep K () H := by
  rcases h with (h | ⟨o, h⟩) | h
  · rcases ho a with z | ⟨o, xs, z⟩
    · rw [z] at h; cases h
    · rw [z] at h; cases h
  · exact .inl ⟨o, h⟩
  · exact .inr ⟨_, rfl, fun H' => .inr h⟩
theorem repL {K : PySem.W.Frag} {ok : Addr → Prop} {H : Hp} {ds : List D} {v : V} (h : Rep K ok H (.lst ds) v) : ∃ a vs, v = .ref a ∧ LNode K ok H a vs ∧ Reps K ok H ds vs := by
  unfold Rep at h
  exact h
theorem reps_int {K : PySem.W.Frag} {ok : Addr → Prop} {H : Hp} : ∀ {is : List Int} {vs : List V}, Reps K ok H (is.map D.int) vs → vs = is.map V.int
  | [], vs, h => by unfold Reps at h; exact h
  | i :: is, vs, h => by
    rw [List.map_cons] at h
    unfold Reps at h
    obtain ⟨v, r, rfl, h1, h2⟩ := h
    unfold Rep at h1
    rw [h1, reps_int h2]
    rfl
/-- where a new deck stands -/
theorem new_deck {K : PySem.W.Frag} {H : Hp} {gr sm : List Int} {v : V} {ok : Addr → Prop} (hok : ∀ b, ok b → True) (hne : gr ≠ sm) (h : Rep K ok H (.lst [.lst (gr.map D.int), .lst (sm.map D.int), .int 0]) v) :
    ∃ A : DkA, v = .ref A.p ∧ (WDk A).rep K ⟨gr, sm, 0⟩ H := by
  obtain ⟨p, vs, rfl, ⟨_, n1⟩, h⟩ := repL h
  unfold Reps at h
  obtain ⟨v0, r, rfl, h0, h⟩ := h
  unfold Reps at h
  obtain ⟨v1, r, rfl, h1, h⟩ := h
  unfold Reps at h
  obtain ⟨v2, r, rfl, h2, h⟩ := h
  unfold Reps at h
  subst h
  unfold Rep at h2
  subst h2
  obtain ⟨p0, u0, rfl, ⟨_, n2⟩, h0⟩ := repL h0
  obtain ⟨p1, u1, rfl, ⟨_, n3⟩, h1⟩ := repL h1
  have e0 := reps_int h0
  have e1 := reps_int h1
  subst e0 e1
  refine ⟨⟨p, p0, p1⟩, rfl, ⟨fun z => ?_, fun z => ?_, fun z => ?_⟩, n1, n2, n3⟩
  · have z' : p = p0 := z
    rw [z', n2] at n1
    cases gr <;> cases n1
  · have z' : p = p1 := z
    rw [z', n3] at n1
    cases sm <;> cases n1
  · have z' : p0 = p1 := z
    rw [z', n3] at n2
    have e : sm.map V.int = gr.map V.int := by
      have := Option.some.inj n2
      injection this
    have inj : ∀ {a b : List Int}, a.map V.int = b.map V.int → a = b := by
      intro a
      induction a with
      | nil => intro b h; cases b <;> first | rfl | cases h
      | cons x xs ih =>
        intro b h
        cases b with
        | nil => cases h
        | cons y ys =>
          rw [List.map_cons, List.map_cons] at h
          injection h with h1 h2
          injection h1 with h1
          rw [h1, ih h2]
    exact hne (inj e).symm
def Gd (A : DkA) (m : Nat) : Gm := none :: some (.dat (.adr A.p)) :: List.replicate m none
theorem deck_sit {K : PySem.W.Frag} {H : Hp} {A : DkA} {t : Dk} {σ : L2.St} {m : Nat} (h : (WDk A).rep K t H) (hl : σ.length = m + 2) (h1 : σ[1]? = some (some (.ref A.p))) :
    Sit K (WDk A) { H0 := H, t0 := t, O0 := fun _ => False, ok0 := fun a => H a = none ∨ True } σ H (Gd A m) t := by
  have no : ∀ (i : Nat) (ds : List D), (Gd A m)[i]? ≠ some (some (.own ds)) := by
    intro i ds z
    match i, z with
    | 0, z => cases z
    | 1, z => cases z
    | i + 2, z =>
      have z' : (List.replicate m (none : Option Sl))[i]? = some (some (.own ds)) := z
      rw [List.getElem?_replicate] at z'
      split at z' <;> cases z'
  refine { wr := h, keep := fun a o z _ => z, dom := fun a z => z, okf := fun a _ => .inr trivial, ft := fun a z => .inl z, len := by rw [hl]; simp [Gd], dat := fun i d z => ?_, own := fun i ds z => absurd z (no i ds), dis := fun i _ di _ _ _ z => absurd z (no i di) }
  match i, z with
  | 0, z => cases z
  | 1, z =>
    cases z
    exact ⟨_, h1, by unfold Rep; rfl⟩
  | i + 2, z =>
    have z' : (List.replicate m (none : Option Sl))[i]? = some (some (.dat d)) := z
    rw [List.getElem?_replicate] at z'
    split at z' <;> cases z'
section
variable {P : Program} {w : World} {K : PySem.W.Frag} {mg : Str → Option Value} {base : Heap}
theorem law_run {st : Stmt} {f : Addr} {fd : FuncData} {N : List Str} {k kd m : Nat} {A : Around} {p1 p2 p3 p4 p5 : Pos} {rest : List Stmt} {bl : DkA → Bl Dk} {fdk : Addr → List Int → FnW Unit} {gr sm : List Int → List Int} (F : Fun K "law" "law" st f fd) (S : FnScope N ["_law_script"] (defScope st)) (hr : Room (k + 1) A)
    (hN0 : N[0]? = some ("_law_script" : Str)) (hN : N[1]? = some ("_law_deck_here" : Str)) (hl : N.length = m + 2) (hx : Loc (defScope st) "_law_deck_here") (hv : Vis (defScope st) "_law_script") (hkd : kd ≤ k)
    (hdef : defBody st = .Assign [.Name "_law_deck_here" p1] (.Call (.Name "_law_deck" p2) [.Name "_law_script" p3] [] p4) p5 :: rest)
    (hgd : ∀ (cdv : Value) (outer : List PySem.Env) (s : Shared) (H : Hp) (E : XK), Gl (cxOf (L2.CX P w) P w K mg base N "law" (defScope st) f cdv A outer s H E) "_law_deck")
    (hsw : ∀ (cdv : Value) (outer : List PySem.Env) (s : Shared) (H : Hp) (E : XK), swapsWith (.Call (.Name "_law_deck" p2) [.Name "_law_script" p3] [] p4) (some (.Name "_law_deck_here" p1)) p5.line (cxOf (L2.CX P w) P w K mg base N "law" (defScope st) f cdv A outer s H E).env = pure false)
    (gd : ∀ a ns, GoodW P w K mg base (WSc a ns) kd "_law_deck" (fdk a ns)) (hdk : ∀ a ns, ns.length ≤ 63 → fdk a ns [.adr a] () = .ok (.lst [.lst ((gr ns).map D.int), .lst ((sm ns).map D.int), .int 0]) ()) (hne : ∀ ns, ns.length ≤ 63 → gr ns ≠ sm ns)
    (hrest : ∀ (a : DkA) (cdv : Value) (outer : List PySem.Env) (s : Shared) (H : Hp) (E : XK), Room k (A.deeper (envOfC "law" (defScope st) s.heap.objs.size f cdv)) → Bm (cxOf (L2.CX P w) P w K mg base N "law" (defScope st) f cdv A outer s H E) (WDk a) (WD E) rest (bl a))
    (hend : ∀ (a : DkA) (ns : List Int), ns.length ≤ 63 → ∃ t', bl a (Gd a m) ⟨gr ns, sm ns, 0⟩ = .rt (.bl true) t') : RunAt P w K mg base (L2.CX P w) A f fd ["_law_script"] (spLaw K) := by
  refine run_at F S hr (fun vs H Q E h => ?_) fun cdv outer s H vs Q E hr2 hs => ?_
  · obtain ⟨a, ns, rfl, _⟩ := h
    rfl
  · obtain ⟨a, ns, rfl, hl63, ho, hq, hfin⟩ := hs
    obtain ⟨fa, fdd, ps, g1, g2, g3, g4⟩ := (gd a ns).ex
    let X := cxOf (L2.CX P w) P w K mg base N "law" (defScope st) f cdv A outer s H E
    have nd := S.nd
    have pa : PA X [.Name "_law_script" p3] (tCons (tVar 0) tNil) := pa_cons (pv 0 hN0 hv (by decide) (by decide)) pa_nil
    have pc : PE X (.Call (.Name "_law_deck" p2) [.Name "_law_script" p3] [] p4) (tCallS (spW K mg (WSc a ns) (fdk a ns)) (WE (WD E)) (tCons (tVar 0) tNil)) := pe_callS g4 (hr2.mono hkd) (hgd cdv outer s H E) g1 g2 g3 pass_def pa
    have p0 : PS X (.Assign [.Name "_law_deck_here" p1] (.Call (.Name "_law_deck" p2) [.Name "_law_script" p3] [] p4) p5) _ := ps_set (i := 1) nd hN hx pc (hsw cdv outer s H E)
    have pr : PSs X rest (fun D σ H => ∃ dk : DkA, tMS K mg (WDk dk) (WD E) (bl dk) D σ H) := ⟨fun pins s' σ H' D I ⟨dk, z⟩ => (hrest dk cdv outer s H E hr2).run pins s' σ H' D I z⟩
    rw [hdef]
    refine ⟨_, pss_cons p0 pr, ?_⟩
    have st0 : (L2.start N [V.ref a])[0]? = some (some (.ref a)) := rfl
    have sl : (L2.start N [V.ref a]).length = m + 2 := by
      unfold L2.start
      rw [List.length_append, List.length_replicate]
      simp
      omega
    have wr : (WSc a ns).rep K () H := sc_rep ho hq
    refine ⟨_, st0, { H0 := H, t0 := (), O0 := fun _ => False, ok0 := fun b => H b = none }, [.adr a], (), fun _ z => z, { wr := wr, keep := fun b o z _ => z, dom := fun b z => z, okf := fun b z => z, ft := fun b z => .inl z }, ?_, ?_⟩
    · exact .cons (by unfold Rep; rfl) (by unfold Reps; rfl)
    · rw [hdk a ns hl63]
      intro v H1 sw rv
      obtain ⟨dk, rfl, rep⟩ := new_deck (gr := gr ns) (sm := sm ns) (fun _ _ => trivial) (hne ns hl63) rv
      obtain ⟨t', e⟩ := hend dk ns hl63
      show ∃ dk' : DkA, tMS K mg (WDk dk') (WD E) (bl dk') _ _ H1
      refine ⟨dk, _, Gd dk m, ⟨gr ns, sm ns, 0⟩, deck_sit rep (by rw [List.length_set]; exact sl) (by rw [List.getElem?_set_self (by rw [sl]; omega)]), ?_⟩
      rw [e]
      intro u H2 _ ru
      unfold Rep at ru
      subst ru
      exact hfin H2
end
end DC
namespace DC
open PySem L2
/-! ## loops, comprehensions, items -/
theorem atI_nat {α : Type} (xs : List α) (i : Nat) : L2.atI xs (i : Int) = xs[i]? := by
  unfold L2.atI L2.ixN
  rw [if_pos (Int.natCast_nonneg i)]
  by_cases h : i < xs.length
  · rw [if_pos (by omega)]; simp
  · rw [if_neg (by omega)]; simp; omega
theorem atI_0 {α : Type} (x : α) (xs : List α) : L2.atI (x :: xs) 0 = some x := atI_nat (x :: xs) 0
theorem atI_1 {α : Type} (x y : α) (xs : List α) : L2.atI (x :: y :: xs) 1 = some y := atI_nat (x :: y :: xs) 1
theorem atI_2 {α : Type} (x y z : α) (xs : List α) : L2.atI (x :: y :: z :: xs) 2 = some z := atI_nat (x :: y :: z :: xs) 2
theorem bl_dec {a b : Int} : (a == b) = decide (a = b) := by by_cases h : a = b <;> simp [h]
section
variable {T : Type}
/-- a comprehension whose parts go through -/
theorem lcGo_ok {tgt : Tg} {cond : Te T} {elt : Ex T} {Γw : Gm} {g : D → D} {t : T} : ∀ (ds acc : List D), acc.length + ds.length ≤ 16777216 → (∀ d ∈ ds, ∃ Γ2, tgt d Γw = some Γ2 ∧ cond Γ2 t = .ok true t ∧ elt Γ2 t = .ok (g d) t) → lcGo tgt cond elt Γw ds acc t = .ok (acc ++ ds.map g) t
  | [], acc, _, _ => by simp [lcGo]
  | d :: ds, acc, hl, h => by
    obtain ⟨Γ2, h1, h2, h3⟩ := h d (List.mem_cons_self ..)
    have hl' : acc.length + (ds.length + 1) ≤ 16777216 := hl
    have e : lcGo tgt cond elt Γw (d :: ds) acc t = lcGo tgt cond elt Γw ds (acc ++ [g d]) t := by
      rw [lcGo, h1]
      simp only [h2, h3]
      rw [if_pos (by omega)]
    rw [e, lcGo_ok ds (acc ++ [g d]) (by simp; omega) fun x hx => h x (List.mem_cons_of_mem _ hx)]
    simp
/-- the same over coded items -/
theorem lcGo_map {α : Type} {tgt : Tg} {cond : Te T} {elt : Ex T} {Γw : Gm} {enc : α → D} {g : α → D} {t : T} : ∀ (xs : List α) (acc : List D), acc.length + xs.length ≤ 16777216 → (∀ x ∈ xs, ∃ Γ2, tgt (enc x) Γw = some Γ2 ∧ cond Γ2 t = .ok true t ∧ elt Γ2 t = .ok (g x) t) → lcGo tgt cond elt Γw (xs.map enc) acc t = .ok (acc ++ xs.map g) t
  | [], acc, _, _ => by simp [lcGo]
  | x :: xs, acc, hl, h => by
    obtain ⟨Γ2, h1, h2, h3⟩ := h x (List.mem_cons_self ..)
    have hl' : acc.length + (xs.length + 1) ≤ 16777216 := hl
    have e : lcGo tgt cond elt Γw ((x :: xs).map enc) acc t = lcGo tgt cond elt Γw (xs.map enc) (acc ++ [g x]) t := by
      rw [List.map_cons, lcGo, h1]
      simp only [h2, h3]
      rw [if_pos (by omega)]
    rw [e, lcGo_map xs (acc ++ [g x]) (by simp; omega) fun y hy => h y (List.mem_cons_of_mem _ hy)]
    simp
end
/-- a loop that ends by itself -/
theorem forGo_go {T : Type} {g : Tg} {b : Bl T} (I : Nat → Gm → T → Prop) : ∀ (ds : List D) (k : Nat) (Γ : Gm) (t : T), I k Γ t → (∀ i d Γ t, ds[i]? = some d → I (k + i) Γ t → ∃ Γ1 Γ2 t2, g d Γ = some Γ1 ∧ b Γ1 t = .nx Γ2 t2 ∧ I (k + i + 1) Γ2 t2) → ∃ Γ' t', forGo g b ds Γ t = .nx Γ' t' ∧ I (k + ds.length) Γ' t'
  | [], k, Γ, t, h, _ => ⟨Γ, t, rfl, h⟩
  | d :: ds, k, Γ, t, h, st => by
    obtain ⟨Γ1, Γ2, t2, h1, h2, h3⟩ := st 0 d Γ t rfl h
    obtain ⟨Γ', t', h4, h5⟩ := forGo_go I ds (k + 1) Γ2 t2 h3 fun i x Γ t hx hI => by
      have := st (i + 1) x Γ t hx (by rw [show k + (i + 1) = k + 1 + i by omega]; exact hI)
      rw [show k + (i + 1) + 1 = k + 1 + i + 1 by omega] at this
      exact this
    refine ⟨Γ', t', ?_, by rw [show k + (d :: ds).length = k + 1 + ds.length by simp; omega]; exact h5⟩
    rw [forGo, h1]
    simp only [h2]
    exact h4
end DC
namespace DC
open PySem L2 PySem.Spec
theorem _root_.L2.Room.un64 {k : Nat} {A : Around} (hr : Room k A) : A.units + 64 < cLine := by have := hr.un; omega
theorem _root_.L2.Room.un65 {k : Nat} {A : Around} (hr : Room k A) : A.units + 65 < cLine := by have := hr.un; omega
section
variable {T : Type} {X : Cx} {W : Wd T} {B : WX} {s : Bool}
theorem pm_globI {x : Str} {i : Int} {pos : Pos} (h : ∃ t, X.mg x = some (.int i t)) (hg : Gl X x := by rfl) (hd : (x == ("__debug__" : Str)) = false := by decide) : Pm X W B s (.Name x pos) (mC (.int i)) := by
  obtain ⟨t, h⟩ := h
  exact pm_glob (v := .int i) h ⟨t, rfl⟩ (fun _ _ => rep_int) hg hd
theorem pm_globS {x : Str} {z : Str} {pos : Pos} (h : ∃ t, X.mg x = some (.str z t)) (hg : Gl X x := by rfl) (hd : (x == ("__debug__" : Str)) = false := by decide) : Pm X W B s (.Name x pos) (mC (.str z)) := by
  obtain ⟨t, h⟩ := h
  exact pm_glob (v := .str z) h ⟨t, rfl⟩ (fun _ _ => rep_str) hg hd
def sBad : Bl T := fun _ _ => .bad
theorem sm_bad {st : Stmt} : Sm X W B st (sBad : Bl T) := ⟨fun pins s σ H Q I ⟨c, Γ, t, e, p⟩ => p.elim⟩
end
def topS (i : Nat) : Stmt := PySem.Challenge.pw_dearcurves_k70_texts_of_books.main.body.getD i (.Pass ⟨0, 0, 0, 0⟩)
structure Blts (mg : Str → Option Value) : Prop where
  len : mg "len" = none
  list : mg "list" = none
  isinstance : mg "isinstance" = none
  int : mg "int" = none
  bool : mg "bool" = none
  tuple : mg "tuple" = none
  str : mg "str" = none
  range : mg "range" = none
  sum : mg "sum" = none
  all : mg "all" = none
  enumerate : mg "enumerate" = none
  zip : mg "zip" = none
  repr : mg "repr" = none
  abs : mg "abs" = none
structure Consts (mg : Str → Option Value) : Prop where
  DIGITS : ∃ t, mg "DIGITS" = some (.str "0123456789" t)
  LONGEST : ∃ t, mg "LONGEST" = some (.int 14 t)
  LIMIT : ∃ t, mg "LIMIT" = some (.int 1000000000000 t)
  MAX_PRICE : ∃ t, mg "MAX_PRICE" = some (.int 1000000 t)
  MAX_STEPS : ∃ t, mg "MAX_STEPS" = some (.int 6 t)
  MAX_PERIODS : ∃ t, mg "MAX_PERIODS" = some (.int 6 t)
variable {P : Program} {w : World} {K : PySem.W.Frag} {mg : Str → Option Value} {base : Heap}

/-! is_integer -/
abbrev s_is_integer : Stmt := topS 8
abbrev N_is_integer : List Str := ["value"]
theorem sc_is_integer : FnScope N_is_integer ["value"] (defScope s_is_integer) := ⟨rfl, rfl, rfl, by decide +kernel, rfl, by decide +kernel, by decide +kernel⟩
def b_is_integer : Bl Unit := (sRet (mAndV (mUn (dIsi .int) (mVar 0)) (mNotV (mUn (dIsi .bl) (mVar 0)))))
def f_is_integer : Fn := runDef 1 1 (b_is_integer)
theorem g_is_integer {f : Addr} {fd : FuncData} (F : Fun K "is_integer" "is_integer" s_is_integer f fd) (hm : mg "is_integer" = some (.ref f)) (Tb : Blts mg) : Good P w K mg base 1 "is_integer" (f_is_integer) := by
  refine ⟨f, fd, _, hm, F.kp, F.binds (ps := ["value"]) fun _ _ _ _ _ _ us hl => match us, hl with | [_], _ => rfl, def_ok F sc_is_integer rfl rfl fun cdv A outer s H E hr => ?_⟩
  have nd := sc_is_integer.nd
  have hu := hr.un64
  have hu1 := hr.un65
  have hp := pass_def (P := P) (w := w) (K := K) (mg := mg) (base := base) (qual := "is_integer") (sc := defScope s_is_integer) (N := N_is_integer) (f := f) (cdv := cdv) (A := A) (outer := outer) (s := s) (H := H) (E := E)
  have hpo := passes_def (P := P) (w := w) (K := K) (mg := mg) (base := base) (qual := "is_integer") (sc := defScope s_is_integer) (N := N_is_integer) (f := f) (cdv := cdv) (A := A) (outer := outer) (s := s) (H := H) (E := E)
  have hc : (cxOf (L2.CX P w) P w K mg base N_is_integer "is_integer" (defScope s_is_integer) f cdv A outer s H E).calm = true := rfl
  exact (bm_one (sm_ret (s := false) (pm_and (pm_isi (s1 := false) .int Tb.isinstance Tb.int (by decide +kernel) (pm_var 0)) (pm_one (pm_not (s1 := false) (pm_isi (s1 := false) .bl Tb.isinstance Tb.bool (by decide +kernel) (pm_var 0)))))))

/-! is_integer_in -/
abbrev s_is_integer_in : Stmt := topS 9
abbrev N_is_integer_in : List Str := ["value", "low", "high"]
theorem sc_is_integer_in : FnScope N_is_integer_in ["value", "low", "high"] (defScope s_is_integer_in) := ⟨rfl, rfl, rfl, by decide +kernel, rfl, by decide +kernel, by decide +kernel⟩
def b_is_integer_in : Bl Unit := (sRet (mAndV (mCall f_is_integer (mCons (mVar 0) mNil)) (mChain (mVar 1) (ctLink dLe (mVar 0) (ctLast dLe (mVar 2))))))
def f_is_integer_in : Fn := runDef 3 3 (b_is_integer_in)
theorem g_is_integer_in {f : Addr} {fd : FuncData} (F : Fun K "is_integer_in" "is_integer_in" s_is_integer_in f fd) (hm : mg "is_integer_in" = some (.ref f)) (g_is_integer : Good P w K mg base 1 "is_integer" f_is_integer) : Good P w K mg base 2 "is_integer_in" (f_is_integer_in) := by
  refine ⟨f, fd, _, hm, F.kp, F.binds (ps := ["value", "low", "high"]) fun _ _ _ _ _ _ us hl => match us, hl with | [_, _, _], _ => rfl, def_ok F sc_is_integer_in rfl rfl fun cdv A outer s H E hr => ?_⟩
  have nd := sc_is_integer_in.nd
  have hu := hr.un64
  have hu1 := hr.un65
  have hp := pass_def (P := P) (w := w) (K := K) (mg := mg) (base := base) (qual := "is_integer_in") (sc := defScope s_is_integer_in) (N := N_is_integer_in) (f := f) (cdv := cdv) (A := A) (outer := outer) (s := s) (H := H) (E := E)
  have hpo := passes_def (P := P) (w := w) (K := K) (mg := mg) (base := base) (qual := "is_integer_in") (sc := defScope s_is_integer_in) (N := N_is_integer_in) (f := f) (cdv := cdv) (A := A) (outer := outer) (s := s) (H := H) (E := E)
  have hc : (cxOf (L2.CX P w) P w K mg base N_is_integer_in "is_integer_in" (defScope s_is_integer_in) f cdv A outer s H E).calm = true := rfl
  exact (bm_one (sm_ret (s := false) (pm_and (pm_call g_is_integer (hr.mono (by decide)) hp (am_cons (pm_var 0) am_nil)) (pm_one (pm_chain (s1 := false) (pm_var 1) (chm_link (s2 := false) op_le opd_le (pm_var 0) (chm_last (s2 := false) op_le opd_le (pm_var 2))))))))

/-! is_tuple_of -/
abbrev s_is_tuple_of : Stmt := topS 10
abbrev N_is_tuple_of : List Str := ["value", "many"]
theorem sc_is_tuple_of : FnScope N_is_tuple_of ["value", "many"] (defScope s_is_tuple_of) := ⟨rfl, rfl, rfl, by decide +kernel, rfl, by decide +kernel, by decide +kernel⟩
def b_is_tuple_of : Bl Unit := (sRet (mAndV (mUn (dIsi .tup) (mVar 0)) (mOp dEq (mBlt (d1 dLen) (mCons (mVar 0) mNil)) (mVar 1))))
def f_is_tuple_of : Fn := runDef 2 2 (b_is_tuple_of)
theorem g_is_tuple_of {f : Addr} {fd : FuncData} (F : Fun K "is_tuple_of" "is_tuple_of" s_is_tuple_of f fd) (hm : mg "is_tuple_of" = some (.ref f)) (Tb : Blts mg) : Good P w K mg base 1 "is_tuple_of" (f_is_tuple_of) := by
  refine ⟨f, fd, _, hm, F.kp, F.binds (ps := ["value", "many"]) fun _ _ _ _ _ _ us hl => match us, hl with | [_, _], _ => rfl, def_ok F sc_is_tuple_of rfl rfl fun cdv A outer s H E hr => ?_⟩
  have nd := sc_is_tuple_of.nd
  have hu := hr.un64
  have hu1 := hr.un65
  have hp := pass_def (P := P) (w := w) (K := K) (mg := mg) (base := base) (qual := "is_tuple_of") (sc := defScope s_is_tuple_of) (N := N_is_tuple_of) (f := f) (cdv := cdv) (A := A) (outer := outer) (s := s) (H := H) (E := E)
  have hpo := passes_def (P := P) (w := w) (K := K) (mg := mg) (base := base) (qual := "is_tuple_of") (sc := defScope s_is_tuple_of) (N := N_is_tuple_of) (f := f) (cdv := cdv) (A := A) (outer := outer) (s := s) (H := H) (E := E)
  have hc : (cxOf (L2.CX P w) P w K mg base N_is_tuple_of "is_tuple_of" (defScope s_is_tuple_of) f cdv A outer s H E).calm = true := rfl
  exact (bm_one (sm_ret (s := false) (pm_and (pm_isi (s1 := false) .tup Tb.isinstance Tb.tuple (by decide +kernel) (pm_var 0)) (pm_one (pm_cmp (s1 := false) (s2 := false) (or_eq hu) opd_eq (pm_blt (s1 := false) call_len cd_len Tb.len (by decide +kernel) (am_cons (pm_var 0) am_nil)) (pm_var 1) (nomark _))))))

/-! step_error -/
abbrev s_step_error : Stmt := topS 12
abbrev N_step_error : List Str := ["steps", "index", "step", "least"]
theorem sc_step_error : FnScope N_step_error ["steps", "index"] (defScope s_step_error) := ⟨rfl, rfl, rfl, by decide +kernel, rfl, by decide +kernel, by decide +kernel⟩
def b_step_error : Bl Unit := (sSeq (sSet 2 (mOp dIx (mVar 0) (mVar 1)))
  (sSeq (sIf (mOr (mNot (mTest (mCall f_is_tuple_of (mCons (mVar 2) (mCons (mC (.int 2)) mNil))))) (mOr (mNot (mTest (mCall f_is_integer (mCons (mOp dIx (mVar 2) (mC (.int 0))) mNil)))) (mTest (mOp dLt (mOp dIx (mVar 2) (mC (.int 0))) (mC (.int 1)))))) (sRet (mC (.bl true))) sNil)
  (sSeq (sSet 3 (mIf (mTest (mOp dGt (mVar 1) (mC (.int 0)))) (mOp dAdd (mOp dIx (mOp dIx (mVar 0) (mOp dSub (mVar 1) (mC (.int 1)))) (mC (.int 1))) (mC (.int 1))) (mOp dSub (mC (.int 0)) (mC (.int (1000000))))))
  (sRet (mNotV (mCall f_is_integer_in (mCons (mOp dIx (mVar 2) (mC (.int 1))) (mCons (mVar 3) (mCons (mC (.int (1000000))) mNil)))))))))
def f_step_error : Fn := runDef 2 4 (b_step_error)
theorem g_step_error {f : Addr} {fd : FuncData} (F : Fun K "step_error" "step_error" s_step_error f fd) (hm : mg "step_error" = some (.ref f)) (Tc : Consts mg) (g_is_integer : Good P w K mg base 1 "is_integer" f_is_integer) (g_is_integer_in : Good P w K mg base 2 "is_integer_in" f_is_integer_in) (g_is_tuple_of : Good P w K mg base 1 "is_tuple_of" f_is_tuple_of) : Good P w K mg base 3 "step_error" (f_step_error) := by
  refine ⟨f, fd, _, hm, F.kp, F.binds (ps := ["steps", "index"]) fun _ _ _ _ _ _ us hl => match us, hl with | [_, _], _ => rfl, def_ok F sc_step_error rfl rfl fun cdv A outer s H E hr => ?_⟩
  have nd := sc_step_error.nd
  have hu := hr.un64
  have hu1 := hr.un65
  have hp := pass_def (P := P) (w := w) (K := K) (mg := mg) (base := base) (qual := "step_error") (sc := defScope s_step_error) (N := N_step_error) (f := f) (cdv := cdv) (A := A) (outer := outer) (s := s) (H := H) (E := E)
  have hpo := passes_def (P := P) (w := w) (K := K) (mg := mg) (base := base) (qual := "step_error") (sc := defScope s_step_error) (N := N_step_error) (f := f) (cdv := cdv) (A := A) (outer := outer) (s := s) (H := H) (E := E)
  have hc : (cxOf (L2.CX P w) P w K mg base N_step_error "step_error" (defScope s_step_error) f cdv A outer s H E).calm = true := rfl
  exact (bm_cons (sm_set 2 nd (pm_ix (s1 := false) (s2 := false) (pm_var 0) (pm_var 1) (fun _ _ => rfl)))
    (bm_cons (sm_if (tm_w (wm_or (tm_not (tm_val (s := false) (pm_call g_is_tuple_of (hr.mono (by decide)) hp (am_cons (pm_var 2) (am_cons pm_int am_nil))))) (wm_or (tm_not (tm_val (s := false) (pm_call g_is_integer (hr.mono (by decide)) hp (am_cons (pm_ix (s1 := false) (s2 := false) (pm_var 2) pm_int (fun _ _ => rfl)) am_nil)))) (wm_or1 (tm_cmp (s1 := false) (s2 := false) op_lt opd_lt (pm_ix (s1 := false) (s2 := false) (pm_var 2) pm_int (fun _ _ => rfl)) pm_int (nomark _)))))) (bm_one (sm_ret (s := false) pm_bl)) bm_nil)
    (bm_cons (sm_set 3 nd (pm_if (tm_cmp (s1 := false) (s2 := false) op_gt opd_gt (pm_var 1) pm_int (nomark _)) (pm_op (s1 := false) (s2 := false) or_add opd_add (pm_ix (s1 := false) (s2 := false) (pm_ix (s1 := false) (s2 := false) (pm_var 0) (pm_op (s1 := false) (s2 := false) op_sub opd_sub (pm_var 1) pm_int) (fun _ _ => rfl)) pm_int (fun _ _ => rfl)) pm_int) (pm_op (s1 := false) (s2 := false) op_sub opd_sub pm_int (pm_globI Tc.MAX_PRICE))))
    (bm_one (sm_ret (s := false) (pm_not (s1 := false) (pm_call g_is_integer_in (hr.mono (by decide)) hp (am_cons (pm_ix (s1 := false) (s2 := false) (pm_var 2) pm_int (fun _ _ => rfl)) (am_cons (pm_var 3) (am_cons (pm_globI Tc.MAX_PRICE) am_nil))))))))))

/-! last_place -/
abbrev s_last_place : Stmt := topS 14
abbrev N_last_place : List Str := ["data", "count", "price"]
theorem sc_last_place : FnScope N_last_place ["data"] (defScope s_last_place) := ⟨rfl, rfl, rfl, by decide +kernel, rfl, by decide +kernel, by decide +kernel⟩
def b_last_place : Bl Unit := (sRet (mOp dAdd (mOp dIx (mVar 0) (mC (.int 0))) (mBlt (d1 dSum) (mCons (mL (mLc [1, 2] (mItems (mOp dIx (mVar 0) (mC (.int 2)))) (gT 2 (gsC (gN 1) (gsC (gN 2) gsN))) mYes (mVar 1))) mNil))))
def f_last_place : Fn := runDef 1 3 (b_last_place)
theorem g_last_place {f : Addr} {fd : FuncData} (F : Fun K "last_place" "last_place" s_last_place f fd) (hm : mg "last_place" = some (.ref f)) (Tb : Blts mg) : Good P w K mg base 1 "last_place" (f_last_place) := by
  refine ⟨f, fd, _, hm, F.kp, F.binds (ps := ["data"]) fun _ _ _ _ _ _ us hl => match us, hl with | [_], _ => rfl, def_ok F sc_last_place rfl rfl fun cdv A outer s H E hr => ?_⟩
  have nd := sc_last_place.nd
  have hu := hr.un64
  have hu1 := hr.un65
  have hp := pass_def (P := P) (w := w) (K := K) (mg := mg) (base := base) (qual := "last_place") (sc := defScope s_last_place) (N := N_last_place) (f := f) (cdv := cdv) (A := A) (outer := outer) (s := s) (H := H) (E := E)
  have hpo := passes_def (P := P) (w := w) (K := K) (mg := mg) (base := base) (qual := "last_place") (sc := defScope s_last_place) (N := N_last_place) (f := f) (cdv := cdv) (A := A) (outer := outer) (s := s) (H := H) (E := E)
  have hc : (cxOf (L2.CX P w) P w K mg base N_last_place "last_place" (defScope s_last_place) f cdv A outer s H E).calm = true := rfl
  exact (bm_one (sm_ret (s := false) (pm_op (s1 := false) (s2 := false) or_add opd_add (pm_ix (s1 := false) (s2 := false) (pm_var 0) pm_int (fun _ _ => rfl)) (pm_blt (s1 := false) (cr_sum hc) cd_sum Tb.sum (by decide +kernel) (am_cons (pm_l (lm_lc (own := [("count", 1), ("price", 2)]) hc nd (im_seq (pm_ix (s1 := false) (s2 := false) (pm_var 0) pm_int (fun _ _ => rfl))) (blkOk_by (own := [("count", 1), ("price", 2)]) (N := N_last_place) (by kernel_rfl)) (fun _ _ _ _ _ => (gt_tup hc (gts_cons (gt_name 1 nd) (gts_cons (gt_name 2 nd) gts_nil)))) (fun _ _ _ _ _ => ts_nil) (fun _ _ _ _ _ => (pm_var 1)))) am_nil)))))

/-! data_error -/
abbrev s_data_error : Stmt := topS 13
abbrev N_data_error : List Str := ["value", "low", "cost", "steps", "index"]
theorem sc_data_error : FnScope N_data_error ["value"] (defScope s_data_error) := ⟨rfl, rfl, rfl, by decide +kernel, rfl, by decide +kernel, by decide +kernel⟩
def b_data_error : Bl Unit := (sSeq (sIf (mOr (mNot (mTest (mCall f_is_tuple_of (mCons (mVar 0) (mCons (mC (.int 3)) mNil))))) (mNot (mTest (mUn (dIsi .tup) (mOp dIx (mVar 0) (mC (.int 2))))))) (sRet (mTup (mCons (mC (.str "form")) (mCons (mC .non) mNil)))) sNil)
  (sSeq (sAsg (mVar 0) (gT 3 (gsC (gN 1) (gsC (gN 2) (gsC (gN 3) gsN)))))
  (sSeq (sIf (mNot (mTest (mCall f_is_integer_in (mCons (mVar 1) (mCons (mOp dSub (mC (.int 0)) (mC (.int (1000000000000)))) (mCons (mC (.int (1000000000000))) mNil)))))) (sRet (mTup (mCons (mC (.str "low")) (mCons (mC .non) mNil)))) sNil)
  (sSeq (sIf (mNot (mTest (mCall f_is_integer_in (mCons (mVar 2) (mCons (mOp dSub (mC (.int 0)) (mC (.int (1000000000000)))) (mCons (mC (.int (1000000000000))) mNil)))))) (sRet (mTup (mCons (mC (.str "cost")) (mCons (mC .non) mNil)))) sNil)
  (sSeq (sIf (mTest (mOp dGt (mBlt (d1 dLen) (mCons (mVar 3) mNil)) (mC (.int (6))))) (sRet (mTup (mCons (mC (.str "steps")) (mCons (mC .non) mNil)))) sNil)
  (sSeq (sFor (mRange1 (mCons (mBlt (d1 dLen) (mCons (mVar 3) mNil)) mNil)) (gN 4) (sIf (mTest (mCall f_step_error (mCons (mVar 3) (mCons (mVar 4) mNil)))) (sRet (mTup (mCons (mC (.str "step")) (mCons (mVar 4) mNil)))) sNil))
  (sRet (mIf (mTest (mOp dGt (mCall f_last_place (mCons (mVar 0) mNil)) (mC (.int (1000000000000))))) (mTup (mCons (mC (.str "high")) (mCons (mC .non) mNil))) (mC .non)))))))))
def f_data_error : Fn := runDef 1 5 (b_data_error)
theorem g_data_error {f : Addr} {fd : FuncData} (F : Fun K "data_error" "data_error" s_data_error f fd) (hm : mg "data_error" = some (.ref f)) (Tb : Blts mg) (Tc : Consts mg) (g_is_integer_in : Good P w K mg base 2 "is_integer_in" f_is_integer_in) (g_is_tuple_of : Good P w K mg base 1 "is_tuple_of" f_is_tuple_of) (g_step_error : Good P w K mg base 3 "step_error" f_step_error) (g_last_place : Good P w K mg base 1 "last_place" f_last_place) : Good P w K mg base 4 "data_error" (f_data_error) := by
  refine ⟨f, fd, _, hm, F.kp, F.binds (ps := ["value"]) fun _ _ _ _ _ _ us hl => match us, hl with | [_], _ => rfl, def_ok F sc_data_error rfl rfl fun cdv A outer s H E hr => ?_⟩
  have nd := sc_data_error.nd
  have hu := hr.un64
  have hu1 := hr.un65
  have hp := pass_def (P := P) (w := w) (K := K) (mg := mg) (base := base) (qual := "data_error") (sc := defScope s_data_error) (N := N_data_error) (f := f) (cdv := cdv) (A := A) (outer := outer) (s := s) (H := H) (E := E)
  have hpo := passes_def (P := P) (w := w) (K := K) (mg := mg) (base := base) (qual := "data_error") (sc := defScope s_data_error) (N := N_data_error) (f := f) (cdv := cdv) (A := A) (outer := outer) (s := s) (H := H) (E := E)
  have hc : (cxOf (L2.CX P w) P w K mg base N_data_error "data_error" (defScope s_data_error) f cdv A outer s H E).calm = true := rfl
  exact (bm_cons (sm_if (tm_w (wm_or (tm_not (tm_val (s := false) (pm_call g_is_tuple_of (hr.mono (by decide)) hp (am_cons (pm_var 0) (am_cons pm_int am_nil))))) (wm_or1 (tm_not (tm_val (s := false) (pm_isi (s1 := false) .tup Tb.isinstance Tb.tuple (by decide +kernel) (pm_ix (s1 := false) (s2 := false) (pm_var 0) pm_int (fun _ _ => rfl)))))))) (bm_one (sm_ret (s := false) (pm_tup (am_cons pm_str (am_cons pm_non am_nil))))) bm_nil)
    (bm_cons (sm_asg (pm_var 0) (gt_tup hc (gts_cons (gt_name 1 nd) (gts_cons (gt_name 2 nd) (gts_cons (gt_name 3 nd) gts_nil)))))
    (bm_cons (sm_if (tm_not (tm_val (s := false) (pm_call g_is_integer_in (hr.mono (by decide)) hp (am_cons (pm_var 1) (am_cons (pm_op (s1 := false) (s2 := false) op_sub opd_sub pm_int (pm_globI Tc.LIMIT)) (am_cons (pm_globI Tc.LIMIT) am_nil)))))) (bm_one (sm_ret (s := false) (pm_tup (am_cons pm_str (am_cons pm_non am_nil))))) bm_nil)
    (bm_cons (sm_if (tm_not (tm_val (s := false) (pm_call g_is_integer_in (hr.mono (by decide)) hp (am_cons (pm_var 2) (am_cons (pm_op (s1 := false) (s2 := false) op_sub opd_sub pm_int (pm_globI Tc.LIMIT)) (am_cons (pm_globI Tc.LIMIT) am_nil)))))) (bm_one (sm_ret (s := false) (pm_tup (am_cons pm_str (am_cons pm_non am_nil))))) bm_nil)
    (bm_cons (sm_if (tm_cmp (s1 := false) (s2 := false) op_gt opd_gt (pm_blt (s1 := false) call_len cd_len Tb.len (by decide +kernel) (am_cons (pm_var 3) am_nil)) (pm_globI Tc.MAX_STEPS) (nomark _)) (bm_one (sm_ret (s := false) (pm_tup (am_cons pm_str (am_cons pm_non am_nil))))) bm_nil)
    (bm_cons (sm_for hpo hc (im_range1 (s1 := false) Tb.range (am_cons (pm_blt (s1 := false) call_len cd_len Tb.len (by decide +kernel) (am_cons (pm_var 3) am_nil)) am_nil)) (gt_name 4 nd) (bm_one (sm_if (tm_val (s := false) (pm_call g_step_error (hr.mono (by decide)) hp (am_cons (pm_var 3) (am_cons (pm_var 4) am_nil)))) (bm_one (sm_ret (s := false) (pm_tup (am_cons pm_str (am_cons (pm_var 4) am_nil))))) bm_nil)))
    (bm_one (sm_ret (s := false) (pm_if (tm_cmp (s1 := false) (s2 := false) op_gt opd_gt (pm_call g_last_place (hr.mono (by decide)) hp (am_cons (pm_var 0) am_nil)) (pm_globI Tc.LIMIT) (nomark _)) (pm_tup (am_cons pm_str (am_cons pm_non am_nil))) pm_non)))))))))

/-! data_text -/
abbrev s_data_text : Stmt := topS 15
abbrev N_data_text : List Str := ["data", "count", "price"]
theorem sc_data_text : FnScope N_data_text ["data"] (defScope s_data_text) := ⟨rfl, rfl, rfl, by decide +kernel, rfl, by decide +kernel, by decide +kernel⟩
def b_data_text : Bl Unit := (sRet (mM1 dJoinS (mC (.str " ")) (mL (mCat (mL (mSz (mCons (mBlt (d1 dStrI) (mCons (mOp dIx (mVar 0) (mC (.int 0))) mNil)) (mCons (mBlt (d1 dStrI) (mCons (mOp dIx (mVar 0) (mC (.int 1))) mNil)) mNil)))) (mL (mLc [1, 2] (mItems (mOp dIx (mVar 0) (mC (.int 2)))) (gT 2 (gsC (gN 1) (gsC (gN 2) gsN))) mYes (mJoin (jCons (mFmt (mVar 1)) (jCons (mC (.str "*")) (jCons (mFmt (mVar 2)) jNil))))))))))
def f_data_text : Fn := runDef 1 3 (b_data_text)
theorem g_data_text {f : Addr} {fd : FuncData} (F : Fun K "data_text" "data_text" s_data_text f fd) (hm : mg "data_text" = some (.ref f)) (Tb : Blts mg) : Good P w K mg base 1 "data_text" (f_data_text) := by
  refine ⟨f, fd, _, hm, F.kp, F.binds (ps := ["data"]) fun _ _ _ _ _ _ us hl => match us, hl with | [_], _ => rfl, def_ok F sc_data_text rfl rfl fun cdv A outer s H E hr => ?_⟩
  have nd := sc_data_text.nd
  have hu := hr.un64
  have hu1 := hr.un65
  have hp := pass_def (P := P) (w := w) (K := K) (mg := mg) (base := base) (qual := "data_text") (sc := defScope s_data_text) (N := N_data_text) (f := f) (cdv := cdv) (A := A) (outer := outer) (s := s) (H := H) (E := E)
  have hpo := passes_def (P := P) (w := w) (K := K) (mg := mg) (base := base) (qual := "data_text") (sc := defScope s_data_text) (N := N_data_text) (f := f) (cdv := cdv) (A := A) (outer := outer) (s := s) (H := H) (E := E)
  have hc : (cxOf (L2.CX P w) P w K mg base N_data_text "data_text" (defScope s_data_text) f cdv A outer s H E).calm = true := rfl
  exact (bm_one (sm_ret (s := false) (pm_joinS (s1 := false) (s2 := false) pm_str (pm_l (lm_cat (s1 := false) (s2 := false) (pm_l (lm_lst (am_cons (pm_ty (s1 := false) call_str_int cd_strI Tb.str (by decide +kernel) (am_cons (pm_ix (s1 := false) (s2 := false) (pm_var 0) pm_int (fun _ _ => rfl)) am_nil)) (am_cons (pm_ty (s1 := false) call_str_int cd_strI Tb.str (by decide +kernel) (am_cons (pm_ix (s1 := false) (s2 := false) (pm_var 0) pm_int (fun _ _ => rfl)) am_nil)) am_nil)))) (pm_l (lm_lc (own := [("count", 1), ("price", 2)]) hc nd (im_seq (pm_ix (s1 := false) (s2 := false) (pm_var 0) pm_int (fun _ _ => rfl))) (blkOk_by (own := [("count", 1), ("price", 2)]) (N := N_data_text) (by kernel_rfl)) (fun _ _ _ _ _ => (gt_tup hc (gts_cons (gt_name 1 nd) (gts_cons (gt_name 2 nd) gts_nil)))) (fun _ _ _ _ _ => ts_nil) (fun _ _ _ _ _ => (pm_join (jm_cons (pm_fmt (s1 := false) (pm_var 1)) (jm_cons pm_str (jm_cons (pm_fmt (s1 := false) (pm_var 2)) jm_nil))))))))))))

/-! read_integer -/
abbrev s_read_integer : Stmt := topS 19
abbrev N_read_integer : List Str := ["word", "digits", "sign"]
theorem sc_read_integer : FnScope N_read_integer ["word"] (defScope s_read_integer) := ⟨rfl, rfl, rfl, by decide +kernel, rfl, by decide +kernel, by decide +kernel⟩
def b_read_integer : Bl Unit := (sSeq (sSet 1 (mIf (mTest (mOp dEq (mSl (mVar 0) mNo (mPart (mC (.int 1)))) (mC (.str "-")))) (mSl (mVar 0) (mPart (mC (.int 1))) mNo) (mVar 0)))
  (sSeq (sIf (mOr (mNot (mTest (mChain (mC (.int 1)) (ctLink dLe (mBlt (d1 dLen) (mCons (mVar 1) mNil)) (ctLink dLe (mBlt (d1 dLen) (mCons (mVar 0) mNil)) (ctLast dLe (mC (.int (14))))))))) (mNot (mTest (mBlt (d1 dAll) (mCons (mL (mLc [2] (mSigns (mVar 1)) (gN 2) mYes (mOp (dIn false) (mVar 2) (mC (.str "0123456789"))))) mNil))))) (sRet (mC .non)) sNil)
  (sRet (mIf (mAnd (mTest (mOp dEq (mOp dIx (mVar 1) (mC (.int 0))) (mC (.str "0")))) (mTest (mOp dNe (mVar 0) (mC (.str "0"))))) (mC .non) (mBlt (d1 dIntA) (mCons (mVar 0) mNil))))))
def f_read_integer : Fn := runDef 1 3 (b_read_integer)
theorem g_read_integer {f : Addr} {fd : FuncData} (F : Fun K "read_integer" "read_integer" s_read_integer f fd) (hm : mg "read_integer" = some (.ref f)) (Tb : Blts mg) (Tc : Consts mg) : Good P w K mg base 1 "read_integer" (f_read_integer) := by
  refine ⟨f, fd, _, hm, F.kp, F.binds (ps := ["word"]) fun _ _ _ _ _ _ us hl => match us, hl with | [_], _ => rfl, def_ok F sc_read_integer rfl rfl fun cdv A outer s H E hr => ?_⟩
  have nd := sc_read_integer.nd
  have hu := hr.un64
  have hu1 := hr.un65
  have hp := pass_def (P := P) (w := w) (K := K) (mg := mg) (base := base) (qual := "read_integer") (sc := defScope s_read_integer) (N := N_read_integer) (f := f) (cdv := cdv) (A := A) (outer := outer) (s := s) (H := H) (E := E)
  have hpo := passes_def (P := P) (w := w) (K := K) (mg := mg) (base := base) (qual := "read_integer") (sc := defScope s_read_integer) (N := N_read_integer) (f := f) (cdv := cdv) (A := A) (outer := outer) (s := s) (H := H) (E := E)
  have hc : (cxOf (L2.CX P w) P w K mg base N_read_integer "read_integer" (defScope s_read_integer) f cdv A outer s H E).calm = true := rfl
  exact (bm_cons (sm_set 1 nd (pm_if (tm_cmp (s1 := false) (s2 := false) (or_eq hu) opd_eq (pm_sl (s1 := false) (pm_var 0) om_none (om_some (s := false) pm_int)) pm_str (nomark _)) (pm_sl (s1 := false) (pm_var 0) (om_some (s := false) pm_int) om_none) (pm_var 0)))
    (bm_cons (sm_if (tm_w (wm_or (tm_not (tm_chain (s1 := false) pm_int (chm_link (s2 := false) op_le opd_le (pm_blt (s1 := false) call_len cd_len Tb.len (by decide +kernel) (am_cons (pm_var 1) am_nil)) (chm_link (s2 := false) op_le opd_le (pm_blt (s1 := false) call_len cd_len Tb.len (by decide +kernel) (am_cons (pm_var 0) am_nil)) (chm_last (s2 := false) op_le opd_le (pm_globI Tc.LONGEST)))))) (wm_or1 (tm_not (tm_val (s := false) (pm_blt (s1 := false) (cr_all hc) cd_all Tb.all (by decide +kernel) (am_cons (pm_l (lm_lc (own := [("sign", 2)]) hc nd (im_signs (s1 := false) (pm_var 1)) (blkOk_by (own := [("sign", 2)]) (N := N_read_integer) (by kernel_rfl)) (fun _ _ _ _ _ => (gt_name 2 nd)) (fun _ _ _ _ _ => ts_nil) (fun _ _ _ _ _ => (pm_cmp (s1 := false) (s2 := false) (or_in hu1) (opd_in false) (pm_var 2) (pm_globS Tc.DIGITS) (by rfl))))) am_nil))))))) (bm_one (sm_ret (s := false) pm_non)) bm_nil)
    (bm_one (sm_ret (s := false) (pm_if (tm_w (wm_and (tm_cmp (s1 := false) (s2 := false) (or_eq hu) opd_eq (pm_ix (s1 := false) (s2 := false) (pm_var 1) pm_int (fun _ _ => rfl)) pm_str (nomark _)) (wm_and1 (tm_cmp (s1 := false) (s2 := false) (or_ne hu) opd_ne (pm_var 0) pm_str (nomark _))))) pm_non (pm_ty (s1 := false) call_intA cd_intA Tb.int (by decide +kernel) (am_cons (pm_var 0) am_nil)))))))

/-! read_integers -/
abbrev s_read_integers : Stmt := topS 20
abbrev N_read_integers : List Str := ["words", "found", "word"]
theorem sc_read_integers : FnScope N_read_integers ["words"] (defScope s_read_integers) := ⟨rfl, rfl, rfl, by decide +kernel, rfl, by decide +kernel, by decide +kernel⟩
def b_read_integers : Bl Unit := (sSeq (sSet 1 (mL (mLc [2] (mItems (mVar 0)) (gN 2) mYes (mCall f_read_integer (mCons (mVar 2) mNil)))))
  (sRet (mIf (mTest (mOp (dIn false) (mC .non) (mVar 1))) (mC .non) (mBlt (d1 dTupOf) (mCons (mVar 1) mNil)))))
def f_read_integers : Fn := runDef 1 3 (b_read_integers)
theorem g_read_integers {f : Addr} {fd : FuncData} (F : Fun K "read_integers" "read_integers" s_read_integers f fd) (hm : mg "read_integers" = some (.ref f)) (Tb : Blts mg) (g_read_integer : Good P w K mg base 1 "read_integer" f_read_integer) : Good P w K mg base 2 "read_integers" (f_read_integers) := by
  refine ⟨f, fd, _, hm, F.kp, F.binds (ps := ["words"]) fun _ _ _ _ _ _ us hl => match us, hl with | [_], _ => rfl, def_ok F sc_read_integers rfl rfl fun cdv A outer s H E hr => ?_⟩
  have nd := sc_read_integers.nd
  have hu := hr.un64
  have hu1 := hr.un65
  have hp := pass_def (P := P) (w := w) (K := K) (mg := mg) (base := base) (qual := "read_integers") (sc := defScope s_read_integers) (N := N_read_integers) (f := f) (cdv := cdv) (A := A) (outer := outer) (s := s) (H := H) (E := E)
  have hpo := passes_def (P := P) (w := w) (K := K) (mg := mg) (base := base) (qual := "read_integers") (sc := defScope s_read_integers) (N := N_read_integers) (f := f) (cdv := cdv) (A := A) (outer := outer) (s := s) (H := H) (E := E)
  have hc : (cxOf (L2.CX P w) P w K mg base N_read_integers "read_integers" (defScope s_read_integers) f cdv A outer s H E).calm = true := rfl
  exact (bm_cons (sm_setLc 1 (own := [("word", 2)]) hc nd rfl (sw_true rfl rfl rfl (by decide +kernel)) (im_seq (pm_var 0)) (blkOk_by (own := [("word", 2)]) (N := N_read_integers) (by kernel_rfl)) (fun _ _ _ _ _ => (gt_name 2 nd)) (fun _ _ _ _ _ => ts_nil) (fun _ _ _ _ _ => (pm_call g_read_integer (hr.mono (by decide)) pass_blk (am_cons (pm_var 2) am_nil))))
    (bm_one (sm_ret (s := false) (pm_if (tm_cmp (s1 := false) (s2 := false) (or_in hu1) (opd_in false) pm_non (pm_var 1) (by rfl)) pm_non (pm_ty (s1 := false) call_tuple_of cd_tupOf Tb.tuple (by decide +kernel) (am_cons (pm_var 1) am_nil))))))

/-! read_data -/
abbrev s_read_data : Stmt := topS 21
abbrev N_read_data : List Str := ["words", "pairs", "ends", "word", "pair"]
theorem sc_read_data : FnScope N_read_data ["words"] (defScope s_read_data) := ⟨rfl, rfl, rfl, by decide +kernel, rfl, by decide +kernel, by decide +kernel⟩
def b_read_data : Bl Unit := (sSeq (sSet 1 (mL (mLc [3] (mItems (mL (mSlL (mVar 0) (mPart (mC (.int 2))) mNo))) (gN 3) mYes (mCall f_read_integers (mCons (mL (mSplit (mVar 3) (mC (.str "*")))) mNil)))))
  (sSeq (sIfX (xOr (xNm 2 dIs (mCall f_read_integers (mCons (mL (mSlL (mVar 0) mNo (mPart (mC (.int 2))))) mNil)) (mC .non)) (mOr (mTest (mOp dLt (mBlt (d1 dLen) (mCons (mVar 2) mNil)) (mC (.int 2)))) (mTest (mOp (dIn false) (mC .non) (mVar 1))))) (sRet (mC .non)) sNil)
  (sRet (mIf (mTest (mBlt (d1 dAll) (mCons (mL (mLc [4] (mItems (mVar 1)) (gN 4) mYes (mOp dEq (mBlt (d1 dLen) (mCons (mVar 4) mNil)) (mC (.int 2))))) mNil))) (mTup (mStar (mVar 2) (mCons (mBlt (d1 dTupOf) (mCons (mVar 1) mNil)) mNil))) (mC .non)))))
def f_read_data : Fn := runDef 1 5 (b_read_data)
theorem g_read_data {f : Addr} {fd : FuncData} (F : Fun K "read_data" "read_data" s_read_data f fd) (hm : mg "read_data" = some (.ref f)) (Tb : Blts mg) (g_read_integers : Good P w K mg base 2 "read_integers" f_read_integers) : Good P w K mg base 3 "read_data" (f_read_data) := by
  refine ⟨f, fd, _, hm, F.kp, F.binds (ps := ["words"]) fun _ _ _ _ _ _ us hl => match us, hl with | [_], _ => rfl, def_ok F sc_read_data rfl rfl fun cdv A outer s H E hr => ?_⟩
  have nd := sc_read_data.nd
  have hu := hr.un64
  have hu1 := hr.un65
  have hp := pass_def (P := P) (w := w) (K := K) (mg := mg) (base := base) (qual := "read_data") (sc := defScope s_read_data) (N := N_read_data) (f := f) (cdv := cdv) (A := A) (outer := outer) (s := s) (H := H) (E := E)
  have hpo := passes_def (P := P) (w := w) (K := K) (mg := mg) (base := base) (qual := "read_data") (sc := defScope s_read_data) (N := N_read_data) (f := f) (cdv := cdv) (A := A) (outer := outer) (s := s) (H := H) (E := E)
  have hc : (cxOf (L2.CX P w) P w K mg base N_read_data "read_data" (defScope s_read_data) f cdv A outer s H E).calm = true := rfl
  exact (bm_cons (sm_setLc 1 (own := [("word", 3)]) hc nd rfl (sw_true rfl rfl rfl (by decide +kernel)) (im_seq (pm_l (lm_sl (s1 := false) (pm_var 0) (om_some (s := false) pm_int) om_none))) (blkOk_by (own := [("word", 3)]) (N := N_read_data) (by kernel_rfl)) (fun _ _ _ _ _ => (gt_name 3 nd)) (fun _ _ _ _ _ => ts_nil) (fun _ _ _ _ _ => (pm_call g_read_integers (hr.mono (by decide)) pass_blk (am_cons (pm_l (lm_split (s1 := false) (s2 := false) (pm_var 3) pm_str)) am_nil))))
    (bm_cons (sm_ifX (xm_or (xm_nm 2 nd op_isN opd_is (pm_call g_read_integers (hr.mono (by decide)) hp (am_cons (pm_l (lm_sl (s1 := false) (pm_var 0) om_none (om_some (s := false) pm_int))) am_nil)) pm_non (nomark _)) (wm_or (tm_cmp (s1 := false) (s2 := false) op_lt opd_lt (pm_blt (s1 := false) call_len cd_len Tb.len (by decide +kernel) (am_cons (pm_var 2) am_nil)) pm_int (nomark _)) (wm_or1 (tm_cmp (s1 := false) (s2 := false) (or_in hu1) (opd_in false) pm_non (pm_var 1) (by rfl))))) (bm_one (sm_ret (s := false) pm_non)) bm_nil)
    (bm_one (sm_ret (s := false) (pm_if (tm_val (s := false) (pm_blt (s1 := false) (cr_all hc) cd_all Tb.all (by decide +kernel) (am_cons (pm_l (lm_lc (own := [("pair", 4)]) hc nd (im_seq (pm_var 1)) (blkOk_by (own := [("pair", 4)]) (N := N_read_data) (by kernel_rfl)) (fun _ _ _ _ _ => (gt_name 4 nd)) (fun _ _ _ _ _ => ts_nil) (fun _ _ _ _ _ => (pm_cmp (s1 := false) (s2 := false) (or_eq hu) opd_eq (pm_blt (s1 := false) call_len cd_len Tb.len (by decide +kernel) (am_cons (pm_var 4) am_nil)) pm_int (nomark _))))) am_nil))) (pm_tup (am_star (s1 := false) (pm_var 2) (am_cons (pm_ty (s1 := false) call_tuple_of cd_tupOf Tb.tuple (by decide +kernel) (am_cons (pm_var 1) am_nil)) am_nil))) pm_non)))))

/-! is_data_text -/
abbrev s_is_data_text : Stmt := topS 22
abbrev N_is_data_text : List Str := ["words", "data"]
theorem sc_is_data_text : FnScope N_is_data_text ["words"] (defScope s_is_data_text) := ⟨rfl, rfl, rfl, by decide +kernel, rfl, by decide +kernel, by decide +kernel⟩
def b_is_data_text : Bl Unit := (sSeq (sSet 1 (mCall f_read_data (mCons (mVar 0) mNil)))
  (sRet (mAndV (mOp dIsNot (mVar 1) (mC .non)) (mOp dIs (mCall f_data_error (mCons (mVar 1) mNil)) (mC .non)))))
def f_is_data_text : Fn := runDef 1 2 (b_is_data_text)
theorem g_is_data_text {f : Addr} {fd : FuncData} (F : Fun K "is_data_text" "is_data_text" s_is_data_text f fd) (hm : mg "is_data_text" = some (.ref f)) (g_data_error : Good P w K mg base 4 "data_error" f_data_error) (g_read_data : Good P w K mg base 3 "read_data" f_read_data) : Good P w K mg base 5 "is_data_text" (f_is_data_text) := by
  refine ⟨f, fd, _, hm, F.kp, F.binds (ps := ["words"]) fun _ _ _ _ _ _ us hl => match us, hl with | [_], _ => rfl, def_ok F sc_is_data_text rfl rfl fun cdv A outer s H E hr => ?_⟩
  have nd := sc_is_data_text.nd
  have hu := hr.un64
  have hu1 := hr.un65
  have hp := pass_def (P := P) (w := w) (K := K) (mg := mg) (base := base) (qual := "is_data_text") (sc := defScope s_is_data_text) (N := N_is_data_text) (f := f) (cdv := cdv) (A := A) (outer := outer) (s := s) (H := H) (E := E)
  have hpo := passes_def (P := P) (w := w) (K := K) (mg := mg) (base := base) (qual := "is_data_text") (sc := defScope s_is_data_text) (N := N_is_data_text) (f := f) (cdv := cdv) (A := A) (outer := outer) (s := s) (H := H) (E := E)
  have hc : (cxOf (L2.CX P w) P w K mg base N_is_data_text "is_data_text" (defScope s_is_data_text) f cdv A outer s H E).calm = true := rfl
  exact (bm_cons (sm_set 1 nd (pm_call g_read_data (hr.mono (by decide)) hp (am_cons (pm_var 0) am_nil)))
    (bm_one (sm_ret (s := false) (pm_and (pm_cmp (s1 := false) (s2 := false) op_notN opd_isnot (pm_var 1) pm_non (nomark _)) (pm_one (pm_cmp (s1 := false) (s2 := false) op_isN opd_is (pm_call g_data_error (hr.mono (by decide)) hp (am_cons (pm_var 1) am_nil)) pm_non (nomark _)))))))

/-! book_text -/
abbrev s_book_text : Stmt := topS 23
abbrev N_book_text : List Str := ["book", "begin", "periods", "lines", "buy", "want", "keep"]
theorem sc_book_text : FnScope N_book_text ["book"] (defScope s_book_text) := ⟨rfl, rfl, rfl, by decide +kernel, rfl, by decide +kernel, by decide +kernel⟩
def b_book_text : Bl Unit := (sSeq (sAsg (mVar 0) (gT 2 (gsC (gN 1) (gsC (gN 2) gsN))))
  (sSeq (sOwn 3 (mSz (mCons (mJoin (jCons (mC (.str "begin ")) (jCons (mFmt (mVar 1)) (jCons (mC (.str "\n")) jNil)))) mNil)))
  (sSeq (sFor (mItems (mVar 2)) (gT 3 (gsC (gN 4) (gsC (gN 5) (gsC (gN 6) gsN)))) (sExt 3 (mSz (mCons (mJoin (jCons (mC (.str "buy ")) (jCons (mFmt (mCall f_data_text (mCons (mVar 4) mNil))) (jCons (mC (.str "\n")) jNil)))) (mCons (mJoin (jCons (mC (.str "want ")) (jCons (mFmt (mVar 5)) (jCons (mC (.str "\n")) jNil)))) (mCons (mJoin (jCons (mC (.str "keep ")) (jCons (mFmt (mCall f_data_text (mCons (mVar 6) mNil))) (jCons (mC (.str "\n")) jNil)))) mNil))))))
  (sRet (mM1 dJoinS (mC (.str "")) (mOwn 3))))))
def f_book_text : Fn := runDef 1 7 (b_book_text)
theorem g_book_text {f : Addr} {fd : FuncData} (F : Fun K "book_text" "book_text" s_book_text f fd) (hm : mg "book_text" = some (.ref f)) (g_data_text : Good P w K mg base 1 "data_text" f_data_text) : Good P w K mg base 2 "book_text" (f_book_text) := by
  refine ⟨f, fd, _, hm, F.kp, F.binds (ps := ["book"]) fun _ _ _ _ _ _ us hl => match us, hl with | [_], _ => rfl, def_ok F sc_book_text rfl rfl fun cdv A outer s H E hr => ?_⟩
  have nd := sc_book_text.nd
  have hu := hr.un64
  have hu1 := hr.un65
  have hp := pass_def (P := P) (w := w) (K := K) (mg := mg) (base := base) (qual := "book_text") (sc := defScope s_book_text) (N := N_book_text) (f := f) (cdv := cdv) (A := A) (outer := outer) (s := s) (H := H) (E := E)
  have hpo := passes_def (P := P) (w := w) (K := K) (mg := mg) (base := base) (qual := "book_text") (sc := defScope s_book_text) (N := N_book_text) (f := f) (cdv := cdv) (A := A) (outer := outer) (s := s) (H := H) (E := E)
  have hc : (cxOf (L2.CX P w) P w K mg base N_book_text "book_text" (defScope s_book_text) f cdv A outer s H E).calm = true := rfl
  exact (bm_cons (sm_asg (pm_var 0) (gt_tup hc (gts_cons (gt_name 1 nd) (gts_cons (gt_name 2 nd) gts_nil))))
    (bm_cons (sm_own 3 nd (lm_lst (am_cons (pm_join (jm_cons pm_str (jm_cons (pm_fmt (s1 := false) (pm_var 1)) (jm_cons pm_str jm_nil)))) am_nil)))
    (bm_cons (sm_for hpo hc (im_seq (pm_var 2)) (gt_tup hc (gts_cons (gt_name 4 nd) (gts_cons (gt_name 5 nd) (gts_cons (gt_name 6 nd) gts_nil)))) (bm_one (sm_ext 3 (lm_lst (am_cons (pm_join (jm_cons pm_str (jm_cons (pm_fmt (s1 := false) (pm_call g_data_text (hr.mono (by decide)) hp (am_cons (pm_var 4) am_nil))) (jm_cons pm_str jm_nil)))) (am_cons (pm_join (jm_cons pm_str (jm_cons (pm_fmt (s1 := false) (pm_var 5)) (jm_cons pm_str jm_nil)))) (am_cons (pm_join (jm_cons pm_str (jm_cons (pm_fmt (s1 := false) (pm_call g_data_text (hr.mono (by decide)) hp (am_cons (pm_var 6) am_nil))) (jm_cons pm_str jm_nil)))) am_nil)))))))
    (bm_one (sm_ret (s := false) (pm_joinS (s1 := false) (s2 := true) pm_str (pm_own 3)))))))

/-! is_line -/
abbrev s_is_line : Stmt := topS 24
abbrev N_is_line : List Str := ["number", "line", "word", "rest", "due"]
theorem sc_is_line : FnScope N_is_line ["number", "line"] (defScope s_is_line) := ⟨rfl, rfl, rfl, by decide +kernel, rfl, by decide +kernel, by decide +kernel⟩
def b_is_line : Bl Unit := (sSeq (sStar 2 1 (mL (mSplit (mVar 1) (mC (.str " ")))) (gsC (gN 2) (gsC (gN 3) gsN)))
  (sSeq (sSet 4 (mL (mCat (mL (mSz (mCons (mC (.str "begin")) mNil))) (mL (mRep (mL (mSz (mCons (mC (.str "buy")) (mCons (mC (.str "want")) (mCons (mC (.str "keep")) mNil))))) (mC (.int (6))))))))
  (sSeq (sIf (mOr (mTest (mOp dGe (mVar 0) (mBlt (d1 dLen) (mCons (mVar 4) mNil)))) (mTest (mOp dNe (mVar 2) (mOp dIx (mVar 4) (mVar 0))))) (sRet (mC (.bl false))) sNil)
  (sSeq (sIf (mTest (mOp (dIn false) (mVar 2) (mTup (mCons (mC (.str "buy")) (mCons (mC (.str "keep")) mNil))))) (sRet (mCall f_is_data_text (mCons (mVar 3) mNil))) sNil)
  (sRet (mAndV (mOp dEq (mBlt (d1 dLen) (mCons (mVar 3) mNil)) (mC (.int 1))) (mCall f_is_integer_in (mCons (mCall f_read_integer (mCons (mOp dIx (mVar 3) (mC (.int 0))) mNil)) (mCons (mOp dSub (mC (.int 0)) (mC (.int (1000000000000)))) (mCons (mC (.int (1000000000000))) mNil))))))))))
def f_is_line : Fn := runDef 2 5 (b_is_line)
theorem g_is_line {f : Addr} {fd : FuncData} (F : Fun K "is_line" "is_line" s_is_line f fd) (hm : mg "is_line" = some (.ref f)) (Tb : Blts mg) (Tc : Consts mg) (g_is_integer_in : Good P w K mg base 2 "is_integer_in" f_is_integer_in) (g_read_integer : Good P w K mg base 1 "read_integer" f_read_integer) (g_is_data_text : Good P w K mg base 5 "is_data_text" f_is_data_text) : Good P w K mg base 6 "is_line" (f_is_line) := by
  refine ⟨f, fd, _, hm, F.kp, F.binds (ps := ["number", "line"]) fun _ _ _ _ _ _ us hl => match us, hl with | [_, _], _ => rfl, def_ok F sc_is_line rfl rfl fun cdv A outer s H E hr => ?_⟩
  have nd := sc_is_line.nd
  have hu := hr.un64
  have hu1 := hr.un65
  have hp := pass_def (P := P) (w := w) (K := K) (mg := mg) (base := base) (qual := "is_line") (sc := defScope s_is_line) (N := N_is_line) (f := f) (cdv := cdv) (A := A) (outer := outer) (s := s) (H := H) (E := E)
  have hpo := passes_def (P := P) (w := w) (K := K) (mg := mg) (base := base) (qual := "is_line") (sc := defScope s_is_line) (N := N_is_line) (f := f) (cdv := cdv) (A := A) (outer := outer) (s := s) (H := H) (E := E)
  have hc : (cxOf (L2.CX P w) P w K mg base N_is_line "is_line" (defScope s_is_line) f cdv A outer s H E).calm = true := rfl
  exact (bm_cons (sm_star (n := 2) (i := 1) hc (pm_l (lm_split (s1 := false) (s2 := false) (pm_var 1) pm_str)) (gts_cons (gt_name 2 nd) (gts_star (gts_cons (gt_name 3 nd) gts_nil))))
    (bm_cons (sm_set 4 nd (pm_l (lm_cat (s1 := false) (s2 := false) (pm_l (lm_lst (am_cons pm_str am_nil))) (pm_l (lm_rep (s1 := false) (s2 := false) (pm_l (lm_lst (am_cons pm_str (am_cons pm_str (am_cons pm_str am_nil))))) (pm_globI Tc.MAX_PERIODS))))))
    (bm_cons (sm_if (tm_w (wm_or (tm_cmp (s1 := false) (s2 := false) op_ge opd_ge (pm_var 0) (pm_blt (s1 := false) call_len cd_len Tb.len (by decide +kernel) (am_cons (pm_var 4) am_nil)) (nomark _)) (wm_or1 (tm_cmp (s1 := false) (s2 := false) (or_ne hu) opd_ne (pm_var 2) (pm_ix (s1 := false) (s2 := false) (pm_var 4) (pm_var 0) (fun _ _ => rfl)) (nomark _))))) (bm_one (sm_ret (s := false) pm_bl)) bm_nil)
    (bm_cons (sm_if (tm_cmp (s1 := false) (s2 := false) (or_in hu1) (opd_in false) (pm_var 2) (pm_tup (am_cons pm_str (am_cons pm_str am_nil))) (by rfl)) (bm_one (sm_ret (s := false) (pm_call g_is_data_text (hr.mono (by decide)) hp (am_cons (pm_var 3) am_nil)))) bm_nil)
    (bm_one (sm_ret (s := false) (pm_and (pm_cmp (s1 := false) (s2 := false) (or_eq hu) opd_eq (pm_blt (s1 := false) call_len cd_len Tb.len (by decide +kernel) (am_cons (pm_var 3) am_nil)) pm_int (nomark _)) (pm_one (pm_call g_is_integer_in (hr.mono (by decide)) hp (am_cons (pm_call g_read_integer (hr.mono (by decide)) hp (am_cons (pm_ix (s1 := false) (s2 := false) (pm_var 3) pm_int (fun _ _ => rfl)) am_nil)) (am_cons (pm_op (s1 := false) (s2 := false) op_sub opd_sub pm_int (pm_globI Tc.LIMIT)) (am_cons (pm_globI Tc.LIMIT) am_nil))))))))))))

/-! parse_book -/
abbrev s_parse_book : Stmt := topS 25
abbrev N_parse_book : List Str := ["value", "lines", "last", "number", "line", "rows", "periods", "at"]
theorem sc_parse_book : FnScope N_parse_book ["value"] (defScope s_parse_book) := ⟨rfl, rfl, rfl, by decide +kernel, rfl, by decide +kernel, by decide +kernel⟩
def b_parse_book : Bl Unit := (sSeq (sIf (mNot (mTest (mUn (dIsi .str) (mVar 0)))) sBad sNil)
  (sSeq (sStar 2 0 (mL (mSplit (mVar 0) (mC (.str "\n")))) (gsC (gN 1) (gsC (gN 2) gsN)))
  (sSeq (sFor (mEnum (mCons (mVar 1) mNil)) (gT 2 (gsC (gN 3) (gsC (gN 4) gsN))) (sIf (mNot (mTru (mCall f_is_line (mCons (mVar 3) (mCons (mVar 4) mNil))))) sBad sNil))
  (sSeq (sIf (mOr (mTest (mOp dNe (mVar 2) (mC (.str "")))) (mOr (mTest (mOp dLt (mBlt (d1 dLen) (mCons (mVar 1) mNil)) (mC (.int 4)))) (mTest (mOp dNe (mOp dMod (mBlt (d1 dLen) (mCons (mVar 1) mNil)) (mC (.int 3))) (mC (.int 1)))))) sBad sNil)
  (sSeq (sPar [5, 6] (mCons (mL (mLc [4] (mItems (mVar 1)) (gN 4) mYes (mL (mSlL (mL (mSplit (mVar 4) (mC (.str " ")))) (mPart (mC (.int 1))) mNo)))) (mCons (mTup mNil) mNil)))
  (sSeq (sFor (mRange3 (mCons (mC (.int 1)) (mCons (mBlt (d1 dLen) (mCons (mVar 5) mNil)) (mCons (mC (.int 3)) mNil)))) (gN 7) (sSet 6 (mTup (mStar (mVar 6) (mCons (mTup (mCons (mCall f_read_data (mCons (mOp dIx (mVar 5) (mVar 7)) mNil)) (mCons (mBlt (d1 dIntA) (mCons (mOp dIx (mOp dIx (mVar 5) (mOp dAdd (mVar 7) (mC (.int 1)))) (mC (.int 0))) mNil)) (mCons (mCall f_read_data (mCons (mOp dIx (mVar 5) (mOp dAdd (mVar 7) (mC (.int 2)))) mNil)) mNil)))) mNil)))))
  (sRet (mTup (mCons (mBlt (d1 dIntA) (mCons (mOp dIx (mOp dIx (mVar 5) (mC (.int 0))) (mC (.int 0))) mNil)) (mCons (mVar 6) mNil))))))))))
def f_parse_book : Fn := runDef 1 8 (b_parse_book)
theorem g_parse_book {f : Addr} {fd : FuncData} (F : Fun K "parse_book" "parse_book" s_parse_book f fd) (hm : mg "parse_book" = some (.ref f)) (Tb : Blts mg) (g_read_data : Good P w K mg base 3 "read_data" f_read_data) (g_is_line : Good P w K mg base 6 "is_line" f_is_line) : Good P w K mg base 7 "parse_book" (f_parse_book) := by
  refine ⟨f, fd, _, hm, F.kp, F.binds (ps := ["value"]) fun _ _ _ _ _ _ us hl => match us, hl with | [_], _ => rfl, def_ok F sc_parse_book rfl rfl fun cdv A outer s H E hr => ?_⟩
  have nd := sc_parse_book.nd
  have hu := hr.un64
  have hu1 := hr.un65
  have hp := pass_def (P := P) (w := w) (K := K) (mg := mg) (base := base) (qual := "parse_book") (sc := defScope s_parse_book) (N := N_parse_book) (f := f) (cdv := cdv) (A := A) (outer := outer) (s := s) (H := H) (E := E)
  have hpo := passes_def (P := P) (w := w) (K := K) (mg := mg) (base := base) (qual := "parse_book") (sc := defScope s_parse_book) (N := N_parse_book) (f := f) (cdv := cdv) (A := A) (outer := outer) (s := s) (H := H) (E := E)
  have hc : (cxOf (L2.CX P w) P w K mg base N_parse_book "parse_book" (defScope s_parse_book) f cdv A outer s H E).calm = true := rfl
  exact (bm_cons (sm_if (tm_not (tm_val (s := false) (pm_isi (s1 := false) .str Tb.isinstance Tb.str (by decide +kernel) (pm_var 0)))) (bm_one sm_bad) bm_nil)
    (bm_cons (sm_star (n := 2) (i := 0) hc (pm_l (lm_split (s1 := false) (s2 := false) (pm_var 0) pm_str)) (gts_star (gts_cons (gt_name 1 nd) (gts_cons (gt_name 2 nd) gts_nil))))
    (bm_cons (sm_for hpo hc (im_enum Tb.enumerate (am_cons (pm_var 1) am_nil)) (gt_tup hc (gts_cons (gt_name 3 nd) (gts_cons (gt_name 4 nd) gts_nil))) (bm_one (sm_if (tm_not (tm_tru (s := false) (pm_call g_is_line (hr.mono (by decide)) hp (am_cons (pm_var 3) (am_cons (pm_var 4) am_nil))))) (bm_one sm_bad) bm_nil)))
    (bm_cons (sm_if (tm_w (wm_or (tm_cmp (s1 := false) (s2 := false) (or_ne hu) opd_ne (pm_var 2) pm_str (nomark _)) (wm_or (tm_cmp (s1 := false) (s2 := false) op_lt opd_lt (pm_blt (s1 := false) call_len cd_len Tb.len (by decide +kernel) (am_cons (pm_var 1) am_nil)) pm_int (nomark _)) (wm_or1 (tm_cmp (s1 := false) (s2 := false) (or_ne hu) opd_ne (pm_op (s1 := false) (s2 := false) op_mod opd_mod (pm_blt (s1 := false) call_len cd_len Tb.len (by decide +kernel) (am_cons (pm_var 1) am_nil)) pm_int) pm_int (nomark _)))))) (bm_one sm_bad) bm_nil)
    (bm_cons (sm_par hc nd (am_cons (pm_l (lm_lc (own := [("line", 4)]) hc nd (im_seq (pm_var 1)) (blkOk_by (own := [("line", 4)]) (N := N_parse_book) (by kernel_rfl)) (fun _ _ _ _ _ => (gt_name 4 nd)) (fun _ _ _ _ _ => ts_nil) (fun _ _ _ _ _ => (pm_l (lm_sl (s1 := false) (pm_l (lm_split (s1 := false) (s2 := false) (pm_var 4) pm_str)) (om_some (s := false) pm_int) om_none))))) (am_cons (pm_tup am_nil) am_nil)) rfl rfl)
    (bm_cons (sm_for hpo hc (im_range3 (s1 := false) Tb.range (am_cons pm_int (am_cons (pm_blt (s1 := false) call_len cd_len Tb.len (by decide +kernel) (am_cons (pm_var 5) am_nil)) (am_cons pm_int am_nil)))) (gt_name 7 nd) (bm_one (sm_set 6 nd (pm_tup (am_star (s1 := false) (pm_var 6) (am_cons (pm_tup (am_cons (pm_call g_read_data (hr.mono (by decide)) hp (am_cons (pm_ix (s1 := false) (s2 := false) (pm_var 5) (pm_var 7) (fun _ _ => rfl)) am_nil)) (am_cons (pm_ty (s1 := false) call_intA cd_intA Tb.int (by decide +kernel) (am_cons (pm_ix (s1 := false) (s2 := false) (pm_ix (s1 := false) (s2 := false) (pm_var 5) (pm_op (s1 := false) (s2 := false) or_add opd_add (pm_var 7) pm_int) (fun _ _ => rfl)) pm_int (fun _ _ => rfl)) am_nil)) (am_cons (pm_call g_read_data (hr.mono (by decide)) hp (am_cons (pm_ix (s1 := false) (s2 := false) (pm_var 5) (pm_op (s1 := false) (s2 := false) or_add opd_add (pm_var 7) pm_int) (fun _ _ => rfl)) am_nil)) am_nil)))) am_nil))))))
    (bm_one (sm_ret (s := false) (pm_tup (am_cons (pm_ty (s1 := false) call_intA cd_intA Tb.int (by decide +kernel) (am_cons (pm_ix (s1 := false) (s2 := false) (pm_ix (s1 := false) (s2 := false) (pm_var 5) pm_int (fun _ _ => rfl)) pm_int (fun _ _ => rfl)) am_nil)) (am_cons (pm_var 6) am_nil)))))))))))

/-! _law_deck -/
abbrev s__law_deck : Stmt := topS 27
abbrev N__law_deck : List Str := ["_law_script", "_law_great_here", "_law_small", "_law_cell"]
theorem sc__law_deck : FnScope N__law_deck ["_law_script"] (defScope s__law_deck) := ⟨rfl, rfl, rfl, by decide +kernel, rfl, by decide +kernel, by decide +kernel⟩
def b__law_deck (a : Addr) (ns : List Int) : Bl Unit := (sSeq (sSet 1 (mL (mLc [3] (mItems (mL (mScSl a ns 0))) (gN 3) (mTest (mOp dGe (mBlt (d1 dAbs) (mCons (mVar 3) mNil)) (mOp dPow (mC (.int 10)) (mC (.int 18))))) (mBlt (d1 dAbs) (mCons (mVar 3) mNil)))))
  (sSeq (sSet 2 (mL (mLc [3] (mItems (mL (mScSl a ns 0))) (gN 3) (mTest (mOp dLt (mBlt (d1 dAbs) (mCons (mVar 3) mNil)) (mOp dPow (mC (.int 10)) (mC (.int 18))))) (mBlt (d1 dAbs) (mCons (mVar 3) mNil)))))
  (sRet (mL (mSz (mCons (mVar 1) (mCons (mL (mCat (mVar 2) (mL (mRep (mL (mSz (mCons (mOp dAdd (mScLen a ns 0) (mC (.int 29))) mNil))) (mBlt (d1 dIntA) (mCons (mOp dEq (mVar 2) (mL (mSz mNil))) mNil)))))) (mCons (mC (.int 0)) mNil))))))))
def f__law_deck (a : Addr) (ns : List Int) : FnW Unit := runDefW 1 4 (b__law_deck a ns)
theorem g__law_deck {f : Addr} {fd : FuncData} (F : Fun K "_law_deck" "_law_deck" s__law_deck f fd) (hm : mg "_law_deck" = some (.ref f)) (Tb : Blts mg) (a : Addr) (ns : List Int) : GoodW P w K mg base (WSc a ns) 1 "_law_deck" (f__law_deck a ns) := by
  refine ⟨f, fd, _, hm, F.kp, F.binds (ps := ["_law_script"]) fun _ _ _ _ _ _ us hl => match us, hl with | [_], _ => rfl, def_okW F sc__law_deck rfl rfl fun cdv A outer s H E hr => ?_⟩
  have nd := sc__law_deck.nd
  have hu := hr.un64
  have hu1 := hr.un65
  have hp := pass_def (P := P) (w := w) (K := K) (mg := mg) (base := base) (qual := "_law_deck") (sc := defScope s__law_deck) (N := N__law_deck) (f := f) (cdv := cdv) (A := A) (outer := outer) (s := s) (H := H) (E := E)
  have hpo := passes_def (P := P) (w := w) (K := K) (mg := mg) (base := base) (qual := "_law_deck") (sc := defScope s__law_deck) (N := N__law_deck) (f := f) (cdv := cdv) (A := A) (outer := outer) (s := s) (H := H) (E := E)
  have hc : (cxOf (L2.CX P w) P w K mg base N__law_deck "_law_deck" (defScope s__law_deck) f cdv A outer s H E).calm = true := rfl
  exact (bm_cons (sm_setLc 1 (own := [("_law_cell", 3)]) hc nd rfl (sw_true rfl rfl rfl (by decide +kernel)) (im_seq (pm_l (lm_scSl 0))) (blkOk_by (own := [("_law_cell", 3)]) (N := N__law_deck) (by kernel_rfl)) (fun _ _ _ _ _ => (gt_name 3 nd)) (fun _ _ _ _ _ => (ts_one (tm_cmp (s1 := false) (s2 := false) op_ge opd_ge (pm_blt (s1 := false) call_abs cd_abs Tb.abs (by decide +kernel) (am_cons (pm_var 3) am_nil)) (pm_op (s1 := false) (s2 := false) op_pow opd_pow pm_int pm_int) (nomark _)))) (fun _ _ _ _ _ => (pm_blt (s1 := false) call_abs cd_abs Tb.abs (by decide +kernel) (am_cons (pm_var 3) am_nil))))
    (bm_cons (sm_setLc 2 (own := [("_law_cell", 3)]) hc nd rfl (sw_true rfl rfl rfl (by decide +kernel)) (im_seq (pm_l (lm_scSl 0))) (blkOk_by (own := [("_law_cell", 3)]) (N := N__law_deck) (by kernel_rfl)) (fun _ _ _ _ _ => (gt_name 3 nd)) (fun _ _ _ _ _ => (ts_one (tm_cmp (s1 := false) (s2 := false) op_lt opd_lt (pm_blt (s1 := false) call_abs cd_abs Tb.abs (by decide +kernel) (am_cons (pm_var 3) am_nil)) (pm_op (s1 := false) (s2 := false) op_pow opd_pow pm_int pm_int) (nomark _)))) (fun _ _ _ _ _ => (pm_blt (s1 := false) call_abs cd_abs Tb.abs (by decide +kernel) (am_cons (pm_var 3) am_nil))))
    (bm_one (sm_ret (s := false) (pm_l (lm_lst (am_cons (pm_var 1) (am_cons (pm_l (lm_cat (s1 := false) (s2 := false) (pm_var 2) (pm_l (lm_rep (s1 := false) (s2 := false) (pm_l (lm_lst (am_cons (pm_op (s1 := false) (s2 := false) or_add opd_add (pm_scLen 0 Tb.len) pm_int) am_nil))) (pm_ty (s1 := false) call_intA cd_intA Tb.int (by decide +kernel) (am_cons (pm_cmp (s1 := false) (s2 := false) (or_eq hu) opd_eq (pm_var 2) (pm_l (lm_lst am_nil)) (nomark _)) am_nil)))))) (am_cons pm_int am_nil)))))))))

/-! _law_next -/
abbrev s__law_next : Stmt := topS 28
abbrev N__law_next : List Str := ["_law_deck_here", "_law_many", "_law_cell", "_law_pick"]
theorem sc__law_next : FnScope N__law_next ["_law_deck_here", "_law_many"] (defScope s__law_next) := ⟨rfl, rfl, rfl, by decide +kernel, rfl, by decide +kernel, by decide +kernel⟩
def b__law_next (a : DkA) : Bl Dk := (sSeq (sDkN a 0 (mOp dAdd (mDk a 0 dkN) (mC (.int 1))))
  (sSeq (sWhile (fun _ t => t.gr.length + 1) (mDkE a 0) (sSeq (sSet 2 (mDk a 0 dkG))
  (sSeq (sIf (mTest (mOp dGt (mVar 2) (mC (.int 0)))) (sSeq (sDkG a 0 (mOp dDiv (mVar 2) (mVar 1)))
  (sRet (mOp dMod (mVar 2) (mVar 1)))) sNil)
  (sDkP a 0))))
  (sSeq (sSet 2 (mOp dMod (mDkS a 0 (mOp dMod (mDk a 0 dkN) (mDk a 0 dkL))) (mC (.int 2147483629))))
  (sSeq (sSet 3 (mOp dAdd (mOp dAdd (mOp dMul (mVar 2) (mOp dAdd (mC (.int 16807)) (mOp dMul (mC (.int 39373)) (mDk a 0 dkN)))) (mOp dMul (mOp dMul (mC (.int 40692)) (mDk a 0 dkN)) (mDk a 0 dkN))) (mC (.int 59))))
  (sSeq (sSet 3 (mOp dAdd (mOp dMod (mOp dMul (mVar 3) (mVar 3)) (mC (.int 2305843009213693951))) (mOp dMul (mC (.int 69621)) (mDk a 0 dkN))))
  (sRet (mOp dMod (mOp dDiv (mOp dMod (mOp dMul (mVar 3) (mVar 3)) (mC (.int 2305843009213693951))) (mC (.int 4099))) (mVar 1))))))))
def f__law_next (a : DkA) : FnW Dk := runDefW 2 4 (b__law_next a)
theorem g__law_next {f : Addr} {fd : FuncData} (F : Fun K "_law_next" "_law_next" s__law_next f fd) (hm : mg "_law_next" = some (.ref f)) (Tb : Blts mg) (a : DkA) : GoodW P w K mg base (WDk a) 1 "_law_next" (f__law_next a) := by
  refine ⟨f, fd, _, hm, F.kp, F.binds (ps := ["_law_deck_here", "_law_many"]) fun _ _ _ _ _ _ us hl => match us, hl with | [_, _], _ => rfl, def_okW F sc__law_next rfl rfl fun cdv A outer s H E hr => ?_⟩
  have nd := sc__law_next.nd
  have hu := hr.un64
  have hu1 := hr.un65
  have hp := pass_def (P := P) (w := w) (K := K) (mg := mg) (base := base) (qual := "_law_next") (sc := defScope s__law_next) (N := N__law_next) (f := f) (cdv := cdv) (A := A) (outer := outer) (s := s) (H := H) (E := E)
  have hpo := passes_def (P := P) (w := w) (K := K) (mg := mg) (base := base) (qual := "_law_next") (sc := defScope s__law_next) (N := N__law_next) (f := f) (cdv := cdv) (A := A) (outer := outer) (s := s) (H := H) (E := E)
  have hc : (cxOf (L2.CX P w) P w K mg base N__law_next "_law_next" (defScope s__law_next) f cdv A outer s H E).calm = true := rfl
  exact (bm_cons (sm_dkN (s1 := false) 0 (pm_op (s1 := false) (s2 := false) or_add opd_add (pm_dkN 0) pm_int))
    (bm_cons (sm_while (fun _ t => t.gr.length + 1) hpo (tm_dkE hu 0) (bm_cons (sm_set 2 nd (pm_dkG 0))
    (bm_cons (sm_if (tm_cmp (s1 := false) (s2 := false) op_gt opd_gt (pm_var 2) pm_int (nomark _)) (bm_cons (sm_dkG (s1 := false) 0 (pm_op (s1 := false) (s2 := false) op_fdivW opd_div (pm_var 2) (pm_var 1)))
    (bm_one (sm_ret (s := false) (pm_op (s1 := false) (s2 := false) op_mod opd_mod (pm_var 2) (pm_var 1))))) bm_nil)
    (bm_one (sm_dkP 0)))))
    (bm_cons (sm_set 2 nd (pm_op (s1 := false) (s2 := false) op_mod opd_mod (pm_dkS (s1 := false) 0 (pm_op (s1 := false) (s2 := false) op_mod opd_mod (pm_dkN 0) (pm_dkL 0 Tb.len)) (fun _ _ => rfl)) pm_int))
    (bm_cons (sm_set 3 nd (pm_op (s1 := false) (s2 := false) or_add opd_add (pm_op (s1 := false) (s2 := false) or_add opd_add (pm_op (s1 := false) (s2 := false) or_mul opd_mul (pm_var 2) (pm_op (s1 := false) (s2 := false) or_add opd_add pm_int (pm_op (s1 := false) (s2 := false) or_mul opd_mul pm_int (pm_dkN 0)))) (pm_op (s1 := false) (s2 := false) or_mul opd_mul (pm_op (s1 := false) (s2 := false) or_mul opd_mul pm_int (pm_dkN 0)) (pm_dkN 0))) pm_int))
    (bm_cons (sm_set 3 nd (pm_op (s1 := false) (s2 := false) or_add opd_add (pm_op (s1 := false) (s2 := false) op_mod opd_mod (pm_op (s1 := false) (s2 := false) or_mul opd_mul (pm_var 3) (pm_var 3)) pm_int) (pm_op (s1 := false) (s2 := false) or_mul opd_mul pm_int (pm_dkN 0))))
    (bm_one (sm_ret (s := false) (pm_op (s1 := false) (s2 := false) op_mod opd_mod (pm_op (s1 := false) (s2 := false) op_fdivW opd_div (pm_op (s1 := false) (s2 := false) op_mod opd_mod (pm_op (s1 := false) (s2 := false) or_mul opd_mul (pm_var 3) (pm_var 3)) pm_int) pm_int) (pm_var 1)))))))))

/-! _law_one -/
abbrev s__law_one : Stmt := topS 29
abbrev N__law_one : List Str := ["_law_deck_here", "_law_items"]
theorem sc__law_one : FnScope N__law_one ["_law_deck_here", "_law_items"] (defScope s__law_one) := ⟨rfl, rfl, rfl, by decide +kernel, rfl, by decide +kernel, by decide +kernel⟩
def b__law_one (a : DkA) : Bl Dk := (sRet (mOp dIx (mVar 1) (mCallW (f__law_next a) (mCons (mVar 0) (mCons (mBlt (d1 dLen) (mCons (mVar 1) mNil)) mNil)))))
def f__law_one (a : DkA) : FnW Dk := runDefW 2 2 (b__law_one a)
theorem g__law_one {f : Addr} {fd : FuncData} (F : Fun K "_law_one" "_law_one" s__law_one f fd) (hm : mg "_law_one" = some (.ref f)) (Tb : Blts mg) (g__law_next : ∀ a, GoodW P w K mg base (WDk a) 1 "_law_next" (f__law_next a)) (a : DkA) : GoodW P w K mg base (WDk a) 2 "_law_one" (f__law_one a) := by
  refine ⟨f, fd, _, hm, F.kp, F.binds (ps := ["_law_deck_here", "_law_items"]) fun _ _ _ _ _ _ us hl => match us, hl with | [_, _], _ => rfl, def_okW F sc__law_one rfl rfl fun cdv A outer s H E hr => ?_⟩
  have nd := sc__law_one.nd
  have hu := hr.un64
  have hu1 := hr.un65
  have hp := pass_def (P := P) (w := w) (K := K) (mg := mg) (base := base) (qual := "_law_one") (sc := defScope s__law_one) (N := N__law_one) (f := f) (cdv := cdv) (A := A) (outer := outer) (s := s) (H := H) (E := E)
  have hpo := passes_def (P := P) (w := w) (K := K) (mg := mg) (base := base) (qual := "_law_one") (sc := defScope s__law_one) (N := N__law_one) (f := f) (cdv := cdv) (A := A) (outer := outer) (s := s) (H := H) (E := E)
  have hc : (cxOf (L2.CX P w) P w K mg base N__law_one "_law_one" (defScope s__law_one) f cdv A outer s H E).calm = true := rfl
  exact (bm_one (sm_ret (s := false) (pm_ix (s1 := false) (s2 := false) (pm_var 1) (pm_callW (g__law_next a) (hr.mono (by decide)) hp (am_cons (pm_var 0) (am_cons (pm_blt (s1 := false) call_len cd_len Tb.len (by decide +kernel) (am_cons (pm_var 1) am_nil)) am_nil))) (fun _ _ => rfl))))

/-! _law_same -/
abbrev s__law_same : Stmt := topS 30
abbrev N__law_same : List Str := ["_law_one_here", "_law_other", "_law_a", "_law_b"]
theorem sc__law_same : FnScope N__law_same ["_law_one_here", "_law_other"] (defScope s__law_same) := ⟨rfl, rfl, rfl, by decide +kernel, rfl, by decide +kernel, by decide +kernel⟩
def b__law_same (fs : Fn) : Bl Unit := (sSeq (sIf (mOr (mTest (mUn (dIsi2 .tup .lst) (mVar 0))) (mTest (mUn (dIsi2 .tup .lst) (mVar 1)))) (sSeq (sIf (mOr (mTest (mOp dNe (mUn (dIsi .tup) (mVar 0)) (mUn (dIsi .tup) (mVar 1)))) (mTest (mOp dNe (mUn (dIsi .lst) (mVar 0)) (mUn (dIsi .lst) (mVar 1))))) (sRet (mC (.bl false))) sNil)
  (sRet (mAndV (mOp dEq (mBlt (d1 dLen) (mCons (mVar 0) mNil)) (mBlt (d1 dLen) (mCons (mVar 1) mNil))) (mBlt (d1 dAll) (mCons (mL (mLc [2, 3] (mZip2 (mCons (mVar 0) (mCons (mVar 1) mNil))) (gT 2 (gsC (gN 2) (gsC (gN 3) gsN))) mYes (mCall fs (mCons (mVar 2) (mCons (mVar 3) mNil))))) mNil))))) sNil)
  (sSeq (sIf (mOr (mTest (mOp dNe (mUn (dIsi .bl) (mVar 0)) (mUn (dIsi .bl) (mVar 1)))) (mTest (mOp dNe (mUn (dIsi .int) (mVar 0)) (mUn (dIsi .int) (mVar 1))))) (sRet (mC (.bl false))) sNil)
  (sRet (mAndV (mOp dEq (mOp dIs (mVar 0) (mC .non)) (mOp dIs (mVar 1) (mC .non))) (mAndV (mOp dEq (mUn (dIsi .str) (mVar 0)) (mUn (dIsi .str) (mVar 1))) (mOp dEq (mVar 0) (mVar 1)))))))
def f__law_same : Nat → Fn
  | 0 => runDef 2 4 (fun _ _ => .bad)
  | m + 1 => runDef 2 4 (b__law_same (f__law_same m))
theorem g__law_same {f : Addr} {fd : FuncData} (F : Fun K "_law_same" "_law_same" s__law_same f fd) (hm : mg "_law_same" = some (.ref f)) (Tb : Blts mg) : ∀ m : Nat, Good P w K mg base (m + 1) "_law_same" (f__law_same m) := by
  intro m
  induction m with
  | zero => exact ⟨f, fd, _, hm, F.kp, F.binds (ps := ["_law_one_here", "_law_other"]) fun _ _ _ _ _ _ us hl => match us, hl with | [_, _], _ => rfl, def_ok F sc__law_same rfl rfl fun cdv A outer s H E hr => ⟨fun pins s σ H Q I ⟨c, Γ, t, e, p⟩ => p.elim⟩⟩
  | succ m gs =>
    refine ⟨f, fd, _, hm, F.kp, F.binds (ps := ["_law_one_here", "_law_other"]) fun _ _ _ _ _ _ us hl => match us, hl with | [_, _], _ => rfl, def_ok (k := m + 1) F sc__law_same rfl rfl fun cdv A outer s H E hr => ?_⟩
    have nd := sc__law_same.nd
    have hu := hr.un64
    have hu1 := hr.un65
    have hp := pass_def (P := P) (w := w) (K := K) (mg := mg) (base := base) (qual := "_law_same") (sc := defScope s__law_same) (N := N__law_same) (f := f) (cdv := cdv) (A := A) (outer := outer) (s := s) (H := H) (E := E)
    have hpo := passes_def (P := P) (w := w) (K := K) (mg := mg) (base := base) (qual := "_law_same") (sc := defScope s__law_same) (N := N__law_same) (f := f) (cdv := cdv) (A := A) (outer := outer) (s := s) (H := H) (E := E)
    have hc : (cxOf (L2.CX P w) P w K mg base N__law_same "_law_same" (defScope s__law_same) f cdv A outer s H E).calm = true := rfl
    exact (bm_cons (sm_if (tm_w (wm_or (tm_val (s := false) (pm_isi2 (s1 := false) .tup .lst Tb.isinstance Tb.tuple (by decide +kernel) Tb.list (by decide +kernel) (pm_var 0))) (wm_or1 (tm_val (s := false) (pm_isi2 (s1 := false) .tup .lst Tb.isinstance Tb.tuple (by decide +kernel) Tb.list (by decide +kernel) (pm_var 1)))))) (bm_cons (sm_if (tm_w (wm_or (tm_cmp (s1 := false) (s2 := false) (or_ne hu) opd_ne (pm_isi (s1 := false) .tup Tb.isinstance Tb.tuple (by decide +kernel) (pm_var 0)) (pm_isi (s1 := false) .tup Tb.isinstance Tb.tuple (by decide +kernel) (pm_var 1)) (nomark _)) (wm_or1 (tm_cmp (s1 := false) (s2 := false) (or_ne hu) opd_ne (pm_isi (s1 := false) .lst Tb.isinstance Tb.list (by decide +kernel) (pm_var 0)) (pm_isi (s1 := false) .lst Tb.isinstance Tb.list (by decide +kernel) (pm_var 1)) (nomark _))))) (bm_one (sm_ret (s := false) pm_bl)) bm_nil)
    (bm_one (sm_ret (s := false) (pm_and (pm_cmp (s1 := false) (s2 := false) (or_eq hu) opd_eq (pm_blt (s1 := false) call_len cd_len Tb.len (by decide +kernel) (am_cons (pm_var 0) am_nil)) (pm_blt (s1 := false) call_len cd_len Tb.len (by decide +kernel) (am_cons (pm_var 1) am_nil)) (nomark _)) (pm_one (pm_blt (s1 := false) (cr_all hc) cd_all Tb.all (by decide +kernel) (am_cons (pm_l (lm_lc (own := [("_law_a", 2), ("_law_b", 3)]) hc nd (im_zip2 Tb.zip (am_cons (pm_var 0) (am_cons (pm_var 1) am_nil))) (blkOk_by (own := [("_law_a", 2), ("_law_b", 3)]) (N := N__law_same) (by kernel_rfl)) (fun _ _ _ _ _ => (gt_tup hc (gts_cons (gt_name 2 nd) (gts_cons (gt_name 3 nd) gts_nil)))) (fun _ _ _ _ _ => ts_nil) (fun _ _ _ _ _ => (pm_call gs (hr.mono (by omega)) pass_blk (am_cons (pm_var 2) (am_cons (pm_var 3) am_nil)))))) am_nil))))))) bm_nil)
    (bm_cons (sm_if (tm_w (wm_or (tm_cmp (s1 := false) (s2 := false) (or_ne hu) opd_ne (pm_isi (s1 := false) .bl Tb.isinstance Tb.bool (by decide +kernel) (pm_var 0)) (pm_isi (s1 := false) .bl Tb.isinstance Tb.bool (by decide +kernel) (pm_var 1)) (nomark _)) (wm_or1 (tm_cmp (s1 := false) (s2 := false) (or_ne hu) opd_ne (pm_isi (s1 := false) .int Tb.isinstance Tb.int (by decide +kernel) (pm_var 0)) (pm_isi (s1 := false) .int Tb.isinstance Tb.int (by decide +kernel) (pm_var 1)) (nomark _))))) (bm_one (sm_ret (s := false) pm_bl)) bm_nil)
    (bm_one (sm_ret (s := false) (pm_and (pm_cmp (s1 := false) (s2 := false) (or_eq hu) opd_eq (pm_cmp (s1 := false) (s2 := false) op_isN opd_is (pm_var 0) pm_non (nomark _)) (pm_cmp (s1 := false) (s2 := false) op_isN opd_is (pm_var 1) pm_non (nomark _)) (nomark _)) (pm_and (pm_cmp (s1 := false) (s2 := false) (or_eq hu) opd_eq (pm_isi (s1 := false) .str Tb.isinstance Tb.str (by decide +kernel) (pm_var 0)) (pm_isi (s1 := false) .str Tb.isinstance Tb.str (by decide +kernel) (pm_var 1)) (nomark _)) (pm_one (pm_cmp (s1 := false) (s2 := false) (or_eq hu) opd_eq (pm_var 0) (pm_var 1) (nomark _)))))))))

/-! _law_great -/
abbrev s__law_great : Stmt := topS 31
abbrev N__law_great : List Str := ["_law_deck_here"]
theorem sc__law_great : FnScope N__law_great ["_law_deck_here"] (defScope s__law_great) := ⟨rfl, rfl, rfl, by decide +kernel, rfl, by decide +kernel, by decide +kernel⟩
def b__law_great (a : DkA) : Bl Dk := (sRet (mOp dIx (mL (mSz (mCons (mC (.int 1)) (mCons (mC (.int 2)) (mCons (mC (.int 5)) (mCons (mOp dPow (mC (.int 10)) (mC (.int 10))) mNil)))))) (mCallW (f__law_next a) (mCons (mVar 0) (mCons (mC (.int 4)) mNil)))))
def f__law_great (a : DkA) : FnW Dk := runDefW 1 1 (b__law_great a)
theorem g__law_great {f : Addr} {fd : FuncData} (F : Fun K "_law_great" "_law_great" s__law_great f fd) (hm : mg "_law_great" = some (.ref f)) (g__law_next : ∀ a, GoodW P w K mg base (WDk a) 1 "_law_next" (f__law_next a)) (a : DkA) : GoodW P w K mg base (WDk a) 2 "_law_great" (f__law_great a) := by
  refine ⟨f, fd, _, hm, F.kp, F.binds (ps := ["_law_deck_here"]) fun _ _ _ _ _ _ us hl => match us, hl with | [_], _ => rfl, def_okW F sc__law_great rfl rfl fun cdv A outer s H E hr => ?_⟩
  have nd := sc__law_great.nd
  have hu := hr.un64
  have hu1 := hr.un65
  have hp := pass_def (P := P) (w := w) (K := K) (mg := mg) (base := base) (qual := "_law_great") (sc := defScope s__law_great) (N := N__law_great) (f := f) (cdv := cdv) (A := A) (outer := outer) (s := s) (H := H) (E := E)
  have hpo := passes_def (P := P) (w := w) (K := K) (mg := mg) (base := base) (qual := "_law_great") (sc := defScope s__law_great) (N := N__law_great) (f := f) (cdv := cdv) (A := A) (outer := outer) (s := s) (H := H) (E := E)
  have hc : (cxOf (L2.CX P w) P w K mg base N__law_great "_law_great" (defScope s__law_great) f cdv A outer s H E).calm = true := rfl
  exact (bm_one (sm_ret (s := false) (pm_ix (s1 := false) (s2 := false) (pm_l (lm_lst (am_cons pm_int (am_cons pm_int (am_cons pm_int (am_cons (pm_op (s1 := false) (s2 := false) op_pow opd_pow pm_int pm_int) am_nil)))))) (pm_callW (g__law_next a) (hr.mono (by decide)) hp (am_cons (pm_var 0) (am_cons pm_int am_nil))) (fun _ _ => rfl))))

/-! _law_steps -/
abbrev s__law_steps : Stmt := topS 32
abbrev N__law_steps : List Str := ["_law_deck_here", "_law_great_here", "_law_most", "_law_found", "_law_price", "_law_k"]
theorem sc__law_steps : FnScope N__law_steps ["_law_deck_here", "_law_great_here", "_law_most"] (defScope s__law_steps) := ⟨rfl, rfl, rfl, by decide +kernel, rfl, by decide +kernel, by decide +kernel⟩
def b__law_steps (a : DkA) : Bl Dk := (sSeq (sParO 3 4 (mOp dSub (mCallW (f__law_next a) (mCons (mVar 0) (mCons (mC (.int 13)) mNil))) (mC (.int 8))))
  (sSeq (sFor (mRange1 (mCons (mCallW (f__law_next a) (mCons (mVar 0) (mCons (mOp dAdd (mVar 2) (mC (.int 1))) mNil))) mNil)) (gN 5) (sSeq (sApp 3 (mTup (mCons (mOp dAdd (mC (.int 1)) (mCallW (f__law_next a) (mCons (mVar 0) (mCons (mVar 1) mNil)))) (mCons (mVar 4) mNil))))
  (sSet 4 (mOp dAdd (mOp dAdd (mVar 4) (mC (.int 1))) (mCallW (f__law_next a) (mCons (mVar 0) (mCons (mC (.int 4)) mNil)))))))
  (sRet (mBlt (d1 dTupOf) (mCons (mOwn 3) mNil)))))
def f__law_steps (a : DkA) : FnW Dk := runDefW 3 6 (b__law_steps a)
theorem g__law_steps {f : Addr} {fd : FuncData} (F : Fun K "_law_steps" "_law_steps" s__law_steps f fd) (hm : mg "_law_steps" = some (.ref f)) (Tb : Blts mg) (g__law_next : ∀ a, GoodW P w K mg base (WDk a) 1 "_law_next" (f__law_next a)) (a : DkA) : GoodW P w K mg base (WDk a) 2 "_law_steps" (f__law_steps a) := by
  refine ⟨f, fd, _, hm, F.kp, F.binds (ps := ["_law_deck_here", "_law_great_here", "_law_most"]) fun _ _ _ _ _ _ us hl => match us, hl with | [_, _, _], _ => rfl, def_okW F sc__law_steps rfl rfl fun cdv A outer s H E hr => ?_⟩
  have nd := sc__law_steps.nd
  have hu := hr.un64
  have hu1 := hr.un65
  have hp := pass_def (P := P) (w := w) (K := K) (mg := mg) (base := base) (qual := "_law_steps") (sc := defScope s__law_steps) (N := N__law_steps) (f := f) (cdv := cdv) (A := A) (outer := outer) (s := s) (H := H) (E := E)
  have hpo := passes_def (P := P) (w := w) (K := K) (mg := mg) (base := base) (qual := "_law_steps") (sc := defScope s__law_steps) (N := N__law_steps) (f := f) (cdv := cdv) (A := A) (outer := outer) (s := s) (H := H) (E := E)
  have hc : (cxOf (L2.CX P w) P w K mg base N__law_steps "_law_steps" (defScope s__law_steps) f cdv A outer s H E).calm = true := rfl
  exact (bm_cons (sm_parO (i := 3) (j := 4) hc nd (pm_op (s1 := false) (s2 := false) op_sub opd_sub (pm_callW (g__law_next a) (hr.mono (by decide)) hp (am_cons (pm_var 0) (am_cons pm_int am_nil))) pm_int) rfl rfl)
    (bm_cons (sm_for hpo hc (im_range1 (s1 := false) Tb.range (am_cons (pm_callW (g__law_next a) (hr.mono (by decide)) hp (am_cons (pm_var 0) (am_cons (pm_op (s1 := false) (s2 := false) or_add opd_add (pm_var 2) pm_int) am_nil))) am_nil)) (gt_name 5 nd) (bm_cons (sm_app 3 (pm_tup (am_cons (pm_op (s1 := false) (s2 := false) or_add opd_add pm_int (pm_callW (g__law_next a) (hr.mono (by decide)) hp (am_cons (pm_var 0) (am_cons (pm_var 1) am_nil)))) (am_cons (pm_var 4) am_nil))))
    (bm_one (sm_set 4 nd (pm_op (s1 := false) (s2 := false) or_add opd_add (pm_op (s1 := false) (s2 := false) or_add opd_add (pm_var 4) pm_int) (pm_callW (g__law_next a) (hr.mono (by decide)) hp (am_cons (pm_var 0) (am_cons pm_int am_nil))))))))
    (bm_one (sm_ret (s := false) (pm_ty (s1 := true) call_tuple_of cd_tupOf Tb.tuple (by decide +kernel) (am_cons (pm_own 3) am_nil))))))

/-! _law_units -/
abbrev s__law_units : Stmt := topS 33
abbrev N__law_units : List Str := ["_law_steps_here", "_law_count", "_law_price"]
theorem sc__law_units : FnScope N__law_units ["_law_steps_here"] (defScope s__law_units) := ⟨rfl, rfl, rfl, by decide +kernel, rfl, by decide +kernel, by decide +kernel⟩
def b__law_units : Bl Unit := (sRet (mBlt (d1 dSum) (mCons (mL (mLc [1, 2] (mItems (mVar 0)) (gT 2 (gsC (gN 1) (gsC (gN 2) gsN))) mYes (mVar 1))) mNil)))
def f__law_units : Fn := runDef 1 3 (b__law_units)
theorem g__law_units {f : Addr} {fd : FuncData} (F : Fun K "_law_units" "_law_units" s__law_units f fd) (hm : mg "_law_units" = some (.ref f)) (Tb : Blts mg) : Good P w K mg base 1 "_law_units" (f__law_units) := by
  refine ⟨f, fd, _, hm, F.kp, F.binds (ps := ["_law_steps_here"]) fun _ _ _ _ _ _ us hl => match us, hl with | [_], _ => rfl, def_ok F sc__law_units rfl rfl fun cdv A outer s H E hr => ?_⟩
  have nd := sc__law_units.nd
  have hu := hr.un64
  have hu1 := hr.un65
  have hp := pass_def (P := P) (w := w) (K := K) (mg := mg) (base := base) (qual := "_law_units") (sc := defScope s__law_units) (N := N__law_units) (f := f) (cdv := cdv) (A := A) (outer := outer) (s := s) (H := H) (E := E)
  have hpo := passes_def (P := P) (w := w) (K := K) (mg := mg) (base := base) (qual := "_law_units") (sc := defScope s__law_units) (N := N__law_units) (f := f) (cdv := cdv) (A := A) (outer := outer) (s := s) (H := H) (E := E)
  have hc : (cxOf (L2.CX P w) P w K mg base N__law_units "_law_units" (defScope s__law_units) f cdv A outer s H E).calm = true := rfl
  exact (bm_one (sm_ret (s := false) (pm_blt (s1 := false) (cr_sum hc) cd_sum Tb.sum (by decide +kernel) (am_cons (pm_l (lm_lc (own := [("_law_count", 1), ("_law_price", 2)]) hc nd (im_seq (pm_var 0)) (blkOk_by (own := [("_law_count", 1), ("_law_price", 2)]) (N := N__law_units) (by kernel_rfl)) (fun _ _ _ _ _ => (gt_tup hc (gts_cons (gt_name 1 nd) (gts_cons (gt_name 2 nd) gts_nil)))) (fun _ _ _ _ _ => ts_nil) (fun _ _ _ _ _ => (pm_var 1)))) am_nil))))

/-! _law_data -/
abbrev s__law_data : Stmt := topS 34
abbrev N__law_data : List Str := ["_law_deck_here", "_law_great_here", "_law_most", "_law_steps_here"]
theorem sc__law_data : FnScope N__law_data ["_law_deck_here", "_law_great_here", "_law_most"] (defScope s__law_data) := ⟨rfl, rfl, rfl, by decide +kernel, rfl, by decide +kernel, by decide +kernel⟩
def b__law_data (a : DkA) : Bl Dk := (sSeq (sSet 3 (mCallW (f__law_steps a) (mCons (mVar 0) (mCons (mVar 1) (mCons (mVar 2) mNil)))))
  (sRet (mTup (mCons (mOp dSub (mCallW (f__law_next a) (mCons (mVar 0) (mCons (mOp dAdd (mOp dMul (mC (.int 2)) (mVar 1)) (mC (.int 1))) mNil))) (mVar 1)) (mCons (mOp dSub (mCallW (f__law_next a) (mCons (mVar 0) (mCons (mC (.int 41)) mNil))) (mC (.int 20))) (mCons (mVar 3) mNil))))))
def f__law_data (a : DkA) : FnW Dk := runDefW 3 4 (b__law_data a)
theorem g__law_data {f : Addr} {fd : FuncData} (F : Fun K "_law_data" "_law_data" s__law_data f fd) (hm : mg "_law_data" = some (.ref f)) (g__law_next : ∀ a, GoodW P w K mg base (WDk a) 1 "_law_next" (f__law_next a)) (g__law_steps : ∀ a, GoodW P w K mg base (WDk a) 2 "_law_steps" (f__law_steps a)) (a : DkA) : GoodW P w K mg base (WDk a) 3 "_law_data" (f__law_data a) := by
  refine ⟨f, fd, _, hm, F.kp, F.binds (ps := ["_law_deck_here", "_law_great_here", "_law_most"]) fun _ _ _ _ _ _ us hl => match us, hl with | [_, _, _], _ => rfl, def_okW F sc__law_data rfl rfl fun cdv A outer s H E hr => ?_⟩
  have nd := sc__law_data.nd
  have hu := hr.un64
  have hu1 := hr.un65
  have hp := pass_def (P := P) (w := w) (K := K) (mg := mg) (base := base) (qual := "_law_data") (sc := defScope s__law_data) (N := N__law_data) (f := f) (cdv := cdv) (A := A) (outer := outer) (s := s) (H := H) (E := E)
  have hpo := passes_def (P := P) (w := w) (K := K) (mg := mg) (base := base) (qual := "_law_data") (sc := defScope s__law_data) (N := N__law_data) (f := f) (cdv := cdv) (A := A) (outer := outer) (s := s) (H := H) (E := E)
  have hc : (cxOf (L2.CX P w) P w K mg base N__law_data "_law_data" (defScope s__law_data) f cdv A outer s H E).calm = true := rfl
  exact (bm_cons (sm_set 3 nd (pm_callW (g__law_steps a) (hr.mono (by decide)) hp (am_cons (pm_var 0) (am_cons (pm_var 1) (am_cons (pm_var 2) am_nil)))))
    (bm_one (sm_ret (s := false) (pm_tup (am_cons (pm_op (s1 := false) (s2 := false) op_sub opd_sub (pm_callW (g__law_next a) (hr.mono (by decide)) hp (am_cons (pm_var 0) (am_cons (pm_op (s1 := false) (s2 := false) or_add opd_add (pm_op (s1 := false) (s2 := false) or_mul opd_mul pm_int (pm_var 1)) pm_int) am_nil))) (pm_var 1)) (am_cons (pm_op (s1 := false) (s2 := false) op_sub opd_sub (pm_callW (g__law_next a) (hr.mono (by decide)) hp (am_cons (pm_var 0) (am_cons pm_int am_nil))) pm_int) (am_cons (pm_var 3) am_nil)))))))

/-! _law_around -/
abbrev s__law_around : Stmt := topS 35
abbrev N__law_around : List Str := ["_law_deck_here", "_law_great_here", "_law_stock", "_law_way", "_law_steps_here", "_law_units_here", "_law_low"]
theorem sc__law_around : FnScope N__law_around ["_law_deck_here", "_law_great_here", "_law_stock", "_law_way"] (defScope s__law_around) := ⟨rfl, rfl, rfl, by decide +kernel, rfl, by decide +kernel, by decide +kernel⟩
def b__law_around (a : DkA) : Bl Dk := (sSeq (sSet 4 (mCallW (f__law_steps a) (mCons (mVar 0) (mCons (mVar 1) (mCons (mC (.int 3)) mNil)))))
  (sSeq (sSet 5 (mCall f__law_units (mCons (mVar 4) mNil)))
  (sSeq (sSet 6 (mOp dSub (mVar 2) (mCallW (f__law_next a) (mCons (mVar 0) (mCons (mOp dAdd (mVar 5) (mC (.int 1))) mNil)))))
  (sSeq (sIf (mTest (mOp dEq (mVar 3) (mC (.int 0)))) (sSet 6 (mCallW (f__law_one a) (mCons (mVar 0) (mCons (mL (mSz (mCons (mOp dAdd (mOp dAdd (mVar 2) (mC (.int 1))) (mCallW (f__law_next a) (mCons (mVar 0) (mCons (mVar 1) mNil)))) (mCons (mOp dSub (mOp dSub (mOp dSub (mVar 2) (mVar 5)) (mC (.int 1))) (mCallW (f__law_next a) (mCons (mVar 0) (mCons (mVar 1) mNil)))) mNil)))) mNil)))) sNil)
  (sRet (mTup (mCons (mVar 6) (mCons (mOp dSub (mCallW (f__law_next a) (mCons (mVar 0) (mCons (mC (.int 21)) mNil))) (mC (.int 10))) (mCons (mVar 4) mNil)))))))))
def f__law_around (a : DkA) : FnW Dk := runDefW 4 7 (b__law_around a)
theorem g__law_around {f : Addr} {fd : FuncData} (F : Fun K "_law_around" "_law_around" s__law_around f fd) (hm : mg "_law_around" = some (.ref f)) (g__law_next : ∀ a, GoodW P w K mg base (WDk a) 1 "_law_next" (f__law_next a)) (g__law_one : ∀ a, GoodW P w K mg base (WDk a) 2 "_law_one" (f__law_one a)) (g__law_steps : ∀ a, GoodW P w K mg base (WDk a) 2 "_law_steps" (f__law_steps a)) (g__law_units : Good P w K mg base 1 "_law_units" f__law_units) (a : DkA) : GoodW P w K mg base (WDk a) 3 "_law_around" (f__law_around a) := by
  refine ⟨f, fd, _, hm, F.kp, F.binds (ps := ["_law_deck_here", "_law_great_here", "_law_stock", "_law_way"]) fun _ _ _ _ _ _ us hl => match us, hl with | [_, _, _, _], _ => rfl, def_okW F sc__law_around rfl rfl fun cdv A outer s H E hr => ?_⟩
  have nd := sc__law_around.nd
  have hu := hr.un64
  have hu1 := hr.un65
  have hp := pass_def (P := P) (w := w) (K := K) (mg := mg) (base := base) (qual := "_law_around") (sc := defScope s__law_around) (N := N__law_around) (f := f) (cdv := cdv) (A := A) (outer := outer) (s := s) (H := H) (E := E)
  have hpo := passes_def (P := P) (w := w) (K := K) (mg := mg) (base := base) (qual := "_law_around") (sc := defScope s__law_around) (N := N__law_around) (f := f) (cdv := cdv) (A := A) (outer := outer) (s := s) (H := H) (E := E)
  have hc : (cxOf (L2.CX P w) P w K mg base N__law_around "_law_around" (defScope s__law_around) f cdv A outer s H E).calm = true := rfl
  exact (bm_cons (sm_set 4 nd (pm_callW (g__law_steps a) (hr.mono (by decide)) hp (am_cons (pm_var 0) (am_cons (pm_var 1) (am_cons pm_int am_nil)))))
    (bm_cons (sm_set 5 nd (pm_call g__law_units (hr.mono (by decide)) hp (am_cons (pm_var 4) am_nil)))
    (bm_cons (sm_set 6 nd (pm_op (s1 := false) (s2 := false) op_sub opd_sub (pm_var 2) (pm_callW (g__law_next a) (hr.mono (by decide)) hp (am_cons (pm_var 0) (am_cons (pm_op (s1 := false) (s2 := false) or_add opd_add (pm_var 5) pm_int) am_nil)))))
    (bm_cons (sm_if (tm_cmp (s1 := false) (s2 := false) (or_eq hu) opd_eq (pm_var 3) pm_int (nomark _)) (bm_one (sm_set 6 nd (pm_callW (g__law_one a) (hr.mono (by decide)) hp (am_cons (pm_var 0) (am_cons (pm_l (lm_lst (am_cons (pm_op (s1 := false) (s2 := false) or_add opd_add (pm_op (s1 := false) (s2 := false) or_add opd_add (pm_var 2) pm_int) (pm_callW (g__law_next a) (hr.mono (by decide)) hp (am_cons (pm_var 0) (am_cons (pm_var 1) am_nil)))) (am_cons (pm_op (s1 := false) (s2 := false) op_sub opd_sub (pm_op (s1 := false) (s2 := false) op_sub opd_sub (pm_op (s1 := false) (s2 := false) op_sub opd_sub (pm_var 2) (pm_var 5)) pm_int) (pm_callW (g__law_next a) (hr.mono (by decide)) hp (am_cons (pm_var 0) (am_cons (pm_var 1) am_nil)))) am_nil)))) am_nil))))) bm_nil)
    (bm_one (sm_ret (s := false) (pm_tup (am_cons (pm_var 6) (am_cons (pm_op (s1 := false) (s2 := false) op_sub opd_sub (pm_callW (g__law_next a) (hr.mono (by decide)) hp (am_cons (pm_var 0) (am_cons pm_int am_nil))) pm_int) (am_cons (pm_var 4) am_nil))))))))))

/-! _law_book -/
abbrev s__law_book : Stmt := topS 36
abbrev N__law_book : List Str := ["_law_deck_here", "_law_great_here", "_law_most", "_law_safe", "_law_begin", "_law_found", "_law_stock", "_law_k", "_law_buy", "_law_want", "_law_keep"]
theorem sc__law_book : FnScope N__law_book ["_law_deck_here", "_law_great_here", "_law_most", "_law_safe"] (defScope s__law_book) := ⟨rfl, rfl, rfl, by decide +kernel, rfl, by decide +kernel, by decide +kernel⟩
def b__law_book (a : DkA) : Bl Dk := (sSeq (sParE 4 5 (mOp dSub (mCallW (f__law_next a) (mCons (mVar 0) (mCons (mOp dAdd (mOp dMul (mC (.int 2)) (mVar 1)) (mC (.int 1))) mNil))) (mVar 1)))
  (sSeq (sSet 6 (mVar 4))
  (sSeq (sFor (mRange1 (mCons (mOp dAdd (mC (.int 1)) (mCallW (f__law_next a) (mCons (mVar 0) (mCons (mVar 2) mNil)))) mNil)) (gN 7) (sSeq (sPar [8, 9] (mCons (mCallW (f__law_data a) (mCons (mVar 0) (mCons (mVar 1) (mCons (mC (.int 3)) mNil)))) (mCons (mOp dSub (mCallW (f__law_next a) (mCons (mVar 0) (mCons (mOp dAdd (mOp dMul (mC (.int 2)) (mVar 1)) (mC (.int 2))) mNil))) (mOp dDiv (mVar 1) (mC (.int 2)))) mNil)))
  (sSeq (sSet 6 (mOp dSub (mOp dAdd (mOp dAdd (mVar 6) (mOp dIx (mVar 8) (mC (.int 0)))) (mCallW (f__law_next a) (mCons (mVar 0) (mCons (mOp dAdd (mCall f__law_units (mCons (mOp dIx (mVar 8) (mC (.int 2))) mNil)) (mC (.int 1))) mNil)))) (mVar 9)))
  (sSeq (sSet 10 (mCallW (f__law_around a) (mCons (mVar 0) (mCons (mVar 1) (mCons (mVar 6) (mCons (mIf (mTru (mVar 3)) (mC (.int 1)) (mCallW (f__law_next a) (mCons (mVar 0) (mCons (mC (.int 9)) mNil)))) mNil))))))
  (sApp 5 (mTup (mCons (mVar 8) (mCons (mVar 9) (mCons (mVar 10) mNil)))))))))
  (sRet (mTup (mCons (mVar 4) (mCons (mBlt (d1 dTupOf) (mCons (mOwn 5) mNil)) mNil)))))))
def f__law_book (a : DkA) : FnW Dk := runDefW 4 11 (b__law_book a)
theorem g__law_book {f : Addr} {fd : FuncData} (F : Fun K "_law_book" "_law_book" s__law_book f fd) (hm : mg "_law_book" = some (.ref f)) (Tb : Blts mg) (g__law_next : ∀ a, GoodW P w K mg base (WDk a) 1 "_law_next" (f__law_next a)) (g__law_units : Good P w K mg base 1 "_law_units" f__law_units) (g__law_data : ∀ a, GoodW P w K mg base (WDk a) 3 "_law_data" (f__law_data a)) (g__law_around : ∀ a, GoodW P w K mg base (WDk a) 3 "_law_around" (f__law_around a)) (a : DkA) : GoodW P w K mg base (WDk a) 4 "_law_book" (f__law_book a) := by
  refine ⟨f, fd, _, hm, F.kp, F.binds (ps := ["_law_deck_here", "_law_great_here", "_law_most", "_law_safe"]) fun _ _ _ _ _ _ us hl => match us, hl with | [_, _, _, _], _ => rfl, def_okW F sc__law_book rfl rfl fun cdv A outer s H E hr => ?_⟩
  have nd := sc__law_book.nd
  have hu := hr.un64
  have hu1 := hr.un65
  have hp := pass_def (P := P) (w := w) (K := K) (mg := mg) (base := base) (qual := "_law_book") (sc := defScope s__law_book) (N := N__law_book) (f := f) (cdv := cdv) (A := A) (outer := outer) (s := s) (H := H) (E := E)
  have hpo := passes_def (P := P) (w := w) (K := K) (mg := mg) (base := base) (qual := "_law_book") (sc := defScope s__law_book) (N := N__law_book) (f := f) (cdv := cdv) (A := A) (outer := outer) (s := s) (H := H) (E := E)
  have hc : (cxOf (L2.CX P w) P w K mg base N__law_book "_law_book" (defScope s__law_book) f cdv A outer s H E).calm = true := rfl
  exact (bm_cons (sm_parE (i := 4) (j := 5) hc nd (pm_op (s1 := false) (s2 := false) op_sub opd_sub (pm_callW (g__law_next a) (hr.mono (by decide)) hp (am_cons (pm_var 0) (am_cons (pm_op (s1 := false) (s2 := false) or_add opd_add (pm_op (s1 := false) (s2 := false) or_mul opd_mul pm_int (pm_var 1)) pm_int) am_nil))) (pm_var 1)) rfl rfl)
    (bm_cons (sm_set 6 nd (pm_var 4))
    (bm_cons (sm_for hpo hc (im_range1 (s1 := false) Tb.range (am_cons (pm_op (s1 := false) (s2 := false) or_add opd_add pm_int (pm_callW (g__law_next a) (hr.mono (by decide)) hp (am_cons (pm_var 0) (am_cons (pm_var 2) am_nil)))) am_nil)) (gt_name 7 nd) (bm_cons (sm_par hc nd (am_cons (pm_callW (g__law_data a) (hr.mono (by decide)) hp (am_cons (pm_var 0) (am_cons (pm_var 1) (am_cons pm_int am_nil)))) (am_cons (pm_op (s1 := false) (s2 := false) op_sub opd_sub (pm_callW (g__law_next a) (hr.mono (by decide)) hp (am_cons (pm_var 0) (am_cons (pm_op (s1 := false) (s2 := false) or_add opd_add (pm_op (s1 := false) (s2 := false) or_mul opd_mul pm_int (pm_var 1)) pm_int) am_nil))) (pm_op (s1 := false) (s2 := false) op_fdivW opd_div (pm_var 1) pm_int)) am_nil)) rfl rfl)
    (bm_cons (sm_set 6 nd (pm_op (s1 := false) (s2 := false) op_sub opd_sub (pm_op (s1 := false) (s2 := false) or_add opd_add (pm_op (s1 := false) (s2 := false) or_add opd_add (pm_var 6) (pm_ix (s1 := false) (s2 := false) (pm_var 8) pm_int (fun _ _ => rfl))) (pm_callW (g__law_next a) (hr.mono (by decide)) hp (am_cons (pm_var 0) (am_cons (pm_op (s1 := false) (s2 := false) or_add opd_add (pm_call g__law_units (hr.mono (by decide)) hp (am_cons (pm_ix (s1 := false) (s2 := false) (pm_var 8) pm_int (fun _ _ => rfl)) am_nil)) pm_int) am_nil)))) (pm_var 9)))
    (bm_cons (sm_set 10 nd (pm_callW (g__law_around a) (hr.mono (by decide)) hp (am_cons (pm_var 0) (am_cons (pm_var 1) (am_cons (pm_var 6) (am_cons (pm_if (tm_tru (s := false) (pm_var 3)) pm_int (pm_callW (g__law_next a) (hr.mono (by decide)) hp (am_cons (pm_var 0) (am_cons pm_int am_nil)))) am_nil))))))
    (bm_one (sm_app 5 (pm_tup (am_cons (pm_var 8) (am_cons (pm_var 9) (am_cons (pm_var 10) am_nil))))))))))
    (bm_one (sm_ret (s := false) (pm_tup (am_cons (pm_var 4) (am_cons (pm_ty (s1 := true) call_tuple_of cd_tupOf Tb.tuple (by decide +kernel) (am_cons (pm_own 5) am_nil)) am_nil))))))))

/-! _law_text_of -/
abbrev s__law_text_of : Stmt := topS 37
abbrev N__law_text_of : List Str := ["_law_data_here", "_law_count", "_law_price"]
theorem sc__law_text_of : FnScope N__law_text_of ["_law_data_here"] (defScope s__law_text_of) := ⟨rfl, rfl, rfl, by decide +kernel, rfl, by decide +kernel, by decide +kernel⟩
def b__law_text_of : Bl Unit := (sRet (mM1 dJoinS (mC (.str " ")) (mL (mCat (mL (mSz (mCons (mBlt (d1 dStrI) (mCons (mOp dIx (mVar 0) (mC (.int 0))) mNil)) (mCons (mBlt (d1 dStrI) (mCons (mOp dIx (mVar 0) (mC (.int 1))) mNil)) mNil)))) (mL (mLc [1, 2] (mItems (mOp dIx (mVar 0) (mC (.int 2)))) (gT 2 (gsC (gN 1) (gsC (gN 2) gsN))) mYes (mOp dAdd (mOp dAdd (mBlt (d1 dStrI) (mCons (mVar 1) mNil)) (mC (.str "*"))) (mBlt (d1 dStrI) (mCons (mVar 2) mNil)))))))))
def f__law_text_of : Fn := runDef 1 3 (b__law_text_of)
theorem g__law_text_of {f : Addr} {fd : FuncData} (F : Fun K "_law_text_of" "_law_text_of" s__law_text_of f fd) (hm : mg "_law_text_of" = some (.ref f)) (Tb : Blts mg) : Good P w K mg base 1 "_law_text_of" (f__law_text_of) := by
  refine ⟨f, fd, _, hm, F.kp, F.binds (ps := ["_law_data_here"]) fun _ _ _ _ _ _ us hl => match us, hl with | [_], _ => rfl, def_ok F sc__law_text_of rfl rfl fun cdv A outer s H E hr => ?_⟩
  have nd := sc__law_text_of.nd
  have hu := hr.un64
  have hu1 := hr.un65
  have hp := pass_def (P := P) (w := w) (K := K) (mg := mg) (base := base) (qual := "_law_text_of") (sc := defScope s__law_text_of) (N := N__law_text_of) (f := f) (cdv := cdv) (A := A) (outer := outer) (s := s) (H := H) (E := E)
  have hpo := passes_def (P := P) (w := w) (K := K) (mg := mg) (base := base) (qual := "_law_text_of") (sc := defScope s__law_text_of) (N := N__law_text_of) (f := f) (cdv := cdv) (A := A) (outer := outer) (s := s) (H := H) (E := E)
  have hc : (cxOf (L2.CX P w) P w K mg base N__law_text_of "_law_text_of" (defScope s__law_text_of) f cdv A outer s H E).calm = true := rfl
  exact (bm_one (sm_ret (s := false) (pm_joinS (s1 := false) (s2 := false) pm_str (pm_l (lm_cat (s1 := false) (s2 := false) (pm_l (lm_lst (am_cons (pm_ty (s1 := false) call_str_int cd_strI Tb.str (by decide +kernel) (am_cons (pm_ix (s1 := false) (s2 := false) (pm_var 0) pm_int (fun _ _ => rfl)) am_nil)) (am_cons (pm_ty (s1 := false) call_str_int cd_strI Tb.str (by decide +kernel) (am_cons (pm_ix (s1 := false) (s2 := false) (pm_var 0) pm_int (fun _ _ => rfl)) am_nil)) am_nil)))) (pm_l (lm_lc (own := [("_law_count", 1), ("_law_price", 2)]) hc nd (im_seq (pm_ix (s1 := false) (s2 := false) (pm_var 0) pm_int (fun _ _ => rfl))) (blkOk_by (own := [("_law_count", 1), ("_law_price", 2)]) (N := N__law_text_of) (by kernel_rfl)) (fun _ _ _ _ _ => (gt_tup hc (gts_cons (gt_name 1 nd) (gts_cons (gt_name 2 nd) gts_nil)))) (fun _ _ _ _ _ => ts_nil) (fun _ _ _ _ _ => (pm_op (s1 := false) (s2 := false) or_add opd_add (pm_op (s1 := false) (s2 := false) or_add opd_add (pm_ty (s1 := false) call_str_int cd_strI Tb.str (by decide +kernel) (am_cons (pm_var 1) am_nil)) pm_str) (pm_ty (s1 := false) call_str_int cd_strI Tb.str (by decide +kernel) (am_cons (pm_var 2) am_nil)))))))))))

/-! _law_book_text -/
abbrev s__law_book_text : Stmt := topS 38
abbrev N__law_book_text : List Str := ["_law_book_here", "_law_lines", "_law_buy", "_law_want", "_law_keep", "_law_line"]
theorem sc__law_book_text : FnScope N__law_book_text ["_law_book_here"] (defScope s__law_book_text) := ⟨rfl, rfl, rfl, by decide +kernel, rfl, by decide +kernel, by decide +kernel⟩
def b__law_book_text : Bl Unit := (sSeq (sSet 1 (mL (mSz (mCons (mOp dAdd (mC (.str "begin ")) (mBlt (d1 dStrI) (mCons (mOp dIx (mVar 0) (mC (.int 0))) mNil))) mNil))))
  (sSeq (sFor (mItems (mOp dIx (mVar 0) (mC (.int 1)))) (gT 3 (gsC (gN 2) (gsC (gN 3) (gsC (gN 4) gsN)))) (sSet 1 (mL (mCat (mVar 1) (mL (mSz (mCons (mOp dAdd (mC (.str "buy ")) (mCall f__law_text_of (mCons (mVar 2) mNil))) (mCons (mOp dAdd (mC (.str "want ")) (mBlt (d1 dStrI) (mCons (mVar 3) mNil))) (mCons (mOp dAdd (mC (.str "keep ")) (mCall f__law_text_of (mCons (mVar 4) mNil))) mNil)))))))))
  (sRet (mM1 dJoinS (mC (.str "")) (mL (mLc [5] (mItems (mVar 1)) (gN 5) mYes (mOp dAdd (mVar 5) (mC (.str "\n")))))))))
def f__law_book_text : Fn := runDef 1 6 (b__law_book_text)
theorem g__law_book_text {f : Addr} {fd : FuncData} (F : Fun K "_law_book_text" "_law_book_text" s__law_book_text f fd) (hm : mg "_law_book_text" = some (.ref f)) (Tb : Blts mg) (g__law_text_of : Good P w K mg base 1 "_law_text_of" f__law_text_of) : Good P w K mg base 2 "_law_book_text" (f__law_book_text) := by
  refine ⟨f, fd, _, hm, F.kp, F.binds (ps := ["_law_book_here"]) fun _ _ _ _ _ _ us hl => match us, hl with | [_], _ => rfl, def_ok F sc__law_book_text rfl rfl fun cdv A outer s H E hr => ?_⟩
  have nd := sc__law_book_text.nd
  have hu := hr.un64
  have hu1 := hr.un65
  have hp := pass_def (P := P) (w := w) (K := K) (mg := mg) (base := base) (qual := "_law_book_text") (sc := defScope s__law_book_text) (N := N__law_book_text) (f := f) (cdv := cdv) (A := A) (outer := outer) (s := s) (H := H) (E := E)
  have hpo := passes_def (P := P) (w := w) (K := K) (mg := mg) (base := base) (qual := "_law_book_text") (sc := defScope s__law_book_text) (N := N__law_book_text) (f := f) (cdv := cdv) (A := A) (outer := outer) (s := s) (H := H) (E := E)
  have hc : (cxOf (L2.CX P w) P w K mg base N__law_book_text "_law_book_text" (defScope s__law_book_text) f cdv A outer s H E).calm = true := rfl
  exact (bm_cons (sm_set 1 nd (pm_l (lm_lst (am_cons (pm_op (s1 := false) (s2 := false) or_add opd_add pm_str (pm_ty (s1 := false) call_str_int cd_strI Tb.str (by decide +kernel) (am_cons (pm_ix (s1 := false) (s2 := false) (pm_var 0) pm_int (fun _ _ => rfl)) am_nil))) am_nil))))
    (bm_cons (sm_for hpo hc (im_seq (pm_ix (s1 := false) (s2 := false) (pm_var 0) pm_int (fun _ _ => rfl))) (gt_tup hc (gts_cons (gt_name 2 nd) (gts_cons (gt_name 3 nd) (gts_cons (gt_name 4 nd) gts_nil)))) (bm_one (sm_set 1 nd (pm_l (lm_cat (s1 := false) (s2 := false) (pm_var 1) (pm_l (lm_lst (am_cons (pm_op (s1 := false) (s2 := false) or_add opd_add pm_str (pm_call g__law_text_of (hr.mono (by decide)) hp (am_cons (pm_var 2) am_nil))) (am_cons (pm_op (s1 := false) (s2 := false) or_add opd_add pm_str (pm_ty (s1 := false) call_str_int cd_strI Tb.str (by decide +kernel) (am_cons (pm_var 3) am_nil))) (am_cons (pm_op (s1 := false) (s2 := false) or_add opd_add pm_str (pm_call g__law_text_of (hr.mono (by decide)) hp (am_cons (pm_var 4) am_nil))) am_nil))))))))))
    (bm_one (sm_ret (s := false) (pm_joinS (s1 := false) (s2 := false) pm_str (pm_l (lm_lc (own := [("_law_line", 5)]) hc nd (im_seq (pm_var 1)) (blkOk_by (own := [("_law_line", 5)]) (N := N__law_book_text) (by kernel_rfl)) (fun _ _ _ _ _ => (gt_name 5 nd)) (fun _ _ _ _ _ => ts_nil) (fun _ _ _ _ _ => (pm_op (s1 := false) (s2 := false) or_add opd_add (pm_var 5) pm_str)))))))))

/-! _law_wide_data -/
abbrev s__law_wide_data : Stmt := topS 39
abbrev N__law_wide_data : List Str := ["_law_deck_here", "_law_low", "_law_prices", "_law_steps_here", "_law_k"]
theorem sc__law_wide_data : FnScope N__law_wide_data ["_law_deck_here"] (defScope s__law_wide_data) := ⟨rfl, rfl, rfl, by decide +kernel, rfl, by decide +kernel, by decide +kernel⟩
def b__law_wide_data (a : DkA) : Bl Dk := (sSeq (sIf (mTest (mOp dGt (mCallW (f__law_next a) (mCons (mVar 0) (mCons (mC (.int 4)) mNil))) (mC (.int 0)))) (sRet (mCallW (f__law_data a) (mCons (mVar 0) (mCons (mCallW (f__law_great a) (mCons (mVar 0) mNil)) (mCons (mC (.int 6)) mNil))))) sNil)
  (sSeq (sSet 1 (mOp dAdd (mUn dNeg (mOp dPow (mC (.int 10)) (mC (.int 12)))) (mCallW (f__law_next a) (mCons (mVar 0) (mCons (mC (.int 3)) mNil)))))
  (sSeq (sSet 2 (mL (mSlL (mL (mSz (mCons (mUn dNeg (mOp dPow (mC (.int 10)) (mC (.int 6)))) (mCons (mUn dNeg (mC (.int 1))) (mCons (mC (.int 0)) (mCons (mC (.int 1)) (mCons (mC (.int 999999)) (mCons (mOp dPow (mC (.int 10)) (mC (.int 6))) mNil)))))))) mNo (mPart (mCallW (f__law_next a) (mCons (mVar 0) (mCons (mC (.int 7)) mNil)))))))
  (sSeq (sSet 3 (mBlt (d1 dTupOf) (mCons (mL (mLc [4] (mRange1 (mCons (mBlt (d1 dLen) (mCons (mVar 2) mNil)) mNil)) (gN 4) mYes (mTup (mCons (mOp dAdd (mOp dPow (mC (.int 10)) (mC (.int 11))) (mVar 4)) (mCons (mOp dIx (mVar 2) (mVar 4)) mNil))))) mNil)))
  (sRet (mTup (mCons (mVar 1) (mCons (mCallW (f__law_one a) (mCons (mVar 0) (mCons (mL (mSz (mCons (mUn dNeg (mOp dPow (mC (.int 10)) (mC (.int 12)))) (mCons (mC (.int 0)) (mCons (mOp dPow (mC (.int 10)) (mC (.int 12))) mNil))))) mNil))) (mCons (mVar 3) mNil)))))))))
def f__law_wide_data (a : DkA) : FnW Dk := runDefW 1 5 (b__law_wide_data a)
theorem g__law_wide_data {f : Addr} {fd : FuncData} (F : Fun K "_law_wide_data" "_law_wide_data" s__law_wide_data f fd) (hm : mg "_law_wide_data" = some (.ref f)) (Tb : Blts mg) (g__law_next : ∀ a, GoodW P w K mg base (WDk a) 1 "_law_next" (f__law_next a)) (g__law_one : ∀ a, GoodW P w K mg base (WDk a) 2 "_law_one" (f__law_one a)) (g__law_great : ∀ a, GoodW P w K mg base (WDk a) 2 "_law_great" (f__law_great a)) (g__law_data : ∀ a, GoodW P w K mg base (WDk a) 3 "_law_data" (f__law_data a)) (a : DkA) : GoodW P w K mg base (WDk a) 4 "_law_wide_data" (f__law_wide_data a) := by
  refine ⟨f, fd, _, hm, F.kp, F.binds (ps := ["_law_deck_here"]) fun _ _ _ _ _ _ us hl => match us, hl with | [_], _ => rfl, def_okW F sc__law_wide_data rfl rfl fun cdv A outer s H E hr => ?_⟩
  have nd := sc__law_wide_data.nd
  have hu := hr.un64
  have hu1 := hr.un65
  have hp := pass_def (P := P) (w := w) (K := K) (mg := mg) (base := base) (qual := "_law_wide_data") (sc := defScope s__law_wide_data) (N := N__law_wide_data) (f := f) (cdv := cdv) (A := A) (outer := outer) (s := s) (H := H) (E := E)
  have hpo := passes_def (P := P) (w := w) (K := K) (mg := mg) (base := base) (qual := "_law_wide_data") (sc := defScope s__law_wide_data) (N := N__law_wide_data) (f := f) (cdv := cdv) (A := A) (outer := outer) (s := s) (H := H) (E := E)
  have hc : (cxOf (L2.CX P w) P w K mg base N__law_wide_data "_law_wide_data" (defScope s__law_wide_data) f cdv A outer s H E).calm = true := rfl
  exact (bm_cons (sm_if (tm_cmp (s1 := false) (s2 := false) op_gt opd_gt (pm_callW (g__law_next a) (hr.mono (by decide)) hp (am_cons (pm_var 0) (am_cons pm_int am_nil))) pm_int (nomark _)) (bm_one (sm_ret (s := false) (pm_callW (g__law_data a) (hr.mono (by decide)) hp (am_cons (pm_var 0) (am_cons (pm_callW (g__law_great a) (hr.mono (by decide)) hp (am_cons (pm_var 0) am_nil)) (am_cons pm_int am_nil)))))) bm_nil)
    (bm_cons (sm_set 1 nd (pm_op (s1 := false) (s2 := false) or_add opd_add (pm_un (s1 := false) un_neg und_neg (pm_op (s1 := false) (s2 := false) op_pow opd_pow pm_int pm_int)) (pm_callW (g__law_next a) (hr.mono (by decide)) hp (am_cons (pm_var 0) (am_cons pm_int am_nil)))))
    (bm_cons (sm_set 2 nd (pm_l (lm_sl (s1 := false) (pm_l (lm_lst (am_cons (pm_un (s1 := false) un_neg und_neg (pm_op (s1 := false) (s2 := false) op_pow opd_pow pm_int pm_int)) (am_cons (pm_un (s1 := false) un_neg und_neg pm_int) (am_cons pm_int (am_cons pm_int (am_cons pm_int (am_cons (pm_op (s1 := false) (s2 := false) op_pow opd_pow pm_int pm_int) am_nil)))))))) om_none (om_some (s := false) (pm_callW (g__law_next a) (hr.mono (by decide)) hp (am_cons (pm_var 0) (am_cons pm_int am_nil)))))))
    (bm_cons (sm_set 3 nd (pm_ty (s1 := false) call_tuple_of cd_tupOf Tb.tuple (by decide +kernel) (am_cons (pm_l (lm_lc (own := [("_law_k", 4)]) hc nd (im_range1 (s1 := false) Tb.range (am_cons (pm_blt (s1 := false) call_len cd_len Tb.len (by decide +kernel) (am_cons (pm_var 2) am_nil)) am_nil)) (blkOk_by (own := [("_law_k", 4)]) (N := N__law_wide_data) (by kernel_rfl)) (fun _ _ _ _ _ => (gt_name 4 nd)) (fun _ _ _ _ _ => ts_nil) (fun _ _ _ _ _ => (pm_tup (am_cons (pm_op (s1 := false) (s2 := false) or_add opd_add (pm_op (s1 := false) (s2 := false) op_pow opd_pow pm_int pm_int) (pm_var 4)) (am_cons (pm_ix (s1 := false) (s2 := false) (pm_var 2) (pm_var 4) (fun _ _ => rfl)) am_nil)))))) am_nil)))
    (bm_one (sm_ret (s := false) (pm_tup (am_cons (pm_var 1) (am_cons (pm_callW (g__law_one a) (hr.mono (by decide)) hp (am_cons (pm_var 0) (am_cons (pm_l (lm_lst (am_cons (pm_un (s1 := false) un_neg und_neg (pm_op (s1 := false) (s2 := false) op_pow opd_pow pm_int pm_int)) (am_cons pm_int (am_cons (pm_op (s1 := false) (s2 := false) op_pow opd_pow pm_int pm_int) am_nil))))) am_nil))) (am_cons (pm_var 3) am_nil))))))))))

/-! _law_wide_book -/
abbrev s__law_wide_book : Stmt := topS 40
abbrev N__law_wide_book : List Str := ["_law_deck_here", "_law_found", "_law_k", "_law_want"]
theorem sc__law_wide_book : FnScope N__law_wide_book ["_law_deck_here"] (defScope s__law_wide_book) := ⟨rfl, rfl, rfl, by decide +kernel, rfl, by decide +kernel, by decide +kernel⟩
def b__law_wide_book (a : DkA) : Bl Dk := (sSeq (sIf (mTest (mOp dGt (mCallW (f__law_next a) (mCons (mVar 0) (mCons (mC (.int 3)) mNil))) (mC (.int 0)))) (sRet (mCallW (f__law_book a) (mCons (mVar 0) (mCons (mCallW (f__law_great a) (mCons (mVar 0) mNil)) (mCons (mC (.int 6)) (mCons (mC (.bl false)) mNil)))))) sNil)
  (sSeq (sOwn 1 (mSz mNil))
  (sSeq (sFor (mRange1 (mCons (mOp dAdd (mC (.int 1)) (mCallW (f__law_next a) (mCons (mVar 0) (mCons (mC (.int 6)) mNil)))) mNil)) (gN 2) (sSeq (sSet 3 (mCallW (f__law_one a) (mCons (mVar 0) (mCons (mL (mSz (mCons (mOp dPow (mC (.int 10)) (mC (.int 12))) (mCons (mUn dNeg (mOp dPow (mC (.int 10)) (mC (.int 12)))) (mCons (mC (.int 0)) mNil))))) mNil))))
  (sApp 1 (mTup (mCons (mCallW (f__law_wide_data a) (mCons (mVar 0) mNil)) (mCons (mVar 3) (mCons (mCallW (f__law_wide_data a) (mCons (mVar 0) mNil)) mNil)))))))
  (sRet (mTup (mCons (mCallW (f__law_one a) (mCons (mVar 0) (mCons (mL (mSz (mCons (mOp dPow (mC (.int 10)) (mC (.int 12))) (mCons (mUn dNeg (mOp dPow (mC (.int 10)) (mC (.int 12)))) (mCons (mUn dNeg (mC (.int 1))) mNil))))) mNil))) (mCons (mBlt (d1 dTupOf) (mCons (mOwn 1) mNil)) mNil)))))))
def f__law_wide_book (a : DkA) : FnW Dk := runDefW 1 4 (b__law_wide_book a)
theorem g__law_wide_book {f : Addr} {fd : FuncData} (F : Fun K "_law_wide_book" "_law_wide_book" s__law_wide_book f fd) (hm : mg "_law_wide_book" = some (.ref f)) (Tb : Blts mg) (g__law_next : ∀ a, GoodW P w K mg base (WDk a) 1 "_law_next" (f__law_next a)) (g__law_one : ∀ a, GoodW P w K mg base (WDk a) 2 "_law_one" (f__law_one a)) (g__law_great : ∀ a, GoodW P w K mg base (WDk a) 2 "_law_great" (f__law_great a)) (g__law_book : ∀ a, GoodW P w K mg base (WDk a) 4 "_law_book" (f__law_book a)) (g__law_wide_data : ∀ a, GoodW P w K mg base (WDk a) 4 "_law_wide_data" (f__law_wide_data a)) (a : DkA) : GoodW P w K mg base (WDk a) 5 "_law_wide_book" (f__law_wide_book a) := by
  refine ⟨f, fd, _, hm, F.kp, F.binds (ps := ["_law_deck_here"]) fun _ _ _ _ _ _ us hl => match us, hl with | [_], _ => rfl, def_okW F sc__law_wide_book rfl rfl fun cdv A outer s H E hr => ?_⟩
  have nd := sc__law_wide_book.nd
  have hu := hr.un64
  have hu1 := hr.un65
  have hp := pass_def (P := P) (w := w) (K := K) (mg := mg) (base := base) (qual := "_law_wide_book") (sc := defScope s__law_wide_book) (N := N__law_wide_book) (f := f) (cdv := cdv) (A := A) (outer := outer) (s := s) (H := H) (E := E)
  have hpo := passes_def (P := P) (w := w) (K := K) (mg := mg) (base := base) (qual := "_law_wide_book") (sc := defScope s__law_wide_book) (N := N__law_wide_book) (f := f) (cdv := cdv) (A := A) (outer := outer) (s := s) (H := H) (E := E)
  have hc : (cxOf (L2.CX P w) P w K mg base N__law_wide_book "_law_wide_book" (defScope s__law_wide_book) f cdv A outer s H E).calm = true := rfl
  exact (bm_cons (sm_if (tm_cmp (s1 := false) (s2 := false) op_gt opd_gt (pm_callW (g__law_next a) (hr.mono (by decide)) hp (am_cons (pm_var 0) (am_cons pm_int am_nil))) pm_int (nomark _)) (bm_one (sm_ret (s := false) (pm_callW (g__law_book a) (hr.mono (by decide)) hp (am_cons (pm_var 0) (am_cons (pm_callW (g__law_great a) (hr.mono (by decide)) hp (am_cons (pm_var 0) am_nil)) (am_cons pm_int (am_cons pm_bl am_nil))))))) bm_nil)
    (bm_cons (sm_own 1 nd (lm_lst am_nil))
    (bm_cons (sm_for hpo hc (im_range1 (s1 := false) Tb.range (am_cons (pm_op (s1 := false) (s2 := false) or_add opd_add pm_int (pm_callW (g__law_next a) (hr.mono (by decide)) hp (am_cons (pm_var 0) (am_cons pm_int am_nil)))) am_nil)) (gt_name 2 nd) (bm_cons (sm_set 3 nd (pm_callW (g__law_one a) (hr.mono (by decide)) hp (am_cons (pm_var 0) (am_cons (pm_l (lm_lst (am_cons (pm_op (s1 := false) (s2 := false) op_pow opd_pow pm_int pm_int) (am_cons (pm_un (s1 := false) un_neg und_neg (pm_op (s1 := false) (s2 := false) op_pow opd_pow pm_int pm_int)) (am_cons pm_int am_nil))))) am_nil))))
    (bm_one (sm_app 1 (pm_tup (am_cons (pm_callW (g__law_wide_data a) (hr.mono (by decide)) hp (am_cons (pm_var 0) am_nil)) (am_cons (pm_var 3) (am_cons (pm_callW (g__law_wide_data a) (hr.mono (by decide)) hp (am_cons (pm_var 0) am_nil)) am_nil))))))))
    (bm_one (sm_ret (s := false) (pm_tup (am_cons (pm_callW (g__law_one a) (hr.mono (by decide)) hp (am_cons (pm_var 0) (am_cons (pm_l (lm_lst (am_cons (pm_op (s1 := false) (s2 := false) op_pow opd_pow pm_int pm_int) (am_cons (pm_un (s1 := false) un_neg und_neg (pm_op (s1 := false) (s2 := false) op_pow opd_pow pm_int pm_int)) (am_cons (pm_un (s1 := false) un_neg und_neg pm_int) am_nil))))) am_nil))) (am_cons (pm_ty (s1 := true) call_tuple_of cd_tupOf Tb.tuple (by decide +kernel) (am_cons (pm_own 1) am_nil)) am_nil))))))))

/-! law -/
abbrev s_law : Stmt := topS 41
abbrev N_law : List Str := ["_law_script", "_law_deck_here", "_law_far", "_law_some", "_law_book_here", "_law_kept", "_law_text", "_law_turn"]
theorem sc_law : FnScope N_law ["_law_script"] (defScope s_law) := ⟨rfl, rfl, rfl, by decide +kernel, rfl, by decide +kernel, by decide +kernel⟩
def b_law (a : DkA) : Bl Dk := (sSeq (sSet 2 (mTup (mCons (mTup (mCons (mOp dPow (mC (.int 10)) (mC (.int 12))) (mCons (mUn dNeg (mOp dPow (mC (.int 10)) (mC (.int 12)))) (mCons (mTup mNil) mNil)))) (mCons (mOp dPow (mC (.int 10)) (mC (.int 12))) (mCons (mTup (mCons (mC (.int 0)) (mCons (mC (.int 0)) (mCons (mTup mNil) mNil)))) mNil)))))
  (sSeq (sSet 3 (mL (mSz (mCons (mTup (mCons (mC (.int 0)) (mCons (mTup (mCons (mTup (mCons (mTup (mCons (mC (.int 0)) (mCons (mC (.int 0)) (mCons (mTup mNil) mNil)))) (mCons (mC (.int 0)) (mCons (mTup (mCons (mC (.int 0)) (mCons (mC (.int 0)) (mCons (mTup mNil) mNil)))) mNil)))) mNil)) mNil))) (mCons (mTup (mCons (mUn dNeg (mOp dPow (mC (.int 10)) (mC (.int 12)))) (mCons (mOp dMul (mTup (mCons (mVar 2) mNil)) (mC (.int 6))) mNil))) mNil)))))
  (sSeq (sFor (mItems (mL (mCat (mVar 3) (mL (mLc [7] (mRange1 (mCons (mC (.int 9)) mNil)) (gN 7) mYes (mCallW (f__law_wide_book a) (mCons (mVar 1) mNil))))))) (gN 4) (sSeq (sPar [5, 6] (mCons (mBlt (d1 dRepr) (mCons (mVar 4) mNil)) (mCons (mCall f__law_book_text (mCons (mVar 4) mNil)) mNil)))
  (sSeq (sIf (mOr (mNot (mTru (mCall (f__law_same 12) (mCons (mL (mSz (mCons (mCall f_book_text (mCons (mVar 4) mNil)) (mCons (mCall f_parse_book (mCons (mVar 6) mNil)) mNil)))) (mCons (mL (mSz (mCons (mVar 6) (mCons (mVar 4) mNil)))) mNil))))) (mTest (mOp dNe (mBlt (d1 dRepr) (mCons (mVar 4) mNil)) (mVar 5)))) (sRet (mC (.bl false))) sNil)
  (sIf (mNot (mTru (mCall (f__law_same 12) (mCons (mL (mSz (mCons (mCall f_book_text (mCons (mVar 4) mNil)) (mCons (mCall f_parse_book (mCons (mCall f_book_text (mCons (mVar 4) mNil)) mNil)) mNil)))) (mCons (mL (mSz (mCons (mVar 6) (mCons (mVar 4) mNil)))) mNil))))) (sRet (mC (.bl false))) sNil))))
  (sRet (mC (.bl true))))))
def k_law : Nat := 14
theorem g_law {f : Addr} {a : DkA} {cdv : Value} {A : Around} {outer : List PySem.Env} {s : Shared} {H : Hp} {E : XK} (Tb : Blts mg) (g_book_text : Good P w K mg base 2 "book_text" f_book_text) (g_parse_book : Good P w K mg base 7 "parse_book" f_parse_book) (g__law_same : Good P w K mg base 13 "_law_same" (f__law_same 12)) (g__law_book_text : Good P w K mg base 2 "_law_book_text" f__law_book_text) (g__law_wide_book : ∀ a, GoodW P w K mg base (WDk a) 5 "_law_wide_book" (f__law_wide_book a)) (hr : Room 13 (A.deeper (PyProof.Rows.envOfC "law" (defScope s_law) s.heap.objs.size f cdv))) (hgd : A.guards = some []) :
    Bm (cxOf (L2.CX P w) P w K mg base N_law "law" (defScope s_law) f cdv A outer s H E) (WDk a) (WD E) ((defBody s_law).drop 1) (b_law a) := by
  have nd := sc_law.nd
  have hu := hr.un64
  have hu1 := hr.un65
  have hp := pass_def (P := P) (w := w) (K := K) (mg := mg) (base := base) (qual := "law") (sc := defScope s_law) (N := N_law) (f := f) (cdv := cdv) (A := A) (outer := outer) (s := s) (H := H) (E := E)
  have hpo := passes_def (P := P) (w := w) (K := K) (mg := mg) (base := base) (qual := "law") (sc := defScope s_law) (N := N_law) (f := f) (cdv := cdv) (A := A) (outer := outer) (s := s) (H := H) (E := E)
  have hc : (cxOf (L2.CX P w) P w K mg base N_law "law" (defScope s_law) f cdv A outer s H E).calm = true := rfl
  exact (bm_cons (sm_set 2 nd (pm_tup (am_cons (pm_tup (am_cons (pm_op (s1 := false) (s2 := false) op_pow opd_pow pm_int pm_int) (am_cons (pm_un (s1 := false) un_neg und_neg (pm_op (s1 := false) (s2 := false) op_pow opd_pow pm_int pm_int)) (am_cons (pm_tup am_nil) am_nil)))) (am_cons (pm_op (s1 := false) (s2 := false) op_pow opd_pow pm_int pm_int) (am_cons (pm_tup (am_cons pm_int (am_cons pm_int (am_cons (pm_tup am_nil) am_nil)))) am_nil)))))
    (bm_cons (sm_set 3 nd (pm_l (lm_lst (am_cons (pm_tup (am_cons pm_int (am_cons (pm_tup (am_cons (pm_tup (am_cons (pm_tup (am_cons pm_int (am_cons pm_int (am_cons (pm_tup am_nil) am_nil)))) (am_cons pm_int (am_cons (pm_tup (am_cons pm_int (am_cons pm_int (am_cons (pm_tup am_nil) am_nil)))) am_nil)))) am_nil)) am_nil))) (am_cons (pm_tup (am_cons (pm_un (s1 := false) un_neg und_neg (pm_op (s1 := false) (s2 := false) op_pow opd_pow pm_int pm_int)) (am_cons (pm_op (s1 := false) (s2 := false) or_mul opd_mul (pm_tup (am_cons (pm_var 2) am_nil)) pm_int) am_nil))) am_nil)))))
    (bm_cons (sm_for hpo hc (im_seq (pm_l (lm_cat (s1 := false) (s2 := false) (pm_var 3) (pm_l (lm_lc (own := [("_law_turn", 7)]) hc nd (im_range1 (s1 := false) Tb.range (am_cons pm_int am_nil)) (blkOk_by (own := [("_law_turn", 7)]) (N := N_law) (by kernel_rfl)) (fun _ _ _ _ _ => (gt_name 7 nd)) (fun _ _ _ _ _ => ts_nil) (fun _ _ _ _ _ => (pm_callW (g__law_wide_book a) (hr.mono (by decide)) pass_blk (am_cons (pm_var 1) am_nil)))))))) (gt_name 4 nd) (bm_cons (sm_par hc nd (am_cons (pm_blt (s1 := false) (cr_repr hgd hu1) cd_repr Tb.repr (by decide +kernel) (am_cons (pm_var 4) am_nil)) (am_cons (pm_call g__law_book_text (hr.mono (by decide)) hp (am_cons (pm_var 4) am_nil)) am_nil)) rfl rfl)
    (bm_cons (sm_if (tm_w (wm_or (tm_not (tm_tru (s := false) (pm_call g__law_same (hr.mono (by decide)) hp (am_cons (pm_l (lm_lst (am_cons (pm_call g_book_text (hr.mono (by decide)) hp (am_cons (pm_var 4) am_nil)) (am_cons (pm_call g_parse_book (hr.mono (by decide)) hp (am_cons (pm_var 6) am_nil)) am_nil)))) (am_cons (pm_l (lm_lst (am_cons (pm_var 6) (am_cons (pm_var 4) am_nil)))) am_nil))))) (wm_or1 (tm_cmp (s1 := false) (s2 := false) (or_ne hu) opd_ne (pm_blt (s1 := false) (cr_repr hgd hu1) cd_repr Tb.repr (by decide +kernel) (am_cons (pm_var 4) am_nil)) (pm_var 5) (nomark _))))) (bm_one (sm_ret (s := false) pm_bl)) bm_nil)
    (bm_one (sm_if (tm_not (tm_tru (s := false) (pm_call g__law_same (hr.mono (by decide)) hp (am_cons (pm_l (lm_lst (am_cons (pm_call g_book_text (hr.mono (by decide)) hp (am_cons (pm_var 4) am_nil)) (am_cons (pm_call g_parse_book (hr.mono (by decide)) hp (am_cons (pm_call g_book_text (hr.mono (by decide)) hp (am_cons (pm_var 4) am_nil)) am_nil)) am_nil)))) (am_cons (pm_l (lm_lst (am_cons (pm_var 6) (am_cons (pm_var 4) am_nil)))) am_nil))))) (bm_one (sm_ret (s := false) pm_bl)) bm_nil)))))
    (bm_one (sm_ret (s := false) pm_bl)))))

end DC
namespace DC
open PySem L2
/-! ## the plain law -/
theorem e_isint (i : Int) : f_is_integer [.int i] = .ok (.bl true) () := by
  simp [runDef, slots0, sRet, sSeq, sIf, sSet, sNil, mAndV, mOrV, mNotV, mIf, mUn, mOp, mVar, mC, mCall, mCons, mNil, mChain, ctLink, ctLast, mTest, mTru, mAnd, mOr, mNot, mBlt, mTup, Rs.bind, Rs.fl, ofO, d1, d2, dIsi, D.is, dTru, dLe, dLt, dGe, dGt, dCmp, dI, dSub, dEq, dNe, D.scal, D.eqv, eqvs, dLen, dIx, dAdd, atI_0, atI_1, atI_2, bl_dec, dItems, dIs, D.isNon, dIsNot, dNeg, sAsg, sFor, gT, gN, gsC, gsN, mItems, mL, mLc, notOwn, wipeG, mYes, mSz, mCat, mM1, dStrI, mJoin, jCons, jNil, mFmt, dFmt, mRange1, f_is_integer, b_is_integer]
theorem e_isin (v lo hi : Int) : f_is_integer_in [.int v, .int lo, .int hi] = .ok (.bl (decide (lo ≤ v) && decide (v ≤ hi))) () := by
  by_cases h : lo ≤ v <;> simp [runDef, slots0, sRet, sSeq, sIf, sSet, sNil, mAndV, mOrV, mNotV, mIf, mUn, mOp, mVar, mC, mCall, mCons, mNil, mChain, ctLink, ctLast, mTest, mTru, mAnd, mOr, mNot, mBlt, mTup, Rs.bind, Rs.fl, ofO, d1, d2, dIsi, D.is, dTru, dLe, dLt, dGe, dGt, dCmp, dI, dSub, dEq, dNe, D.scal, D.eqv, eqvs, dLen, dIx, dAdd, atI_0, atI_1, atI_2, bl_dec, dItems, dIs, D.isNon, dIsNot, dNeg, sAsg, sFor, gT, gN, gsC, gsN, mItems, mL, mLc, notOwn, wipeG, mYes, mSz, mCat, mM1, dStrI, mJoin, jCons, jNil, mFmt, dFmt, mRange1, f_is_integer_in, b_is_integer_in, e_isint, h]
theorem e_istup (ds : List D) (n : Int) : f_is_tuple_of [.tup ds, .int n] = .ok (.bl (decide ((ds.length : Int) = n))) () := by
  simp [runDef, slots0, sRet, sSeq, sIf, sSet, sNil, mAndV, mOrV, mNotV, mIf, mUn, mOp, mVar, mC, mCall, mCons, mNil, mChain, ctLink, ctLast, mTest, mTru, mAnd, mOr, mNot, mBlt, mTup, Rs.bind, Rs.fl, ofO, d1, d2, dIsi, D.is, dTru, dLe, dLt, dGe, dGt, dCmp, dI, dSub, dEq, dNe, D.scal, D.eqv, eqvs, dLen, dIx, dAdd, atI_0, atI_1, atI_2, bl_dec, dItems, dIs, D.isNon, dIsNot, dNeg, sAsg, sFor, gT, gN, gsC, gsN, mItems, mL, mLc, notOwn, wipeG, mYes, mSz, mCat, mM1, dStrI, mJoin, jCons, jNil, mFmt, dFmt, mRange1, f_is_tuple_of, b_is_tuple_of]
def encS (p : Int × Int) : D := .tup [.int p.1, .int p.2]
structure Dt where
  low : Int
  cost : Int
  st : List (Int × Int)
def encD (d : Dt) : D := .tup [.int d.low, .int d.cost, .tup (d.st.map encS)]
/-- rising steps within the limits -/
def StOk (st : List (Int × Int)) : Prop := st.Pairwise (fun a b => a.2 < b.2) ∧ ∀ p ∈ st, 1 ≤ p.1 ∧ p.1 ≤ 9000000000000 ∧ -1000000 ≤ p.2 ∧ p.2 ≤ 1000000
def top (d : Dt) : Int := d.low + (d.st.map Prod.fst).sum
def DtOk (d : Dt) : Prop := StOk d.st ∧ d.st.length ≤ 6 ∧ -1000000000000 ≤ d.low ∧ d.low ≤ 1000000000000 ∧ -1000000000000 ≤ d.cost ∧ d.cost ≤ 1000000000000 ∧ top d ≤ 1000000000000
theorem e_step {st : List (Int × Int)} (h : StOk st) {i : Nat} (hi : i < st.length) : f_step_error [.tup (st.map encS), .int i] = .ok (.bl false) () := by
  obtain ⟨h1, h2⟩ := h
  have g := h2 st[i] (List.getElem_mem hi)
  have c1 : ¬ (st[i].1 < 1) := by omega
  have c4 : st[i].2 ≤ 1000000 := g.2.2.2
  by_cases z : i = 0
  · subst z
    have c2 : (-1000000 : Int) ≤ st[0].2 := g.2.2.1
    have a1 : L2.atI (st.map encS) 0 = some (encS st[0]) := by
      have := atI_nat (st.map encS) 0
      rw [show ((0 : Nat) : Int) = 0 from rfl] at this
      rw [this]; simp [runDef, slots0, sRet, sSeq, sIf, sSet, sNil, mAndV, mOrV, mNotV, mIf, mUn, mOp, mVar, mC, mCall, mCons, mNil, mChain, ctLink, ctLast, mTest, mTru, mAnd, mOr, mNot, mBlt, mTup, Rs.bind, Rs.fl, ofO, d1, d2, dIsi, D.is, dTru, dLe, dLt, dGe, dGt, dCmp, dI, dSub, dEq, dNe, D.scal, D.eqv, eqvs, dLen, dIx, dAdd, atI_0, atI_1, atI_2, bl_dec, dItems, dIs, D.isNon, dIsNot, dNeg, sAsg, sFor, gT, gN, gsC, gsN, mItems, mL, mLc, notOwn, wipeG, mYes, mSz, mCat, mM1, dStrI, mJoin, jCons, jNil, mFmt, dFmt, mRange1, hi]
    simp [runDef, slots0, sRet, sSeq, sIf, sSet, sNil, mAndV, mOrV, mNotV, mIf, mUn, mOp, mVar, mC, mCall, mCons, mNil, mChain, ctLink, ctLast, mTest, mTru, mAnd, mOr, mNot, mBlt, mTup, Rs.bind, Rs.fl, ofO, d1, d2, dIsi, D.is, dTru, dLe, dLt, dGe, dGt, dCmp, dI, dSub, dEq, dNe, D.scal, D.eqv, eqvs, dLen, dIx, dAdd, atI_0, atI_1, atI_2, bl_dec, dItems, dIs, D.isNon, dIsNot, dNeg, sAsg, sFor, gT, gN, gsC, gsN, mItems, mL, mLc, notOwn, wipeG, mYes, mSz, mCat, mM1, dStrI, mJoin, jCons, jNil, mFmt, dFmt, mRange1, f_step_error, b_step_error, a1, encS, e_istup, e_isint, e_isin, c1, c4, c2]
  · obtain ⟨j, rfl⟩ : ∃ j, i = j + 1 := ⟨i - 1, by omega⟩
    have hj : j < st.length := by omega
    have a1 : L2.atI (st.map encS) ((j : Int) + 1) = some (encS st[j + 1]) := by
      have := atI_nat (st.map encS) (j + 1)
      rw [show ((j + 1 : Nat) : Int) = (j : Int) + 1 from rfl] at this
      rw [this]; simp [runDef, slots0, sRet, sSeq, sIf, sSet, sNil, mAndV, mOrV, mNotV, mIf, mUn, mOp, mVar, mC, mCall, mCons, mNil, mChain, ctLink, ctLast, mTest, mTru, mAnd, mOr, mNot, mBlt, mTup, Rs.bind, Rs.fl, ofO, d1, d2, dIsi, D.is, dTru, dLe, dLt, dGe, dGt, dCmp, dI, dSub, dEq, dNe, D.scal, D.eqv, eqvs, dLen, dIx, dAdd, atI_0, atI_1, atI_2, bl_dec, dItems, dIs, D.isNon, dIsNot, dNeg, sAsg, sFor, gT, gN, gsC, gsN, mItems, mL, mLc, notOwn, wipeG, mYes, mSz, mCat, mM1, dStrI, mJoin, jCons, jNil, mFmt, dFmt, mRange1, hi]
    have a2 : L2.atI (st.map encS) (j : Int) = some (encS st[j]) := by rw [atI_nat]; simp [runDef, slots0, sRet, sSeq, sIf, sSet, sNil, mAndV, mOrV, mNotV, mIf, mUn, mOp, mVar, mC, mCall, mCons, mNil, mChain, ctLink, ctLast, mTest, mTru, mAnd, mOr, mNot, mBlt, mTup, Rs.bind, Rs.fl, ofO, d1, d2, dIsi, D.is, dTru, dLe, dLt, dGe, dGt, dCmp, dI, dSub, dEq, dNe, D.scal, D.eqv, eqvs, dLen, dIx, dAdd, atI_0, atI_1, atI_2, bl_dec, dItems, dIs, D.isNon, dIsNot, dNeg, sAsg, sFor, gT, gN, gsC, gsN, mItems, mL, mLc, notOwn, wipeG, mYes, mSz, mCat, mM1, dStrI, mJoin, jCons, jNil, mFmt, dFmt, mRange1, hj]
    have c3 : st[j].2 < st[j + 1].2 := List.pairwise_iff_getElem.mp h1 j (j + 1) hj hi (by omega)
    have c5 : st[j].2 + 1 ≤ st[j + 1].2 := by omega
    have c6 : (0 : Int) < (j : Int) + 1 := by omega
    simp [runDef, slots0, sRet, sSeq, sIf, sSet, sNil, mAndV, mOrV, mNotV, mIf, mUn, mOp, mVar, mC, mCall, mCons, mNil, mChain, ctLink, ctLast, mTest, mTru, mAnd, mOr, mNot, mBlt, mTup, Rs.bind, Rs.fl, ofO, d1, d2, dIsi, D.is, dTru, dLe, dLt, dGe, dGt, dCmp, dI, dSub, dEq, dNe, D.scal, D.eqv, eqvs, dLen, dIx, dAdd, atI_0, atI_1, atI_2, bl_dec, dItems, dIs, D.isNon, dIsNot, dNeg, sAsg, sFor, gT, gN, gsC, gsN, mItems, mL, mLc, notOwn, wipeG, mYes, mSz, mCat, mM1, dStrI, mJoin, jCons, jNil, mFmt, dFmt, mRange1, f_step_error, b_step_error, a1, a2, encS, e_istup, e_isint, e_isin, c1, c4, c5, c6]
end DC
/-! ## reading mirrors off, applied -/
namespace DC
open PySem L2
section
variable {T : Type} {Γ : Gm} {t : T}
@[simp] theorem rb_ok {α β : Type} {a : α} {f : α → T → Rs T β} : (Rs.ok a t).bind f = f a t := rfl
@[simp] theorem rb_er {α β : Type} {a : Er} {f : α → T → Rs T β} : (Rs.er a t : Rs T α).bind f = .er a t := rfl
@[simp] theorem rf_ok {α : Type} {a : α} {f : α → T → Fl T} : (Rs.ok a t).fl Γ f = f a t := rfl
@[simp] theorem ofO_some {α : Type} {d : α} : (ofO (some d) t : Rs T α) = .ok d t := rfl
@[simp] theorem ev_mVar {i : Nat} : (mVar i : Ex T) Γ t = match Γ[i]? with | some (some (.dat d)) => .ok d t | _ => .bad := rfl
@[simp] theorem ev_mOwn {i : Nat} : (mOwn i : Ex T) Γ t = match Γ[i]? with | some (some (.own d)) => .ok (.lst d) t | _ => .bad := rfl
@[simp] theorem ev_mC {d : D} : (mC d : Ex T) Γ t = .ok d t := rfl
@[simp] theorem ev_mOp {f : D → D → Option D} {a b : Ex T} : mOp f a b Γ t = (a Γ t).bind fun x t1 => (b Γ t1).bind fun y t2 => ofO (f x y) t2 := rfl
@[simp] theorem ev_mUn {f : D → Option D} {a : Ex T} : mUn f a Γ t = (a Γ t).bind fun x t1 => ofO (f x) t1 := rfl
def tst : D → T → Rs T Bool
  | .bl b, t => .ok b t
  | _, _ => .bad
@[simp] theorem tst_bl {b : Bool} : tst (.bl b) t = .ok b t := rfl
@[simp] theorem ev_mTest {m : Ex T} : mTest m Γ t = (m Γ t).bind tst := by
  unfold mTest
  cases m Γ t with
  | ok d t1 => cases d <;> rfl
  | er _ _ => rfl
  | bad => rfl
def tru (d : D) (t : T) : Rs T Bool := match dTru d with | some b => .ok b t | none => .bad
@[simp] theorem ev_mTru {m : Ex T} : mTru m Γ t = (m Γ t).bind tru := by
  unfold mTru
  cases m Γ t with
  | ok d t1 => show ofO (dTru d) t1 = tru d t1; unfold tru; cases dTru d <;> rfl
  | er _ _ => rfl
  | bad => rfl
@[simp] theorem ev_mAnd {a b : Te T} : mAnd a b Γ t = (a Γ t).bind fun x t1 => if x = true then b Γ t1 else .ok false t1 := rfl
@[simp] theorem ev_mOr {a b : Te T} : mOr a b Γ t = (a Γ t).bind fun x t1 => if x = true then .ok true t1 else b Γ t1 := rfl
@[simp] theorem ev_mNot {a : Te T} : mNot a Γ t = (a Γ t).bind fun x t1 => .ok (!x) t1 := rfl
@[simp] theorem ev_mAndV {a b : Ex T} : mAndV a b Γ t = (a Γ t).bind fun x t1 => match dTru x with | some true => b Γ t1 | some false => .ok x t1 | none => .bad := rfl
@[simp] theorem ev_mOrV {a b : Ex T} : mOrV a b Γ t = (a Γ t).bind fun x t1 => match dTru x with | some false => b Γ t1 | some true => .ok x t1 | none => .bad := rfl
@[simp] theorem ev_mNotV {a : Ex T} : mNotV a Γ t = (a Γ t).bind fun x t1 => ofO ((dTru x).map fun b => D.bl !b) t1 := rfl
@[simp] theorem ev_mIf {c : Te T} {a b : Ex T} : mIf c a b Γ t = (c Γ t).bind fun x t1 => if x = true then a Γ t1 else b Γ t1 := rfl
@[simp] theorem ev_mNil : (mNil : Ar T) Γ t = .ok [] t := rfl
@[simp] theorem ev_mCons {a : Ex T} {r : Ar T} : mCons a r Γ t = (a Γ t).bind fun x t1 => (r Γ t1).bind fun xs t2 => .ok (x :: xs) t2 := rfl
def unst (d : D) (r : T → Rs T (List D)) (t : T) : Rs T (List D) := match dItems d with | some ds => (r t).bind fun xs t2 => .ok (ds ++ xs) t2 | none => .bad
@[simp] theorem ev_mStar {a : Ex T} {r : Ar T} : mStar a r Γ t = (a Γ t).bind fun x t1 => unst x (r Γ) t1 := rfl
@[simp] theorem unst_tup {ds : List D} {r : T → Rs T (List D)} : unst (.tup ds) r t = (r t).bind fun xs t2 => .ok (ds ++ xs) t2 := rfl
@[simp] theorem unst_lst {ds : List D} {r : T → Rs T (List D)} : unst (.lst ds) r t = (r t).bind fun xs t2 => .ok (ds ++ xs) t2 := rfl
def szd {α : Type} (ds : List D) (v : α) (t : T) : Rs T α := if ds.length ≤ 16777216 then .ok v t else .bad
@[simp] theorem ev_mTup {m : Ar T} : mTup m Γ t = (m Γ t).bind fun ds t1 => szd ds (.tup ds) t1 := rfl
@[simp] theorem ev_mL {m : Ar T} : mL m Γ t = (m Γ t).bind fun ds t1 => .ok (.lst ds) t1 := rfl
@[simp] theorem ev_mSz {m : Ar T} : mSz m Γ t = (m Γ t).bind fun ds t1 => szd ds ds t1 := rfl
@[simp] theorem ev_mCall {f : Fn} {m : Ar T} : mCall f m Γ t = (m Γ t).bind fun ds t1 => match f ds with | .ok d _ => .ok d t1 | .er e _ => .er e t1 | .bad => .bad := rfl
@[simp] theorem ev_mCallW {f : FnW T} {m : Ar T} : mCallW f m Γ t = (m Γ t).bind fun ds t1 => f ds t1 := rfl
@[simp] theorem ev_mBlt {f : List D → Option D} {m : Ar T} : mBlt f m Γ t = (m Γ t).bind fun ds t1 => ofO (f ds) t1 := rfl
@[simp] theorem ev_mChain {a : Ex T} {r : Ct T} : mChain a r Γ t = (a Γ t).bind fun x t1 => r x Γ t1 := rfl
@[simp] theorem ev_ctLast {f : D → D → Option D} {b : Ex T} {x : D} : ctLast f b x Γ t = (b Γ t).bind fun y t1 => ofO (f x y) t1 := rfl
def lnk (o : Option D) (r : T → Rs T D) (t : T) : Rs T D := match o with | some (.bl b) => if b = true then r t else .ok (.bl false) t | _ => .bad
@[simp] theorem lnk_bl {b : Bool} {r : T → Rs T D} : lnk (some (.bl b)) r t = if b = true then r t else .ok (.bl false) t := rfl
@[simp] theorem ev_ctLink {f : D → D → Option D} {b : Ex T} {r : Ct T} {x : D} : ctLink f b r x Γ t = (b Γ t).bind fun y t1 => lnk (f x y) (r y Γ) t1 := by
  unfold ctLink lnk
  cases b Γ t with
  | ok y t1 =>
    show _ = (match f x y with | some (.bl b) => if b = true then r y Γ t1 else .ok (.bl false) t1 | _ => .bad)
    simp only [Rs.bind]
    cases f x y with
    | none => rfl
    | some z =>
      cases z with
      | bl b => cases b <;> rfl
      | _ => rfl
  | er _ _ => rfl
  | bad => rfl
@[simp] theorem ev_mNo : (mNo : Po T) Γ t = .ok none t := rfl
@[simp] theorem ev_mPart {m : Ex T} : mPart m Γ t = (m Γ t).bind fun d t1 => match d with | .int i => .ok (some i) t1 | _ => .bad := rfl
@[simp] theorem ev_mSl {a : Ex T} {lo hi : Po T} : mSl a lo hi Γ t = (a Γ t).bind fun x t1 => (lo Γ t1).bind fun l t2 => (hi Γ t2).bind fun h t3 => ofO (dSl x l h) t3 := rfl
@[simp] theorem ev_mSlL {a : Ex T} {lo hi : Po T} : mSlL a lo hi Γ t = (a Γ t).bind fun x t1 => (lo Γ t1).bind fun l t2 => (hi Γ t2).bind fun h t3 => match x with | .lst ds => if ds.length ≤ 16777216 then .ok (cut ds l h) t3 else .bad | _ => .bad := rfl
@[simp] theorem ev_mCat {a b : Ex T} : mCat a b Γ t = (a Γ t).bind fun x t1 => (b Γ t1).bind fun y t2 => match x, y with | .lst xs, .lst ys => if xs.length + ys.length ≤ 16777216 then .ok (xs ++ ys) t2 else .bad | _, _ => .bad := rfl
@[simp] theorem ev_mItems {m : Ex T} : mItems m Γ t = (m Γ t).bind fun d t1 => ofO (dItems d) t1 := rfl
@[simp] theorem ev_mLc {own : List Nat} {it : Ar T} {tgt : Tg} {cond : Te T} {elt : Ex T} : mLc own it tgt cond elt Γ t = (it Γ t).bind fun ds t1 => if own.all (notOwn Γ) = true then lcGo tgt cond elt (wipeG Γ own) ds [] t1 else .bad := rfl
@[simp] theorem ev_mYes : (mYes : Te T) Γ t = .ok true t := rfl
@[simp] theorem ev_mM1 {f : Str → D → Option D} {a b : Ex T} : mM1 f a b Γ t = (a Γ t).bind fun x t1 => match x with | .str z => (b Γ t1).bind fun y t2 => ofO (f z y) t2 | _ => .bad := rfl
@[simp] theorem ev_mSplit {a b : Ex T} : mSplit a b Γ t = (a Γ t).bind fun x t1 => match x with | .str a => (b Γ t1).bind fun y t2 => (match y with | .str b => if (b.length == 0) = false ∧ a.length + 2 ≤ 16777216 then .ok ((Txt.split a b).map D.str) t2 else .bad | _ => .bad) | _ => .bad := rfl
@[simp] theorem ev_mFmt {m : Ex T} : mFmt m Γ t = (m Γ t).bind fun d t1 => ofO ((dFmt d).map D.str) t1 := rfl
@[simp] theorem ev_mJoin {r : Jt T} : mJoin r Γ t = (r Str.empty Γ t).bind fun z t1 => .ok (.str z) t1 := rfl
@[simp] theorem ev_jNil {acc : Str} : (jNil : Jt T) acc Γ t = .ok acc t := rfl
@[simp] theorem ev_jCons {m : Ex T} {r : Jt T} {acc : Str} : jCons m r acc Γ t = (m Γ t).bind fun d t1 => match d with | .str y => if (acc ++ y).length ≤ sizeLine then r (acc ++ y) Γ t1 else .bad | _ => .bad := rfl
@[simp] theorem ev_mRange1 {m : Ar T} : mRange1 m Γ t = (m Γ t).bind fun ds t1 => match ds with | [.int j] => if j.natAbs < 4611686018427387904 then .ok (dRange 0 j.toNat) t1 else .bad | _ => .bad := rfl
@[simp] theorem ev_mRange2 {m : Ar T} : mRange2 m Γ t = (m Γ t).bind fun ds t1 => match ds with | [.int i, .int j] => if i.natAbs < 4611686018427387904 ∧ j.natAbs < 4611686018427387904 then .ok (dRange i (j - i).toNat) t1 else .bad | _ => .bad := rfl
@[simp] theorem ev_mRange3 {m : Ar T} : mRange3 m Γ t = (m Γ t).bind fun ds t1 => match ds with | [.int i, .int j, .int k] => if k ≠ 0 ∧ k.natAbs < 1073741824 ∧ Builtin.Range.small i j k = true ∧ 0 ≤ Builtin.Range.rangeSize i j k then .ok (dRangeC i k (Builtin.Range.rangeSize i j k).toNat) t1 else .bad | _ => .bad := rfl
@[simp] theorem ev_mEnum {m : Ar T} : mEnum m Γ t = (m Γ t).bind fun ds t1 => match ds with | [.lst es] => .ok (dEnum 0 es) t1 | _ => .bad := rfl
@[simp] theorem ev_mZip2 {m : Ar T} : mZip2 m Γ t = (m Γ t).bind fun ds t1 => match ds with | [.lst es, .lst fs] => .ok (dZip es fs) t1 | [.tup es, .tup fs] => .ok (dZip es fs) t1 | _ => .bad := rfl
@[simp] theorem ev_mSigns {m : Ex T} : mSigns m Γ t = (m Γ t).bind fun d t1 => match d with | .str z => .ok (dSigns z) t1 | _ => .bad := rfl
/-! statements -/
@[simp] theorem ev_sNil : (sNil : Bl T) Γ t = .nx Γ t := rfl
def sq (r : Fl T) (b : Bl T) : Fl T := match r with | .nx Γ1 t1 => b Γ1 t1 | r => r
@[simp] theorem ev_sSeq {a b : Bl T} : sSeq a b Γ t = sq (a Γ t) b := by
  unfold sSeq sq
  cases a Γ t <;> rfl
@[simp] theorem sq_nx {b : Bl T} : sq (.nx Γ t) b = b Γ t := rfl
@[simp] theorem sq_rt {b : Bl T} {d : D} : sq (.rt d t) b = .rt d t := rfl
@[simp] theorem ev_sRet {m : Ex T} : sRet m Γ t = (m Γ t).fl Γ fun d t1 => .rt d t1 := rfl
@[simp] theorem ev_sRetN : (sRetN : Bl T) Γ t = .rt .non t := rfl
@[simp] theorem ev_sDrop {m : Ex T} : sDrop m Γ t = (m Γ t).fl Γ fun _ t1 => .nx Γ t1 := rfl
def asg (g : Tg) (Γ : Gm) (d : D) (t : T) : Fl T := match g d Γ with | some Γ1 => .nx Γ1 t | none => .bad
@[simp] theorem ev_sAsg {m : Ex T} {g : Tg} : sAsg m g Γ t = (m Γ t).fl Γ fun d t1 => asg g Γ d t1 := rfl
theorem asg_some {g : Tg} {d : D} {Γ1 : Gm} (h : g d Γ = some Γ1) : asg g Γ d t = .nx Γ1 t := by unfold asg; rw [h]
@[simp] theorem ev_sSet {i : Nat} {m : Ex T} : sSet i m Γ t = (m Γ t).fl Γ fun d t1 => .nx (Γ.set i (some (.dat d))) t1 := rfl
@[simp] theorem ev_sOwn {i : Nat} {m : Ar T} : sOwn i m Γ t = (m Γ t).fl Γ fun ds t1 => .nx (Γ.set i (some (.own ds))) t1 := rfl
def par (is : List Nat) (Γ : Gm) (ds : List D) (t : T) : Fl T := match setAll is ds Γ with | some Γ1 => .nx Γ1 t | none => .bad
@[simp] theorem ev_sPar {is : List Nat} {m : Ar T} : sPar is m Γ t = (m Γ t).fl Γ fun ds t1 => par is Γ ds t1 := rfl
@[simp] theorem par2 {i j : Nat} {a b : D} : par [i, j] Γ [a, b] t = .nx ((Γ.set i (some (.dat a))).set j (some (.dat b))) t := rfl
@[simp] theorem par3 {i j k : Nat} {a b c : D} : par [i, j, k] Γ [a, b, c] t = .nx (((Γ.set i (some (.dat a))).set j (some (.dat b))).set k (some (.dat c))) t := rfl
@[simp] theorem ev_sParO {i j : Nat} {m : Ex T} : sParO i j m Γ t = match m Γ t with | .ok d t1 => .nx ((Γ.set i (some (.own []))).set j (some (.dat d))) t1 | _ => .bad := rfl
@[simp] theorem ev_sParE {i j : Nat} {m : Ex T} : sParE i j m Γ t = (m Γ t).fl Γ fun d t1 => .nx ((Γ.set i (some (.dat d))).set j (some (.own []))) t1 := rfl
@[simp] theorem ev_sIf {x : Te T} {a b : Bl T} : sIf x a b Γ t = (x Γ t).fl Γ fun k t1 => if k = true then a Γ t1 else b Γ t1 := rfl
@[simp] theorem ev_sFor {it : Ar T} {g : Tg} {b : Bl T} : sFor it g b Γ t = (it Γ t).fl Γ fun ds t1 => forGo g b ds Γ t1 := rfl
@[simp] theorem ev_sWhile {m : Gm → T → Nat} {c : Te T} {b : Bl T} : sWhile m c b Γ t = whGo c b (m Γ t) Γ t := rfl
@[simp] theorem ev_sBrk : (sBrk : Bl T) Γ t = .bk Γ t := rfl
@[simp] theorem ev_sCnt : (sCnt : Bl T) Γ t = .ct Γ t := rfl
@[simp] theorem ev_sApp {i : Nat} {m : Ex T} : sApp i m Γ t = match ownAt Γ i with | some ds => (m Γ t).fl Γ fun d t1 => if ds.length < 16777216 then .nx (Γ.set i (some (.own (ds ++ [d])))) t1 else .bad | none => .bad := rfl
@[simp] theorem ev_sExt {i : Nat} {m : Ar T} : sExt i m Γ t = match ownAt Γ i with | some ds => (m Γ t).fl Γ fun es t1 => if ds.length + es.length ≤ 16777216 then .nx (Γ.set i (some (.own (ds ++ es)))) t1 else .bad | none => .bad := rfl
@[simp] theorem ev_sStar {n i : Nat} {m : Ex T} {r : Tgs} : sStar n i m r Γ t = (m Γ t).fl Γ fun d t1 => match d with | .lst ds => if n ≤ ds.length + 1 then (match r (ds.take i ++ [.lst ((ds.drop i).take (ds.length + 1 - n))] ++ (ds.drop i).drop (ds.length + 1 - n)) Γ with | some Γ1 => .nx Γ1 t1 | none => .bad) else .bad | _ => .bad := rfl
@[simp] theorem ev_sIfX {x : Tx T} {a b : Bl T} : sIfX x a b Γ t = match x Γ t with | .ok k Γ1 t1 => if k = true then a Γ1 t1 else b Γ1 t1 | .er e Γ1 t1 => .er e Γ1 t1 | .bad => .bad := rfl
@[simp] theorem ev_xNm {i : Nat} {f : D → D → Option D} {m mb : Ex T} : xNm i f m mb Γ t = match m Γ t with | .ok d t1 => (match mb (Γ.set i (some (.dat d))) t1 with | .ok y t2 => (match f d y with | some (.bl k) => .ok k (Γ.set i (some (.dat d))) t2 | _ => .bad) | .er e t2 => .er e (Γ.set i (some (.dat d))) t2 | .bad => .bad) | .er e t1 => .er e Γ t1 | .bad => .bad := rfl
@[simp] theorem ev_xOr {a : Tx T} {b : Te T} : xOr a b Γ t = match a Γ t with | .ok true Γ1 t1 => .ok true Γ1 t1 | .ok false Γ1 t1 => (match b Γ1 t1 with | .ok k t2 => .ok k Γ1 t2 | .er e t2 => .er e Γ1 t2 | .bad => .bad) | r => r := rfl
/-- what is walked over is read, what is done with each item is not -/
theorem lcGo_congr {tgt : Tg} {cond : Te T} {elt : Ex T} {Γ' : Gm} {ds es acc acc' : List D} (h1 : Γ = Γ') (h2 : ds = es) (h3 : acc = acc') : lcGo tgt cond elt Γ ds acc t = lcGo tgt cond elt Γ' es acc' t := by subst h1 h2 h3; rfl
theorem forGo_congr {g : Tg} {b : Bl T} {Γ' : Gm} {ds es : List D} (h1 : ds = es) (h2 : Γ = Γ') : forGo g b ds Γ t = forGo g b es Γ' t := by subst h1 h2; rfl
/-- a def's end -/
def fin (r : Fl T) : Rs T D := match r with | .nx _ t => .ok .non t | .rt d t => .ok d t | .er e _ t => .er e t | _ => .bad
@[simp] theorem fin_rt {d : D} : fin (.rt d t) = .ok d t := rfl
@[simp] theorem fin_nx : fin (.nx Γ t) = .ok .non t := rfl
theorem ev_run {np n : Nat} {m : Bl Unit} {ds : List D} (h : ds.length = np := by rfl) : runDef np n m ds = fin (m (slots0 n ds) ()) := by
  unfold runDef fin
  rw [if_pos h]
  try (cases m (slots0 n ds) () <;> rfl)
theorem ev_runW {np n : Nat} {m : Bl T} {ds : List D} (h : ds.length = np := by rfl) : runDefW np n m ds t = fin (m (slots0 n ds) t) := by
  unfold runDefW fin
  rw [if_pos h]
  try (cases m (slots0 n ds) t <;> rfl)
@[simp] theorem ev_mRep {a b : Ex T} : mRep a b Γ t = (a Γ t).bind fun x t1 => (b Γ t1).bind fun y t2 => match x, y with | .lst xs, .int k => if k.natAbs ≤ 16777216 ∧ xs.length * k.toNat ≤ 16777216 then .ok (List.replicate k.toNat xs).flatten t2 else .bad | _, _ => .bad := rfl
theorem ev_ext {i : Nat} {m : Ar T} {ds es : List D} {t1 : T} (hi : Γ[i]? = some (some (.own ds))) (hm : m Γ t = .ok es t1) (hl : ds.length + es.length ≤ 16777216) : sExt i m Γ t = .nx (Γ.set i (some (.own (ds ++ es)))) t1 := by
  rw [ev_sExt]
  unfold ownAt
  rw [hi]
  dsimp only
  rw [hm, rf_ok, if_pos hl]
theorem ev_app {i : Nat} {m : Ex T} {ds : List D} {x : D} {t1 : T} (hi : Γ[i]? = some (some (.own ds))) (hm : m Γ t = .ok x t1) (hl : ds.length < 16777216) : sApp i m Γ t = .nx (Γ.set i (some (.own (ds ++ [x])))) t1 := by
  rw [ev_sApp]
  unfold ownAt
  rw [hi]
  dsimp only
  rw [hm, rf_ok, if_pos hl]
theorem ev_cat {a b : Ex T} {xs ys : List D} {t1 t2 : T} (ha : a Γ t = .ok (.lst xs) t1) (hb : b Γ t1 = .ok (.lst ys) t2) (hl : xs.length + ys.length ≤ 16777216) : mCat a b Γ t = .ok (xs ++ ys) t2 := by
  rw [ev_mCat, ha, rb_ok, hb, rb_ok]
  dsimp only
  rw [if_pos hl]
theorem ev_set {i : Nat} {m : Ex T} {x : D} {t1 : T} (h : m Γ t = .ok x t1) : sSet i m Γ t = .nx (Γ.set i (some (.dat x))) t1 := by
  rw [ev_sSet, h, rf_ok]
theorem ev_l {m : Ar T} {xs : List D} {t1 : T} (h : m Γ t = .ok xs t1) : mL m Γ t = .ok (.lst xs) t1 := by
  rw [ev_mL, h, rb_ok]
theorem ev_var {i : Nat} {d : D} (h : Γ[i]? = some (some (.dat d))) : (mVar i : Ex T) Γ t = .ok d t := by
  rw [ev_mVar, h]
theorem ev_lc {own : List Nat} {it : Ar T} {tgt : Tg} {cond : Te T} {elt : Ex T} {ds : List D} {t1 : T} {r : Rs T (List D)} (hi : it Γ t = .ok ds t1) (h : lcGo tgt cond elt (wipeG Γ own) ds [] t1 = r) (ho : own.all (notOwn Γ) = true := by rfl) : mLc own it tgt cond elt Γ t = r := by
  rw [ev_mLc, hi, rb_ok, if_pos ho, h]
theorem ev_items {m : Ex T} {d : D} {ds : List D} {t1 : T} (h : m Γ t = .ok d t1) (hd : dItems d = some ds := by rfl) : mItems m Γ t = .ok ds t1 := by
  rw [ev_mItems, h, rb_ok, hd, ofO_some]
/-! operations on data of known kinds -/
@[simp] theorem dEq_str {a b : Str} : dEq (.str a) (.str b) = some (.bl (a == b)) := rfl
@[simp] theorem dNe_str {a b : Str} : dNe (.str a) (.str b) = some (.bl (!(a == b))) := rfl
@[simp] theorem dEq_int {a b : Int} : dEq (.int a) (.int b) = some (.bl (a == b)) := rfl
@[simp] theorem dNe_int {a b : Int} : dNe (.int a) (.int b) = some (.bl (!(a == b))) := rfl
@[simp] theorem dEq_bl {a b : Bool} : dEq (.bl a) (.bl b) = some (.bl (a == b)) := rfl
@[simp] theorem dNe_bl {a b : Bool} : dNe (.bl a) (.bl b) = some (.bl (!(a == b))) := rfl
@[simp] theorem dLe_int {a b : Int} : dLe (.int a) (.int b) = some (.bl (decide (a ≤ b))) := rfl
@[simp] theorem dLt_int {a b : Int} : dLt (.int a) (.int b) = some (.bl (decide (a < b))) := rfl
@[simp] theorem dGe_int {a b : Int} : dGe (.int a) (.int b) = some (.bl (decide (b ≤ a))) := rfl
@[simp] theorem dGt_int {a b : Int} : dGt (.int a) (.int b) = some (.bl (decide (b < a))) := rfl
@[simp] theorem dAdd_int {a b : Int} : dAdd (.int a) (.int b) = some (.int (a + b)) := rfl
@[simp] theorem dSub_int {a b : Int} : dSub (.int a) (.int b) = some (.int (a - b)) := rfl
@[simp] theorem dNeg_int {a : Int} : dNeg (.int a) = some (.int (-a)) := rfl
@[simp] theorem dLen_lst {ds : List D} : dLen (.lst ds) = some (.int ds.length) := rfl
@[simp] theorem dLen_tup {ds : List D} : dLen (.tup ds) = some (.int ds.length) := rfl
@[simp] theorem dIs_non {x : D} : dIs x .non = some (.bl x.isNon) := rfl
@[simp] theorem dIsNot_non {x : D} : dIsNot x .non = some (.bl (!x.isNon)) := rfl
@[simp] theorem dIx_tup {ds : List D} {i : Int} : dIx (.tup ds) (.int i) = L2.atI ds i := rfl
@[simp] theorem dIx_lst {ds : List D} {i : Int} : dIx (.lst ds) (.int i) = L2.atI ds i := rfl
/-! what the reading leaves -/
@[simp] theorem sx_slots0 {n : Nat} {ds : List D} : slots0 n ds = ds.map (fun d => some (Sl.dat d)) ++ List.replicate (n - ds.length) none := rfl
@[simp] theorem sx_wipe0 {Γ : Gm} : wipeG Γ [] = Γ := rfl
@[simp] theorem sx_wipe1 {Γ : Gm} {i : Nat} {is : List Nat} : wipeG Γ (i :: is) = (wipeG Γ is).set i none := rfl
@[simp] theorem sx_notOwn {Γ : Gm} {i : Nat} : notOwn Γ i = match Γ[i]? with | some (some (.own _)) => false | _ => true := rfl
@[simp] theorem sx_d1 {f : D → Option D} {x : D} : d1 f [x] = f x := rfl
@[simp] theorem sx_d2 {f : D → D → Option D} {x y : D} : d2 f [x, y] = f x y := rfl
@[simp] theorem sx_items_tup {ds : List D} : dItems (.tup ds) = some ds := rfl
@[simp] theorem sx_items_lst {ds : List D} : dItems (.lst ds) = some ds := rfl
@[simp] theorem sx_strI {i : Int} : dStrI (.int i) = if i.natAbs.log2 < 1920 then some (.str (toString i)) else none := rfl
@[simp] theorem sx_szd {α : Type} {ds : List D} {v : α} : szd ds v t = if ds.length ≤ 16777216 then .ok v t else .bad := rfl
@[simp] theorem sx_sl_str {z : Str} {lo hi : Option Int} : dSl (.str z) lo hi = if z.length ≤ 16777216 then some (.str (cutS z lo hi)) else none := rfl
@[simp] theorem sx_sl_tup {ds : List D} {lo hi : Option Int} : dSl (.tup ds) lo hi = some (.tup (cut ds lo hi)) := rfl
@[simp] theorem sx_at0 {α : Type} (x : α) (xs : List α) : L2.atI (x :: xs) 0 = some x := atI_0 x xs
@[simp] theorem sx_at1 {α : Type} (x y : α) (xs : List α) : L2.atI (x :: y :: xs) 1 = some y := atI_1 x y xs
@[simp] theorem sx_at2 {α : Type} (x y z : α) (xs : List α) : L2.atI (x :: y :: z :: xs) 2 = some z := atI_2 x y z xs
end
end DC
namespace DC
open PySem L2
theorem dInts_map : ∀ ns : List Int, dInts (ns.map D.int) = some ns
  | [] => rfl
  | n :: ns => by simp [dInts, dInts_map ns]
theorem dInts_comp {α : Type} (f : α → Int) : ∀ xs : List α, dInts (xs.map fun x => D.int (f x)) = some (xs.map f)
  | [] => rfl
  | n :: ns => by simp [dInts, dInts_comp f ns]
theorem e_last (d : Dt) (h : d.st.length ≤ 6) : f_last_place [encD d] = .ok (.int (top d)) () := by
  have e := lcGo_map (T := Unit) (tgt := gT 2 (gsC (gN 1) (gsC (gN 2) gsN))) (cond := mYes) (elt := mVar 1) (Γw := [some (.dat (encD d)), none, none]) (enc := encS) (g := fun p => D.int p.1) (t := ()) d.st [] (by simp; omega) fun p _ => ⟨[some (.dat (encD d)), some (.dat (.int p.1)), some (.dat (.int p.2))], rfl, rfl, rfl⟩
  simp only [encD, List.nil_append] at e
  unfold f_last_place b_last_place
  rw [ev_run]
  simp [encD, e, dSum, dInts_comp, top]
theorem range_get {lo : Int} {n i : Nat} {d : D} (h : (dRange lo n)[i]? = some d) : i < n ∧ d = .int (lo + (i : Int)) := by
  unfold dRange at h
  rw [List.getElem?_map] at h
  by_cases hi : i < n
  · rw [List.getElem?_range hi] at h
    exact ⟨hi, (Option.some.inj h).symm⟩
  · rw [List.getElem?_eq_none (by simp; omega)] at h; cases h
theorem e_derr (d : Dt) (h : DtOk d) : f_data_error [encD d] = .ok .non () := by
  obtain ⟨h1, h2, h3, h4, h5, h6, h7⟩ := h
  have el := e_last d h2
  obtain ⟨Γ', t', e1, v, e2⟩ := forGo_go (T := Unit) (g := gN 4) (b := sIf (mTest (mCall f_step_error (mCons (mVar 3) (mCons (mVar 4) mNil)))) (sRet (mTup (mCons (mC (.str "step")) (mCons (mVar 4) mNil)))) sNil) (fun _ Γ _ => ∃ v, Γ = [some (.dat (encD d)), some (.dat (.int d.low)), some (.dat (.int d.cost)), some (.dat (.tup (d.st.map encS))), v])
    (dRange 0 d.st.length) 0 [some (.dat (encD d)), some (.dat (.int d.low)), some (.dat (.int d.cost)), some (.dat (.tup (d.st.map encS))), none] () ⟨_, rfl⟩ fun i x Γ t hx ⟨v, hv⟩ => by
      obtain ⟨hi, rfl⟩ := range_get hx
      subst hv
      refine ⟨[some (.dat (encD d)), some (.dat (.int d.low)), some (.dat (.int d.cost)), some (.dat (.tup (d.st.map encS))), some (.dat (.int (0 + (i : Int))))], [some (.dat (encD d)), some (.dat (.int d.low)), some (.dat (.int d.cost)), some (.dat (.tup (d.st.map encS))), some (.dat (.int (0 + (i : Int))))], (), rfl, ?_, ⟨_, rfl⟩⟩
      have := e_step h1 hi
      simp [this]
  have c1 : (-1000000000000 : Int) ≤ d.low := h3
  have c2 : (-1000000000000 : Int) ≤ d.cost := h5
  have c3 : ¬ (6 : Int) < (d.st.length : Int) := by omega
  have c4 : d.st.length < 4611686018427387904 := by omega
  have c5 : ¬ (1000000000000 : Int) < top d := by omega
  subst e2
  simp only [encD] at el e1
  unfold f_data_error b_data_error
  rw [ev_run]
  simp [e_istup, e_isin, encD, c1, h4, c2, h6, c3, c4, e1, el, c5, asg, gT, gsC, gN, gsN, dIsi, D.is]
end DC
namespace DC
open PySem L2 SX
/-! ## texts -/
/-- the signs of a whole number -/
def zL (i : Int) : List Nat := if i < 0 then 45 :: TL.numL i.natAbs else TL.numL i.natAbs
theorem ofStr_app (a b : String) : Str.ofString (a ++ b) = Str.ofString a ++ Str.ofString b := by
  rw [Str.ofString_eq_toList, Str.ofString_eq_toList, Str.ofString_eq_toList]
  show (⟨_⟩ : Str) = ⟨_ ++ _⟩
  simp
theorem zstr (i : Int) : Str.ofString (toString i) = S (zL i) := by
  unfold zL
  by_cases h : i < 0
  · rw [if_pos h, PyProof.Rows.toString_neg h, ofStr_app, show (0 - i) = ((i.natAbs : Nat) : Int) by omega, num_S]
    exact S_cat [45] _
  · rw [if_neg h]
    have := num_S i.natAbs
    rw [show ((i.natAbs : Nat) : Int) = i by omega] at this
    exact this
theorem zrep (i : Int) : Str.ofString i.repr = S (zL i) := zstr i
theorem zlen {i : Int} (h1 : -10000000000000 < i) (h2 : i < 10000000000000) : (zL i).length ≤ 14 := by
  unfold zL
  have h3 : i.natAbs < 10 ^ 13 := by omega
  have := TL.numL_len (n := i.natAbs) (k := 13) (by decide) h3
  split
  · simp; omega
  · omega
theorem z_signs (i : Int) : ∀ c ∈ zL i, c = 45 ∨ (48 ≤ c ∧ c ≤ 57) := by
  intro c hc
  unfold zL at hc
  split at hc
  · rcases List.mem_cons.mp hc with h | h
    · exact .inl h
    · exact .inr (TL.numL_digits _ c h)
  · exact .inr (TL.numL_digits _ c hc)
theorem z_free {i : Int} {c : Nat} (h : c < 45 ∨ 57 < c ∨ c = 46 ∨ c = 47) : c ∉ zL i := fun z => by
  have := z_signs i c z
  omega
theorem z_ne (i : Int) : zL i ≠ [] := by
  unfold zL
  split
  · simp
  · exact TL.numL_ne _
/-! ### the texts of data -/
def sep (c : Nat) : Str := S [c]
def stL (p : Int × Int) : List Nat := zL p.1 ++ 42 :: zL p.2
def dtW (d : Dt) : List (List Nat) := zL d.low :: zL d.cost :: d.st.map stL
def dtL (d : Dt) : List Nat := TL.joinL [32] (dtW d)
theorem S_lenS (a : List Nat) : (S a).length = a.length := S_len a
theorem st_len {p : Int × Int} (h1 : 1 ≤ p.1) (h2 : p.1 ≤ 9000000000000) (h3 : -1000000 ≤ p.2) (h4 : p.2 ≤ 1000000) : (stL p).length ≤ 29 := by
  have := zlen (i := p.1) (by omega) (by omega)
  have := zlen (i := p.2) (by omega) (by omega)
  unfold stL
  simp
  omega
theorem dtW_len {d : Dt} (h : DtOk d) : ∀ l ∈ dtW d, l.length ≤ 29 := by
  intro l hl
  obtain ⟨h1, h2, h3, h4, h5, h6, h7⟩ := h
  unfold dtW at hl
  rcases List.mem_cons.mp hl with rfl | hl
  · have := zlen (i := d.low) (by omega) (by omega); omega
  · rcases List.mem_cons.mp hl with rfl | hl
    · have := zlen (i := d.cost) (by omega) (by omega); omega
    · obtain ⟨p, hp, rfl⟩ := List.mem_map.mp hl
      obtain ⟨g1, g2, g3, g4⟩ := h1.2 p hp
      exact st_len g1 g2 g3 g4
theorem sum_le {B : Nat} : ∀ ls : List (List Nat), (∀ l ∈ ls, l.length ≤ B) → (ls.map fun x => x.length).sum ≤ ls.length * B
  | [], _ => by simp
  | l :: ls, h => by
    have := sum_le ls fun x hx => h x (List.mem_cons_of_mem _ hx)
    have := h l (List.mem_cons_self ..)
    simp only [List.map_cons, List.sum_cons, List.length_cons]
    rw [Nat.add_mul]; omega
theorem dStrs_map : ∀ ls : List (List Nat), dStrs (ls.map fun l => D.str (S l)) = some (ls.map S)
  | [] => rfl
  | l :: ls => by simp [dStrs, dStrs_map ls]
/-- joined -/
theorem e_join {c : Nat} (ls : List (List Nat)) (B : Nat) (h : ∀ l ∈ ls, l.length ≤ B) (hz : ls.length * (B + 1) ≤ 16777216) : dJoin (.str (S [c])) (.lst (ls.map fun l => D.str (S l))) = some (.str (S (TL.joinL [c] ls))) := by
  have hs := sum_le ls h
  have : ((ls.map S).map (·.length)).sum + (ls.map S).length * (S [c]).length ≤ 16777216 := by
    rw [lens, S_len, List.length_map]
    rw [Nat.mul_add] at hz
    simp; simp at hz; omega
  unfold dJoin
  simp only [dItems, dStrs_map]
  rw [if_pos this, join_S]
theorem zlog {i : Int} (h1 : -10000000000000 < i) (h2 : i < 10000000000000) : i.natAbs.log2 < 1920 := by
  have : i.natAbs < 2 ^ 64 := by omega
  by_cases z : i.natAbs = 0
  · rw [z]; decide
  · have := (Nat.log2_lt z).mpr this
    omega
theorem emp_S (a : List Nat) : Str.empty ++ S a = S a := by
  show S [] ++ S a = S a
  rw [S_cat]; rfl
theorem c_star : (Str.ofString "*") = S [42] := rfl
theorem c_sp : (Str.ofString " ") = S [32] := rfl
/-- {count}*{price} -/
theorem e_fst {T : Type} {Γ : Gm} {t : T} {i j : Nat} {p : Int × Int} (g1 : 1 ≤ p.1) (g2 : p.1 ≤ 9000000000000) (g3 : -1000000 ≤ p.2) (g4 : p.2 ≤ 1000000) (hi : Γ[i]? = some (some (.dat (.int p.1)))) (hj : Γ[j]? = some (some (.dat (.int p.2)))) :
    (mJoin (jCons (mFmt (mVar i)) (jCons (mC (.str "*")) (jCons (mFmt (mVar j)) jNil))) : Ex T) Γ t = .ok (.str (S (stL p))) t := by
  have l1 := zlog (i := p.1) (by omega) (by omega)
  have l2 := zlog (i := p.2) (by omega) (by omega)
  have n1 := zlen (i := p.1) (by omega) (by omega)
  have n2 := zlen (i := p.2) (by omega) (by omega)
  have hz : 16777216 ≤ sizeLine := by decide
  have a1 : (zL p.1).length ≤ sizeLine := by omega
  have a2 : (zL p.1 ++ [42]).length ≤ sizeLine := by simp; omega
  have a3 : (zL p.1 ++ [42] ++ zL p.2).length ≤ sizeLine := by simp; omega
  have e3 : zL p.1 ++ [42] ++ zL p.2 = stL p := by unfold stL; simp
  rw [e3] at a3
  simp only [mJoin, jCons, mFmt, mVar, mC, jNil, hi, hj, Rs.bind, dFmt, l1, l2, if_true, Option.map, ofO, zstr, emp_S, S_len, a1, c_star, S_cat, a2, a3, e3]
theorem e_dtext (d : Dt) (h : DtOk d) : f_data_text [encD d] = .ok (.str (S (dtL d))) () := by
  have h0 := h
  obtain ⟨h1, h2, h3, h4, h5, h6, h7⟩ := h
  have e := lcGo_map (T := Unit) (tgt := gT 2 (gsC (gN 1) (gsC (gN 2) gsN))) (cond := mYes) (elt := mJoin (jCons (mFmt (mVar 1)) (jCons (mC (.str "*")) (jCons (mFmt (mVar 2)) jNil)))) (Γw := [some (.dat (encD d)), none, none]) (enc := encS) (g := fun p => D.str (S (stL p))) (t := ()) d.st [] (by simp; omega) fun p hp => ⟨[some (.dat (encD d)), some (.dat (.int p.1)), some (.dat (.int p.2))], rfl, rfl, by
    obtain ⟨g1, g2, g3, g4⟩ := h1.2 p hp
    exact e_fst g1 g2 g3 g4 rfl rfl⟩
  have l1 := zlog (i := d.low) (by omega) (by omega)
  have l2 := zlog (i := d.cost) (by omega) (by omega)
  have j := e_join (c := 32) (dtW d) 29 (dtW_len h0) (by unfold dtW; simp; omega)
  have ew : (dtW d).map (fun l => D.str (S l)) = D.str (S (zL d.low)) :: D.str (S (zL d.cost)) :: d.st.map (fun p => D.str (S (stL p))) := by unfold dtW; simp
  rw [ew] at j
  simp only [List.nil_append, encD] at e
  have z1 : dJoinS (S [32]) (.lst (D.str (S (zL d.low)) :: D.str (S (zL d.cost)) :: d.st.map (fun p => D.str (S (stL p))))) = some (.str (S (dtL d))) := j
  have lz : 2 + d.st.length ≤ 16777216 := by omega
  unfold f_data_text b_data_text
  rw [ev_run]
  simp [encD, l1, l2, zrep, e, lz, c_sp, z1]
end DC
namespace DC
open PySem L2 SX
/-! ## reading numbers -/
theorem cut_to (a : List Nat) (k : Nat) : cutS (S a) none (some (k : Int)) = S (a.take k) := by
  rw [show cutS (S a) none (some (k : Int)) = Txt.slice (S a) none (some (k : Int)) from by rw [← sliceText_cut] <;> rfl, slice_to (by omega)]
  rfl
theorem cut_from (a : List Nat) (k : Nat) : cutS (S a) (some (k : Int)) none = S (a.drop k) := by
  rw [show cutS (S a) (some (k : Int)) none = Txt.slice (S a) (some (k : Int)) none from by rw [← sliceText_cut] <;> rfl, slice_from (by omega)]
  rfl
theorem num_head (n : Nat) (h : 0 < n) : ∀ c r, TL.numL n = c :: r → c ≠ 48 := by
  induction n using Nat.strongRecOn with
  | _ n ih =>
    intro c r e
    by_cases h10 : n < 10
    · rw [TL.numL_lt h10] at e
      cases e
      omega
    · rw [TL.numL_step (by omega)] at e
      cases q : TL.numL (n / 10) with
      | nil => exact absurd q (TL.numL_ne _)
      | cons c' r' =>
        rw [q] at e
        have : c' = c := by
          have := congrArg (List.head?) e
          simpa using this
        subst this
        exact ih (n / 10) (by omega) (by omega) c' r' q
theorem dBls_map {α : Type} (f : α → Bool) : ∀ xs : List α, dBls (xs.map fun x => D.bl (f x)) = some (xs.map f)
  | [] => rfl
  | x :: xs => by simp [dBls, dBls_map f xs]
theorem c_digits : Str.ofString "0123456789" = S [48, 49, 50, 51, 52, 53, 54, 55, 56, 57] := rfl
/-- the signs of a word are digits -/
theorem e_all {i : Nat} {Γ : Gm} (ds : List Nat) (h : ∀ c ∈ ds, 48 ≤ c ∧ c ≤ 57) (hl : ds.length ≤ 1000) (hi : ∀ x : D, (Γ.set i (some (.dat x)))[i]? = some (some (.dat x))) :
    lcGo (gN i) mYes (mOp (dIn false) (mVar i) (mC (.str "0123456789"))) Γ (dSigns (S ds)) [] () = .ok (ds.map fun _ => D.bl true) () := by
  have e := lcGo_map (T := Unit) (tgt := gN i) (cond := mYes) (elt := mOp (dIn false) (mVar i) (mC (.str "0123456789"))) (Γw := Γ) (enc := fun c : Nat => D.str ⟨#[c]⟩) (g := fun _ => D.bl true) (t := ()) ds [] (by simp; omega) fun c hc => ⟨Γ.set i (some (.dat (.str ⟨#[c]⟩))), rfl, rfl, by
    rw [ev_mOp, ev_mVar, hi]
    have hm : c ∈ [48, 49, 50, 51, 52, 53, 54, 55, 56, 57] := by
      have := h c hc
      simp; omega
    have := in_one [48, 49, 50, 51, 52, 53, 54, 55, 56, 57] c
    rw [decide_eq_true hm] at this
    simp only [rb_ok, ev_mC, dIn, c_digits]
    rw [show (⟨#[c]⟩ : Str) = S [c] from rfl, this]
    rfl⟩
  exact e
theorem all_t (ds : List Nat) : ((ds.map fun _ => true).all id) = true := by simp
theorem dAll_t (ds : List Nat) : dAll (.lst (ds.map fun _ => D.bl true)) = some (.bl true) := by
  have := dBls_map (fun _ : Nat => true) ds
  simp [dAll, this]
theorem Sz {a b : List Nat} : (S a == S b) = decide (a = b) := S_beq_eq
theorem c_minus : Str.ofString "-" = S [45] := rfl
theorem c_zero : Str.ofString "0" = S [48] := rfl
theorem S_ix (c : Nat) (r : List Nat) : L2.atI (S (c :: r)).cps.toList 0 = some c := atI_0 c r
theorem e_rintG (w ds : List Nat) (i : Int) (hd : (if w.take 1 = [45] then w.drop 1 else w) = ds) (c : Nat) (r : List Nat) (hc : ds = c :: r) (hle : ds.length ≤ w.length) (hw : w.length ≤ 14) (hdig : ∀ c ∈ ds, 48 ≤ c ∧ c ≤ 57) (h0 : c = 48 → w = [48]) (hi : PySem.intText? (S w) = some i) :
    f_read_integer [.str (S w)] = .ok (.int i) () := by
  have t1 := cut_to w 1
  have t2 := cut_from w 1
  rw [show ((1 : Nat) : Int) = 1 from rfl] at t1 t2
  have l1 : w.length ≤ 16777216 := by omega
  have ld : 1 ≤ ds.length := by rw [hc]; simp
  have ea := e_all (i := 2) (Γ := [some (.dat (.str (S w))), some (.dat (.str (S ds))), none]) ds hdig (by omega) fun x => rfl
  have g1 : (1 : Int) ≤ (ds.length : Int) := by omega
  have g2 : (ds.length : Int) ≤ (w.length : Int) := by omega
  have g3 : (w.length : Int) ≤ 14 := by omega
  have g4 : w.length ≤ 640 := by omega
  have gd : ds.length ≤ 16777216 := by omega
  have gs := dAll_t ds
  have gx : L2.atI (S ds).cps.toList 0 = some c := by rw [hc]; exact S_ix c r
  have gi : dIntA (.str (S w)) = some (.int i) := by simp [dIntA, S_len, g4, hi]
  unfold f_read_integer b_read_integer
  rw [ev_run]
  have step : (mIf (mTest (mOp dEq (mSl (mVar 0) mNo (mPart (mC (.int 1)))) (mC (.str "-")))) (mSl (mVar 0) (mPart (mC (.int 1))) mNo) (mVar 0) : Ex Unit) [some (.dat (.str (S w))), none, none] () = .ok (.str (S ds)) () := by
    by_cases hm : w.take 1 = [45]
    · rw [if_pos hm] at hd
      simp [S_len, l1, t1, t2, c_minus, Sz, hm, hd]
    · rw [if_neg hm] at hd
      subst hd
      simp [S_len, l1, t1, t2, c_minus, Sz, hm]
  have last : (mIf (mAnd (mTest (mOp dEq (mOp dIx (mVar 1) (mC (.int 0))) (mC (.str "0")))) (mTest (mOp dNe (mVar 0) (mC (.str "0"))))) (mC .non) (mBlt (d1 dIntA) (mCons (mVar 0) mNil)) : Ex Unit) [some (.dat (.str (S w))), some (.dat (.str (S ds))), none] () = .ok (.int i) () := by
    by_cases hm : c = 48
    · have hw0 := h0 hm
      subst hm
      have gi' := gi
      rw [hw0] at gi' ⊢
      simp [dIx, S_len, gd, gx, c_zero, gi']
    · have : ¬ (S [c] = S [48]) := fun z => hm (by have := S_inj z; simpa using this)
      have this' : ((⟨#[c]⟩ : Str) == S [48]) = false := by rw [show (⟨#[c]⟩ : Str) = S [c] from rfl, Sz]; simp [hm]
      simp [dIx, S_len, gd, gx, c_zero, this', gi]
  have gl : dLen (.str (S ds)) = some (.int ds.length) := by simp [dLen, S_len, gd]
  have gl2 : dLen (.str (S w)) = some (.int w.length) := by simp [dLen, S_len, l1]
  rw [show slots0 3 [D.str (S w)] = [some (.dat (.str (S w))), none, none] from rfl, ev_sSeq, ev_sSet, step, rf_ok, sq_nx, ev_sSeq]
  rw [show (List.set [some (Sl.dat (D.str (S w))), none, none] 1 (some (Sl.dat (D.str (S ds))))) = [some (Sl.dat (D.str (S w))), some (Sl.dat (D.str (S ds))), none] from rfl]
  rw [show (sIf (mOr (mNot (mTest (mChain (mC (.int 1)) (ctLink dLe (mBlt (d1 dLen) (mCons (mVar 1) mNil)) (ctLink dLe (mBlt (d1 dLen) (mCons (mVar 0) mNil)) (ctLast dLe (mC (.int (14))))))))) (mNot (mTest (mBlt (d1 dAll) (mCons (mL (mLc [2] (mSigns (mVar 1)) (gN 2) mYes (mOp (dIn false) (mVar 2) (mC (.str "0123456789"))))) mNil))))) (sRet (mC .non)) sNil : Bl Unit) [some (Sl.dat (D.str (S w))), some (Sl.dat (D.str (S ds))), none] () = .nx [some (Sl.dat (D.str (S w))), some (Sl.dat (D.str (S ds))), none] () from by
    simp [gl, gl2, g1, g2, g3, ea, gs]]
  rw [sq_nx, ev_sRet, last]
  rfl
theorem e_rint {i : Int} (h1 : -10000000000000 < i) (h2 : i < 10000000000000) : f_read_integer [.str (S (zL i))] = .ok (.int i) () := by
  have lz := zlen h1 h2
  have ne := TL.numL_ne i.natAbs
  obtain ⟨c, r, hc⟩ : ∃ c r, TL.numL i.natAbs = c :: r := by
    cases q : TL.numL i.natAbs with
    | nil => exact absurd q ne
    | cons c r => exact ⟨c, r, rfl⟩
  have hd := TL.numL_digits i.natAbs
  have hcd := hd c (by rw [hc]; simp)
  by_cases hn : i < 0
  · have ez : zL i = 45 :: TL.numL i.natAbs := by unfold zL; rw [if_pos hn]
    rw [ez] at lz ⊢
    refine e_rintG _ (TL.numL i.natAbs) i (by simp) c r hc (by simp) lz hd (fun z => absurd z (num_head i.natAbs (by omega) c r hc)) ?_
    have := PySem.intText_neg (x := S (45 :: TL.numL i.natAbs)) (cs := TL.numL i.natAbs) rfl hd ne (by rw [S_len]; omega)
    rw [TL.numL_val] at this
    rw [this]
    congr 1
    omega
  · have ez : zL i = TL.numL i.natAbs := by unfold zL; rw [if_neg hn]
    rw [ez] at lz ⊢
    refine e_rintG _ (TL.numL i.natAbs) i ?_ c r hc (Nat.le_refl _) lz hd (fun z => ?_) ?_
    · rw [hc, if_neg]
      intro z
      have : c = 45 := by simpa using z
      omega
    · by_cases h0 : 0 < i.natAbs
      · exact absurd z (num_head i.natAbs h0 c r hc)
      · have : i.natAbs = 0 := by omega
        rw [this]
        rfl
    · have := PySem.intText_digits (x := S (TL.numL i.natAbs)) hd ne (by rw [S_len]; omega)
      rw [TL.numL_val] at this
      rw [this]
      congr 1
      omega
end DC
namespace DC
open PySem L2 SX
def wlD (ls : List (List Nat)) : List D := ls.map fun l => D.str (S l)
theorem in_ints (is : List Int) : dIn false .non (.lst (is.map D.int)) = some (.bl false) := by
  have h1 : (is.map D.int).all D.flat = true := by simp [D.flat]
  have h2 : (is.map D.int).any (fun z => D.eqv z .non) = false := by simp [D.eqv]
  simp only [dIn, h1, h2, D.flat, and_self, if_true]
  rfl
theorem e_rints (is : List Int) (h : ∀ i ∈ is, -10000000000000 < i ∧ i < 10000000000000) (hl : is.length ≤ 1000) : f_read_integers [.lst (wlD (is.map zL))] = .ok (.tup (is.map D.int)) () := by
  have e := lcGo_map (T := Unit) (tgt := gN 2) (cond := mYes) (elt := mCall f_read_integer (mCons (mVar 2) mNil)) (Γw := [some (.dat (.lst (wlD (is.map zL)))), none, none]) (enc := fun i : Int => D.str (S (zL i))) (g := D.int) (t := ()) is [] (by simp; omega) fun i hi => ⟨[some (.dat (.lst (wlD (is.map zL)))), none, some (.dat (.str (S (zL i))))], rfl, rfl, by
    have := e_rint (h i hi).1 (h i hi).2
    simp [this]⟩
  have es : wlD (is.map zL) = is.map (fun i : Int => D.str (S (zL i))) := by simp [wlD]
  have lz : is.length ≤ 16777216 := by omega
  rw [List.nil_append] at e
  unfold f_read_integers b_read_integers
  rw [ev_run]
  rw [es] at e ⊢
  simp [e, in_ints, dTupOf, lz]
theorem lcut_to {α : Type} (xs : List α) (k : Nat) : cut xs none (some (k : Int)) = xs.take k := by
  unfold cut
  rw [HT.sIx_none, HT.sIx_nat, List.drop_zero, Nat.sub_zero]
  by_cases h : k ≤ xs.length
  · rw [Nat.min_eq_left h]
  · rw [Nat.min_eq_right (by omega), List.take_of_length_le (by omega), List.take_of_length_le (by omega)]
theorem lcut_from {α : Type} (xs : List α) (k : Nat) : cut xs (some (k : Int)) none = xs.drop k := by
  unfold cut
  rw [HT.sIx_none, HT.sIx_nat]
  by_cases h : k ≤ xs.length
  · rw [Nat.min_eq_left h, List.take_of_length_le (by rw [List.length_drop]; omega)]
  · rw [Nat.min_eq_right (by omega), List.drop_of_length_le (Nat.le_refl _), List.drop_of_length_le (by omega)]; simp
theorem sh_encS (p : Int × Int) (n : Nat) : (encS p).sh (n + 1) = true := by
  unfold encS D.sh shs D.sh shs D.sh shs
  rfl
theorem shs_encS (n : Nat) : ∀ st : List (Int × Int), shs (st.map encS) (n + 1) = true
  | [] => rfl
  | p :: st => by
    rw [List.map_cons]
    unfold shs
    rw [sh_encS, shs_encS n st]; rfl
theorem in_pairs (st : List (Int × Int)) : dIn false .non (.lst (st.map encS)) = some (.bl false) := by
  have h2 : (st.map encS).any (fun z => D.eqv z .non) = false := by simp [D.eqv, encS]
  unfold dIn
  simp only [h2]
  by_cases h : D.non.flat = true ∧ (st.map encS).all D.flat = true
  · rw [if_pos h]; rfl
  · rw [if_neg h, if_pos ⟨by unfold D.sh; rfl, shs_encS 59 st⟩]; rfl
theorem all_two (st : List (Int × Int)) : dAll (.lst (st.map fun _ => D.bl true)) = some (.bl true) := by
  have := dBls_map (fun _ : Int × Int => true) st
  simp [dAll, this]
theorem spl_stL {p : Int × Int} : TL.spl [42] 0 [] (stL p) = [zL p.1, zL p.2] := by
  have := spl_join (c := 42) (sep := []) (parts := [zL p.1, zL p.2]) (by simp) (by
    intro l hl
    rcases List.mem_cons.mp hl with rfl | hl
    · exact z_free (by omega)
    · rw [List.mem_singleton.mp hl]; exact z_free (by omega))
  exact this
theorem split_stL (p : Int × Int) : Txt.split (S (stL p)) (S [42]) = [S (zL p.1), S (zL p.2)] := by
  rw [split_S (by simp) (by decide), spl_stL]
  rfl
theorem e_rdata (d : Dt) (h : DtOk d) : f_read_data [.lst (wlD (dtW d))] = .ok (encD d) () := by
  have h0 := h
  obtain ⟨h1, h2, h3, h4, h5, h6, h7⟩ := h
  have ee := e_rints [d.low, d.cost] (by
    intro i hi
    rcases List.mem_cons.mp hi with rfl | hi
    · omega
    · rw [List.mem_singleton.mp hi]; omega) (by simp)
  have ew : wlD (dtW d) = D.str (S (zL d.low)) :: D.str (S (zL d.cost)) :: d.st.map (fun p => D.str (S (stL p))) := by unfold wlD dtW; simp
  have e := lcGo_map (T := Unit) (tgt := gN 3) (cond := mYes) (elt := mCall f_read_integers (mCons (mL (mSplit (mVar 3) (mC (.str "*")))) mNil)) (Γw := [some (.dat (.lst (wlD (dtW d)))), none, none, none, none]) (enc := fun p : Int × Int => D.str (S (stL p))) (g := encS) (t := ()) d.st [] (by simp; omega) fun p hp => ⟨[some (.dat (.lst (wlD (dtW d)))), none, none, some (.dat (.str (S (stL p)))), none], rfl, rfl, by
    obtain ⟨g1, g2, g3, g4⟩ := h1.2 p hp
    have sl := st_len g1 g2 g3 g4
    have := e_rints [p.1, p.2] (by
      intro i hi
      rcases List.mem_cons.mp hi with rfl | hi
      · omega
      · rw [List.mem_singleton.mp hi]; omega) (by simp)
    have this' : f_read_integers [.lst [.str (S (zL p.1)), .str (S (zL p.2))]] = .ok (.tup [.int p.1, .int p.2]) () := this
    have sl' : (stL p).length ≤ 16777214 := by omega
    simp [c_star, S_len, sl', split_stL, this', encS]⟩
  have e2 := lcGo_map (T := Unit) (tgt := gN 4) (cond := mYes) (elt := mOp dEq (mBlt (d1 dLen) (mCons (mVar 4) mNil)) (mC (.int 2))) (Γw := [some (.dat (.lst (wlD (dtW d)))), some (.dat (.lst (d.st.map encS))), some (.dat (.tup [.int d.low, .int d.cost])), none, none]) (enc := encS) (g := fun _ => D.bl true) (t := ()) d.st [] (by simp; omega) fun p hp => ⟨[some (.dat (.lst (wlD (dtW d)))), some (.dat (.lst (d.st.map encS))), some (.dat (.tup [.int d.low, .int d.cost])), none, some (.dat (encS p))], rfl, rfl, by
    simp [encS]⟩
  have c1 := lcut_from (wlD (dtW d)) 2
  have c2 := lcut_to (wlD (dtW d)) 2
  rw [show ((2 : Nat) : Int) = 2 from rfl] at c1 c2
  have lz : (wlD (dtW d)).length ≤ 16777216 := by rw [ew]; simp; omega
  have d2' : (wlD (dtW d)).drop 2 = d.st.map (fun p => D.str (S (stL p))) := by rw [ew]; rfl
  have t2 : (wlD (dtW d)).take 2 = [.str (S (zL d.low)), .str (S (zL d.cost))] := by rw [ew]; rfl
  have ee' : f_read_integers [.lst [.str (S (zL d.low)), .str (S (zL d.cost))]] = .ok (.tup [.int d.low, .int d.cost]) () := ee
  rw [List.nil_append] at e e2
  unfold f_read_data b_read_data
  rw [ev_run]
  simp [lz, c1, c2, d2', t2, e, ee', in_pairs, e2, all_two, dTupOf, encD, D.isNon]
end DC
namespace DC
open PySem L2 SX
structure Bk where
  begin : Int
  ps : List (Dt × Int × Dt)
def encP (p : Dt × Int × Dt) : D := .tup [encD p.1, .int p.2.1, encD p.2.2]
def encB (b : Bk) : D := .tup [.int b.begin, .tup (b.ps.map encP)]
def Big (i : Int) : Prop := -1000000000000 ≤ i ∧ i ≤ 1000000000000
def PdOk (p : Dt × Int × Dt) : Prop := DtOk p.1 ∧ Big p.2.1 ∧ DtOk p.2.2
def BkOk (b : Bk) : Prop := Big b.begin ∧ 1 ≤ b.ps.length ∧ b.ps.length ≤ 6 ∧ ∀ p ∈ b.ps, PdOk p
def kB : List Nat := [98, 101, 103, 105, 110]
def kBuy : List Nat := [98, 117, 121]
def kW : List Nat := [119, 97, 110, 116]
def kK : List Nat := [107, 101, 101, 112]
theorem c_B : Str.ofString "begin" = S kB := rfl
theorem c_Buy : Str.ofString "buy" = S kBuy := rfl
theorem c_W : Str.ofString "want" = S kW := rfl
theorem c_K : Str.ofString "keep" = S kK := rfl
/-- the words of a line, its keyword first -/
inductive Ln where
  | num (k : List Nat) (i : Int)
  | dat (k : List Nat) (d : Dt)
def Ln.kw : Ln → List Nat
  | .num k _ => k
  | .dat k _ => k
def Ln.ws : Ln → List (List Nat)
  | .num _ i => [zL i]
  | .dat _ d => dtW d
def Ln.tx (l : Ln) : List Nat := TL.joinL [32] (l.kw :: l.ws)
def pdLn (p : Dt × Int × Dt) : List Ln := [.dat kBuy p.1, .num kW p.2.1, .dat kK p.2.2]
def bkLn (b : Bk) : List Ln := .num kB b.begin :: b.ps.flatMap pdLn
/-- what a line must be at its place -/
def due : List (List Nat) := [kB, kBuy, kW, kK, kBuy, kW, kK, kBuy, kW, kK, kBuy, kW, kK, kBuy, kW, kK, kBuy, kW, kK]
def LnOk : Ln → Prop
  | .num k i => (k = kB ∨ k = kW) ∧ Big i
  | .dat k d => (k = kBuy ∨ k = kK) ∧ DtOk d
theorem e_isdt (d : Dt) (h : DtOk d) : f_is_data_text [.lst (wlD (dtW d))] = .ok (.bl true) () := by
  have e1 := e_rdata d h
  have e2 := e_derr d h
  have e3 : (encD d).isNon = false := rfl
  unfold f_is_data_text b_is_data_text
  rw [ev_run]
  have e4 : D.non.isNon = true := rfl
  simp [e1, e2, e3, e4, dTru]
theorem dt_free {d : Dt} {c : Nat} (hc : c = 10 ∨ c = 32) : ∀ l ∈ dtW d, c ∉ l := by
  intro l hl
  unfold dtW at hl
  rcases List.mem_cons.mp hl with rfl | hl
  · exact z_free (by omega)
  · rcases List.mem_cons.mp hl with rfl | hl
    · exact z_free (by omega)
    · obtain ⟨p, hp, rfl⟩ := List.mem_map.mp hl
      unfold stL
      intro z
      rcases List.mem_append.mp z with z | z
      · exact z_free (by omega) z
      · rcases List.mem_cons.mp z with z | z
        · omega
        · exact z_free (by omega) z
theorem ws_free {l : Ln} (h : LnOk l) {c : Nat} (hc : c = 10 ∨ c = 32) : ∀ w ∈ l.kw :: l.ws, c ∉ w := by
  intro w hw
  rcases List.mem_cons.mp hw with rfl | hw
  · cases l with
    | num k i =>
      rcases h.1 with rfl | rfl <;> rcases hc with rfl | rfl <;> simp [Ln.kw, kB, kW, kBuy, kK]
    | dat k d =>
      rcases h.1 with rfl | rfl <;> rcases hc with rfl | rfl <;> simp [Ln.kw, kB, kW, kBuy, kK]
  · cases l with
    | num k i => rw [List.mem_singleton.mp hw]; exact z_free (by omega)
    | dat k d => exact dt_free hc w hw
theorem split_tx {l : Ln} (h : LnOk l) : Txt.split (S l.tx) (S [32]) = (l.kw :: l.ws).map S := by
  rw [split_S (by simp) (by decide)]
  unfold Ln.tx
  rw [spl_join (by simp) (ws_free h (.inr rfl))]
theorem join_len {c B : Nat} : ∀ ls : List (List Nat), (∀ l ∈ ls, l.length ≤ B) → (TL.joinL [c] ls).length ≤ ls.length * (B + 1)
  | [], _ => by simp [TL.joinL]
  | [p], h => by
    have := h p (by simp)
    simp [TL.joinL]; omega
  | p :: q :: r, h => by
    have h1 := h p (by simp)
    have h2 := join_len (c := c) (q :: r) fun x hx => h x (List.mem_cons_of_mem _ hx)
    show (p ++ ([c] ++ TL.joinL [c] (q :: r))).length ≤ _
    simp only [List.length_append, List.length_cons, List.length_nil] at h2 ⊢
    rw [show (r.length + 1 + 1) * (B + 1) = (r.length + 1) * (B + 1) + (B + 1) by rw [Nat.add_mul (r.length + 1) 1, Nat.one_mul]]
    omega
theorem tx_len {l : Ln} (h : LnOk l) : l.tx.length ≤ 270 := by
  have hb : ∀ w ∈ l.kw :: l.ws, w.length ≤ 29 := by
    intro w hw
    rcases List.mem_cons.mp hw with rfl | hw
    · cases l with
      | num k i => rcases h.1 with rfl | rfl <;> simp [Ln.kw, kB, kW, kBuy, kK]
      | dat k d => rcases h.1 with rfl | rfl <;> simp [Ln.kw, kB, kW, kBuy, kK]
    · cases l with
      | num k i =>
        rw [List.mem_singleton.mp hw]
        have := zlen (i := i) (by have := h.2.1; omega) (by have := h.2.2; omega)
        omega
      | dat k d => exact dtW_len h.2 w hw
  have hn : (l.kw :: l.ws).length ≤ 9 := by
    cases l with
    | num k i => simp [Ln.ws]
    | dat k d =>
      have := h.2.2.1
      simp [Ln.ws, dtW]
      omega
  have := join_len (c := 32) (l.kw :: l.ws) hb
  unfold Ln.tx
  have h2 : (l.kw :: l.ws).length * (29 + 1) ≤ 9 * 30 := Nat.mul_le_mul hn (Nat.le_refl _)
  omega
theorem e_line {l : Ln} (h : LnOk l) {k : Nat} (hk : due[k]? = some l.kw) : f_is_line [.int k, .str (S l.tx)] = .ok (.bl true) () := by
  have hk19 : k < 19 := by
    obtain ⟨h, _⟩ := List.getElem?_eq_some_iff.mp hk
    exact h
  have tl := tx_len h
  have tl' : l.tx.length ≤ 16777214 := by omega
  have sp := split_tx h
  have hd : L2.atI (due.map fun l => D.str (S l)) (k : Int) = some (.str (S l.kw)) := by
    rw [atI_nat, List.getElem?_map, hk]; rfl
  have hdue : (D.str (S kB) :: (List.replicate 6 [D.str (S kBuy), D.str (S kW), D.str (S kK)]).flatten) = due.map fun l => D.str (S l) := rfl
  have lw : l.ws.length + 1 + 1 - 2 = l.ws.length := by omega
  have gk : ¬ (19 : Int) ≤ (k : Int) := by omega
  have q1 : List.drop l.ws.length (List.map (D.str ∘ S) l.ws) = [] := List.drop_of_length_le (by simp)
  have q2 : List.take l.ws.length (List.map (D.str ∘ S) l.ws) = wlD l.ws := List.take_of_length_le (by simp)
  have s1 : (sStar 2 1 (mL (mSplit (mVar 1) (mC (.str " ")))) (gsC (gN 2) (gsC (gN 3) gsN)) : Bl Unit) [some (.dat (.int k)), some (.dat (.str (S l.tx))), none, none, none] () = .nx [some (.dat (.int k)), some (.dat (.str (S l.tx))), some (.dat (.str (S l.kw))), some (.dat (.lst (wlD l.ws))), none] () := by
    simp [c_sp, S_len, tl', sp, gsC, gN, gsN, lw, q1, q2]
  have s2 : (mL (mCat (mL (mSz (mCons (mC (.str "begin")) mNil))) (mL (mRep (mL (mSz (mCons (mC (.str "buy")) (mCons (mC (.str "want")) (mCons (mC (.str "keep")) mNil))))) (mC (.int (6)))))) : Ex Unit) [some (.dat (.int k)), some (.dat (.str (S l.tx))), some (.dat (.str (S l.kw))), some (.dat (.lst (wlD l.ws))), none] () = .ok (.lst (due.map fun l => D.str (S l))) () := rfl
  have dl : (due.map fun l => D.str (S l)).length = 19 := rfl
  unfold f_is_line b_is_line
  rw [ev_run, show slots0 5 [D.int k, D.str (S l.tx)] = [some (.dat (.int k)), some (.dat (.str (S l.tx))), none, none, none] from rfl, ev_sSeq, s1, sq_nx, ev_sSeq, ev_sSet, s2, rf_ok, sq_nx]
  rw [show ([some (Sl.dat (D.int k)), some (Sl.dat (D.str (S l.tx))), some (Sl.dat (D.str (S l.kw))), some (Sl.dat (D.lst (wlD l.ws))), none].set 4 (some (Sl.dat (D.lst (due.map fun l => D.str (S l)))))) = [some (Sl.dat (D.int k)), some (Sl.dat (D.str (S l.tx))), some (Sl.dat (D.str (S l.kw))), some (Sl.dat (D.lst (wlD l.ws))), some (Sl.dat (D.lst (due.map fun l => D.str (S l))))] from rfl]
  have s3 : (sIf (mOr (mTest (mOp dGe (mVar 0) (mBlt (d1 dLen) (mCons (mVar 4) mNil)))) (mTest (mOp dNe (mVar 2) (mOp dIx (mVar 4) (mVar 0))))) (sRet (mC (.bl false))) sNil : Bl Unit) [some (Sl.dat (D.int k)), some (Sl.dat (D.str (S l.tx))), some (Sl.dat (D.str (S l.kw))), some (Sl.dat (D.lst (wlD l.ws))), some (Sl.dat (D.lst (due.map fun l => D.str (S l))))] () = .nx [some (Sl.dat (D.int k)), some (Sl.dat (D.str (S l.tx))), some (Sl.dat (D.str (S l.kw))), some (Sl.dat (D.lst (wlD l.ws))), some (Sl.dat (D.lst (due.map fun l => D.str (S l))))] () := by
    have dl' : (dLen (.lst (due.map fun l => D.str (S l)))) = some (.int 19) := by rw [dLen_lst, dl]; rfl
    rw [ev_sIf, ev_mOr, ev_mTest, ev_mOp, ev_mVar]
    simp only [List.getElem?_cons_zero, rb_ok, ev_mBlt, ev_mCons, ev_mVar, List.getElem?_cons_succ, ev_mNil, d1, dl', ofO_some, dGe_int, tst_bl, decide_eq_false gk, ev_mTest, ev_mOp, dIx_lst, hd, dNe_str, rf_ok, Bool.false_eq_true, if_false, ev_sNil, beq_self_eq_true, Bool.not_true]
  rw [ev_sSeq, s3, sq_nx]
  cases l with
  | num kk i =>
    obtain ⟨g1, g2⟩ := h
    have r := e_rint (i := i) (by have := g2.1; omega) (by have := g2.2; omega)
    have b1 : (-1000000000000 : Int) ≤ i := g2.1
    have b2 : i ≤ 1000000000000 := g2.2
    have nin : dIn false (.str (S kk)) (.tup [.str (S kBuy), .str (S kK)]) = some (.bl false) := by
      rcases g1 with rfl | rfl <;> rfl
    simp [Ln.kw, Ln.ws, wlD, c_Buy, c_K, nin, r, e_isin, b1, b2, dTru]
  | dat kk d =>
    obtain ⟨g1, g2⟩ := h
    have r := e_isdt d g2
    have nin : dIn false (.str (S kk)) (.tup [.str (S kBuy), .str (S kK)]) = some (.bl true) := by
      rcases g1 with rfl | rfl <;> rfl
    simp [Ln.kw, Ln.ws, c_Buy, c_K, nin, r]
end DC
namespace DC
open PySem L2 SX
theorem tx_dat (k : List Nat) (d : Dt) : (Ln.dat k d).tx = k ++ 32 :: dtL d := rfl
theorem tx_num (k : List Nat) (i : Int) : (Ln.num k i).tx = k ++ 32 :: zL i := rfl
theorem dAdd_S {a b : List Nat} (h : a.length + b.length ≤ 16777216) : dAdd (.str (S a)) (.str (S b)) = some (.str (S (a ++ b))) := by
  simp [dAdd, S_len, h, S_cat]
theorem dtL_len {d : Dt} (h : DtOk d) : (dtL d).length ≤ 240 := by
  have := join_len (c := 32) (dtW d) (dtW_len h)
  have hn : (dtW d).length ≤ 8 := by
    have := h.2.1
    simp [dtW]; omega
  have h2 : (dtW d).length * (29 + 1) ≤ 8 * 30 := Nat.mul_le_mul hn (Nat.le_refl _)
  unfold dtL
  omega
/-- the law's text of data -/
theorem e_ltext (d : Dt) (h : DtOk d) : f__law_text_of [encD d] = .ok (.str (S (dtL d))) () := by
  have h0 := h
  obtain ⟨h1, h2, h3, h4, h5, h6, h7⟩ := h
  have e := lcGo_map (T := Unit) (tgt := gT 2 (gsC (gN 1) (gsC (gN 2) gsN))) (cond := mYes) (elt := mOp dAdd (mOp dAdd (mBlt (d1 dStrI) (mCons (mVar 1) mNil)) (mC (.str "*"))) (mBlt (d1 dStrI) (mCons (mVar 2) mNil))) (Γw := [some (.dat (encD d)), none, none]) (enc := encS) (g := fun p => D.str (S (stL p))) (t := ()) d.st [] (by simp; omega) fun p hp => ⟨[some (.dat (encD d)), some (.dat (.int p.1)), some (.dat (.int p.2))], rfl, rfl, by
    obtain ⟨g1, g2, g3, g4⟩ := h1.2 p hp
    have l1 := zlog (i := p.1) (by omega) (by omega)
    have l2 := zlog (i := p.2) (by omega) (by omega)
    have n1 := zlen (i := p.1) (by omega) (by omega)
    have n2 := zlen (i := p.2) (by omega) (by omega)
    have a1 := dAdd_S (a := zL p.1) (b := [42]) (by simp; omega)
    have a2 := dAdd_S (a := zL p.1 ++ [42]) (b := zL p.2) (by simp; omega)
    have e3 : zL p.1 ++ [42] ++ zL p.2 = stL p := by unfold stL; simp
    rw [e3] at a2
    simp [l1, l2, zrep, c_star, a1, a2]⟩
  have l1 := zlog (i := d.low) (by omega) (by omega)
  have l2 := zlog (i := d.cost) (by omega) (by omega)
  have j := e_join (c := 32) (dtW d) 29 (dtW_len h0) (by unfold dtW; simp; omega)
  have ew : (dtW d).map (fun l => D.str (S l)) = D.str (S (zL d.low)) :: D.str (S (zL d.cost)) :: d.st.map (fun p => D.str (S (stL p))) := by unfold dtW; simp
  rw [ew] at j
  simp only [List.nil_append, encD] at e
  have z1 : dJoinS (S [32]) (.lst (D.str (S (zL d.low)) :: D.str (S (zL d.cost)) :: d.st.map (fun p => D.str (S (stL p))))) = some (.str (S (dtL d))) := j
  have lz : 2 + d.st.length ≤ 16777216 := by omega
  unfold f__law_text_of b__law_text_of
  rw [ev_run]
  simp [encD, l1, l2, zrep, e, lz, c_sp, z1]
/-! ### the texts of books -/
def lnS (ls : List Ln) : List (List Nat) := ls.map fun l => l.tx ++ [10]
def bkTx (b : Bk) : List Nat := (lnS (bkLn b)).flatten
theorem joinE : ∀ ls : List (List Nat), TL.joinL [] ls = ls.flatten
  | [] => rfl
  | [p] => by simp [TL.joinL]
  | p :: q :: r => by
    show p ++ ([] ++ TL.joinL [] (q :: r)) = _
    rw [joinE (q :: r)]
    simp
theorem e_joinE (ls : List (List Nat)) (B : Nat) (h : ∀ l ∈ ls, l.length ≤ B) (hz : ls.length * B ≤ 16777216) : dJoin (.str (S [])) (.lst (wlD ls)) = some (.str (S ls.flatten)) := by
  have hs := sum_le ls h
  have : ((ls.map S).map (·.length)).sum + (ls.map S).length * (S []).length ≤ 16777216 := by
    rw [lens, S_len, List.length_map]
    simp; omega
  unfold dJoin wlD
  simp only [dItems, dStrs_map]
  rw [if_pos this, join_S, joinE]
theorem ln_ok {b : Bk} (h : BkOk b) : ∀ l ∈ bkLn b, LnOk l := by
  intro l hl
  unfold bkLn at hl
  rcases List.mem_cons.mp hl with rfl | hl
  · exact ⟨.inl rfl, h.1⟩
  · obtain ⟨p, hp, hl⟩ := List.mem_flatMap.mp hl
    obtain ⟨g1, g2, g3⟩ := h.2.2.2 p hp
    simp only [pdLn, List.mem_cons, List.not_mem_nil, or_false] at hl
    rcases hl with rfl | rfl | rfl
    · exact ⟨.inl rfl, g1⟩
    · exact ⟨.inr rfl, g2⟩
    · exact ⟨.inr rfl, g3⟩
theorem fm_len : ∀ ps : List (Dt × Int × Dt), (ps.flatMap pdLn).length = 3 * ps.length
  | [] => rfl
  | p :: ps => by
    rw [List.flatMap_cons, List.length_append, fm_len ps]
    show 3 + _ = 3 * (ps.length + 1)
    omega
theorem bk_len (b : Bk) : (bkLn b).length = 1 + 3 * b.ps.length := by
  unfold bkLn
  rw [List.length_cons, fm_len]; omega
theorem lnS_len {ls : List Ln} (h : ∀ l ∈ ls, LnOk l) : ∀ l ∈ lnS ls, l.length ≤ 271 := by
  intro l hl
  unfold lnS at hl
  obtain ⟨x, hx, rfl⟩ := List.mem_map.mp hl
  have := tx_len (h x hx)
  simp; omega
theorem c_nl : Str.ofString "\n" = S [10] := rfl
theorem c_e : Str.ofString "" = S [] := rfl
theorem c_Bs : Str.ofString "begin " = S (kB ++ [32]) := rfl
theorem c_Buys : Str.ofString "buy " = S (kBuy ++ [32]) := rfl
theorem c_Ws : Str.ofString "want " = S (kW ++ [32]) := rfl
theorem c_Ks : Str.ofString "keep " = S (kK ++ [32]) := rfl
/-- f'{a} {x}\n' -/
theorem e_f3 {T : Type} {Γ : Gm} {t : T} {a x : List Nat} {m : Ex T} {v : D} (hm : m Γ t = .ok v t) (hv : dFmt v = some (S x)) (hl : a.length + x.length + 1 ≤ 16777216) {z : List Nat} (hz : z = a ++ x ++ [10]) :
    (mJoin (jCons (mC (.str (S a))) (jCons (mFmt m) (jCons (mC (.str "\n")) jNil))) : Ex T) Γ t = .ok (.str (S z)) t := by
  have s0 : 16777216 ≤ sizeLine := by decide
  have a1 : a.length ≤ sizeLine := by omega
  have a2 : (a ++ x).length ≤ sizeLine := by simp; omega
  have a3 : (a ++ x ++ [10]).length ≤ sizeLine := by simp; omega
  simp only [mJoin, jCons, mFmt, mC, jNil, hm, Rs.bind, hv, if_true, Option.map, ofO, emp_S, S_len, a1, c_nl, S_cat, a2, a3, hz]
theorem take_snoc {α : Type} {xs : List α} {k : Nat} {x : α} (h : xs[k]? = some x) : xs.take (k + 1) = xs.take k ++ [x] := by
  rw [List.take_add_one, h]; rfl
theorem bk_step {ps : List (Dt × Int × Dt)} {k : Nat} {p : Dt × Int × Dt} (h : ps[k]? = some p) : lnS ((ps.take (k + 1)).flatMap pdLn) = lnS ((ps.take k).flatMap pdLn) ++ [(Ln.dat kBuy p.1).tx ++ [10], (Ln.num kW p.2.1).tx ++ [10], (Ln.dat kK p.2.2).tx ++ [10]] := by
  rw [take_snoc h, List.flatMap_append]
  simp [lnS, pdLn]
theorem mem_of_get {α : Type} {xs : List α} {k : Nat} {x : α} (h : xs[k]? = some x) : x ∈ xs := List.mem_of_getElem? h
theorem fmt_i {i : Int} (h : Big i) : dFmt (.int i) = some (S (zL i)) := by
  have := zlog (i := i) (by have := h.1; omega) (by have := h.2; omega)
  simp [dFmt, this, zrep]
theorem fmt_s {l : List Nat} (h : l.length ≤ 1000) : dFmt (.str (S l)) = some (S l) := by
  have s0 : 16777216 ≤ sizeLine := by decide
  have : l.length ≤ sizeLine := by omega
  simp [dFmt, S_len, this]
theorem e_btext (b : Bk) (h : BkOk b) : f_book_text [encB b] = .ok (.str (S (bkTx b))) () := by
  have h0 := h
  obtain ⟨h1, h2, h3, h4⟩ := h
  have zb := zlen (i := b.begin) (by have := h1.1; omega) (by have := h1.2; omega)
  have s1 := e_f3 (T := Unit) (Γ := [some (.dat (encB b)), some (.dat (.int b.begin)), some (.dat (.tup (b.ps.map encP))), none, none, none, none]) (t := ()) (a := kB ++ [32]) (x := zL b.begin) (m := mVar 1) (v := .int b.begin) rfl (fmt_i h1) (by simp [kB]; omega) (z := (Ln.num kB b.begin).tx ++ [10]) (by rw [tx_num]; simp)
  obtain ⟨Γ', t', e1, v4, v5, v6, e2⟩ := forGo_go (T := Unit) (g := gT 3 (gsC (gN 4) (gsC (gN 5) (gsC (gN 6) gsN)))) (b := (sExt 3 (mSz (mCons (mJoin (jCons (mC (.str "buy ")) (jCons (mFmt (mCall f_data_text (mCons (mVar 4) mNil))) (jCons (mC (.str "\n")) jNil)))) (mCons (mJoin (jCons (mC (.str "want ")) (jCons (mFmt (mVar 5)) (jCons (mC (.str "\n")) jNil)))) (mCons (mJoin (jCons (mC (.str "keep ")) (jCons (mFmt (mCall f_data_text (mCons (mVar 6) mNil))) (jCons (mC (.str "\n")) jNil)))) mNil))))))
    (fun k Γ _ => ∃ v4 v5 v6, Γ = [some (.dat (encB b)), some (.dat (.int b.begin)), some (.dat (.tup (b.ps.map encP))), some (.own (wlD (((Ln.num kB b.begin).tx ++ [10]) :: lnS ((b.ps.take k).flatMap pdLn)))), v4, v5, v6])
    (b.ps.map encP) 0 [some (.dat (encB b)), some (.dat (.int b.begin)), some (.dat (.tup (b.ps.map encP))), some (.own (wlD [((Ln.num kB b.begin).tx ++ [10])])), none, none, none] () ⟨none, none, none, rfl⟩ fun k x Γ t hx ⟨v4, v5, v6, hv⟩ => by
      rw [Nat.zero_add] at hv ⊢
      rw [List.getElem?_map] at hx
      cases q : b.ps[k]? with
      | none => rw [q] at hx; cases hx
      | some p =>
        rw [q] at hx
        cases hx
        subst hv
        obtain ⟨g1, g2, g3⟩ := h4 p (mem_of_get q)
        have t1 := e_dtext p.1 g1
        have t3 := e_dtext p.2.2 g3
        have z2 := zlen (i := p.2.1) (by have := g2.1; omega) (by have := g2.2; omega)
        have n1 := dtL_len g1
        have n3 := dtL_len g3
        refine ⟨_, [some (.dat (encB b)), some (.dat (.int b.begin)), some (.dat (.tup (b.ps.map encP))), some (.own (wlD (((Ln.num kB b.begin).tx ++ [10]) :: lnS ((b.ps.take (k + 1)).flatMap pdLn)))), some (.dat (encD p.1)), some (.dat (.int p.2.1)), some (.dat (encD p.2.2))], (), rfl, ?_, ⟨_, _, _, rfl⟩⟩
        have f1 := e_f3 (T := Unit) (Γ := [some (.dat (encB b)), some (.dat (.int b.begin)), some (.dat (.tup (b.ps.map encP))), some (.own (wlD (((Ln.num kB b.begin).tx ++ [10]) :: lnS ((b.ps.take k).flatMap pdLn)))), some (.dat (encD p.1)), some (.dat (.int p.2.1)), some (.dat (encD p.2.2))]) (t := ()) (a := kBuy ++ [32]) (x := dtL p.1) (m := mCall f_data_text (mCons (mVar 4) mNil)) (v := .str (S (dtL p.1))) (by simp [t1]) (fmt_s (by omega)) (by simp [kBuy]; omega) (z := (Ln.dat kBuy p.1).tx ++ [10]) (by rw [tx_dat]; simp)
        have f2 := e_f3 (T := Unit) (Γ := [some (.dat (encB b)), some (.dat (.int b.begin)), some (.dat (.tup (b.ps.map encP))), some (.own (wlD (((Ln.num kB b.begin).tx ++ [10]) :: lnS ((b.ps.take k).flatMap pdLn)))), some (.dat (encD p.1)), some (.dat (.int p.2.1)), some (.dat (encD p.2.2))]) (t := ()) (a := kW ++ [32]) (x := zL p.2.1) (m := mVar 5) (v := .int p.2.1) rfl (fmt_i g2) (by simp [kW]; omega) (z := (Ln.num kW p.2.1).tx ++ [10]) (by rw [tx_num]; simp)
        have f3 := e_f3 (T := Unit) (Γ := [some (.dat (encB b)), some (.dat (.int b.begin)), some (.dat (.tup (b.ps.map encP))), some (.own (wlD (((Ln.num kB b.begin).tx ++ [10]) :: lnS ((b.ps.take k).flatMap pdLn)))), some (.dat (encD p.1)), some (.dat (.int p.2.1)), some (.dat (encD p.2.2))]) (t := ()) (a := kK ++ [32]) (x := dtL p.2.2) (m := mCall f_data_text (mCons (mVar 6) mNil)) (v := .str (S (dtL p.2.2))) (by simp [t3]) (fmt_s (by omega)) (by simp [kK]; omega) (z := (Ln.dat kK p.2.2).tx ++ [10]) (by rw [tx_dat]; simp)
        rw [← c_Buys] at f1
        rw [← c_Ws] at f2
        rw [← c_Ks] at f3
        have hk : k < 6 := by
          obtain ⟨hk, _⟩ := List.getElem?_eq_some_iff.mp q
          omega
        have lz : (wlD (((Ln.num kB b.begin).tx ++ [10]) :: lnS ((b.ps.take k).flatMap pdLn))).length + 3 ≤ 16777216 := by
          simp only [wlD, lnS, List.length_map, List.length_cons, fm_len, List.length_take]
          omega
        have hs := bk_step q
        have hm : (mSz (mCons (mJoin (jCons (mC (.str "buy ")) (jCons (mFmt (mCall f_data_text (mCons (mVar 4) mNil))) (jCons (mC (.str "\n")) jNil)))) (mCons (mJoin (jCons (mC (.str "want ")) (jCons (mFmt (mVar 5)) (jCons (mC (.str "\n")) jNil)))) (mCons (mJoin (jCons (mC (.str "keep ")) (jCons (mFmt (mCall f_data_text (mCons (mVar 6) mNil))) (jCons (mC (.str "\n")) jNil)))) mNil))) : Ar Unit) [some (.dat (encB b)), some (.dat (.int b.begin)), some (.dat (.tup (b.ps.map encP))), some (.own (wlD (((Ln.num kB b.begin).tx ++ [10]) :: lnS ((b.ps.take k).flatMap pdLn)))), some (.dat (encD p.1)), some (.dat (.int p.2.1)), some (.dat (encD p.2.2))] () = .ok (wlD [(Ln.dat kBuy p.1).tx ++ [10], (Ln.num kW p.2.1).tx ++ [10], (Ln.dat kK p.2.2).tx ++ [10]]) () := by
          rw [ev_mSz, ev_mCons, f1, rb_ok, ev_mCons, f2, rb_ok, ev_mCons, f3, rb_ok, ev_mNil]
          rfl
        refine (ev_ext rfl hm lz).trans ?_
        rw [hs]
        simp [wlD]
  have hb := lnS_len (ln_ok h0)
  have lb : (lnS (bkLn b)).length * 271 ≤ 16777216 := by
    have := bk_len b
    have h2 : (lnS (bkLn b)).length = 1 + 3 * b.ps.length := by unfold lnS; rw [List.length_map]; exact this
    omega
  have j := e_joinE (lnS (bkLn b)) 271 hb lb
  have el : ((Ln.num kB b.begin).tx ++ [10]) :: lnS ((b.ps.take b.ps.length).flatMap pdLn) = lnS (bkLn b) := by
    rw [List.take_length]; rfl
  rw [Nat.zero_add, List.length_map, el] at e2
  subst e2
  have o1 : (mSz (mCons (mJoin (jCons (mC (.str "begin ")) (jCons (mFmt (mVar 1)) (jCons (mC (.str "\n")) jNil)))) mNil) : Ar Unit) [some (.dat (encB b)), some (.dat (.int b.begin)), some (.dat (.tup (b.ps.map encP))), none, none, none, none] () = .ok (wlD [((Ln.num kB b.begin).tx ++ [10])]) () := by
    rw [← c_Bs] at s1
    rw [ev_mSz, ev_mCons, s1, rb_ok, ev_mNil]
    rfl
  have j' : dJoinS (S []) (.lst (wlD (lnS (bkLn b)))) = some (.str (S (bkTx b))) := j
  unfold f_book_text b_book_text
  rw [ev_run, show slots0 7 [encB b] = [some (.dat (encB b)), none, none, none, none, none, none] from rfl, ev_sSeq, ev_sAsg, ev_mVar]
  rw [show ([some (Sl.dat (encB b)), none, none, none, none, none, none] : Gm)[0]? = some (some (.dat (encB b))) from rfl]
  dsimp only
  rw [rf_ok, asg_some (Γ1 := [some (.dat (encB b)), some (.dat (.int b.begin)), some (.dat (.tup (b.ps.map encP))), none, none, none, none]) rfl, sq_nx, ev_sSeq, ev_sOwn, o1, rf_ok, sq_nx, ev_sSeq, ev_sFor, ev_mItems, ev_mVar]
  rw [show (List.set [some (.dat (encB b)), some (.dat (.int b.begin)), some (.dat (.tup (b.ps.map encP))), none, none, none, none] 3 (some (.own (wlD [((Ln.num kB b.begin).tx ++ [10])]))) : Gm) = [some (.dat (encB b)), some (.dat (.int b.begin)), some (.dat (.tup (b.ps.map encP))), some (.own (wlD [((Ln.num kB b.begin).tx ++ [10])])), none, none, none] from rfl]
  rw [show ([some (.dat (encB b)), some (.dat (.int b.begin)), some (.dat (.tup (b.ps.map encP))), some (.own (wlD [((Ln.num kB b.begin).tx ++ [10])])), none, none, none] : Gm)[2]? = some (some (.dat (.tup (b.ps.map encP)))) from rfl]
  dsimp only
  rw [rb_ok, show dItems (.tup (b.ps.map encP)) = some (b.ps.map encP) from rfl, ofO_some, rf_ok, e1, sq_nx]
  simp [c_e, j']
end DC
namespace DC
open PySem L2 SX
/-! ### the law's text of a book -/
theorem bk_stepT {ps : List (Dt × Int × Dt)} {k : Nat} {p : Dt × Int × Dt} (h : ps[k]? = some p) : ((ps.take (k + 1)).flatMap pdLn).map Ln.tx = ((ps.take k).flatMap pdLn).map Ln.tx ++ [(Ln.dat kBuy p.1).tx, (Ln.num kW p.2.1).tx, (Ln.dat kK p.2.2).tx] := by
  rw [take_snoc h, List.flatMap_append]
  simp [pdLn]
theorem e_lbtext (b : Bk) (h : BkOk b) : f__law_book_text [encB b] = .ok (.str (S (bkTx b))) () := by
  have h0 := h
  obtain ⟨h1, h2, h3, h4⟩ := h
  have zb := zlen (i := b.begin) (by have := h1.1; omega) (by have := h1.2; omega)
  have zl := zlog (i := b.begin) (by have := h1.1; omega) (by have := h1.2; omega)
  have a0 := dAdd_S (a := kB ++ [32]) (b := zL b.begin) (by simp [kB]; omega)
  have t0 : kB ++ [32] ++ zL b.begin = (Ln.num kB b.begin).tx := by rw [tx_num]; simp
  rw [t0] at a0
  obtain ⟨Γ', t', e1, v2, v3, v4, e2⟩ := forGo_go (T := Unit) (g := gT 3 (gsC (gN 2) (gsC (gN 3) (gsC (gN 4) gsN)))) (b := (sSet 1 (mL (mCat (mVar 1) (mL (mSz (mCons (mOp dAdd (mC (.str "buy ")) (mCall f__law_text_of (mCons (mVar 2) mNil))) (mCons (mOp dAdd (mC (.str "want ")) (mBlt (d1 dStrI) (mCons (mVar 3) mNil))) (mCons (mOp dAdd (mC (.str "keep ")) (mCall f__law_text_of (mCons (mVar 4) mNil))) mNil)))))))))
    (fun k Γ _ => ∃ v2 v3 v4, Γ = [some (.dat (encB b)), some (.dat (.lst (wlD ((Ln.num kB b.begin).tx :: ((b.ps.take k).flatMap pdLn).map Ln.tx)))), v2, v3, v4, none])
    (b.ps.map encP) 0 [some (.dat (encB b)), some (.dat (.lst (wlD [(Ln.num kB b.begin).tx]))), none, none, none, none] () ⟨none, none, none, rfl⟩ fun k x Γ t hx ⟨v2, v3, v4, hv⟩ => by
      rw [Nat.zero_add] at hv ⊢
      rw [List.getElem?_map] at hx
      cases q : b.ps[k]? with
      | none => rw [q] at hx; cases hx
      | some p =>
        rw [q] at hx
        cases hx
        subst hv
        obtain ⟨g1, g2, g3⟩ := h4 p (mem_of_get q)
        have t1 := e_ltext p.1 g1
        have t3 := e_ltext p.2.2 g3
        have z2 := zlen (i := p.2.1) (by have := g2.1; omega) (by have := g2.2; omega)
        have zg := zlog (i := p.2.1) (by have := g2.1; omega) (by have := g2.2; omega)
        have n1 := dtL_len g1
        have n3 := dtL_len g3
        refine ⟨[some (.dat (encB b)), some (.dat (.lst (wlD ((Ln.num kB b.begin).tx :: ((b.ps.take k).flatMap pdLn).map Ln.tx)))), some (.dat (encD p.1)), some (.dat (.int p.2.1)), some (.dat (encD p.2.2)), none], [some (.dat (encB b)), some (.dat (.lst (wlD ((Ln.num kB b.begin).tx :: ((b.ps.take (k + 1)).flatMap pdLn).map Ln.tx)))), some (.dat (encD p.1)), some (.dat (.int p.2.1)), some (.dat (encD p.2.2)), none], (), rfl, ?_, ⟨_, _, _, rfl⟩⟩
        have a1 := dAdd_S (a := kBuy ++ [32]) (b := dtL p.1) (by simp [kBuy]; omega)
        have a2 := dAdd_S (a := kW ++ [32]) (b := zL p.2.1) (by simp [kW]; omega)
        have a3 := dAdd_S (a := kK ++ [32]) (b := dtL p.2.2) (by simp [kK]; omega)
        rw [show kBuy ++ [32] ++ dtL p.1 = (Ln.dat kBuy p.1).tx by rw [tx_dat]; simp, ← c_Buys] at a1
        rw [show kW ++ [32] ++ zL p.2.1 = (Ln.num kW p.2.1).tx by rw [tx_num]; simp, ← c_Ws] at a2
        rw [show kK ++ [32] ++ dtL p.2.2 = (Ln.dat kK p.2.2).tx by rw [tx_dat]; simp, ← c_Ks] at a3
        have hk : k < 6 := by
          obtain ⟨hk, _⟩ := List.getElem?_eq_some_iff.mp q
          omega
        have lz : (wlD ((Ln.num kB b.begin).tx :: ((b.ps.take k).flatMap pdLn).map Ln.tx)).length + 3 ≤ 16777216 := by
          simp only [wlD, List.length_map, List.length_cons, fm_len, List.length_take]
          omega
        rw [bk_stepT q]
        have ec : (mSz (mCons (mOp dAdd (mC (.str "buy ")) (mCall f__law_text_of (mCons (mVar 2) mNil))) (mCons (mOp dAdd (mC (.str "want ")) (mBlt (d1 dStrI) (mCons (mVar 3) mNil))) (mCons (mOp dAdd (mC (.str "keep ")) (mCall f__law_text_of (mCons (mVar 4) mNil))) mNil))) : Ar Unit) [some (.dat (encB b)), some (.dat (.lst (wlD ((Ln.num kB b.begin).tx :: ((b.ps.take k).flatMap pdLn).map Ln.tx)))), some (.dat (encD p.1)), some (.dat (.int p.2.1)), some (.dat (encD p.2.2)), none] () = .ok (wlD [(Ln.dat kBuy p.1).tx, (Ln.num kW p.2.1).tx, (Ln.dat kK p.2.2).tx]) () := by
          simp [t1, t3, zg, zrep, a1, a2, a3, wlD]
        have lz' : (wlD ((Ln.num kB b.begin).tx :: ((b.ps.take k).flatMap pdLn).map Ln.tx)).length + (wlD [(Ln.dat kBuy p.1).tx, (Ln.num kW p.2.1).tx, (Ln.dat kK p.2.2).tx]).length ≤ 16777216 := lz
        refine (ev_set (ev_l (ev_cat (ev_var rfl) (ev_l ec) lz'))).trans ?_
        simp [wlD]
  have lb : ((bkLn b).map Ln.tx).length = 1 + 3 * b.ps.length := by rw [List.length_map]; exact bk_len b
  have el : (Ln.num kB b.begin).tx :: ((b.ps.take b.ps.length).flatMap pdLn).map Ln.tx = (bkLn b).map Ln.tx := by
    rw [List.take_length]; rfl
  rw [Nat.zero_add, List.length_map, el] at e2
  subst e2
  have hb := lnS_len (ln_ok h0)
  have lb' : (lnS (bkLn b)).length * 271 ≤ 16777216 := by
    have h2 : (lnS (bkLn b)).length = 1 + 3 * b.ps.length := by unfold lnS; rw [List.length_map]; exact bk_len b
    omega
  have j' : dJoinS (S []) (.lst (wlD (lnS (bkLn b)))) = some (.str (S (bkTx b))) := e_joinE (lnS (bkLn b)) 271 hb lb'
  have ec := lcGo_map (T := Unit) (tgt := gN 5) (cond := mYes) (elt := mOp dAdd (mVar 5) (mC (.str "\n"))) (Γw := [some (.dat (encB b)), some (.dat (.lst (wlD ((bkLn b).map Ln.tx)))), v2, v3, v4, none]) (enc := fun l : Ln => D.str (S l.tx)) (g := fun l => D.str (S (l.tx ++ [10]))) (t := ()) (bkLn b) [] (by have := bk_len b; simp; omega) fun l hl => ⟨[some (.dat (encB b)), some (.dat (.lst (wlD ((bkLn b).map Ln.tx)))), v2, v3, v4, some (.dat (.str (S l.tx)))], rfl, rfl, by
    have := tx_len (ln_ok h0 l hl)
    have a1 := dAdd_S (a := l.tx) (b := [10]) (by simp; omega)
    simp [c_nl, a1]⟩
  have ew : (bkLn b).map (fun l : Ln => D.str (S l.tx)) = wlD ((bkLn b).map Ln.tx) := by simp [wlD]
  have ew2 : (bkLn b).map (fun l : Ln => D.str (S (l.tx ++ [10]))) = wlD (lnS (bkLn b)) := by simp [wlD, lnS]
  rw [List.nil_append, ew, ew2] at ec
  have o1 : (mL (mSz (mCons (mOp dAdd (mC (.str "begin ")) (mBlt (d1 dStrI) (mCons (mOp dIx (mVar 0) (mC (.int 0))) mNil))) mNil)) : Ex Unit) [some (.dat (encB b)), none, none, none, none, none] () = .ok (.lst (wlD [(Ln.num kB b.begin).tx])) () := by
    rw [← c_Bs] at a0
    simp [encB, zl, zrep, a0, wlD]
  have o2 : (mItems (mOp dIx (mVar 0) (mC (.int 1))) : Ar Unit) [some (.dat (encB b)), some (.dat (.lst (wlD [(Ln.num kB b.begin).tx]))), none, none, none, none] () = .ok (b.ps.map encP) () := by
    simp [encB]
  have o3 : (mL (mLc [5] (mItems (mVar 1)) (gN 5) mYes (mOp dAdd (mVar 5) (mC (.str "\n")))) : Ex Unit) [some (.dat (encB b)), some (.dat (.lst (wlD ((bkLn b).map Ln.tx)))), v2, v3, v4, none] () = .ok (.lst (wlD (lnS (bkLn b)))) () := by
    exact ev_l (ev_lc (ev_items (ev_var rfl)) ec)
  unfold f__law_book_text b__law_book_text
  rw [ev_run, show slots0 6 [encB b] = [some (.dat (encB b)), none, none, none, none, none] from rfl, ev_sSeq, ev_set o1, sq_nx, ev_sSeq, ev_sFor]
  rw [show (List.set [some (.dat (encB b)), none, none, none, none, none] 1 (some (.dat (.lst (wlD [(Ln.num kB b.begin).tx])))) : Gm) = [some (.dat (encB b)), some (.dat (.lst (wlD [(Ln.num kB b.begin).tx]))), none, none, none, none] from rfl]
  rw [o2, rf_ok, e1, sq_nx, ev_sRet, ev_mM1, ev_mC, rb_ok]
  dsimp only
  rw [o3, rb_ok, c_e, j', ofO_some, rf_ok, fin_rt]
end DC
namespace DC
open PySem L2 SX
/-! ### reading a book's text -/
theorem join_free {c s : Nat} (hs : c ≠ s) : ∀ ls : List (List Nat), (∀ l ∈ ls, c ∉ l) → c ∉ TL.joinL [s] ls
  | [], _ => by simp [TL.joinL]
  | [p], h => by simpa [TL.joinL] using h p (by simp)
  | p :: q :: r, h => by
    have h1 := h p (by simp)
    have h2 := join_free hs (q :: r) fun x hx => h x (List.mem_cons_of_mem _ hx)
    show c ∉ p ++ ([s] ++ TL.joinL [s] (q :: r))
    simp only [List.mem_append, List.mem_singleton, not_or]
    exact ⟨h1, hs, h2⟩
theorem tx_free {l : Ln} (h : LnOk l) : 10 ∉ l.tx := join_free (by decide) _ (ws_free h (.inl rfl))
theorem bkTx_join : ∀ ls : List Ln, (lnS ls).flatten = TL.joinL [10] (ls.map Ln.tx ++ [[]])
  | [] => rfl
  | [l] => by simp [lnS, TL.joinL]
  | l :: m :: r => by
    show (l.tx ++ [10]) ++ (lnS (m :: r)).flatten = l.tx ++ ([10] ++ TL.joinL [10] ((m :: r).map Ln.tx ++ [[]]))
    rw [bkTx_join (m :: r)]
    simp
theorem split_bk {b : Bk} (h : BkOk b) : Txt.split (S (bkTx b)) (S [10]) = ((bkLn b).map Ln.tx ++ [[]]).map S := by
  rw [split_S (by simp) (by decide)]
  unfold bkTx
  rw [bkTx_join, spl_join (by simp) (by
    intro l hl
    rcases List.mem_append.mp hl with hl | hl
    · obtain ⟨x, hx, rfl⟩ := List.mem_map.mp hl
      exact tx_free (ln_ok h x hx)
    · rw [List.mem_singleton.mp hl]; simp)]
theorem kw_fm : ∀ ps : List (Dt × Int × Dt), (ps.flatMap pdLn).map Ln.kw = (List.replicate ps.length [kBuy, kW, kK]).flatten
  | [] => rfl
  | p :: ps => by
    rw [List.flatMap_cons, List.map_append, kw_fm ps, List.length_cons, List.replicate_succ, List.flatten_cons]
    rfl
theorem due_take : ∀ n : Nat, n ≤ 6 → kB :: (List.replicate n [kBuy, kW, kK]).flatten = due.take (1 + 3 * n) := by decide +kernel
theorem due_bk {b : Bk} (h : b.ps.length ≤ 6) {i : Nat} {l : Ln} (hl : (bkLn b)[i]? = some l) : due[i]? = some l.kw := by
  have h1 : (bkLn b).map Ln.kw = due.take (1 + 3 * b.ps.length) := by
    rw [← due_take _ h, ← kw_fm]; rfl
  have h2 : ((bkLn b).map Ln.kw)[i]? = some l.kw := by rw [List.getElem?_map, hl]; rfl
  rw [h1] at h2
  obtain ⟨hi, h3⟩ := List.getElem?_eq_some_iff.mp h2
  have hi' : i < 1 + 3 * b.ps.length := by
    rw [List.length_take] at hi; omega
  rw [List.getElem?_take_of_lt hi'] at h2
  exact h2
theorem fm_get : ∀ (ps : List (Dt × Int × Dt)) (j r : Nat) (p : Dt × Int × Dt), ps[j]? = some p → r < 3 → (ps.flatMap pdLn)[3 * j + r]? = (pdLn p)[r]?
  | [], j, r, p, h, _ => by simp at h
  | q :: ps, 0, r, p, h, hr => by
    cases h
    rw [List.flatMap_cons, List.getElem?_append_left (by show 3 * 0 + r < 3; omega)]
    congr 1
    omega
  | q :: ps, j + 1, r, p, h, hr => by
    rw [List.flatMap_cons, List.getElem?_append_right (by show 3 ≤ _; omega)]
    have := fm_get ps j r p h hr
    rw [← this]
    congr 1
    show 3 * (j + 1) + r - 3 = _
    omega
theorem bk_get {b : Bk} {j r : Nat} {p : Dt × Int × Dt} (h : b.ps[j]? = some p) (hr : r < 3) : (bkLn b)[1 + 3 * j + r]? = (pdLn p)[r]? := by
  rw [show 1 + 3 * j + r = (3 * j + r) + 1 by omega]
  exact fm_get b.ps j r p h hr
theorem z_int {i : Int} (h : Big i) : dIntA (.str (S (zL i))) = some (.int i) := by
  have h1 := h.1
  have h2 := h.2
  have lz := zlen (i := i) (by omega) (by omega)
  have hd := TL.numL_digits i.natAbs
  have ne := TL.numL_ne i.natAbs
  have hi : PySem.intText? (S (zL i)) = some i := by
    unfold zL at lz ⊢
    by_cases hn : i < 0
    · rw [if_pos hn] at lz ⊢
      have := PySem.intText_neg (x := S (45 :: TL.numL i.natAbs)) (cs := TL.numL i.natAbs) rfl hd ne (by rw [S_len]; omega)
      rw [TL.numL_val] at this
      rw [this]
      congr 1
      omega
    · rw [if_neg hn] at lz ⊢
      have := PySem.intText_digits (x := S (TL.numL i.natAbs)) hd ne (by rw [S_len]; omega)
      rw [TL.numL_val] at this
      rw [this]
      congr 1
      omega
  have l640 : (zL i).length ≤ 640 := by omega
  simp [dIntA, S_len, l640, hi]
theorem rng : ∀ n : Nat, n ≤ 6 → 1 ≤ n → Builtin.Range.small 1 (1 + 3 * (n : Int)) 3 = true ∧ Builtin.Range.rangeSize 1 (1 + 3 * (n : Int)) 3 = n := by decide +kernel
theorem rangeC_get {lo c : Int} {n i : Nat} {d : D} (h : (dRangeC lo c n)[i]? = some d) : i < n ∧ d = .int (lo + (i : Int) * c) := by
  unfold dRangeC at h
  rw [List.getElem?_map] at h
  by_cases hi : i < n
  · rw [List.getElem?_range hi] at h
    exact ⟨hi, (Option.some.inj h).symm⟩
  · rw [List.getElem?_eq_none (by simp; omega)] at h; cases h
def rowD (l : Ln) : D := .lst (wlD l.ws)
theorem e_parse (b : Bk) (h : BkOk b) : f_parse_book [.str (S (bkTx b))] = .ok (encB b) () := by
  have h0 := h
  obtain ⟨h1, h2, h3, h4⟩ := h
  have hok := ln_ok h0
  have bl := bk_len b
  have hb := lnS_len hok
  have lb : (bkTx b).length ≤ 5149 := by
    have := sum_le (lnS (bkLn b)) hb
    have h2 : (lnS (bkLn b)).length = 1 + 3 * b.ps.length := by unfold lnS; rw [List.length_map]; exact bl
    unfold bkTx
    rw [List.length_flatten]
    have : ((lnS (bkLn b)).map List.length).sum ≤ (lnS (bkLn b)).length * 271 := this
    omega
  have lb' : (bkTx b).length ≤ 16777214 := by omega
  have sp := split_bk h0
  let G0 : Gm := [some (.dat (.str (S (bkTx b)))), none, none, none, none, none, none, none]
  let G1 (v3 v4 v5 v6 v7 : Option Sl) : Gm := [some (.dat (.str (S (bkTx b)))), some (.dat (.lst (wlD ((bkLn b).map Ln.tx)))), some (.dat (.str (S []))), v3, v4, v5, v6, v7]
  have s1 : (sStar 2 0 (mL (mSplit (mVar 0) (mC (.str "\n")))) (gsC (gN 1) (gsC (gN 2) gsN)) : Bl Unit) G0 () = .nx (G1 none none none none none) () := by
    have hm : (mL (mSplit (mVar 0) (mC (.str "\n"))) : Ex Unit) G0 () = .ok (.lst (wlD ((bkLn b).map Ln.tx ++ [[]]))) () := by
      simp [G0, c_nl, S_len, lb', sp, wlD]
    rw [ev_sStar, hm, rf_ok]
    have ew : wlD ((bkLn b).map Ln.tx ++ [[]]) = wlD ((bkLn b).map Ln.tx) ++ [D.str (S [])] := by simp [wlD]
    have el : (wlD ((bkLn b).map Ln.tx)).length = 1 + 3 * b.ps.length := by simp [wlD, bl]
    dsimp only
    rw [ew, if_pos (by rw [List.length_append, el]; simp)]
    have e1 : (wlD ((bkLn b).map Ln.tx) ++ [D.str (S [])]).length + 1 - 2 = (wlD ((bkLn b).map Ln.tx)).length := by simp
    rw [e1, List.drop_zero, List.take_zero, List.take_append_of_le_length (Nat.le_refl _), List.take_length, List.drop_append_of_le_length (Nat.le_refl _), List.drop_length]
    rfl
  have el : (wlD ((bkLn b).map Ln.tx)).length = 1 + 3 * b.ps.length := by simp [wlD, bl]
  obtain ⟨Γ2, t2, s2, w3, w4, e2⟩ := forGo_go (T := Unit) (g := gT 2 (gsC (gN 3) (gsC (gN 4) gsN))) (b := (sIf (mNot (mTru (mCall f_is_line (mCons (mVar 3) (mCons (mVar 4) mNil))))) sBad sNil))
    (fun _ Γ _ => ∃ v3 v4 : Option D, Γ = G1 (v3.map Sl.dat) (v4.map Sl.dat) none none none) (dEnum 0 (wlD ((bkLn b).map Ln.tx))) 0 (G1 none none none none none) () ⟨none, none, rfl⟩ fun k x Γ t hx ⟨w3, w4, hv⟩ => by
      subst hv
      rw [dEnum_get, Nat.zero_add] at hx
      unfold wlD at hx
      rw [List.map_map, List.getElem?_map] at hx
      cases q : (bkLn b)[k]? with
      | none => rw [q] at hx; cases hx
      | some l =>
        rw [q] at hx
        cases hx
        have e := e_line (hok l (mem_of_get q)) (due_bk h3 q)
        refine ⟨G1 (some (.dat (.int k))) (some (.dat (.str (S l.tx)))) none none none, G1 (some (.dat (.int k))) (some (.dat (.str (S l.tx)))) none none none, (), rfl, ?_, ⟨some (.int k), some (.str (S l.tx)), rfl⟩⟩
        have ec : (mCall f_is_line (mCons (mVar 3) (mCons (mVar 4) mNil)) : Ex Unit) (G1 (some (.dat (.int k))) (some (.dat (.str (S l.tx)))) none none none) () = .ok (.bl true) () := by
          rw [ev_mCall, ev_mCons, ev_var rfl, rb_ok, ev_mCons, ev_var rfl, rb_ok, ev_mNil, rb_ok, rb_ok, rb_ok, e]
        rw [ev_sIf, ev_mNot, ev_mTru, ec]
        rfl
  subst e2
  have no4 : [4].all (notOwn (G1 (w3.map Sl.dat) (w4.map Sl.dat) none none none)) = true := by cases w4 <;> rfl
  generalize w3.map Sl.dat = v3 at *
  generalize w4.map Sl.dat = v4 at *
  have ml : ((1 : Int) + 3 * (b.ps.length : Int)) % 3 = 1 := by omega
  have l4 : ¬ ((1 : Int) + 3 * (b.ps.length : Int) < 4) := by omega
  have s3 : (sIf (mOr (mTest (mOp dNe (mVar 2) (mC (.str "")))) (mOr (mTest (mOp dLt (mBlt (d1 dLen) (mCons (mVar 1) mNil)) (mC (.int 4)))) (mTest (mOp dNe (mOp dMod (mBlt (d1 dLen) (mCons (mVar 1) mNil)) (mC (.int 3))) (mC (.int 1)))))) sBad sNil : Bl Unit) (G1 v3 v4 none none none) () = .nx (G1 v3 v4 none none none) () := by
    have ee : (S [] == S []) = true := rfl
    have el' : ((wlD ((bkLn b).map Ln.tx)).length : Int) = 1 + 3 * (b.ps.length : Int) := by rw [el]; omega
    simp [G1, c_e, ee, el', l4, dMod, dI, ml]
  have s4 : (mL (mLc [4] (mItems (mVar 1)) (gN 4) mYes (mL (mSlL (mL (mSplit (mVar 4) (mC (.str " ")))) (mPart (mC (.int 1))) mNo))) : Ex Unit) (G1 v3 v4 none none none) () = .ok (.lst ((bkLn b).map rowD)) () := by
    have e := lcGo_map (T := Unit) (tgt := gN 4) (cond := mYes) (elt := mL (mSlL (mL (mSplit (mVar 4) (mC (.str " ")))) (mPart (mC (.int 1))) mNo)) (Γw := G1 v3 none none none none) (enc := fun l : Ln => D.str (S l.tx)) (g := rowD) (t := ()) (bkLn b) [] (by simp; omega) fun l hl => ⟨G1 v3 (some (.dat (.str (S l.tx)))) none none none, rfl, rfl, by
      have tl := tx_len (hok l hl)
      have tl' : l.tx.length ≤ 16777214 := by omega
      have sp' := split_tx (hok l hl)
      have cf := lcut_from (D.str (S l.kw) :: wlD l.ws) 1
      rw [show ((1 : Nat) : Int) = 1 from rfl] at cf
      have wl : (l.ws).length ≤ 16777215 := by
        cases l with
        | num k i => simp [Ln.ws]
        | dat k d =>
          have := (hok _ hl).2.2.1
          simp [Ln.ws, dtW]; omega
      have hm : (mL (mSplit (mVar 4) (mC (.str " "))) : Ex Unit) (G1 v3 (some (.dat (.str (S l.tx)))) none none none) () = .ok (.lst (D.str (S l.kw) :: wlD l.ws)) () := by
        simp [G1, c_sp, S_len, tl', sp', wlD]
      refine ev_l ?_
      rw [ev_mSlL, hm, rb_ok, ev_mPart, ev_mC, rb_ok]
      dsimp only
      rw [rb_ok, ev_mNo, rb_ok, if_pos (by simp [wlD]; omega), cf]
      rfl⟩
    have ew : (bkLn b).map (fun l : Ln => D.str (S l.tx)) = wlD ((bkLn b).map Ln.tx) := by simp [wlD]
    rw [List.nil_append, ew] at e
    exact ev_l (ev_lc (ev_items (ev_var rfl)) e no4)
  let G2 (v6 v7 : Option Sl) : Gm := G1 v3 v4 (some (.dat (.lst ((bkLn b).map rowD)))) v6 v7
  obtain ⟨Γ3, t3, s5, v7, e3⟩ := forGo_go (T := Unit) (g := gN 7) (b := (sSet 6 (mTup (mStar (mVar 6) (mCons (mTup (mCons (mCall f_read_data (mCons (mOp dIx (mVar 5) (mVar 7)) mNil)) (mCons (mBlt (d1 dIntA) (mCons (mOp dIx (mOp dIx (mVar 5) (mOp dAdd (mVar 7) (mC (.int 1)))) (mC (.int 0))) mNil)) (mCons (mCall f_read_data (mCons (mOp dIx (mVar 5) (mOp dAdd (mVar 7) (mC (.int 2)))) mNil)) mNil)))) mNil)))))
    (fun k Γ _ => ∃ v7, Γ = G2 (some (.dat (.tup ((b.ps.take k).map encP)))) v7) (dRangeC 1 3 b.ps.length) 0 (G2 (some (.dat (.tup []))) none) () ⟨none, rfl⟩ fun k x Γ t hx ⟨v7, hv⟩ => by
      rw [Nat.zero_add] at hv ⊢
      subst hv
      obtain ⟨hk, rfl⟩ := rangeC_get hx
      obtain ⟨p, q⟩ : ∃ p, b.ps[k]? = some p := ⟨b.ps[k], by simp [hk]⟩
      obtain ⟨g1, g2, g3⟩ := h4 p (mem_of_get q)
      have r0 := bk_get q (r := 0) (by omega)
      have r1 := bk_get q (r := 1) (by omega)
      have r2 := bk_get q (r := 2) (by omega)
      have a0 : L2.atI ((bkLn b).map rowD) (1 + (k : Int) * 3) = some (.lst (wlD (dtW p.1))) := by
        rw [show (1 + (k : Int) * 3) = ((1 + 3 * k + 0 : Nat) : Int) by omega, atI_nat, List.getElem?_map, r0]; rfl
      have a1 : L2.atI ((bkLn b).map rowD) (1 + (k : Int) * 3 + 1) = some (.lst [.str (S (zL p.2.1))]) := by
        rw [show (1 + (k : Int) * 3 + 1) = ((1 + 3 * k + 1 : Nat) : Int) by omega, atI_nat, List.getElem?_map, r1]; rfl
      have a2 : L2.atI ((bkLn b).map rowD) (1 + (k : Int) * 3 + 2) = some (.lst (wlD (dtW p.2.2))) := by
        rw [show (1 + (k : Int) * 3 + 2) = ((1 + 3 * k + 2 : Nat) : Int) by omega, atI_nat, List.getElem?_map, r2]; rfl
      have d0 := e_rdata p.1 g1
      have d2' := e_rdata p.2.2 g3
      have zi := z_int g2
      refine ⟨G2 (some (.dat (.tup ((b.ps.take k).map encP)))) (some (.dat (.int (1 + (k : Int) * 3)))), G2 (some (.dat (.tup ((b.ps.take (k + 1)).map encP)))) (some (.dat (.int (1 + (k : Int) * 3)))), (), rfl, ?_, ⟨_, rfl⟩⟩
      have ev : (mTup (mStar (mVar 6) (mCons (mTup (mCons (mCall f_read_data (mCons (mOp dIx (mVar 5) (mVar 7)) mNil)) (mCons (mBlt (d1 dIntA) (mCons (mOp dIx (mOp dIx (mVar 5) (mOp dAdd (mVar 7) (mC (.int 1)))) (mC (.int 0))) mNil)) (mCons (mCall f_read_data (mCons (mOp dIx (mVar 5) (mOp dAdd (mVar 7) (mC (.int 2)))) mNil)) mNil)))) mNil)) : Ex Unit) (G2 (some (.dat (.tup ((b.ps.take k).map encP)))) (some (.dat (.int (1 + (k : Int) * 3))))) () = .ok (.tup ((b.ps.take (k + 1)).map encP)) () := by
        rw [take_snoc q, List.map_append]
        have lk : min k b.ps.length ≤ 16777215 := by omega
        simp [G2, G1, a0, a1, a2, d0, d2', zi, encP]
        omega
      exact ev_set ev
  subst e3
  rw [Nat.zero_add, show (dRangeC 1 3 b.ps.length).length = b.ps.length by simp [dRangeC], List.take_length] at s5
  have rg := rng b.ps.length h3 h2
  have s6 : (mRange3 (mCons (mC (.int 1)) (mCons (mBlt (d1 dLen) (mCons (mVar 5) mNil)) (mCons (mC (.int 3)) mNil))) : Ar Unit) (G2 (some (.dat (.tup []))) none) () = .ok (dRangeC 1 3 b.ps.length) () := by
    have er : (((bkLn b).map rowD).length : Int) = 1 + 3 * (b.ps.length : Int) := by rw [List.length_map, bl]; omega
    rw [ev_mRange3, ev_mCons, ev_mC, rb_ok, ev_mCons, ev_mBlt, ev_mCons, ev_var rfl, rb_ok, ev_mNil, rb_ok, rb_ok, show d1 dLen [.lst ((bkLn b).map rowD)] = some (.int ((bkLn b).map rowD).length) from rfl, ofO_some, rb_ok, ev_mCons, ev_mC, rb_ok, ev_mNil, rb_ok, rb_ok, rb_ok, rb_ok]
    dsimp only
    rw [er, if_pos ⟨by decide, by decide, rg.1, by rw [rg.2]; omega⟩, rg.2]
    rfl
  have s0 : (sIf (mNot (mTest (mUn (dIsi .str) (mVar 0)))) sBad sNil : Bl Unit) G0 () = .nx G0 () := rfl
  have s7 : (mEnum (mCons (mVar 1) mNil) : Ar Unit) (G1 none none none none none) () = .ok (dEnum 0 (wlD ((bkLn b).map Ln.tx))) () := rfl
  have zb := z_int h1
  have a0 : L2.atI ((bkLn b).map rowD) 0 = some (.lst [.str (S (zL b.begin))]) := by
    have := atI_nat ((bkLn b).map rowD) 0
    rw [show ((0 : Nat) : Int) = 0 from rfl] at this
    rw [this]; rfl
  have s8 : (mTup (mCons (mBlt (d1 dIntA) (mCons (mOp dIx (mOp dIx (mVar 5) (mC (.int 0))) (mC (.int 0))) mNil)) (mCons (mVar 6) mNil)) : Ex Unit) (G2 (some (.dat (.tup (b.ps.map encP)))) v7) () = .ok (encB b) () := by
    simp [G2, G1, a0, zb, encB]
  have st : t2 = () := rfl
  have st3 : t3 = () := rfl
  subst st st3
  unfold f_parse_book b_parse_book
  rw [ev_run, show slots0 8 [D.str (S (bkTx b))] = G0 from rfl, ev_sSeq, s0, sq_nx, ev_sSeq, s1, sq_nx, ev_sSeq, ev_sFor, s7, rf_ok, s2, sq_nx, ev_sSeq, s3, sq_nx, ev_sSeq, ev_sPar, ev_mCons, s4, rb_ok, ev_mCons, show (mTup mNil : Ex Unit) (G1 v3 v4 none none none) () = .ok (.tup []) () from rfl, rb_ok, ev_mNil, rb_ok, rb_ok, rf_ok, par2, sq_nx, ev_sSeq, ev_sFor]
  rw [show (((G1 v3 v4 none none none).set 5 (some (.dat (.lst ((bkLn b).map rowD))))).set 6 (some (.dat (.tup []))) : Gm) = G2 (some (.dat (.tup []))) none from rfl, s6, rf_ok, s5, sq_nx, ev_sRet, s8]
  rfl
end DC
namespace DC
open PySem L2 SX
/-! ### a thing is the same as itself -/
theorem zip_self : ∀ ds : List D, dZip ds ds = ds.map fun d => D.tup [d, d]
  | [] => rfl
  | d :: ds => by
    show _ :: dZip ds ds = _
    rw [zip_self ds]; rfl
/-- no address within, not deeper than n, not long -/
def D.fit : Nat → D → Prop
  | n + 1, .tup ds => ds.length ≤ 1000000 ∧ ∀ d ∈ ds, D.fit n d
  | n + 1, .lst ds => ds.length ≤ 1000000 ∧ ∀ d ∈ ds, D.fit n d
  | 0, .tup _ => False
  | 0, .lst _ => False
  | _, .adr _ => False
  | _, _ => True
theorem e_all2 {n : Nat} {fs : Fn} {ds : List D} {Γ : Gm} {y z : D} (hG : Γ = [some (.dat y), some (.dat z), none, none]) (h1 : ds.length ≤ 1000000) (h : ∀ d ∈ ds, fs [d, d] = .ok (.bl true) ()) :
    lcGo (gT 2 (gsC (gN 2) (gsC (gN 3) gsN))) mYes (mCall fs (mCons (mVar 2) (mCons (mVar 3) mNil))) Γ (dZip ds ds) [] () = .ok (ds.map fun _ => .bl true) () := by
  subst hG
  have e := lcGo_map (T := Unit) (tgt := gT 2 (gsC (gN 2) (gsC (gN 3) gsN))) (cond := mYes) (elt := mCall fs (mCons (mVar 2) (mCons (mVar 3) mNil))) (Γw := [some (.dat y), some (.dat z), none, none]) (enc := fun d : D => D.tup [d, d]) (g := fun _ => D.bl true) (t := ()) ds [] (by simp; omega) fun d hd => ⟨[some (.dat y), some (.dat z), some (.dat d), some (.dat d)], rfl, rfl, by
    have := h d hd
    simp [this]⟩
  rw [zip_self]
  exact e
theorem all_tD (ds : List D) : dAll (.lst (ds.map fun _ => D.bl true)) = some (.bl true) := by
  have := dBls_map (fun _ : D => true) ds
  simp [dAll, this]
theorem e_same : ∀ (n : Nat) (x : D), D.fit n x → f__law_same (n + 1) [x, x] = .ok (.bl true) () := by
  intro n
  induction n with
  | zero =>
    intro x h
    cases x with
    | tup ds => unfold D.fit at h; exact h.elim
    | lst ds => unfold D.fit at h; exact h.elim
    | adr a => unfold D.fit at h; exact h.elim
    | non => rfl
    | bl b => cases b <;> rfl
    | int i =>
      show runDef 2 4 (b__law_same (f__law_same 0)) _ = _
      unfold b__law_same
      rw [ev_run]
      simp [dIsi2, dIsi, D.is, dTru, D.isNon]
    | str z =>
      show runDef 2 4 (b__law_same (f__law_same 0)) _ = _
      unfold b__law_same
      rw [ev_run]
      simp [dIsi2, dIsi, D.is, dTru, D.isNon]
  | succ n ih =>
    intro x h
    show runDef 2 4 (b__law_same (f__law_same (n + 1))) _ = _
    unfold b__law_same
    rw [ev_run]
    cases x with
    | non => rfl
    | bl b => cases b <;> rfl
    | int i => simp [dIsi2, dIsi, D.is, dTru, D.isNon]
    | str z => simp [dIsi2, dIsi, D.is, dTru, D.isNon]
    | adr a => unfold D.fit at h; exact h.elim
    | tup ds =>
      unfold D.fit at h
      have e := e_all2 (n := n) (fs := f__law_same (n + 1)) (ds := ds) (y := .tup ds) (z := .tup ds) rfl h.1 fun d hd => ih d (h.2 d hd)
      have e2 := all_tD ds
      simp only [List.map_const'] at e e2
      simp [dIsi2, dIsi, D.is, dTru, e, e2]
    | lst ds =>
      unfold D.fit at h
      have e := e_all2 (n := n) (fs := f__law_same (n + 1)) (ds := ds) (y := .lst ds) (z := .lst ds) rfl h.1 fun d hd => ih d (h.2 d hd)
      have e2 := all_tD ds
      simp only [List.map_const'] at e e2
      simp [dIsi2, dIsi, D.is, dTru, e, e2]
end DC
namespace DC
open PySem L2 SX
/-! ### the deck -/
theorem ev_dk {a : DkA} {i : Nat} {f : Dk → Option D} {Γ : Gm} {t : Dk} {d : D} (h : isDk a Γ i = true) (hf : f t = some d) : mDk a i f Γ t = .ok d t := by
  unfold mDk
  rw [if_pos h, hf]
  rfl
theorem is_dk (a : DkA) (r : List (Option Sl)) : isDk a (some (.dat (.adr a.p)) :: r) 0 = true := by
  simp [isDk]
structure DkOk (t : Dk) : Prop where
  ne : t.sm ≠ []
  sl : t.sm.length ≤ 1000
  gl : t.gr.length ≤ 1000
  nn : 0 ≤ t.n
abbrev whC (a : DkA) : Te Dk := mDkE a 0
abbrev whB (a : DkA) : Bl Dk := (sSeq (sSet 2 (mDk a 0 dkG))
  (sSeq (sIf (mTest (mOp dGt (mVar 2) (mC (.int 0)))) (sSeq (sDkG a 0 (mOp dDiv (mVar 2) (mVar 1)))
  (sRet (mOp dMod (mVar 2) (mVar 1)))) sNil)
  (sDkP a 0)))
theorem wh_go (a : DkA) (k : Int) (h1 : 1 ≤ k) (h2 : k < 1000000000000000000) (sm : List Int) (n : Int) : ∀ (gr : List Int) (v2 v3 : Option Sl), gr.length ≤ 1000 →
    (∃ v gr', 0 ≤ v ∧ v < k ∧ gr'.length ≤ 1000 ∧ whGo (whC a) (whB a) (gr.length + 1) [some (.dat (.adr a.p)), some (.dat (.int k)), v2, v3] ⟨gr, sm, n⟩ = .rt (.int v) ⟨gr', sm, n⟩) ∨
    (∃ v2', whGo (whC a) (whB a) (gr.length + 1) [some (.dat (.adr a.p)), some (.dat (.int k)), v2, v3] ⟨gr, sm, n⟩ = .nx [some (.dat (.adr a.p)), some (.dat (.int k)), v2', v3] ⟨[], sm, n⟩)
  | [], v2, v3, _ => .inr ⟨v2, by
      show (whC a _ _).fl _ _ = _
      unfold whC mDkE
      rw [if_pos ⟨is_dk a _, by simp⟩]
      rfl⟩
  | g :: gr, v2, v3, hl => by
    have hl' : gr.length ≤ 1000 := by simp at hl; omega
    have ec : whC a [some (.dat (.adr a.p)), some (.dat (.int k)), v2, v3] ⟨g :: gr, sm, n⟩ = .ok true ⟨g :: gr, sm, n⟩ := by
      unfold whC mDkE
      rw [if_pos ⟨is_dk a _, by simp; omega⟩]
      rfl
    have e1 : (sSet 2 (mDk a 0 dkG) : Bl Dk) [some (.dat (.adr a.p)), some (.dat (.int k)), v2, v3] ⟨g :: gr, sm, n⟩ = .nx [some (.dat (.adr a.p)), some (.dat (.int k)), some (.dat (.int g)), v3] ⟨g :: gr, sm, n⟩ := ev_set (ev_dk (is_dk a _) rfl)
    have kp : (0 : Int) < k := by omega
    have kl : k.natAbs.log2 < 9000 := by
      have : k.natAbs < 2 ^ 64 := by omega
      have z : k.natAbs ≠ 0 := by omega
      have := (Nat.log2_lt z).mpr this
      omega
    by_cases hg : 0 < g
    · refine .inl ⟨g % k, g / k :: gr, Int.emod_nonneg _ (by omega), Int.emod_lt_of_pos _ kp, hl, ?_⟩
      have e2 : (sDkG a 0 (mOp dDiv (mVar 2) (mVar 1)) : Bl Dk) [some (.dat (.adr a.p)), some (.dat (.int k)), some (.dat (.int g)), v3] ⟨g :: gr, sm, n⟩ = .nx [some (.dat (.adr a.p)), some (.dat (.int k)), some (.dat (.int g)), v3] ⟨g / k :: gr, sm, n⟩ := by
        unfold sDkG
        simp [dDiv, dI, kp, kl, is_dk]
      have eb : whB a [some (.dat (.adr a.p)), some (.dat (.int k)), v2, v3] ⟨g :: gr, sm, n⟩ = .rt (.int (g % k)) ⟨g / k :: gr, sm, n⟩ := by
        unfold whB
        rw [ev_sSeq, e1, sq_nx, ev_sSeq]
        simp [hg, e2, dMod, dI, kp]
      show (whC a _ _).fl _ _ = _
      rw [ec, rf_ok, if_pos rfl, eb]
    · have eb : whB a [some (.dat (.adr a.p)), some (.dat (.int k)), v2, v3] ⟨g :: gr, sm, n⟩ = .nx [some (.dat (.adr a.p)), some (.dat (.int k)), some (.dat (.int g)), v3] ⟨gr, sm, n⟩ := by
        unfold whB
        rw [ev_sSeq, e1, sq_nx, ev_sSeq]
        simp [hg, sDkP, is_dk]
      have st : whGo (whC a) (whB a) ((g :: gr).length + 1) [some (.dat (.adr a.p)), some (.dat (.int k)), v2, v3] ⟨g :: gr, sm, n⟩ = whGo (whC a) (whB a) (gr.length + 1) [some (.dat (.adr a.p)), some (.dat (.int k)), some (.dat (.int g)), v3] ⟨gr, sm, n⟩ := by
        show (whC a _ _).fl _ _ = _
        rw [ec, rf_ok, if_pos rfl, eb]
        rfl
      rw [st]
      exact wh_go a k h1 h2 sm n gr _ _ hl'
theorem dMul_l {i j : Int} (h : i.natAbs < 18446744073709551616) : dMul (.int i) (.int j) = some (.int (i * j)) := by
  show (if MulOk i j then some (D.int (i * j)) else none) = _
  rw [if_pos (.inl h)]
theorem dMul_r {i j : Int} (h : j.natAbs < 18446744073709551616) : dMul (.int i) (.int j) = some (.int (i * j)) := by
  show (if MulOk i j then some (D.int (i * j)) else none) = _
  rw [if_pos (.inr (.inl h))]
theorem dMod_p {i j : Int} (h : 0 < j) : dMod (.int i) (.int j) = some (.int (i % j)) := by simp [dMod, dI, h]
theorem dDiv_p {i j : Int} (h : 0 < j) (h2 : j < 1000000000000000000) : dDiv (.int i) (.int j) = some (.int (i / j)) := by
  have kl : j.natAbs.log2 < 9000 := by
    have : j.natAbs < 2 ^ 64 := by omega
    have z : j.natAbs ≠ 0 := by omega
    have := (Nat.log2_lt z).mpr this
    omega
  simp [dDiv, dI, h, kl]
theorem e_next (a : DkA) (t : Dk) (h : DkOk t) (hn : t.n < 99999) (k : Int) (h1 : 1 ≤ k) (h2 : k < 1000000000000000000) :
    ∃ v t', f__law_next a [.adr a.p, .int k] t = .ok (.int v) t' ∧ 0 ≤ v ∧ v < k ∧ DkOk t' ∧ t'.n = t.n + 1 := by
  obtain ⟨gr, sm, n⟩ := t
  have hnn : 0 ≤ n := h.nn
  have hn' : n < 99999 := hn
  have s1 : (sDkN a 0 (mOp dAdd (mDk a 0 dkN) (mC (.int 1))) : Bl Dk) [some (.dat (.adr a.p)), some (.dat (.int k)), none, none] ⟨gr, sm, n⟩ = .nx [some (.dat (.adr a.p)), some (.dat (.int k)), none, none] ⟨gr, sm, n + 1⟩ := by
    unfold sDkN
    rw [ev_mOp, ev_dk (d := .int n) (is_dk a _) rfl, rb_ok, ev_mC, rb_ok, dAdd_int, ofO_some, rf_ok]
    dsimp only
    rw [if_pos (is_dk a _)]
  have st : b__law_next a [some (.dat (.adr a.p)), some (.dat (.int k)), none, none] ⟨gr, sm, n⟩ = sq (whGo (whC a) (whB a) (gr.length + 1) [some (.dat (.adr a.p)), some (.dat (.int k)), none, none] ⟨gr, sm, n + 1⟩) (sSeq (sSet 2 (mOp dMod (mDkS a 0 (mOp dMod (mDk a 0 dkN) (mDk a 0 dkL))) (mC (.int 2147483629))))
  (sSeq (sSet 3 (mOp dAdd (mOp dAdd (mOp dMul (mVar 2) (mOp dAdd (mC (.int 16807)) (mOp dMul (mC (.int 39373)) (mDk a 0 dkN)))) (mOp dMul (mOp dMul (mC (.int 40692)) (mDk a 0 dkN)) (mDk a 0 dkN))) (mC (.int 59))))
  (sSeq (sSet 3 (mOp dAdd (mOp dMod (mOp dMul (mVar 3) (mVar 3)) (mC (.int 2305843009213693951))) (mOp dMul (mC (.int 69621)) (mDk a 0 dkN))))
  (sRet (mOp dMod (mOp dDiv (mOp dMod (mOp dMul (mVar 3) (mVar 3)) (mC (.int 2305843009213693951))) (mC (.int 4099))) (mVar 1)))))) := by
    unfold b__law_next
    rw [ev_sSeq, s1, sq_nx, ev_sSeq, ev_sWhile]
  have go := wh_go a k h1 h2 sm (n + 1) gr none none h.gl
  unfold f__law_next
  rw [ev_runW, show slots0 4 [D.adr a.p, D.int k] = [some (.dat (.adr a.p)), some (.dat (.int k)), none, none] from rfl, st]
  rcases go with ⟨v, gr', v1, v2, hl, e⟩ | ⟨v2', e⟩
  · rw [e]
    exact ⟨v, _, rfl, v1, v2, ⟨h.ne, h.sl, hl, by show 0 ≤ n + 1; omega⟩, rfl⟩
  · rw [e, sq_nx]
    have hs0 : 0 < sm.length := by
      cases sm with
      | nil => exact absurd rfl h.ne
      | cons _ _ => simp
    obtain ⟨j, hj1, hj2⟩ : ∃ j : Nat, (n + 1) % (sm.length : Int) = (j : Int) ∧ j < sm.length := by
      have p1 := Int.emod_nonneg (n + 1) (show (sm.length : Int) ≠ 0 by omega)
      have p2 := Int.emod_lt_of_pos (n + 1) (show (0 : Int) < (sm.length : Int) by omega)
      exact ⟨((n + 1) % (sm.length : Int)).toNat, by omega, by omega⟩
    have hat : L2.atI sm ((n + 1) % (sm.length : Int)) = some sm[j] := by
      rw [hj1, atI_nat]; simp [hj2]
    have sl0 : (0 : Int) < (sm.length : Int) := by omega
    have q1 : 0 ≤ sm[j] % 2147483629 := Int.emod_nonneg _ (by decide)
    have q2 : sm[j] % 2147483629 < 2147483629 := Int.emod_lt_of_pos _ (by decide)
    let c : Int := sm[j] % 2147483629
    have c1 : 0 ≤ c := q1
    have c2 : c < 2147483629 := q2
    let x1 : Int := 16807 + 39373 * (n + 1)
    have x1a : 0 ≤ x1 := by show 0 ≤ 16807 + 39373 * (n + 1); omega
    have x1b : x1 ≤ 3937316807 := by show 16807 + 39373 * (n + 1) ≤ 3937316807; omega
    have m1 : 0 ≤ c * x1 := Int.mul_nonneg c1 x1a
    have m2 : c * x1 ≤ 2147483629 * 3937316807 := Int.mul_le_mul (by omega) x1b x1a (by decide)
    have y1 : 0 ≤ 40692 * (n + 1) := by omega
    have y2 : 0 ≤ 40692 * (n + 1) * (n + 1) := Int.mul_nonneg y1 (by omega)
    have y3 : 40692 * (n + 1) * (n + 1) ≤ 4069200000 * 100000 := Int.mul_le_mul (by omega) (by omega) (by omega) (by decide)
    let pk : Int := c * x1 + 40692 * (n + 1) * (n + 1) + 59
    have k1 : pk.natAbs < 18446744073709551616 := by
      have : pk = c * x1 + 40692 * (n + 1) * (n + 1) + 59 := rfl
      omega
    let pk2 : Int := pk * pk % 2305843009213693951 + 69621 * (n + 1)
    have k2 : pk2.natAbs < 18446744073709551616 := by
      have e1 : pk2 = pk * pk % 2305843009213693951 + 69621 * (n + 1) := rfl
      have e2 := Int.emod_nonneg (pk * pk) (show (2305843009213693951 : Int) ≠ 0 by decide)
      have e3 := Int.emod_lt_of_pos (pk * pk) (show (0 : Int) < 2305843009213693951 by decide)
      omega
    refine ⟨pk2 * pk2 % 2305843009213693951 / 4099 % k, ⟨[], sm, n + 1⟩, ?_, Int.emod_nonneg _ (by omega), Int.emod_lt_of_pos _ (by omega), ⟨h.ne, h.sl, by simp, by show 0 ≤ n + 1; omega⟩, rfl⟩
    have nn : (n + 1).natAbs < 18446744073709551616 := by omega
    have f1 : (sSet 2 (mOp dMod (mDkS a 0 (mOp dMod (mDk a 0 dkN) (mDk a 0 dkL))) (mC (.int 2147483629))) : Bl Dk) [some (.dat (.adr a.p)), some (.dat (.int k)), v2', none] ⟨[], sm, n + 1⟩ = .nx [some (.dat (.adr a.p)), some (.dat (.int k)), some (.dat (.int c)), none] ⟨[], sm, n + 1⟩ := by
      refine ev_set (x := .int c) ?_
      rw [ev_mOp]
      unfold mDkS
      rw [if_pos (is_dk a _), ev_mOp, ev_dk (d := .int (n + 1)) (is_dk a _) rfl, rb_ok, ev_dk (d := .int sm.length) (is_dk a _) rfl, rb_ok, dMod_p sl0, ofO_some, rb_ok]
      dsimp only
      rw [hat]
      show (Rs.ok (D.int sm[j]) _).bind _ = _
      rw [rb_ok, ev_mC, rb_ok, dMod_p (by decide), ofO_some]
    have f2 : (sSet 3 (mOp dAdd (mOp dAdd (mOp dMul (mVar 2) (mOp dAdd (mC (.int 16807)) (mOp dMul (mC (.int 39373)) (mDk a 0 dkN)))) (mOp dMul (mOp dMul (mC (.int 40692)) (mDk a 0 dkN)) (mDk a 0 dkN))) (mC (.int 59))) : Bl Dk) [some (.dat (.adr a.p)), some (.dat (.int k)), some (.dat (.int c)), none] ⟨[], sm, n + 1⟩ = .nx [some (.dat (.adr a.p)), some (.dat (.int k)), some (.dat (.int c)), some (.dat (.int pk))] ⟨[], sm, n + 1⟩ := by
      refine ev_set (x := .int pk) ?_
      have dn : (mDk a 0 dkN) [some (.dat (.adr a.p)), some (.dat (.int k)), some (.dat (.int c)), none] ⟨[], sm, n + 1⟩ = .ok (.int (n + 1)) ⟨[], sm, n + 1⟩ := ev_dk (is_dk a _) rfl
      have cv : (mVar 2 : Ex Dk) [some (.dat (.adr a.p)), some (.dat (.int k)), some (.dat (.int c)), none] ⟨[], sm, n + 1⟩ = .ok (.int c) ⟨[], sm, n + 1⟩ := rfl
      rw [ev_mOp, ev_mOp, ev_mOp, cv, rb_ok, ev_mOp, ev_mC, rb_ok, ev_mOp, ev_mC, rb_ok, dn, rb_ok, dMul_l (by decide), ofO_some, rb_ok, dAdd_int, ofO_some, rb_ok, dMul_l (by omega), ofO_some, rb_ok, ev_mOp, ev_mOp, ev_mC, rb_ok, dn, rb_ok, dMul_l (by decide), ofO_some, rb_ok, dn, rb_ok, dMul_r nn, ofO_some, rb_ok, dAdd_int, ofO_some, rb_ok, ev_mC, rb_ok, dAdd_int, ofO_some]
    have f3 : (sSet 3 (mOp dAdd (mOp dMod (mOp dMul (mVar 3) (mVar 3)) (mC (.int 2305843009213693951))) (mOp dMul (mC (.int 69621)) (mDk a 0 dkN))) : Bl Dk) [some (.dat (.adr a.p)), some (.dat (.int k)), some (.dat (.int c)), some (.dat (.int pk))] ⟨[], sm, n + 1⟩ = .nx [some (.dat (.adr a.p)), some (.dat (.int k)), some (.dat (.int c)), some (.dat (.int pk2))] ⟨[], sm, n + 1⟩ := by
      refine ev_set (x := .int pk2) ?_
      rw [ev_mOp, ev_mOp, ev_mOp, ev_var rfl, rb_ok, ev_var rfl, rb_ok, dMul_l k1, ofO_some, rb_ok, ev_mC, rb_ok, dMod_p (by decide), ofO_some, rb_ok, ev_mOp, ev_mC, rb_ok, ev_dk (d := .int (n + 1)) (is_dk a _) rfl, rb_ok, dMul_l (by decide), ofO_some, rb_ok, dAdd_int, ofO_some]
    have f4 : (mOp dMod (mOp dDiv (mOp dMod (mOp dMul (mVar 3) (mVar 3)) (mC (.int 2305843009213693951))) (mC (.int 4099))) (mVar 1) : Ex Dk) [some (.dat (.adr a.p)), some (.dat (.int k)), some (.dat (.int c)), some (.dat (.int pk2))] ⟨[], sm, n + 1⟩ = .ok (.int (pk2 * pk2 % 2305843009213693951 / 4099 % k)) ⟨[], sm, n + 1⟩ := by
      rw [ev_mOp, ev_mOp, ev_mOp, ev_mOp, ev_var rfl, rb_ok, ev_var rfl, rb_ok, dMul_l k2, ofO_some, rb_ok, ev_mC, rb_ok, dMod_p (by decide), ofO_some, rb_ok, ev_mC, rb_ok, dDiv_p (by decide) (by decide), ofO_some, rb_ok, ev_var rfl, rb_ok, dMod_p (by omega), ofO_some]
    rw [ev_sSeq, f1, sq_nx, ev_sSeq, f2, sq_nx, ev_sSeq, f3, sq_nx, ev_sRet, f4]
    rfl
end DC
namespace DC
open PySem L2 SX
/-! ### what is drawn -/
/-- m's end from t: a value with P, at most c draws on -/
def Dr (m : Rs Dk D) (t : Dk) (c : Nat) (P : D → Prop) : Prop := DkOk t → t.n + (c : Int) ≤ 99999 → ∃ d t', m = .ok d t' ∧ P d ∧ DkOk t' ∧ t'.n ≤ t.n + (c : Int)
def IsI (lo hi : Int) (d : D) : Prop := ∃ v, d = .int v ∧ lo ≤ v ∧ v ≤ hi
theorem d_next (a : DkA) (t : Dk) (k : Int) (h1 : 1 ≤ k) (h2 : k < 1000000000000000000) : Dr (f__law_next a [.adr a.p, .int k] t) t 1 (IsI 0 (k - 1)) := fun h hn => by
  obtain ⟨v, t', e, g1, g2, g3, g4⟩ := e_next a t h (by omega) k h1 h2
  exact ⟨_, t', e, ⟨v, rfl, g1, by omega⟩, g3, by omega⟩
theorem d_one (a : DkA) (t : Dk) (ds : List D) (hne : ds ≠ []) (hl : ds.length ≤ 1000) : Dr (f__law_one a [.adr a.p, .lst ds] t) t 1 (fun d => d ∈ ds) := fun h hn => by
  have h0 : 0 < ds.length := by
    cases ds with
    | nil => exact absurd rfl hne
    | cons _ _ => simp
  obtain ⟨_, t', e, ⟨v, rfl, g1, g2⟩, g3, g4⟩ := d_next a t ds.length (by omega) (by omega) h hn
  have hj : v.toNat < ds.length := by omega
  have hat : L2.atI ds v = some ds[v.toNat] := by
    have := atI_nat ds v.toNat
    rw [show ((v.toNat : Nat) : Int) = v by omega] at this
    rw [this]; simp [hj]
  refine ⟨ds[v.toNat], t', ?_, List.getElem_mem hj, g3, g4⟩
  unfold f__law_one b__law_one
  rw [ev_runW]
  simp [e, hat]
theorem pw10_10 : dPow (.int 10) (.int 10) = some (.int 10000000000) := rfl
theorem pw10_11 : dPow (.int 10) (.int 11) = some (.int 100000000000) := rfl
theorem pw10_12 : dPow (.int 10) (.int 12) = some (.int 1000000000000) := rfl
theorem pw10_6 : dPow (.int 10) (.int 6) = some (.int 1000000) := rfl
theorem d_great (a : DkA) (t : Dk) : Dr (f__law_great a [.adr a.p] t) t 1 (IsI 1 10000000000) := fun h hn => by
  obtain ⟨_, t', e, ⟨v, rfl, g1, g2⟩, g3, g4⟩ := d_next a t 4 (by omega) (by omega) h hn
  have hv : v = 0 ∨ v = 1 ∨ v = 2 ∨ v = 3 := by omega
  have hx : ∃ x, L2.atI [D.int 1, .int 2, .int 5, .int 10000000000] v = some (.int x) ∧ 1 ≤ x ∧ x ≤ 10000000000 := by
    rcases hv with rfl | rfl | rfl | rfl
    · exact ⟨1, rfl, by omega, by omega⟩
    · exact ⟨2, rfl, by omega, by omega⟩
    · exact ⟨5, rfl, by omega, by omega⟩
    · exact ⟨10000000000, rfl, by omega, by omega⟩
  obtain ⟨x, hx, x1, x2⟩ := hx
  refine ⟨.int x, t', ?_, ⟨x, rfl, x1, x2⟩, g3, g4⟩
  unfold f__law_great b__law_great
  rw [ev_runW]
  simp [e, pw10_10, hx]
/-- steps as they are drawn -/
def StD (great : Int) (most : Nat) (st : List (Int × Int)) : Prop := st.length ≤ most ∧ st.Pairwise (fun a b => a.2 < b.2) ∧ ∀ p ∈ st, 1 ≤ p.1 ∧ p.1 ≤ great ∧ -8 ≤ p.2 ∧ p.2 ≤ 100
theorem d_steps (a : DkA) (t : Dk) (great : Int) (most : Nat) (hg : 1 ≤ great ∧ great ≤ 10000000000) (hm : most ≤ 6) : Dr (f__law_steps a [.adr a.p, .int great, .int most] t) t 20 (fun d => ∃ st, d = .tup (st.map encS) ∧ StD great most st) := fun h hn => by
  obtain ⟨_, t1, e1, ⟨v, rfl, v1, v2⟩, o1, n1⟩ := d_next a t 13 (by omega) (by omega) h (by omega)
  obtain ⟨_, t2, e2, ⟨m, rfl, m1, m2⟩, o2, n2⟩ := d_next a t1 ((most : Int) + 1) (by omega) (by omega) o1 (by omega)
  obtain ⟨Γ', t', e3, o3, n3, st, pr, v5, rfl, s1, s2, s3, s4, s5⟩ := forGo_go (T := Dk) (g := gN 5) (b := (sSeq (sApp 3 (mTup (mCons (mOp dAdd (mC (.int 1)) (mCallW (f__law_next a) (mCons (mVar 0) (mCons (mVar 1) mNil)))) (mCons (mVar 4) mNil))))
  (sSet 4 (mOp dAdd (mOp dAdd (mVar 4) (mC (.int 1))) (mCallW (f__law_next a) (mCons (mVar 0) (mCons (mC (.int 4)) mNil)))))))
    (fun k Γ s => DkOk s ∧ s.n ≤ t2.n + 2 * (k : Int) ∧ ∃ (st : List (Int × Int)) (pr : Int) (v5 : Option Sl), Γ = [some (.dat (.adr a.p)), some (.dat (.int great)), some (.dat (.int most)), some (.own (st.map encS)), some (.dat (.int pr)), v5] ∧ st.length = k ∧ st.Pairwise (fun a b => a.2 < b.2) ∧ (∀ p ∈ st, 1 ≤ p.1 ∧ p.1 ≤ great ∧ -8 ≤ p.2 ∧ p.2 < pr) ∧ -8 ≤ pr ∧ pr ≤ 4 + 5 * (k : Int))
    (dRange 0 m.toNat) 0 [some (.dat (.adr a.p)), some (.dat (.int great)), some (.dat (.int most)), some (.own []), some (.dat (.int (v - 8))), none] t2 ⟨o2, by simp, [], v - 8, none, rfl, rfl, List.Pairwise.nil, by simp, by omega, by omega⟩ fun k x Γ s hx ⟨so, sn, st, pr, v5, hv, l1, l2, l3, l4, l5⟩ => by
      obtain ⟨hk, rfl⟩ := range_get hx
      rw [Nat.zero_add] at *
      subst hv
      have hk6 : k < 6 := by omega
      obtain ⟨_, u1, f1, ⟨c, rfl, c1, c2⟩, p1, q1⟩ := d_next a s great (by omega) (by omega) so (by omega)
      obtain ⟨_, u2, f2, ⟨w, rfl, w1, w2⟩, p2, q2⟩ := d_next a u1 4 (by omega) (by omega) p1 (by omega)
      refine ⟨[some (.dat (.adr a.p)), some (.dat (.int great)), some (.dat (.int most)), some (.own (st.map encS)), some (.dat (.int pr)), some (.dat (.int (0 + (k : Int))))], [some (.dat (.adr a.p)), some (.dat (.int great)), some (.dat (.int most)), some (.own ((st ++ [(1 + c, pr)]).map encS)), some (.dat (.int (pr + 1 + w))), some (.dat (.int (0 + (k : Int))))], u2, rfl, ?_, p2, by omega, st ++ [(1 + c, pr)], pr + 1 + w, _, rfl, by simp [l1], ?_, ?_, by omega, by omega⟩
      · have g1 : (mTup (mCons (mOp dAdd (mC (.int 1)) (mCallW (f__law_next a) (mCons (mVar 0) (mCons (mVar 1) mNil)))) (mCons (mVar 4) mNil)) : Ex Dk) [some (.dat (.adr a.p)), some (.dat (.int great)), some (.dat (.int most)), some (.own (st.map encS)), some (.dat (.int pr)), some (.dat (.int (0 + (k : Int))))] s = .ok (encS (1 + c, pr)) u1 := by
          simp [f1, encS]
        rw [ev_sSeq, ev_app rfl g1 (by simp; omega), sq_nx]
        have g2 : (mOp dAdd (mOp dAdd (mVar 4) (mC (.int 1))) (mCallW (f__law_next a) (mCons (mVar 0) (mCons (mC (.int 4)) mNil))) : Ex Dk) [some (.dat (.adr a.p)), some (.dat (.int great)), some (.dat (.int most)), some (.own (st.map encS ++ [encS (1 + c, pr)])), some (.dat (.int pr)), some (.dat (.int (0 + (k : Int))))] u1 = .ok (.int (pr + 1 + w)) u2 := by
          simp [f2]
        refine (ev_set g2).trans ?_
        simp
      · rw [List.pairwise_append]
        exact ⟨l2, by simp, fun x hx y hy => by rw [List.mem_singleton.mp hy]; exact (l3 x hx).2.2.2⟩
      · intro p hp
        rcases List.mem_append.mp hp with hp | hp
        · have := l3 p hp
          exact ⟨this.1, this.2.1, this.2.2.1, by omega⟩
        · rw [List.mem_singleton.mp hp]
          exact ⟨by show 1 ≤ 1 + c; omega, by show 1 + c ≤ great; omega, l4, by show pr < pr + 1 + w; omega⟩
  have ml : (dRange 0 m.toNat).length = m.toNat := dRange_len
  have s1' : st.length = m.toNat := by rw [s1, ml]; simp
  have s5' : pr ≤ 4 + 5 * (st.length : Int) := by rw [s1]; exact s5
  have n3' : t'.n ≤ t2.n + 2 * (st.length : Int) := by rw [s1]; exact n3
  refine ⟨.tup (st.map encS), t', ?_, ⟨st, rfl, by omega, s2, fun p hp => ⟨(s3 p hp).1, (s3 p hp).2.1, (s3 p hp).2.2.1, by have := (s3 p hp).2.2.2; omega⟩⟩, o3, by omega⟩
  have mz : m.natAbs < 4611686018427387904 := by omega
  unfold f__law_steps b__law_steps
  rw [ev_runW]
  simp [e1, e2, mz, e3, dTupOf]
end DC
namespace DC
open PySem L2 SX
/-! ### data and books as they are drawn -/
theorem e_units (st : List (Int × Int)) (h : st.length ≤ 6) : f__law_units [.tup (st.map encS)] = .ok (.int (st.map Prod.fst).sum) () := by
  have e := lcGo_map (T := Unit) (tgt := gT 2 (gsC (gN 1) (gsC (gN 2) gsN))) (cond := mYes) (elt := mVar 1) (Γw := [some (.dat (.tup (st.map encS))), none, none]) (enc := encS) (g := fun p => D.int p.1) (t := ()) st [] (by simp; omega) fun p _ => ⟨[some (.dat (.tup (st.map encS))), some (.dat (.int p.1)), some (.dat (.int p.2))], rfl, rfl, rfl⟩
  rw [List.nil_append] at e
  unfold f__law_units b__law_units
  rw [ev_run]
  simp [e, dSum, dInts_comp]
theorem sum_nn (great : Int) : ∀ st : List (Int × Int), (∀ p ∈ st, 1 ≤ p.1 ∧ p.1 ≤ great) → 0 ≤ (st.map Prod.fst).sum ∧ (st.map Prod.fst).sum ≤ st.length * great
  | [], _ => by simp
  | p :: st, h => by
    have h1 := sum_nn great st fun x hx => h x (List.mem_cons_of_mem _ hx)
    have h2 := h p (by simp)
    simp only [List.map_cons, List.sum_cons, List.length_cons]
    have : ((st.length + 1 : Nat) : Int) * great = st.length * great + great := by
      rw [show ((st.length + 1 : Nat) : Int) = (st.length : Int) + 1 from rfl, Int.add_mul]; omega
    omega
theorem units_le {great : Int} {most : Nat} {st : List (Int × Int)} (h : StD great most st) (hg : 0 ≤ great) : 0 ≤ (st.map Prod.fst).sum ∧ (st.map Prod.fst).sum ≤ most * great := by
  have h1 := sum_nn great st fun p hp => ⟨(h.2.2 p hp).1, (h.2.2 p hp).2.1⟩
  have h2 : (st.length : Int) * great ≤ most * great := Int.mul_le_mul_of_nonneg_right (by have := h.1; omega) hg
  omega
def DtD (great : Int) (most : Nat) (x : Dt) : Prop := -great ≤ x.low ∧ x.low ≤ great ∧ -20 ≤ x.cost ∧ x.cost ≤ 20 ∧ StD great most x.st
theorem st_ok {great : Int} {most : Nat} {st : List (Int × Int)} (h : StD great most st) (hg : great ≤ 10000000000) : StOk st :=
  ⟨h.2.1, fun p hp => by
    have := h.2.2 p hp
    omega⟩
theorem dt_ok {great : Int} {most : Nat} {x : Dt} (h : DtD great most x) (hg : 1 ≤ great ∧ great ≤ 10000000000) (hm : most ≤ 6) : DtOk x := by
  obtain ⟨h1, h2, h3, h4, h5⟩ := h
  have u := units_le h5 (by omega)
  have : (most : Int) * great ≤ 6 * 10000000000 := Int.mul_le_mul (by omega) hg.2 (by omega) (by decide)
  refine ⟨st_ok h5 hg.2, by have := h5.1; omega, by omega, by omega, by omega, by omega, ?_⟩
  unfold top
  omega
theorem d_data (a : DkA) (t : Dk) (great : Int) (most : Nat) (hg : 1 ≤ great ∧ great ≤ 10000000000) (hm : most ≤ 6) : Dr (f__law_data a [.adr a.p, .int great, .int most] t) t 22 (fun d => ∃ x, d = encD x ∧ DtD great most x) := fun h hn => by
  obtain ⟨_, t1, e1, ⟨st, rfl, s1⟩, o1, n1⟩ := d_steps a t great most hg hm h (by omega)
  obtain ⟨_, t2, e2, ⟨v, rfl, v1, v2⟩, o2, n2⟩ := d_next a t1 (2 * great + 1) (by omega) (by omega) o1 (by omega)
  obtain ⟨_, t3, e3, ⟨w, rfl, w1, w2⟩, o3, n3⟩ := d_next a t2 41 (by omega) (by omega) o2 (by omega)
  refine ⟨encD ⟨v - great, w - 20, st⟩, t3, ?_, ⟨_, rfl, by show -great ≤ v - great; omega, by show v - great ≤ great; omega, by show -20 ≤ w - 20; omega, by show w - 20 ≤ 20; omega, s1⟩, o3, by omega⟩
  have m2 : dMul (.int 2) (.int great) = some (.int (2 * great)) := dMul_l (by decide)
  unfold f__law_data b__law_data
  rw [ev_runW]
  simp [e1, e2, e3, m2, encD]
def DtA (stock great : Int) (x : Dt) : Prop := stock - 50000000000 ≤ x.low ∧ x.low ≤ stock + 50000000000 ∧ -20 ≤ x.cost ∧ x.cost ≤ 20 ∧ StD great 3 x.st
theorem da_ok {stock great : Int} {x : Dt} (h : DtA stock great x) (hg : 1 ≤ great ∧ great ≤ 10000000000) (hs : -600000000000 ≤ stock ∧ stock ≤ 600000000000) : DtOk x := by
  obtain ⟨h1, h2, h3, h4, h5⟩ := h
  have u := units_le h5 (by omega)
  refine ⟨st_ok h5 hg.2, by have := h5.1; omega, by omega, by omega, by omega, by omega, ?_⟩
  unfold top
  omega
theorem d_around (a : DkA) (t : Dk) (great stock way : Int) (hg : 1 ≤ great ∧ great ≤ 10000000000) : Dr (f__law_around a [.adr a.p, .int great, .int stock, .int way] t) t 30 (fun d => ∃ x, d = encD x ∧ DtA stock great x) := fun h hn => by
  obtain ⟨_, t1, e1, ⟨st, rfl, s1⟩, o1, n1⟩ := d_steps a t great 3 hg (by omega) h (by omega)
  rw [show ((3 : Nat) : Int) = 3 from rfl] at e1
  have u := units_le s1 (by omega)
  have eu := e_units st (by have := s1.1; omega)
  let un := (st.map Prod.fst).sum
  obtain ⟨_, t2, e2, ⟨v, rfl, v1, v2⟩, o2, n2⟩ := d_next a t1 (un + 1) (by show 1 ≤ un + 1; have : 0 ≤ un := u.1; omega) (by have : un ≤ 3 * great := u.2; omega) o1 (by omega)
  have u1 : 0 ≤ un := u.1
  have u2 : un ≤ 3 * great := u.2
  by_cases hw : way = 0
  · subst hw
    obtain ⟨_, t3, e3, ⟨x, rfl, x1, x2⟩, o3, n3⟩ := d_next a t2 great (by omega) (by omega) o2 (by omega)
    obtain ⟨_, t4, e4, ⟨y, rfl, y1, y2⟩, o4, n4⟩ := d_next a t3 great (by omega) (by omega) o3 (by omega)
    obtain ⟨z, t5, e5, hz, o5, n5⟩ := d_one a t4 [.int (stock + 1 + x), .int (stock - un - 1 - y)] (by simp) (by simp) o4 (by omega)
    obtain ⟨l, hl, l1, l2⟩ : ∃ l, z = .int l ∧ stock - 50000000000 ≤ l ∧ l ≤ stock + 50000000000 := by
      rcases List.mem_cons.mp hz with rfl | hz
      · exact ⟨_, rfl, by omega, by omega⟩
      · rw [List.mem_singleton.mp hz]
        exact ⟨_, rfl, by omega, by omega⟩
    subst hl
    obtain ⟨_, t6, e6, ⟨w, rfl, w1, w2⟩, o6, n6⟩ := d_next a t5 21 (by omega) (by omega) o5 (by omega)
    refine ⟨encD ⟨l, w - 10, st⟩, t6, ?_, ⟨_, rfl, l1, l2, by show -20 ≤ w - 10; omega, by show w - 10 ≤ 20; omega, s1⟩, o6, by omega⟩
    unfold f__law_around b__law_around
    rw [ev_runW]
    simp only [un] at e2 e5
    simp [e1, eu, e2, e3, e4, e5, e6, encD]
  · obtain ⟨_, t6, e6, ⟨w, rfl, w1, w2⟩, o6, n6⟩ := d_next a t2 21 (by omega) (by omega) o2 (by omega)
    refine ⟨encD ⟨stock - v, w - 10, st⟩, t6, ?_, ⟨_, rfl, by show stock - 50000000000 ≤ stock - v; omega, by show stock - v ≤ stock + 50000000000; omega, by show -20 ≤ w - 10; omega, by show w - 10 ≤ 20; omega, s1⟩, o6, by omega⟩
    unfold f__law_around b__law_around
    rw [ev_runW]
    simp only [un] at e2
    simp [e1, eu, e2, e6, encD, hw]
end DC
namespace DC
open PySem L2 SX
abbrev bkB (a : DkA) : Bl Dk := (sSeq (sPar [8, 9] (mCons (mCallW (f__law_data a) (mCons (mVar 0) (mCons (mVar 1) (mCons (mC (.int 3)) mNil)))) (mCons (mOp dSub (mCallW (f__law_next a) (mCons (mVar 0) (mCons (mOp dAdd (mOp dMul (mC (.int 2)) (mVar 1)) (mC (.int 2))) mNil))) (mOp dDiv (mVar 1) (mC (.int 2)))) mNil)))
  (sSeq (sSet 6 (mOp dSub (mOp dAdd (mOp dAdd (mVar 6) (mOp dIx (mVar 8) (mC (.int 0)))) (mCallW (f__law_next a) (mCons (mVar 0) (mCons (mOp dAdd (mCall f__law_units (mCons (mOp dIx (mVar 8) (mC (.int 2))) mNil)) (mC (.int 1))) mNil)))) (mVar 9)))
  (sSeq (sSet 10 (mCallW (f__law_around a) (mCons (mVar 0) (mCons (mVar 1) (mCons (mVar 6) (mCons (mIf (mTru (mVar 3)) (mC (.int 1)) (mCallW (f__law_next a) (mCons (mVar 0) (mCons (mC (.int 9)) mNil)))) mNil))))))
  (sApp 5 (mTup (mCons (mVar 8) (mCons (mVar 9) (mCons (mVar 10) mNil))))))))
theorem tru_f : tru (.bl false) = fun (t : Dk) => Rs.ok false t := rfl
/-- one period -/
theorem d_period (a : DkA) (t : Dk) (great most stock : Int) (v0 : Option Sl) (begin : Int) (ps : List (Dt × Int × Dt)) (v7 v8 v9 v10 : Option Sl) (hg : 1 ≤ great ∧ great ≤ 10000000000) (hs : -500000000000 ≤ stock ∧ stock ≤ 500000000000) (hl : ps.length ≤ 6) (ho : DkOk t) (hn : t.n + 60 ≤ 99999) :
    ∃ (p : Dt × Int × Dt) (stock' : Int) (w8 w9 w10 : Option Sl) (t' : Dk), bkB a [some (.dat (.adr a.p)), some (.dat (.int great)), some (.dat (.int most)), some (.dat (.bl false)), some (.dat (.int begin)), some (.own (ps.map encP)), some (.dat (.int stock)), v7, v8, v9, v10] t = .nx [some (.dat (.adr a.p)), some (.dat (.int great)), some (.dat (.int most)), some (.dat (.bl false)), some (.dat (.int begin)), some (.own ((ps ++ [p]).map encP)), some (.dat (.int stock')), v7, w8, w9, w10] t' ∧
      PdOk p ∧ stock - 70000000000 ≤ stock' ∧ stock' ≤ stock + 70000000000 ∧ DkOk t' ∧ t'.n ≤ t.n + 60 := by
  obtain ⟨_, t1, e1, ⟨x, rfl, x1⟩, o1, n1⟩ := d_data a t great 3 hg (by omega) ho (by omega)
  rw [show ((3 : Nat) : Int) = 3 from rfl] at e1
  obtain ⟨_, t2, e2, ⟨w, rfl, w1, w2⟩, o2, n2⟩ := d_next a t1 (2 * great + 2) (by omega) (by omega) o1 (by omega)
  have u := units_le x1.2.2.2.2 (by omega)
  have eu := e_units x.st (by have := x1.2.2.2.2.1; omega)
  obtain ⟨un, hun⟩ : ∃ un, un = (x.st.map Prod.fst).sum := ⟨_, rfl⟩
  rw [← hun] at u eu
  obtain ⟨_, t3, e3, ⟨r, rfl, r1, r2⟩, o3, n3⟩ := d_next a t2 (un + 1) (by omega) (by omega) o2 (by omega)
  obtain ⟨_, t4, e4, ⟨y, rfl, y1, y2⟩, o4, n4⟩ := d_next a t3 9 (by omega) (by omega) o3 (by omega)
  obtain ⟨wt, hwt⟩ : ∃ wt, wt = w - great / 2 := ⟨_, rfl⟩
  obtain ⟨st', hst⟩ : ∃ st', st' = stock + x.low + r - wt := ⟨_, rfl⟩
  have xl1 := x1.1
  have xl2 := x1.2.1
  have q1 : stock - 70000000000 ≤ st' := by omega
  have q2 : st' ≤ stock + 70000000000 := by omega
  obtain ⟨_, t5, e5, ⟨z, rfl, z1⟩, o5, n5⟩ := d_around a t4 great st' y hg o4 (by omega)
  refine ⟨(x, wt, z), st', some (.dat (encD x)), some (.dat (.int wt)), some (.dat (encD z)), t5, ?_, ⟨dt_ok x1 hg (by omega), ⟨by show -1000000000000 ≤ wt; omega, by show wt ≤ 1000000000000; omega⟩, da_ok z1 hg (by omega)⟩, q1, q2, o5, by omega⟩
  have m2 : dMul (.int 2) (.int great) = some (.int (2 * great)) := dMul_l (by decide)
  have dv : dDiv (.int great) (.int 2) = some (.int (great / 2)) := dDiv_p (by decide) (by decide)
  have g1 : (mCons (mCallW (f__law_data a) (mCons (mVar 0) (mCons (mVar 1) (mCons (mC (.int 3)) mNil)))) (mCons (mOp dSub (mCallW (f__law_next a) (mCons (mVar 0) (mCons (mOp dAdd (mOp dMul (mC (.int 2)) (mVar 1)) (mC (.int 2))) mNil))) (mOp dDiv (mVar 1) (mC (.int 2)))) mNil) : Ar Dk) [some (.dat (.adr a.p)), some (.dat (.int great)), some (.dat (.int most)), some (.dat (.bl false)), some (.dat (.int begin)), some (.own (ps.map encP)), some (.dat (.int stock)), v7, v8, v9, v10] t = .ok [encD x, .int wt] t2 := by
    simp [e1, m2, e2, dv, hwt]
  have g2 : (mOp dSub (mOp dAdd (mOp dAdd (mVar 6) (mOp dIx (mVar 8) (mC (.int 0)))) (mCallW (f__law_next a) (mCons (mVar 0) (mCons (mOp dAdd (mCall f__law_units (mCons (mOp dIx (mVar 8) (mC (.int 2))) mNil)) (mC (.int 1))) mNil)))) (mVar 9) : Ex Dk) [some (.dat (.adr a.p)), some (.dat (.int great)), some (.dat (.int most)), some (.dat (.bl false)), some (.dat (.int begin)), some (.own (ps.map encP)), some (.dat (.int stock)), v7, some (.dat (encD x)), some (.dat (.int wt)), v10] t2 = .ok (.int st') t3 := by
    simp [encD, eu, e3, hst]
  have g3 : (mCallW (f__law_around a) (mCons (mVar 0) (mCons (mVar 1) (mCons (mVar 6) (mCons (mIf (mTru (mVar 3)) (mC (.int 1)) (mCallW (f__law_next a) (mCons (mVar 0) (mCons (mC (.int 9)) mNil)))) mNil)))) : Ex Dk) [some (.dat (.adr a.p)), some (.dat (.int great)), some (.dat (.int most)), some (.dat (.bl false)), some (.dat (.int begin)), some (.own (ps.map encP)), some (.dat (.int st')), v7, some (.dat (encD x)), some (.dat (.int wt)), v10] t3 = .ok (encD z) t5 := by
    simp [tru_f, e4, e5]
  have g4 : (mTup (mCons (mVar 8) (mCons (mVar 9) (mCons (mVar 10) mNil))) : Ex Dk) [some (.dat (.adr a.p)), some (.dat (.int great)), some (.dat (.int most)), some (.dat (.bl false)), some (.dat (.int begin)), some (.own (ps.map encP)), some (.dat (.int st')), v7, some (.dat (encD x)), some (.dat (.int wt)), some (.dat (encD z))] t5 = .ok (encP (x, wt, z)) t5 := by
    simp [encP]
  unfold bkB
  rw [ev_sSeq, ev_sPar, g1, rf_ok, par2, sq_nx, ev_sSeq]
  refine (congrArg (fun r => sq r _) (ev_set g2)).trans ?_
  rw [sq_nx, ev_sSeq]
  refine (congrArg (fun r => sq r _) (ev_set g3)).trans ?_
  rw [sq_nx]
  refine (ev_app rfl g4 (by simp; omega)).trans ?_
  simp
theorem d_book (a : DkA) (t : Dk) (great : Int) (hg : 1 ≤ great ∧ great ≤ 10000000000) : Dr (f__law_book a [.adr a.p, .int great, .int 6, .bl false] t) t 400 (fun d => ∃ b, d = encB b ∧ BkOk b) := fun h hn => by
  obtain ⟨_, t1, e1, ⟨v, rfl, v1, v2⟩, o1, n1⟩ := d_next a t (2 * great + 1) (by omega) (by omega) h (by omega)
  obtain ⟨_, t2, e2, ⟨m, rfl, m1, m2⟩, o2, n2⟩ := d_next a t1 6 (by omega) (by omega) o1 (by omega)
  obtain ⟨bg, hbg⟩ : ∃ bg, bg = v - great := ⟨_, rfl⟩
  have ml : (dRange 0 (1 + m).toNat).length = (1 + m).toNat := dRange_len
  obtain ⟨Γ', t', e3, o3, n3, ps, st, w7, w8, w9, w10, rfl, s1, s2, s3, s4⟩ := forGo_go (T := Dk) (g := gN 7) (b := bkB a)
    (fun k Γ s => DkOk s ∧ s.n ≤ t2.n + 60 * (k : Int) ∧ ∃ (ps : List (Dt × Int × Dt)) (st : Int) (v7 v8 v9 v10 : Option Sl), Γ = [some (.dat (.adr a.p)), some (.dat (.int great)), some (.dat (.int 6)), some (.dat (.bl false)), some (.dat (.int bg)), some (.own (ps.map encP)), some (.dat (.int st)), v7, v8, v9, v10] ∧ ps.length = k ∧ (∀ p ∈ ps, PdOk p) ∧ -10000000000 - 70000000000 * (k : Int) ≤ st ∧ st ≤ 10000000000 + 70000000000 * (k : Int))
    (dRange 0 (1 + m).toNat) 0 [some (.dat (.adr a.p)), some (.dat (.int great)), some (.dat (.int 6)), some (.dat (.bl false)), some (.dat (.int bg)), some (.own []), some (.dat (.int bg)), none, none, none, none] t2 ⟨o2, by simp, [], bg, none, none, none, none, rfl, rfl, by simp, by omega, by omega⟩ fun k x Γ s hx ⟨so, sn, ps, st, w7, w8, w9, w10, hv, l1, l2, l3, l4⟩ => by
      obtain ⟨hk, rfl⟩ := range_get hx
      rw [Nat.zero_add] at *
      subst hv
      have hk6 : k < 6 := by omega
      obtain ⟨p, st', x8, x9, x10, t'', ee, pp, b1, b2, oo, nn⟩ := d_period a s great 6 st none bg ps (some (.dat (.int (0 + (k : Int))))) w8 w9 w10 hg (by omega) (by omega) so (by omega)
      refine ⟨_, _, t'', rfl, ee, oo, by omega, ps ++ [p], st', _, _, _, _, rfl, by simp [l1], ?_, by omega, by omega⟩
      intro q hq
      rcases List.mem_append.mp hq with hq | hq
      · exact l2 q hq
      · rw [List.mem_singleton.mp hq]; exact pp
  have s1' : ps.length = (1 + m).toNat := by rw [s1, ml]; simp
  have n3' : t'.n ≤ t2.n + 60 * (ps.length : Int) := by rw [s1]; exact n3
  refine ⟨encB ⟨bg, ps⟩, t', ?_, ⟨_, rfl, ⟨by show -1000000000000 ≤ bg; omega, by show bg ≤ 1000000000000; omega⟩, by show 1 ≤ ps.length; omega, by show ps.length ≤ 6; omega, s2⟩, o3, by omega⟩
  have mz : (1 + m).natAbs < 4611686018427387904 := by omega
  have d2' : dMul (.int 2) (.int great) = some (.int (2 * great)) := dMul_l (by decide)
  unfold f__law_book b__law_book
  rw [ev_runW]
  simp [e1, d2', ← hbg, e2, mz, e3, dTupOf, encB]
end DC
namespace DC
open PySem L2 SX
def prW : List Int := [-1000000, -1, 0, 1, 999999, 1000000]
def stW (n : Nat) : List (Int × Int) := (List.range n).map fun (k : Nat) => (100000000000 + (0 + (k : Int)), prW.getD k 0)
theorem stW_ok : ∀ n : Nat, n ≤ 6 → (stW n).length ≤ 6 ∧ (stW n).Pairwise (fun a b => a.2 < b.2) ∧ (∀ p ∈ stW n, 1 ≤ p.1 ∧ p.1 ≤ 9000000000000 ∧ -1000000 ≤ p.2 ∧ p.2 ≤ 1000000) ∧ 0 ≤ ((stW n).map Prod.fst).sum ∧ ((stW n).map Prod.fst).sum ≤ 700000000000 := by decide +kernel
theorem pr_get : ∀ n : Nat, n ≤ 6 → ∀ k : Nat, k < n → ((prW.take n).map D.int)[k]? = some (.int (prW.getD k 0)) := by
  intro n hn k hk
  have h6 : k < prW.length := by show k < 6; omega
  rw [List.getElem?_map, List.getElem?_take_of_lt hk, List.getElem?_eq_getElem h6]
  simp [List.getD, h6]
theorem neg_lit : dNeg (.int 1000000000000) = some (.int (-1000000000000)) := rfl
theorem d_wdata (a : DkA) (t : Dk) : Dr (f__law_wide_data a [.adr a.p] t) t 30 (fun d => ∃ x, d = encD x ∧ DtOk x) := fun h hn => by
  obtain ⟨_, t1, e1, ⟨q, rfl, q1, q2⟩, o1, n1⟩ := d_next a t 4 (by omega) (by omega) h (by omega)
  by_cases hq : 0 < q
  · obtain ⟨_, t2, e2, ⟨gr, rfl, g1, g2⟩, o2, n2⟩ := d_great a t1 o1 (by omega)
    obtain ⟨_, t3, e3, ⟨x, rfl, x1⟩, o3, n3⟩ := d_data a t2 gr 6 ⟨g1, g2⟩ (by omega) o2 (by omega)
    rw [show ((6 : Nat) : Int) = 6 from rfl] at e3
    refine ⟨encD x, t3, ?_, ⟨x, rfl, dt_ok x1 ⟨g1, g2⟩ (by omega)⟩, o3, by omega⟩
    unfold f__law_wide_data b__law_wide_data
    rw [ev_runW]
    simp [e1, hq, e2, e3]
  · obtain ⟨_, t2, e2, ⟨w, rfl, w1, w2⟩, o2, n2⟩ := d_next a t1 3 (by omega) (by omega) o1 (by omega)
    obtain ⟨_, t3, e3, ⟨v, rfl, v1, v2⟩, o3, n3⟩ := d_next a t2 7 (by omega) (by omega) o2 (by omega)
    obtain ⟨z, t4, e4, hz, o4, n4⟩ := d_one a t3 [.int (-1000000000000), .int 0, .int 1000000000000] (by simp) (by simp) o3 (by omega)
    obtain ⟨co, hco, c1, c2⟩ : ∃ co, z = .int co ∧ -1000000000000 ≤ co ∧ co ≤ 1000000000000 := by
      rcases List.mem_cons.mp hz with rfl | hz
      · exact ⟨_, rfl, by omega, by omega⟩
      · rcases List.mem_cons.mp hz with rfl | hz
        · exact ⟨_, rfl, by omega, by omega⟩
        · rw [List.mem_singleton.mp hz]; exact ⟨_, rfl, by omega, by omega⟩
    subst hco
    obtain ⟨n, hn, hv⟩ : ∃ n : Nat, n ≤ 6 ∧ v = (n : Int) := ⟨v.toNat, by omega, by omega⟩
    subst hv
    obtain ⟨p1, p2, p3, p4, p5⟩ := stW_ok n hn
    obtain ⟨lo, hlo⟩ : ∃ lo, lo = -1000000000000 + w := ⟨_, rfl⟩
    refine ⟨encD ⟨lo, co, stW n⟩, t4, ?_, ⟨_, rfl, ⟨⟨p2, p3⟩, p1, by show -1000000000000 ≤ lo; omega, by show lo ≤ 1000000000000; omega, c1, c2, by show lo + ((stW n).map Prod.fst).sum ≤ 1000000000000; omega⟩⟩, o4, by omega⟩
    have cl := lcut_to ([D.int (-1000000), .int (-1), .int 0, .int 1, .int 999999, .int 1000000]) n
    have et : ([D.int (-1000000), .int (-1), .int 0, .int 1, .int 999999, .int 1000000]).take n = (prW.take n).map D.int := by
      rw [List.map_take]; rfl
    rw [et] at cl
    have lt : ((prW.take n).map D.int).length = n := by
      rw [List.length_map, List.length_take, show prW.length = 6 from rfl]; omega
    have s1 : (mL (mSlL (mL (mSz (mCons (mUn dNeg (mOp dPow (mC (.int 10)) (mC (.int 6)))) (mCons (mUn dNeg (mC (.int 1))) (mCons (mC (.int 0)) (mCons (mC (.int 1)) (mCons (mC (.int 999999)) (mCons (mOp dPow (mC (.int 10)) (mC (.int 6))) mNil)))))))) mNo (mPart (mCallW (f__law_next a) (mCons (mVar 0) (mCons (mC (.int 7)) mNil))))) : Ex Dk) [some (.dat (.adr a.p)), some (.dat (.int lo)), none, none, none] t2 = .ok (.lst ((prW.take n).map D.int)) t3 := by
      refine ev_l ?_
      rw [ev_mSlL, show (mL (mSz (mCons (mUn dNeg (mOp dPow (mC (.int 10)) (mC (.int 6)))) (mCons (mUn dNeg (mC (.int 1))) (mCons (mC (.int 0)) (mCons (mC (.int 1)) (mCons (mC (.int 999999)) (mCons (mOp dPow (mC (.int 10)) (mC (.int 6))) mNil))))))) : Ex Dk) [some (.dat (.adr a.p)), some (.dat (.int lo)), none, none, none] t2 = .ok (.lst [D.int (-1000000), .int (-1), .int 0, .int 1, .int 999999, .int 1000000]) t2 from rfl, rb_ok, ev_mNo, rb_ok, ev_mPart, ev_mCallW, ev_mCons, ev_var rfl, rb_ok, ev_mCons, ev_mC, rb_ok, ev_mNil, rb_ok, rb_ok, rb_ok, e3, rb_ok]
      dsimp only
      rw [rb_ok]
      rw [if_pos (by simp), cl]
    have s2 : (mBlt (d1 dTupOf) (mCons (mL (mLc [4] (mRange1 (mCons (mBlt (d1 dLen) (mCons (mVar 2) mNil)) mNil)) (gN 4) mYes (mTup (mCons (mOp dAdd (mOp dPow (mC (.int 10)) (mC (.int 11))) (mVar 4)) (mCons (mOp dIx (mVar 2) (mVar 4)) mNil))))) mNil) : Ex Dk) [some (.dat (.adr a.p)), some (.dat (.int lo)), some (.dat (.lst ((prW.take n).map D.int))), none, none] t3 = .ok (.tup ((stW n).map encS)) t3 := by
      have e := lcGo_map (T := Dk) (tgt := gN 4) (cond := mYes) (elt := (mTup (mCons (mOp dAdd (mOp dPow (mC (.int 10)) (mC (.int 11))) (mVar 4)) (mCons (mOp dIx (mVar 2) (mVar 4)) mNil)))) (Γw := [some (.dat (.adr a.p)), some (.dat (.int lo)), some (.dat (.lst ((prW.take n).map D.int))), none, none]) (enc := fun k : Nat => D.int (0 + (k : Int))) (g := fun k => encS (100000000000 + (0 + (k : Int)), prW.getD k 0)) (t := t3) (List.range n) [] (by simp; omega) fun k hk => ⟨[some (.dat (.adr a.p)), some (.dat (.int lo)), some (.dat (.lst ((prW.take n).map D.int))), none, some (.dat (.int (0 + (k : Int))))], rfl, rfl, by
        have hk' : k < n := List.mem_range.mp hk
        have ha : L2.atI ((prW.take n).map D.int) (0 + (k : Int)) = some (.int (prW.getD k 0)) := by
          rw [Int.zero_add, atI_nat]; exact pr_get n hn k hk'
        rw [ev_mTup, ev_mCons, ev_mOp, show (mOp dPow (mC (.int 10)) (mC (.int 11)) : Ex Dk) [some (.dat (.adr a.p)), some (.dat (.int lo)), some (.dat (.lst ((prW.take n).map D.int))), none, some (.dat (.int (0 + (k : Int))))] t3 = .ok (.int 100000000000) t3 from rfl, rb_ok, ev_var rfl, rb_ok, dAdd_int, ofO_some, rb_ok, ev_mCons, ev_mOp, ev_var rfl, rb_ok, ev_var rfl, rb_ok, dIx_lst, ha, ofO_some, rb_ok, ev_mNil, rb_ok, rb_ok, rb_ok]
        rfl⟩
      rw [List.nil_append] at e
      have er : (mRange1 (mCons (mBlt (d1 dLen) (mCons (mVar 2) mNil)) mNil) : Ar Dk) [some (.dat (.adr a.p)), some (.dat (.int lo)), some (.dat (.lst ((prW.take n).map D.int))), none, none] t3 = .ok ((List.range n).map fun k : Nat => D.int (0 + (k : Int))) t3 := by
        have nz : n < 4611686018427387904 := by omega
        rw [ev_mRange1, ev_mCons, ev_mBlt, ev_mCons, ev_var rfl, rb_ok, ev_mNil, rb_ok, rb_ok, show d1 dLen [.lst ((prW.take n).map D.int)] = some (.int ((prW.take n).map D.int).length) from rfl, lt, ofO_some, rb_ok, ev_mNil, rb_ok, rb_ok]
        dsimp only
        rw [if_pos (by omega)]
        rfl
      rw [ev_mBlt, ev_mCons, ev_l (ev_lc er e), rb_ok, ev_mNil, rb_ok, rb_ok]
      show ofO (some (D.tup _)) t3 = _
      rw [ofO_some]
      unfold stW
      rw [List.map_map]
      rfl
    have s3 : (mOp dAdd (mUn dNeg (mOp dPow (mC (.int 10)) (mC (.int 12)))) (mCallW (f__law_next a) (mCons (mVar 0) (mCons (mC (.int 3)) mNil))) : Ex Dk) [some (.dat (.adr a.p)), none, none, none, none] t1 = .ok (.int lo) t2 := by
      simp [pw10_12, e2, hlo]
    have s4 : (mTup (mCons (mVar 1) (mCons (mCallW (f__law_one a) (mCons (mVar 0) (mCons (mL (mSz (mCons (mUn dNeg (mOp dPow (mC (.int 10)) (mC (.int 12)))) (mCons (mC (.int 0)) (mCons (mOp dPow (mC (.int 10)) (mC (.int 12))) mNil))))) mNil))) (mCons (mVar 3) mNil))) : Ex Dk) [some (.dat (.adr a.p)), some (.dat (.int lo)), some (.dat (.lst ((prW.take n).map D.int))), some (.dat (.tup ((stW n).map encS))), none] t3 = .ok (encD ⟨lo, co, stW n⟩) t4 := by
      simp [pw10_12, e4, encD]
    have s0 : (sIf (mTest (mOp dGt (mCallW (f__law_next a) (mCons (mVar 0) (mCons (mC (.int 4)) mNil))) (mC (.int 0)))) (sRet (mCallW (f__law_data a) (mCons (mVar 0) (mCons (mCallW (f__law_great a) (mCons (mVar 0) mNil)) (mCons (mC (.int 6)) mNil))))) sNil : Bl Dk) [some (.dat (.adr a.p)), none, none, none, none] t = .nx [some (.dat (.adr a.p)), none, none, none, none] t1 := by
      simp [e1, hq]
    unfold f__law_wide_data b__law_wide_data
    rw [ev_runW, show slots0 5 [D.adr a.p] = [some (.dat (.adr a.p)), none, none, none, none] from rfl, ev_sSeq, s0, sq_nx, ev_sSeq, ev_set s3, sq_nx, ev_sSeq]
    refine (congrArg (fun r => fin (sq r _)) (ev_set s1)).trans ?_
    rw [sq_nx, ev_sSeq]
    refine (congrArg (fun r => fin (sq r _)) (ev_set s2)).trans ?_
    rw [sq_nx, ev_sRet]
    refine (congrArg (fun r => fin (Rs.fl r _ _)) s4).trans ?_
    rfl
end DC
namespace DC
open PySem L2 SX
theorem d_three (a : DkA) (t : Dk) (x y z : Int) (hx : Big x) (hy : Big y) (hz : Big z) : Dr (f__law_one a [.adr a.p, .lst [.int x, .int y, .int z]] t) t 1 (fun d => ∃ v, d = .int v ∧ Big v) := fun h hn => by
  obtain ⟨w, t', e, m, o, n⟩ := d_one a t [.int x, .int y, .int z] (by simp) (by simp) h hn
  refine ⟨w, t', e, ?_, o, n⟩
  rcases List.mem_cons.mp m with rfl | m
  · exact ⟨_, rfl, hx⟩
  · rcases List.mem_cons.mp m with rfl | m
    · exact ⟨_, rfl, hy⟩
    · rw [List.mem_singleton.mp m]; exact ⟨_, rfl, hz⟩
abbrev wbB (a : DkA) : Bl Dk := (sSeq (sSet 3 (mCallW (f__law_one a) (mCons (mVar 0) (mCons (mL (mSz (mCons (mOp dPow (mC (.int 10)) (mC (.int 12))) (mCons (mUn dNeg (mOp dPow (mC (.int 10)) (mC (.int 12)))) (mCons (mC (.int 0)) mNil))))) mNil))))
  (sApp 1 (mTup (mCons (mCallW (f__law_wide_data a) (mCons (mVar 0) mNil)) (mCons (mVar 3) (mCons (mCallW (f__law_wide_data a) (mCons (mVar 0) mNil)) mNil))))))
theorem big1 : Big 1000000000000 := ⟨by decide, by decide⟩
theorem big2 : Big (-1000000000000) := ⟨by decide, by decide⟩
theorem big3 : Big 0 := ⟨by decide, by decide⟩
theorem big4 : Big (-1) := ⟨by decide, by decide⟩
theorem d_wbook (a : DkA) (t : Dk) : Dr (f__law_wide_book a [.adr a.p] t) t 500 (fun d => ∃ b, d = encB b ∧ BkOk b) := fun h hn => by
  obtain ⟨_, t1, e1, ⟨q, rfl, q1, q2⟩, o1, n1⟩ := d_next a t 3 (by omega) (by omega) h (by omega)
  by_cases hq : 0 < q
  · obtain ⟨_, t2, e2, ⟨gr, rfl, g1, g2⟩, o2, n2⟩ := d_great a t1 o1 (by omega)
    obtain ⟨x, t3, e3, x1, o3, n3⟩ := d_book a t2 gr ⟨g1, g2⟩ o2 (by omega)
    refine ⟨x, t3, ?_, x1, o3, by omega⟩
    unfold f__law_wide_book b__law_wide_book
    rw [ev_runW]
    simp [e1, hq, e2, e3]
  · obtain ⟨_, t2, e2, ⟨m, rfl, m1, m2⟩, o2, n2⟩ := d_next a t1 6 (by omega) (by omega) o1 (by omega)
    obtain ⟨Γ', t', e3, o3, n3, ps, w2, w3, rfl, s1, s2⟩ := forGo_go (T := Dk) (g := gN 2) (b := wbB a)
      (fun k Γ s => DkOk s ∧ s.n ≤ t2.n + 61 * (k : Int) ∧ ∃ (ps : List (Dt × Int × Dt)) (v2 v3 : Option Sl), Γ = [some (.dat (.adr a.p)), some (.own (ps.map encP)), v2, v3] ∧ ps.length = k ∧ (∀ p ∈ ps, PdOk p))
      (dRange 0 (1 + m).toNat) 0 [some (.dat (.adr a.p)), some (.own []), none, none] t2 ⟨o2, by simp, [], none, none, rfl, rfl, by simp⟩ fun k x Γ s hx ⟨so, sn, ps, w2, w3, hv, l1, l2⟩ => by
        obtain ⟨hk, rfl⟩ := range_get hx
        rw [Nat.zero_add] at *
        subst hv
        have hk6 : k < 6 := by omega
        obtain ⟨_, u1, f1, ⟨wt, rfl, wb⟩, p1, r1⟩ := d_three a s 1000000000000 (-1000000000000) 0 big1 big2 big3 so (by omega)
        obtain ⟨_, u2, f2, ⟨x, rfl, xo⟩, p2, r2⟩ := d_wdata a u1 p1 (by omega)
        obtain ⟨_, u3, f3, ⟨z, rfl, zo⟩, p3, r3⟩ := d_wdata a u2 p2 (by omega)
        refine ⟨[some (.dat (.adr a.p)), some (.own (ps.map encP)), some (.dat (.int (0 + (k : Int)))), w3], [some (.dat (.adr a.p)), some (.own ((ps ++ [(x, wt, z)]).map encP)), some (.dat (.int (0 + (k : Int)))), some (.dat (.int wt))], u3, rfl, ?_, p3, by omega, ps ++ [(x, wt, z)], _, _, rfl, by simp [l1], ?_⟩
        · have g1 : (mCallW (f__law_one a) (mCons (mVar 0) (mCons (mL (mSz (mCons (mOp dPow (mC (.int 10)) (mC (.int 12))) (mCons (mUn dNeg (mOp dPow (mC (.int 10)) (mC (.int 12)))) (mCons (mC (.int 0)) mNil))))) mNil)) : Ex Dk) [some (.dat (.adr a.p)), some (.own (ps.map encP)), some (.dat (.int (0 + (k : Int)))), w3] s = .ok (.int wt) u1 := by
            simp [pw10_12, f1]
          have g2 : (mTup (mCons (mCallW (f__law_wide_data a) (mCons (mVar 0) mNil)) (mCons (mVar 3) (mCons (mCallW (f__law_wide_data a) (mCons (mVar 0) mNil)) mNil))) : Ex Dk) [some (.dat (.adr a.p)), some (.own (ps.map encP)), some (.dat (.int (0 + (k : Int)))), some (.dat (.int wt))] u1 = .ok (encP (x, wt, z)) u3 := by
            simp [f2, f3, encP]
          unfold wbB
          rw [ev_sSeq]
          refine (congrArg (fun r => sq r _) (ev_set g1)).trans ?_
          rw [sq_nx]
          refine (ev_app rfl g2 (by simp; omega)).trans ?_
          simp
        · intro p hp
          rcases List.mem_append.mp hp with hp | hp
          · exact l2 p hp
          · rw [List.mem_singleton.mp hp]; exact ⟨xo, wb, zo⟩
    have ml : (dRange 0 (1 + m).toNat).length = (1 + m).toNat := dRange_len
    have s1' : ps.length = (1 + m).toNat := by rw [s1, ml]; simp
    have n3' : t'.n ≤ t2.n + 61 * (ps.length : Int) := by rw [s1]; exact n3
    obtain ⟨_, t4, e4, ⟨bg, rfl, bb⟩, o4, n4⟩ := d_three a t' 1000000000000 (-1000000000000) (-1) big1 big2 big4 o3 (by omega)
    refine ⟨encB ⟨bg, ps⟩, t4, ?_, ⟨_, rfl, bb, by show 1 ≤ ps.length; omega, by show ps.length ≤ 6; omega, s2⟩, o4, by omega⟩
    have mz : (1 + m).natAbs < 4611686018427387904 := by omega
    unfold f__law_wide_book b__law_wide_book
    rw [ev_runW]
    simp [e1, hq, e2, mz, e3, pw10_12, e4, dTupOf, encB]
/-! ### the whole law -/
def Bk0 : Bk := ⟨0, [(⟨0, 0, []⟩, 0, ⟨0, 0, []⟩)]⟩
def Bk1 : Bk := ⟨-1000000000000, List.replicate 6 (⟨1000000000000, -1000000000000, []⟩, 1000000000000, ⟨0, 0, []⟩)⟩
theorem st_nil : StOk [] := ⟨List.Pairwise.nil, by simp⟩
theorem bk0_ok : BkOk Bk0 := by
  refine ⟨⟨by decide, by decide⟩, by decide, by decide, fun p hp => ?_⟩
  rw [List.mem_singleton.mp hp]
  exact ⟨⟨st_nil, by decide, by decide, by decide, by decide, by decide, by decide⟩, ⟨by decide, by decide⟩, ⟨st_nil, by decide, by decide, by decide, by decide, by decide, by decide⟩⟩
theorem bk1_ok : BkOk Bk1 := by
  refine ⟨⟨by decide, by decide⟩, by decide, by decide, fun p hp => ?_⟩
  rw [(List.mem_replicate.mp hp).2]
  exact ⟨⟨st_nil, by decide, by decide, by decide, by decide, by decide, by decide⟩, ⟨by decide, by decide⟩, ⟨st_nil, by decide, by decide, by decide, by decide, by decide, by decide⟩⟩
end DC
namespace DC
open PySem L2 SX
/-! ### its repr is some text -/
theorem shown_i {i : Int} (h : Big i) : (PyData.int i).shown.length ≤ 14 ∧ (PyData.int i).showable = true := by
  have h1 := h.1
  have h2 := h.2
  have l := zlog (i := i) (by omega) (by omega)
  refine ⟨?_, by simp [PyData.showable, l]⟩
  rw [PyData.shown_int, zstr, S_len]
  exact zlen (by omega) (by omega)
theorem piled_le {B : Nat} : ∀ ts : List Str, (∀ y ∈ ts, y.length ≤ B) → piled ts ≤ ts.length * (B + 2)
  | [], _ => by simp [piled_nil]
  | y :: ts, h => by
    have h1 := piled_le ts fun z hz => h z (List.mem_cons_of_mem _ hz)
    have h2 := h y (by simp)
    rw [piled_cons, List.length_cons, Nat.add_mul]
    omega
theorem pys_map : ∀ ds : List D, pys ds = ds.map D.py
  | [] => rfl
  | d :: ds => by unfold pys; rw [pys_map ds]; rfl
theorem shownAll_map : ∀ xs : List PyData, PyData.shownAll xs = xs.map PyData.shown
  | [] => PyData.shownAll_nil
  | x :: xs => by rw [PyData.shownAll_cons, shownAll_map xs]; rfl
theorem sa_map : ∀ {ds : List D}, (∀ d ∈ ds, d.py.showable = true) → PyData.showableAll (ds.map D.py) = true
  | [], _ => by simp [PyData.showableAll]
  | d :: ds, h => by
    rw [List.map_cons]
    unfold PyData.showableAll
    rw [h d (by simp), sa_map fun x hx => h x (List.mem_cons_of_mem _ hx)]; rfl
/-- d's repr is no longer than B -/
def Rp (B : Nat) (d : D) : Prop := d.py.shown.length ≤ B ∧ d.py.showable = true
theorem rp_tup {B : Nat} {ds : List D} (h : ∀ d ∈ ds, Rp B d) : Rp (ds.length * (B + 2) + 3) (.tup ds) := by
  have e : (D.tup ds).py = .tuple (ds.map D.py) := by unfold D.py; rw [pys_map]
  refine ⟨?_, ?_⟩
  · rw [e, PyData.shown_tuple, shownAll_map, List.map_map]
    have hb : ∀ y ∈ ds.map (PyData.shown ∘ D.py), y.length ≤ B := by
      intro y hy
      obtain ⟨d, hd, rfl⟩ := List.mem_map.mp hy
      exact (h d hd).1
    have hp := piled_le _ hb
    rw [List.length_map] at hp
    have hj : (Str.join ", " (ds.map (PyData.shown ∘ D.py))).length ≤ piled (ds.map (PyData.shown ∘ D.py)) := by
      by_cases z : ds.map (PyData.shown ∘ D.py) = []
      · rw [z]; exact Nat.zero_le _
      · have := join_length_add _ z
        omega
    have e3 : (((if (ds.map D.py).length == 1 then ",)" else ")" : String) : Str)).length ≤ 2 := by split <;> decide +kernel
    have e1 : ((("(" : String) : Str)).length = 1 := rfl
    rw [strLen_append, strLen_append, e1]
    omega
  · rw [e]
    unfold PyData.showable
    exact sa_map fun d hd => (h d hd).2
theorem Rp.mono {A B : Nat} {d : D} (h : Rp A d) (hl : A ≤ B) : Rp B d := ⟨Nat.le_trans h.1 hl, h.2⟩
theorem rp_int {i : Int} (h : -10000000000000 < i) (h2 : i < 10000000000000) : Rp 14 (.int i) := by
  have l := zlog h h2
  refine ⟨?_, by simp [D.py, PyData.showable, l]⟩
  unfold D.py
  rw [PyData.shown_int, zstr, S_len]
  exact zlen h h2
theorem rp_S {p : Int × Int} (h : 1 ≤ p.1 ∧ p.1 ≤ 9000000000000 ∧ -1000000 ≤ p.2 ∧ p.2 ≤ 1000000) : Rp 35 (encS p) := by
  refine rp_tup (B := 14) (ds := [.int p.1, .int p.2]) fun d hd => ?_
  rcases List.mem_cons.mp hd with rfl | hd
  · exact rp_int (by omega) (by omega)
  · rw [List.mem_singleton.mp hd]; exact rp_int (by omega) (by omega)
theorem rp_D {x : Dt} (h : DtOk x) : Rp 1000 (encD x) := by
  obtain ⟨h1, h2, h3, h4, h5, h6, h7⟩ := h
  have hs : Rp 225 (.tup (x.st.map encS)) := by
    refine (rp_tup (B := 35) fun d hd => ?_).mono ?_
    · obtain ⟨p, hp, rfl⟩ := List.mem_map.mp hd
      exact rp_S (h1.2 p hp)
    · rw [List.length_map]
      have : x.st.length * (35 + 2) ≤ 6 * (35 + 2) := Nat.mul_le_mul_right _ h2
      omega
  refine (rp_tup (B := 225) (ds := [.int x.low, .int x.cost, .tup (x.st.map encS)]) fun d hd => ?_).mono (by simp)
  rcases List.mem_cons.mp hd with rfl | hd
  · exact (rp_int (by omega) (by omega)).mono (by omega)
  · rcases List.mem_cons.mp hd with rfl | hd
    · exact (rp_int (by omega) (by omega)).mono (by omega)
    · rw [List.mem_singleton.mp hd]; exact hs
theorem rp_P {p : Dt × Int × Dt} (h : PdOk p) : Rp 4000 (encP p) := by
  obtain ⟨g1, g2, g3⟩ := h
  refine (rp_tup (B := 1000) (ds := [encD p.1, .int p.2.1, encD p.2.2]) fun d hd => ?_).mono (by simp)
  rcases List.mem_cons.mp hd with rfl | hd
  · exact rp_D g1
  · rcases List.mem_cons.mp hd with rfl | hd
    · exact (rp_int (by have := g2.1; omega) (by have := g2.2; omega)).mono (by omega)
    · rw [List.mem_singleton.mp hd]; exact rp_D g3
theorem rp_B {b : Bk} (h : BkOk b) : Rp 100000 (encB b) := by
  obtain ⟨h1, h2, h3, h4⟩ := h
  have hs : Rp 30000 (.tup (b.ps.map encP)) := by
    refine (rp_tup (B := 4000) fun d hd => ?_).mono ?_
    · obtain ⟨p, hp, rfl⟩ := List.mem_map.mp hd
      exact rp_P (h4 p hp)
    · rw [List.length_map]
      have : b.ps.length * (4000 + 2) ≤ 6 * (4000 + 2) := Nat.mul_le_mul_right _ h3
      omega
  refine (rp_tup (B := 30000) (ds := [.int b.begin, .tup (b.ps.map encP)]) fun d hd => ?_).mono (by simp)
  rcases List.mem_cons.mp hd with rfl | hd
  · exact (rp_int (by have := h1.1; omega) (by have := h1.2; omega)).mono (by omega)
  · rw [List.mem_singleton.mp hd]; exact hs
/-! ### shallow, short -/
theorem fit_int (n : Nat) (i : Int) : D.fit n (.int i) := by cases n <;> exact trivial
theorem fit_str (n : Nat) (z : Str) : D.fit n (.str z) := by cases n <;> exact trivial
theorem fit_tup {n : Nat} {ds : List D} (h1 : ds.length ≤ 1000000) (h : ∀ d ∈ ds, D.fit n d) : D.fit (n + 1) (.tup ds) := ⟨h1, h⟩
theorem fit_lst {n : Nat} {ds : List D} (h1 : ds.length ≤ 1000000) (h : ∀ d ∈ ds, D.fit n d) : D.fit (n + 1) (.lst ds) := ⟨h1, h⟩
theorem fit_S (n : Nat) (p : Int × Int) : D.fit (n + 1) (encS p) := fit_tup (by simp) fun d hd => by
  rcases List.mem_cons.mp hd with rfl | hd
  · exact fit_int _ _
  · rw [List.mem_singleton.mp hd]; exact fit_int _ _
theorem fit_D (n : Nat) {x : Dt} (h : DtOk x) : D.fit (n + 3) (encD x) := fit_tup (by simp) fun d hd => by
  rcases List.mem_cons.mp hd with rfl | hd
  · exact fit_int _ _
  · rcases List.mem_cons.mp hd with rfl | hd
    · exact fit_int _ _
    · rw [List.mem_singleton.mp hd]
      refine fit_tup (by rw [List.length_map]; have := h.2.1; omega) fun d hd => ?_
      obtain ⟨p, hp, rfl⟩ := List.mem_map.mp hd
      exact fit_S n p
theorem fit_P (n : Nat) {p : Dt × Int × Dt} (h : PdOk p) : D.fit (n + 4) (encP p) := fit_tup (by simp) fun d hd => by
  rcases List.mem_cons.mp hd with rfl | hd
  · exact fit_D n h.1
  · rcases List.mem_cons.mp hd with rfl | hd
    · exact fit_int _ _
    · rw [List.mem_singleton.mp hd]; exact fit_D n h.2.2
theorem fit_B (n : Nat) {b : Bk} (h : BkOk b) : D.fit (n + 6) (encB b) := fit_tup (by simp) fun d hd => by
  rcases List.mem_cons.mp hd with rfl | hd
  · exact fit_int _ _
  · rw [List.mem_singleton.mp hd]
    refine fit_tup (by rw [List.length_map]; have := h.2.2.1; omega) fun d hd => ?_
    obtain ⟨p, hp, rfl⟩ := List.mem_map.mp hd
    exact fit_P n (h.2.2.2 p hp)
theorem shs_all {n : Nat} : ∀ {ds : List D}, (∀ d ∈ ds, d.sh n = true) → shs ds n = true
  | [], _ => rfl
  | d :: ds, h => by
    unfold shs
    rw [h d (by simp), shs_all fun x hx => h x (List.mem_cons_of_mem _ hx)]; rfl
theorem sh_tup {n : Nat} {ds : List D} (h : ∀ d ∈ ds, d.sh n = true) : (D.tup ds).sh (n + 1) = true := by
  unfold D.sh
  exact shs_all h
theorem sh_int (n : Nat) (i : Int) : (D.int i).sh n = true := by unfold D.sh; rfl
theorem sh_D (n : Nat) (x : Dt) : (encD x).sh (n + 3) = true := sh_tup fun d hd => by
  rcases List.mem_cons.mp hd with rfl | hd
  · exact sh_int _ _
  · rcases List.mem_cons.mp hd with rfl | hd
    · exact sh_int _ _
    · rw [List.mem_singleton.mp hd]
      refine sh_tup fun d hd => ?_
      obtain ⟨p, hp, rfl⟩ := List.mem_map.mp hd
      exact sh_encS p n
theorem sh_P (n : Nat) (p : Dt × Int × Dt) : (encP p).sh (n + 4) = true := sh_tup fun d hd => by
  rcases List.mem_cons.mp hd with rfl | hd
  · exact sh_D n _
  · rcases List.mem_cons.mp hd with rfl | hd
    · exact sh_int _ _
    · rw [List.mem_singleton.mp hd]; exact sh_D n _
theorem sh_B (n : Nat) (b : Bk) : (encB b).sh (n + 6) = true := sh_tup fun d hd => by
  rcases List.mem_cons.mp hd with rfl | hd
  · exact sh_int _ _
  · rw [List.mem_singleton.mp hd]
    refine sh_tup fun d hd => ?_
    obtain ⟨p, hp, rfl⟩ := List.mem_map.mp hd
    exact sh_P n p
theorem rp_some {b : Bk} (h : BkOk b) : dRepr (encB b) = some (.str (encB b).py.shown) := by
  have r := rp_B h
  have h3 : (encB b).py.shown.length ≤ 16777216 := Nat.le_trans r.1 (by decide)
  show (if (encB b).sh 60 = true ∧ (encB b).py.showable = true ∧ (encB b).py.shown.length ≤ 16777216 then some (D.str (encB b).py.shown) else none) = _
  rw [if_pos ⟨sh_B 54 b, r.2, h3⟩]
theorem pair_same {b : Bk} (h : BkOk b) (z : Str) : f__law_same 12 [.lst [.str z, encB b], .lst [.str z, encB b]] = .ok (.bl true) () := by
  refine e_same 11 _ (fit_lst (by simp) fun d hd => ?_)
  rcases List.mem_cons.mp hd with rfl | hd
  · exact fit_str _ _
  · rw [List.mem_singleton.mp hd]; exact fit_B 4 h
end DC
namespace DC
open PySem L2 SX
/-- a comprehension that draws -/
theorem lcGo_dr {T : Type} {tgt : Tg} {cond : Te T} {elt : Ex T} {Γw : Gm} (I : Nat → T → Prop) (P : D → Prop) : ∀ (ds : List D) (k : Nat) (acc : List D) (t : T), I k t → acc.length + ds.length ≤ 16777216 →
    (∀ i x t, ds[i]? = some x → I (k + i) t → ∃ Γ2 d t', tgt x Γw = some Γ2 ∧ cond Γ2 t = .ok true t ∧ elt Γ2 t = .ok d t' ∧ P d ∧ I (k + i + 1) t') →
    ∃ xs t', lcGo tgt cond elt Γw ds acc t = .ok (acc ++ xs) t' ∧ (∀ d ∈ xs, P d) ∧ xs.length = ds.length ∧ I (k + ds.length) t'
  | [], k, acc, t, h, _, _ => ⟨[], t, by simp [lcGo], by simp, rfl, h⟩
  | x :: ds, k, acc, t, h, hl, st => by
    obtain ⟨Γ2, d, t1, h1, h2, h3, h4, h5⟩ := st 0 x t rfl h
    have hl' : acc.length + (ds.length + 1) ≤ 16777216 := hl
    obtain ⟨xs, t', e, p, l, i⟩ := lcGo_dr I P ds (k + 1) (acc ++ [d]) t1 h5 (by simp; omega) fun i x t hx hI => by
      have := st (i + 1) x t hx (by rw [show k + (i + 1) = k + 1 + i by omega]; exact hI)
      rw [show k + (i + 1) + 1 = k + 1 + i + 1 by omega] at this
      exact this
    refine ⟨d :: xs, t', ?_, ?_, by simp [l], by rw [show k + (x :: ds).length = k + 1 + ds.length by simp; omega]; exact i⟩
    · rw [lcGo, h1]
      simp only [h2, h3]
      rw [if_pos (by omega), e]
      simp
    · intro y hy
      rcases List.mem_cons.mp hy with rfl | hy
      · exact h4
      · exact p y hy
abbrev lwB : Bl Dk := (sSeq (sPar [5, 6] (mCons (mBlt (d1 dRepr) (mCons (mVar 4) mNil)) (mCons (mCall f__law_book_text (mCons (mVar 4) mNil)) mNil)))
  (sSeq (sIf (mOr (mNot (mTru (mCall (f__law_same 12) (mCons (mL (mSz (mCons (mCall f_book_text (mCons (mVar 4) mNil)) (mCons (mCall f_parse_book (mCons (mVar 6) mNil)) mNil)))) (mCons (mL (mSz (mCons (mVar 6) (mCons (mVar 4) mNil)))) mNil))))) (mTest (mOp dNe (mBlt (d1 dRepr) (mCons (mVar 4) mNil)) (mVar 5)))) (sRet (mC (.bl false))) sNil)
  (sIf (mNot (mTru (mCall (f__law_same 12) (mCons (mL (mSz (mCons (mCall f_book_text (mCons (mVar 4) mNil)) (mCons (mCall f_parse_book (mCons (mCall f_book_text (mCons (mVar 4) mNil)) mNil)) mNil)))) (mCons (mL (mSz (mCons (mVar 6) (mCons (mVar 4) mNil)))) mNil))))) (sRet (mC (.bl false))) sNil)))
theorem law_turn {b : Bk} (h : BkOk b) (Γ : Gm) (t : Dk) (v0 v1 v2 v3 v5 v6 v7 : Option Sl) :
    lwB [v0, v1, v2, v3, some (.dat (encB b)), v5, v6, v7] t = .nx [v0, v1, v2, v3, some (.dat (encB b)), some (.dat (.str (encB b).py.shown)), some (.dat (.str (S (bkTx b)))), v7] t := by
  have r := rp_some h
  have e1 := e_lbtext b h
  have e2 := e_btext b h
  have e3 := e_parse b h
  have e4 := pair_same h (S (bkTx b))
  have g1 : (mCons (mBlt (d1 dRepr) (mCons (mVar 4) mNil)) (mCons (mCall f__law_book_text (mCons (mVar 4) mNil)) mNil) : Ar Dk) [v0, v1, v2, v3, some (.dat (encB b)), v5, v6, v7] t = .ok [.str (encB b).py.shown, .str (S (bkTx b))] t := by
    simp [r, e1]
  unfold lwB
  rw [ev_sSeq, ev_sPar, g1, rf_ok, par2, sq_nx]
  have tt : ∀ t : Dk, tru (.bl true) t = .ok true t := fun _ => rfl
  have eq : ((encB b).py.shown == (encB b).py.shown) = true := by simp
  simp [e2, e3, e4, r, tt]
theorem law_end (a : DkA) (t : Dk) (ho : DkOk t) (hn : t.n = 0) : ∃ t', b_law a [none, some (.dat (.adr a.p)), none, none, none, none, none, none] t = .rt (.bl true) t' := by
  let G (v2 v3 v4 v5 v6 : Option Sl) : Gm := [none, some (.dat (.adr a.p)), v2, v3, v4, v5, v6, none]
  let far : D := .tup [.tup [.int 1000000000000, .int (-1000000000000), .tup []], .int 1000000000000, .tup [.int 0, .int 0, .tup []]]
  have s1 : (mTup (mCons (mTup (mCons (mOp dPow (mC (.int 10)) (mC (.int 12))) (mCons (mUn dNeg (mOp dPow (mC (.int 10)) (mC (.int 12)))) (mCons (mTup mNil) mNil)))) (mCons (mOp dPow (mC (.int 10)) (mC (.int 12))) (mCons (mTup (mCons (mC (.int 0)) (mCons (mC (.int 0)) (mCons (mTup mNil) mNil)))) mNil))) : Ex Dk) (G none none none none none) t = .ok far t := rfl
  have s2 : (mL (mSz (mCons (mTup (mCons (mC (.int 0)) (mCons (mTup (mCons (mTup (mCons (mTup (mCons (mC (.int 0)) (mCons (mC (.int 0)) (mCons (mTup mNil) mNil)))) (mCons (mC (.int 0)) (mCons (mTup (mCons (mC (.int 0)) (mCons (mC (.int 0)) (mCons (mTup mNil) mNil)))) mNil)))) mNil)) mNil))) (mCons (mTup (mCons (mUn dNeg (mOp dPow (mC (.int 10)) (mC (.int 12)))) (mCons (mOp dMul (mTup (mCons (mVar 2) mNil)) (mC (.int 6))) mNil))) mNil))) : Ex Dk) (G (some (.dat far)) none none none none) t = .ok (.lst [encB Bk0, encB Bk1]) t := rfl
  obtain ⟨xs, t1, e1, p1, l1, o1⟩ := lcGo_dr (T := Dk) (tgt := gN 7) (cond := mYes) (elt := mCallW (f__law_wide_book a) (mCons (mVar 1) mNil)) (Γw := G (some (.dat far)) (some (.dat (.lst [encB Bk0, encB Bk1]))) none none none) (fun k s => DkOk s ∧ s.n ≤ 500 * (k : Int)) (fun d => ∃ b, d = encB b ∧ BkOk b) (dRange 0 9) 0 [] t ⟨ho, by omega⟩ (by simp [dRange]) fun k x s hx ⟨so, sn⟩ => by
    obtain ⟨hk, rfl⟩ := range_get hx
    rw [Nat.zero_add] at *
    obtain ⟨d, s', e, hd, so', sn'⟩ := d_wbook a s so (by omega)
    exact ⟨[none, some (.dat (.adr a.p)), some (.dat far), some (.dat (.lst [encB Bk0, encB Bk1])), none, none, none, some (.dat (.int (0 + (k : Int))))], d, s', rfl, rfl, by simp [e], hd, so', by omega⟩
  rw [List.nil_append] at e1
  have lx : xs.length = 9 := by rw [l1]; rfl
  have s3 : (mItems (mL (mCat (mVar 3) (mL (mLc [7] (mRange1 (mCons (mC (.int 9)) mNil)) (gN 7) mYes (mCallW (f__law_wide_book a) (mCons (mVar 1) mNil)))))) : Ar Dk) (G (some (.dat far)) (some (.dat (.lst [encB Bk0, encB Bk1]))) none none none) t = .ok (encB Bk0 :: encB Bk1 :: xs) t1 := by
    have er : (mRange1 (mCons (mC (.int 9)) mNil) : Ar Dk) (G (some (.dat far)) (some (.dat (.lst [encB Bk0, encB Bk1]))) none none none) t = .ok (dRange 0 9) t := rfl
    exact ev_items (ev_l (ev_cat (ev_var rfl) (ev_l (ev_lc er e1)) (by simp [lx])))
  obtain ⟨Γ', t', e2, v4, v5, v6, e3⟩ := forGo_go (T := Dk) (g := gN 4) (b := lwB) (fun _ Γ _ => ∃ v4 v5 v6, Γ = G (some (.dat far)) (some (.dat (.lst [encB Bk0, encB Bk1]))) v4 v5 v6) (encB Bk0 :: encB Bk1 :: xs) 0 (G (some (.dat far)) (some (.dat (.lst [encB Bk0, encB Bk1]))) none none none) t1 ⟨_, _, _, rfl⟩ fun k x Γ s hx ⟨v4, v5, v6, hv⟩ => by
    subst hv
    have hm := mem_of_get hx
    obtain ⟨b, rfl, hb⟩ : ∃ b, x = encB b ∧ BkOk b := by
      rcases List.mem_cons.mp hm with rfl | hm
      · exact ⟨_, rfl, bk0_ok⟩
      · rcases List.mem_cons.mp hm with rfl | hm
        · exact ⟨_, rfl, bk1_ok⟩
        · exact p1 x hm
    exact ⟨G (some (.dat far)) (some (.dat (.lst [encB Bk0, encB Bk1]))) (some (.dat (encB b))) v5 v6, _, s, rfl, law_turn hb [] s none (some (.dat (.adr a.p))) (some (.dat far)) (some (.dat (.lst [encB Bk0, encB Bk1]))) v5 v6 none, _, _, _, rfl⟩
  refine ⟨t', ?_⟩
  unfold b_law
  rw [ev_sSeq]
  refine (congrArg (fun r => sq r _) (ev_set s1)).trans ?_
  rw [sq_nx, ev_sSeq]
  refine (congrArg (fun r => sq r _) (ev_set s2)).trans ?_
  rw [sq_nx, ev_sSeq, ev_sFor]
  refine (congrArg (fun r => sq (Rs.fl r _ _) _) s3).trans ?_
  rw [rf_ok]
  refine (congrArg (fun r => sq r _) e2).trans ?_
  rw [sq_nx, ev_sRet, ev_mC, rf_ok]
end DC
namespace DC
open PySem L2 SX
/-! ### the deck is laid -/
def ab (i : Int) : Int := if i < 0 then -i else i
def grL (ns : List Int) : List Int := ((ns.take 63).map ab).filter fun i => decide (1000000000000000000 ≤ i)
def sm0 (ns : List Int) : List Int := ((ns.take 63).map ab).filter fun i => decide (i < 1000000000000000000)
def smL (ns : List Int) : List Int := if sm0 ns = [] then [(ns.length : Int) + 29] else sm0 ns
theorem lcGo_ab {cond : Te Unit} {Γw : Gm} (c : Int → Bool) (hc : ∀ i : Int, cond (Γw.set 3 (some (.dat (.int i)))) () = .ok (c (ab i)) ()) (he : ∀ i : Int, (mBlt (d1 dAbs) (mCons (mVar 3) mNil) : Ex Unit) (Γw.set 3 (some (.dat (.int i)))) () = .ok (.int (ab i)) ()) : ∀ (is : List Int) (acc : List D), acc.length + is.length ≤ 16777216 →
    lcGo (gN 3) cond (mBlt (d1 dAbs) (mCons (mVar 3) mNil)) Γw (is.map D.int) acc () = .ok (acc ++ ((is.map ab).filter c).map D.int) ()
  | [], acc, _ => by simp [lcGo]
  | i :: is, acc, hl => by
    have hl' : acc.length + (is.length + 1) ≤ 16777216 := hl
    rw [List.map_cons, lcGo, show gN 3 (D.int i) Γw = some (Γw.set 3 (some (.dat (.int i)))) from rfl]
    simp only [hc i]
    cases q : c (ab i) with
    | true =>
      simp only [he i]
      rw [if_pos (by omega), lcGo_ab c hc he is (acc ++ [D.int (ab i)]) (by simp; omega)]
      simp [q]
    | false =>
      dsimp only
      rw [lcGo_ab c hc he is acc (by omega)]
      simp [q]
theorem dAbs_ab {i : Int} : dAbs (.int i) = some (.int (ab i)) := rfl
theorem pw10_18 : dPow (.int 10) (.int 18) = some (.int 1000000000000000000) := rfl
theorem eq_nil (is : List Int) : dEq (.lst (is.map D.int)) (.lst []) = some (.bl is.isEmpty) := by
  have h : (D.lst (is.map D.int)).sh 60 = true := by unfold D.sh; exact shs_ints 59 is
  have h0 : (D.lst []).sh 60 = true := rfl
  have e : D.eqv (.lst (is.map D.int)) (.lst []) = is.isEmpty := by cases is <;> rfl
  unfold dEq
  rw [if_neg (by simp [D.scal]), if_pos ⟨h, h0⟩, e]
theorem e_deck (a : Addr) (ns : List Int) (hl : ns.length ≤ 1000) : f__law_deck a ns [.adr a] () = .ok (.lst [.lst ((grL ns).map D.int), .lst ((smL ns).map D.int), .int 0]) () := by
  have isc : ∀ r : List (Option Sl), isSc a (some (.dat (.adr a)) :: r) 0 = true := fun r => by simp [isSc]
  have hz : ns.length ≤ 16777216 := by omega
  have ct : cut (ns.map D.int) none (some 63) = (ns.take 63).map D.int := by
    have := lcut_to (ns.map D.int) 63
    rw [show ((63 : Nat) : Int) = 63 from rfl] at this
    rw [this, List.map_take]
  have l63 : (ns.take 63).length ≤ 63 := by rw [List.length_take]; omega
  have it : ∀ r : List (Option Sl), (mItems (mL (mScSl a ns 0)) : Ar Unit) (some (.dat (.adr a)) :: r) () = .ok ((ns.take 63).map D.int) () := fun r => by
    refine ev_items (d := .lst ((ns.take 63).map D.int)) (ev_l ?_)
    unfold mScSl
    rw [if_pos ⟨isc r, hz⟩, ct]
  let G (v1 v2 : Option Sl) : Gm := [some (.dat (.adr a)), v1, v2, none]
  have g1 := lcGo_ab (cond := (mTest (mOp dGe (mBlt (d1 dAbs) (mCons (mVar 3) mNil)) (mOp dPow (mC (.int 10)) (mC (.int 18)))))) (Γw := G none none) (fun i => decide (1000000000000000000 ≤ i)) (fun i => by simp [G, dAbs_ab, pw10_18]) (fun i => by simp [G, dAbs_ab]) (ns.take 63) [] (by simp; omega)
  rw [List.nil_append] at g1
  have s1 : (mL (mLc [3] (mItems (mL (mScSl a ns 0))) (gN 3) (mTest (mOp dGe (mBlt (d1 dAbs) (mCons (mVar 3) mNil)) (mOp dPow (mC (.int 10)) (mC (.int 18))))) (mBlt (d1 dAbs) (mCons (mVar 3) mNil))) : Ex Unit) (G none none) () = .ok (.lst ((grL ns).map D.int)) () := ev_l (ev_lc (it _) g1)
  have g2 := lcGo_ab (cond := (mTest (mOp dLt (mBlt (d1 dAbs) (mCons (mVar 3) mNil)) (mOp dPow (mC (.int 10)) (mC (.int 18)))))) (Γw := G (some (.dat (.lst ((grL ns).map D.int)))) none) (fun i => decide (i < 1000000000000000000)) (fun i => by simp [G, dAbs_ab, pw10_18]) (fun i => by simp [G, dAbs_ab]) (ns.take 63) [] (by simp; omega)
  rw [List.nil_append] at g2
  have s2 : (mL (mLc [3] (mItems (mL (mScSl a ns 0))) (gN 3) (mTest (mOp dLt (mBlt (d1 dAbs) (mCons (mVar 3) mNil)) (mOp dPow (mC (.int 10)) (mC (.int 18))))) (mBlt (d1 dAbs) (mCons (mVar 3) mNil))) : Ex Unit) (G (some (.dat (.lst ((grL ns).map D.int)))) none) () = .ok (.lst ((sm0 ns).map D.int)) () := ev_l (ev_lc (it _) g2)
  have lsm : (sm0 ns).length ≤ 63 := by
    have := List.length_filter_le (fun i => decide (i < 1000000000000000000)) ((ns.take 63).map ab)
    unfold sm0
    rw [List.length_map] at this
    omega
  have s3 : (mL (mCat (mVar 2) (mL (mRep (mL (mSz (mCons (mOp dAdd (mScLen a ns 0) (mC (.int 29))) mNil))) (mBlt (d1 dIntA) (mCons (mOp dEq (mVar 2) (mL (mSz mNil))) mNil))))) : Ex Unit) (G (some (.dat (.lst ((grL ns).map D.int)))) (some (.dat (.lst ((sm0 ns).map D.int))))) () = .ok (.lst ((smL ns).map D.int)) () := by
    have sl : (mScLen a ns 0 : Ex Unit) (G (some (.dat (.lst ((grL ns).map D.int)))) (some (.dat (.lst ((sm0 ns).map D.int))))) () = .ok (.int ns.length) () := by
      unfold mScLen
      rw [if_pos (isc _)]
    have c1 : (mL (mSz (mCons (mOp dAdd (mScLen a ns 0) (mC (.int 29))) mNil)) : Ex Unit) (G (some (.dat (.lst ((grL ns).map D.int)))) (some (.dat (.lst ((sm0 ns).map D.int))))) () = .ok (.lst [.int ((ns.length : Int) + 29)]) () := by
      simp [sl]
    have c2 : (mBlt (d1 dIntA) (mCons (mOp dEq (mVar 2) (mL (mSz mNil))) mNil) : Ex Unit) (G (some (.dat (.lst ((grL ns).map D.int)))) (some (.dat (.lst ((sm0 ns).map D.int))))) () = .ok (.int (if (sm0 ns).isEmpty then 1 else 0)) () := by
      rw [ev_mBlt, ev_mCons, ev_mOp, ev_var rfl, rb_ok, show (mL (mSz mNil) : Ex Unit) (G (some (.dat (.lst ((grL ns).map D.int)))) (some (.dat (.lst ((sm0 ns).map D.int))))) () = .ok (.lst []) () from rfl, rb_ok, eq_nil, ofO_some, rb_ok, ev_mNil, rb_ok, rb_ok]
      rfl
    have c3 : (mRep (mL (mSz (mCons (mOp dAdd (mScLen a ns 0) (mC (.int 29))) mNil))) (mBlt (d1 dIntA) (mCons (mOp dEq (mVar 2) (mL (mSz mNil))) mNil)) : Ar Unit) (G (some (.dat (.lst ((grL ns).map D.int)))) (some (.dat (.lst ((sm0 ns).map D.int))))) () = .ok (if (sm0 ns).isEmpty then [.int ((ns.length : Int) + 29)] else []) () := by
      rw [ev_mRep, c1, rb_ok, c2, rb_ok]
      cases (sm0 ns).isEmpty <;> rfl
    have hc : ((sm0 ns).map D.int ++ if (sm0 ns).isEmpty then [D.int ((ns.length : Int) + 29)] else []) = (smL ns).map D.int := by
      unfold smL
      cases q : sm0 ns with
      | nil => rfl
      | cons x xs => simp
    refine ev_l ((ev_cat (ev_var rfl) (ev_l c3) ?_).trans (by rw [hc]))
    cases (sm0 ns).isEmpty <;> simp <;> omega
  unfold f__law_deck b__law_deck
  rw [ev_runW, show slots0 4 [D.adr a] = G none none from rfl, ev_sSeq]
  refine (congrArg (fun r => fin (sq r _)) (ev_set s1)).trans ?_
  rw [sq_nx, ev_sSeq]
  refine (congrArg (fun r => fin (sq r _)) (ev_set s2)).trans ?_
  rw [sq_nx, ev_sRet, ev_mL, ev_mSz, ev_mCons, ev_var rfl, rb_ok, ev_mCons]
  refine (congrArg (fun r : Rs Unit D => fin (Rs.fl (Rs.bind (Rs.bind (Rs.bind (r.bind _) _) _) _) _ _)) s3).trans ?_
  rfl
theorem sm_mem {ns : List Int} {i : Int} (h : i ∈ sm0 ns) : i < 1000000000000000000 := by
  unfold sm0 at h
  exact of_decide_eq_true (List.mem_filter.mp h).2
theorem gr_mem {ns : List Int} {i : Int} (h : i ∈ grL ns) : 1000000000000000000 ≤ i := by
  unfold grL at h
  exact of_decide_eq_true (List.mem_filter.mp h).2
theorem sm_ne (ns : List Int) : smL ns ≠ [] := by
  unfold smL
  by_cases h : sm0 ns = []
  · rw [if_pos h]; simp
  · rw [if_neg h]; exact h
theorem deck_ne (ns : List Int) (hl : ns.length ≤ 63) : grL ns ≠ smL ns := by
  intro e
  cases q : smL ns with
  | nil => exact sm_ne ns q
  | cons x xs =>
    have h1 : x ∈ grL ns := by rw [e, q]; simp
    have h2 := gr_mem h1
    have h3 : x ∈ smL ns := by rw [q]; simp
    unfold smL at h3
    by_cases h : sm0 ns = []
    · rw [if_pos h] at h3
      have := List.mem_singleton.mp h3
      omega
    · rw [if_neg h] at h3
      have := sm_mem h3
      omega
theorem deck_ok (ns : List Int) : DkOk ⟨grL ns, smL ns, 0⟩ := by
  have l63 : (ns.take 63).length ≤ 63 := by rw [List.length_take]; omega
  have a1 := List.length_filter_le (fun i => decide (i < 1000000000000000000)) ((ns.take 63).map ab)
  have a2 := List.length_filter_le (fun i => decide (1000000000000000000 ≤ i)) ((ns.take 63).map ab)
  rw [List.length_map] at a1 a2
  refine ⟨sm_ne ns, ?_, ?_, Int.le_refl 0⟩
  · show (smL ns).length ≤ 1000
    unfold smL
    split
    · simp
    · unfold sm0; omega
  · show (grL ns).length ≤ 1000
    unfold grL
    omega
end DC
namespace DC
/-! ## the head: facts by names, the run -/
section
open PySem PySem.Spec PyProof.Rows L2
def dd_is_integer : He.DefD := ⟨("is_integer", none), "is_integer", "is_integer", defArgs s_is_integer, defBody s_is_integer, defScope s_is_integer, [], []⟩
def dd_is_integer_in : He.DefD := ⟨("is_integer_in", none), "is_integer_in", "is_integer_in", defArgs s_is_integer_in, defBody s_is_integer_in, defScope s_is_integer_in, [], []⟩
def dd_is_tuple_of : He.DefD := ⟨("is_tuple_of", none), "is_tuple_of", "is_tuple_of", defArgs s_is_tuple_of, defBody s_is_tuple_of, defScope s_is_tuple_of, [], []⟩
def dd_step_error : He.DefD := ⟨("step_error", none), "step_error", "step_error", defArgs s_step_error, defBody s_step_error, defScope s_step_error, [], []⟩
def dd_last_place : He.DefD := ⟨("last_place", none), "last_place", "last_place", defArgs s_last_place, defBody s_last_place, defScope s_last_place, [], []⟩
def dd_data_error : He.DefD := ⟨("data_error", none), "data_error", "data_error", defArgs s_data_error, defBody s_data_error, defScope s_data_error, [], []⟩
def dd_data_text : He.DefD := ⟨("data_text", none), "data_text", "data_text", defArgs s_data_text, defBody s_data_text, defScope s_data_text, [], []⟩
def dd_read_integer : He.DefD := ⟨("read_integer", none), "read_integer", "read_integer", defArgs s_read_integer, defBody s_read_integer, defScope s_read_integer, [], []⟩
def dd_read_integers : He.DefD := ⟨("read_integers", none), "read_integers", "read_integers", defArgs s_read_integers, defBody s_read_integers, defScope s_read_integers, [], []⟩
def dd_read_data : He.DefD := ⟨("read_data", none), "read_data", "read_data", defArgs s_read_data, defBody s_read_data, defScope s_read_data, [], []⟩
def dd_is_data_text : He.DefD := ⟨("is_data_text", none), "is_data_text", "is_data_text", defArgs s_is_data_text, defBody s_is_data_text, defScope s_is_data_text, [], []⟩
def dd_book_text : He.DefD := ⟨("book_text", none), "book_text", "book_text", defArgs s_book_text, defBody s_book_text, defScope s_book_text, [], []⟩
def dd_is_line : He.DefD := ⟨("is_line", none), "is_line", "is_line", defArgs s_is_line, defBody s_is_line, defScope s_is_line, [], []⟩
def dd_parse_book : He.DefD := ⟨("parse_book", none), "parse_book", "parse_book", defArgs s_parse_book, defBody s_parse_book, defScope s_parse_book, [], []⟩
def dd__law_deck : He.DefD := ⟨("_law_deck", none), "_law_deck", "_law_deck", defArgs s__law_deck, defBody s__law_deck, defScope s__law_deck, [], []⟩
def dd__law_next : He.DefD := ⟨("_law_next", none), "_law_next", "_law_next", defArgs s__law_next, defBody s__law_next, defScope s__law_next, [], []⟩
def dd__law_one : He.DefD := ⟨("_law_one", none), "_law_one", "_law_one", defArgs s__law_one, defBody s__law_one, defScope s__law_one, [], []⟩
def dd__law_same : He.DefD := ⟨("_law_same", none), "_law_same", "_law_same", defArgs s__law_same, defBody s__law_same, defScope s__law_same, [], []⟩
def dd__law_great : He.DefD := ⟨("_law_great", none), "_law_great", "_law_great", defArgs s__law_great, defBody s__law_great, defScope s__law_great, [], []⟩
def dd__law_steps : He.DefD := ⟨("_law_steps", none), "_law_steps", "_law_steps", defArgs s__law_steps, defBody s__law_steps, defScope s__law_steps, [], []⟩
def dd__law_units : He.DefD := ⟨("_law_units", none), "_law_units", "_law_units", defArgs s__law_units, defBody s__law_units, defScope s__law_units, [], []⟩
def dd__law_data : He.DefD := ⟨("_law_data", none), "_law_data", "_law_data", defArgs s__law_data, defBody s__law_data, defScope s__law_data, [], []⟩
def dd__law_around : He.DefD := ⟨("_law_around", none), "_law_around", "_law_around", defArgs s__law_around, defBody s__law_around, defScope s__law_around, [], []⟩
def dd__law_book : He.DefD := ⟨("_law_book", none), "_law_book", "_law_book", defArgs s__law_book, defBody s__law_book, defScope s__law_book, [], []⟩
def dd__law_text_of : He.DefD := ⟨("_law_text_of", none), "_law_text_of", "_law_text_of", defArgs s__law_text_of, defBody s__law_text_of, defScope s__law_text_of, [], []⟩
def dd__law_book_text : He.DefD := ⟨("_law_book_text", none), "_law_book_text", "_law_book_text", defArgs s__law_book_text, defBody s__law_book_text, defScope s__law_book_text, [], []⟩
def dd__law_wide_data : He.DefD := ⟨("_law_wide_data", none), "_law_wide_data", "_law_wide_data", defArgs s__law_wide_data, defBody s__law_wide_data, defScope s__law_wide_data, [], []⟩
def dd__law_wide_book : He.DefD := ⟨("_law_wide_book", none), "_law_wide_book", "_law_wide_book", defArgs s__law_wide_book, defBody s__law_wide_book, defScope s__law_wide_book, [], []⟩
def dd_law : He.DefD := ⟨("law", none), "law", "law", defArgs s_law, defBody s_law, defScope s_law, [], []⟩
def fnD0 : List He.DefD := [dd_is_integer, dd_is_integer_in, dd_is_tuple_of, dd_step_error, dd_last_place, dd_data_error, dd_data_text, dd_read_integer, dd_read_integers, dd_read_data, dd_is_data_text, dd_book_text]
def fnD1 : List He.DefD := [dd_is_line, dd_parse_book, dd__law_deck, dd__law_next, dd__law_one, dd__law_same, dd__law_great, dd__law_steps, dd__law_units, dd__law_data, dd__law_around, dd__law_book]
def fnD2 : List He.DefD := [dd__law_text_of, dd__law_book_text, dd__law_wide_data, dd__law_wide_book, dd_law]
def fnD : List He.DefD := fnD0 ++ (fnD1 ++ (fnD2))
def faD0 : List He.Fa := [.glo "is_integer", .glo "is_integer_in", .glo "is_tuple_of", .glo "step_error", .glo "last_place", .glo "data_error", .glo "data_text", .glo "read_integer", .glo "read_integers", .glo "read_data", .glo "is_data_text", .glo "book_text"]
def faD1 : List He.Fa := [.glo "is_line", .glo "parse_book", .glo "_law_deck", .glo "_law_next", .glo "_law_one", .glo "_law_same", .glo "_law_great", .glo "_law_steps", .glo "_law_units", .glo "_law_data", .glo "_law_around", .glo "_law_book"]
def faD2 : List He.Fa := [.glo "_law_text_of", .glo "_law_book_text", .glo "_law_wide_data", .glo "_law_wide_book", .glo "law", .free "len", .free "list", .free "isinstance", .free "int", .free "bool", .free "tuple", .free "str"]
def faD3 : List He.Fa := [.free "range", .free "sum", .free "all", .free "enumerate", .free "zip", .free "repr", .free "abs", .int "LONGEST" (14), .int "LIMIT" (1000000000000), .int "MAX_PRICE" (1000000), .int "MAX_STEPS" (6), .int "MAX_PERIODS" (6)]
def faD4 : List He.Fa := [.str "DIGITS" "0123456789"]
def faD : List He.Fa := faD0 ++ (faD1 ++ (faD2 ++ (faD3 ++ (faD4))))
def nmD0 : List Str := ["CurveError", "BadText", "LIMIT", "MAX_PRICE", "MAX_STEPS", "MAX_PERIODS", "is_integer", "is_integer_in", "is_tuple_of", "step_error", "data_error", "last_place"]
def nmD1 : List Str := ["data_text", "DIGITS", "LONGEST", "read_integer", "read_integers", "read_data", "is_data_text", "book_text", "is_line", "parse_book", "_law_deck", "_law_next"]
def nmD2 : List Str := ["_law_one", "_law_same", "_law_great", "_law_steps", "_law_units", "_law_data", "_law_around", "_law_book", "_law_text_of", "_law_book_text", "_law_wide_data", "_law_wide_book"]
def nmD : List Str := nmD0 ++ (nmD1 ++ (nmD2))
abbrev RR : PySem.W.OpenRow := PySem.W.OpenLaw.row PySem.Challenge.rw_dearcurves_k70_texts_of_books
abbrev hkD : PySem.W.Hook := He.hookD 4 faD fnD
def obD (s : PySem.W.SharedT) : He.AlD := He.obsDG 4 faD fnD (HandSHeadRun.getT s)
theorem obD_eq (s : PySem.W.SharedT) : obD s = hkD.obs s.abs := He.obsDG_eq (HandSHeadRun.getT_eq s)
theorem runD (w : World) : HandSHeadRun.RunEq RR (PySem.W.view RR.prog [41]) hkD obD 2000 nmD w := by
  intro os
  kernel_rfl
theorem roomA : Room 14 callerA := ⟨rfl, by decide, by decide⟩
theorem factsD {P : Program} {w : World} {K : PySem.W.Frag} {h : Heap} {mg : Str → Option Value} {f : Addr} (X : K.In h) (G : h.Ns mainGlobals mg) (hfa : mg ("law" : Str) = some (.ref f)) (c : He.SaysD faD fnD K) :
    ∃ fd : FuncData, (∀ (s : Shared) (v : Value), BindsTo s fd ⟨[v], []⟩ [("_law_script", v)]) ∧ ∀ base : Heap, K.In base → base.Ns mainGlobals mg → RunAt P w K mg base (L2.CX P w) callerA f fd ["_law_script"] (spLaw K) := by
  obtain ⟨fd_is_integer, F_is_integer⟩ := c.def_ 0 (d := dd_is_integer) rfl
  have m_is_integer := He.glo_ok X G (c.fact 0 (f := .glo "is_integer") rfl)
  obtain ⟨fd_is_integer_in, F_is_integer_in⟩ := c.def_ 1 (d := dd_is_integer_in) rfl
  have m_is_integer_in := He.glo_ok X G (c.fact 1 (f := .glo "is_integer_in") rfl)
  obtain ⟨fd_is_tuple_of, F_is_tuple_of⟩ := c.def_ 2 (d := dd_is_tuple_of) rfl
  have m_is_tuple_of := He.glo_ok X G (c.fact 2 (f := .glo "is_tuple_of") rfl)
  obtain ⟨fd_step_error, F_step_error⟩ := c.def_ 3 (d := dd_step_error) rfl
  have m_step_error := He.glo_ok X G (c.fact 3 (f := .glo "step_error") rfl)
  obtain ⟨fd_last_place, F_last_place⟩ := c.def_ 4 (d := dd_last_place) rfl
  have m_last_place := He.glo_ok X G (c.fact 4 (f := .glo "last_place") rfl)
  obtain ⟨fd_data_error, F_data_error⟩ := c.def_ 5 (d := dd_data_error) rfl
  have m_data_error := He.glo_ok X G (c.fact 5 (f := .glo "data_error") rfl)
  obtain ⟨fd_data_text, F_data_text⟩ := c.def_ 6 (d := dd_data_text) rfl
  have m_data_text := He.glo_ok X G (c.fact 6 (f := .glo "data_text") rfl)
  obtain ⟨fd_read_integer, F_read_integer⟩ := c.def_ 7 (d := dd_read_integer) rfl
  have m_read_integer := He.glo_ok X G (c.fact 7 (f := .glo "read_integer") rfl)
  obtain ⟨fd_read_integers, F_read_integers⟩ := c.def_ 8 (d := dd_read_integers) rfl
  have m_read_integers := He.glo_ok X G (c.fact 8 (f := .glo "read_integers") rfl)
  obtain ⟨fd_read_data, F_read_data⟩ := c.def_ 9 (d := dd_read_data) rfl
  have m_read_data := He.glo_ok X G (c.fact 9 (f := .glo "read_data") rfl)
  obtain ⟨fd_is_data_text, F_is_data_text⟩ := c.def_ 10 (d := dd_is_data_text) rfl
  have m_is_data_text := He.glo_ok X G (c.fact 10 (f := .glo "is_data_text") rfl)
  obtain ⟨fd_book_text, F_book_text⟩ := c.def_ 11 (d := dd_book_text) rfl
  have m_book_text := He.glo_ok X G (c.fact 11 (f := .glo "book_text") rfl)
  obtain ⟨fd_is_line, F_is_line⟩ := c.def_ 12 (d := dd_is_line) rfl
  have m_is_line := He.glo_ok X G (c.fact 12 (f := .glo "is_line") rfl)
  obtain ⟨fd_parse_book, F_parse_book⟩ := c.def_ 13 (d := dd_parse_book) rfl
  have m_parse_book := He.glo_ok X G (c.fact 13 (f := .glo "parse_book") rfl)
  obtain ⟨fd__law_deck, F__law_deck⟩ := c.def_ 14 (d := dd__law_deck) rfl
  have m__law_deck := He.glo_ok X G (c.fact 14 (f := .glo "_law_deck") rfl)
  obtain ⟨fd__law_next, F__law_next⟩ := c.def_ 15 (d := dd__law_next) rfl
  have m__law_next := He.glo_ok X G (c.fact 15 (f := .glo "_law_next") rfl)
  obtain ⟨fd__law_one, F__law_one⟩ := c.def_ 16 (d := dd__law_one) rfl
  have m__law_one := He.glo_ok X G (c.fact 16 (f := .glo "_law_one") rfl)
  obtain ⟨fd__law_same, F__law_same⟩ := c.def_ 17 (d := dd__law_same) rfl
  have m__law_same := He.glo_ok X G (c.fact 17 (f := .glo "_law_same") rfl)
  obtain ⟨fd__law_great, F__law_great⟩ := c.def_ 18 (d := dd__law_great) rfl
  have m__law_great := He.glo_ok X G (c.fact 18 (f := .glo "_law_great") rfl)
  obtain ⟨fd__law_steps, F__law_steps⟩ := c.def_ 19 (d := dd__law_steps) rfl
  have m__law_steps := He.glo_ok X G (c.fact 19 (f := .glo "_law_steps") rfl)
  obtain ⟨fd__law_units, F__law_units⟩ := c.def_ 20 (d := dd__law_units) rfl
  have m__law_units := He.glo_ok X G (c.fact 20 (f := .glo "_law_units") rfl)
  obtain ⟨fd__law_data, F__law_data⟩ := c.def_ 21 (d := dd__law_data) rfl
  have m__law_data := He.glo_ok X G (c.fact 21 (f := .glo "_law_data") rfl)
  obtain ⟨fd__law_around, F__law_around⟩ := c.def_ 22 (d := dd__law_around) rfl
  have m__law_around := He.glo_ok X G (c.fact 22 (f := .glo "_law_around") rfl)
  obtain ⟨fd__law_book, F__law_book⟩ := c.def_ 23 (d := dd__law_book) rfl
  have m__law_book := He.glo_ok X G (c.fact 23 (f := .glo "_law_book") rfl)
  obtain ⟨fd__law_text_of, F__law_text_of⟩ := c.def_ 24 (d := dd__law_text_of) rfl
  have m__law_text_of := He.glo_ok X G (c.fact 24 (f := .glo "_law_text_of") rfl)
  obtain ⟨fd__law_book_text, F__law_book_text⟩ := c.def_ 25 (d := dd__law_book_text) rfl
  have m__law_book_text := He.glo_ok X G (c.fact 25 (f := .glo "_law_book_text") rfl)
  obtain ⟨fd__law_wide_data, F__law_wide_data⟩ := c.def_ 26 (d := dd__law_wide_data) rfl
  have m__law_wide_data := He.glo_ok X G (c.fact 26 (f := .glo "_law_wide_data") rfl)
  obtain ⟨fd__law_wide_book, F__law_wide_book⟩ := c.def_ 27 (d := dd__law_wide_book) rfl
  have m__law_wide_book := He.glo_ok X G (c.fact 27 (f := .glo "_law_wide_book") rfl)
  obtain ⟨fd_law, F_law⟩ := c.def_ 28 (d := dd_law) rfl
  have m_law := He.glo_ok X G (c.fact 28 (f := .glo "law") rfl)
  have z := hfa.symm.trans m_law
  cases z
  have bd := FunD.bindsA (ps := ["_law_script"]) F_law fun _ _ _ _ _ _ us hl => match us, hl with | [_], _ => rfl
  have Tb : Blts mg := ⟨He.free_ok X G (c.fact 29 (f := .free "len") rfl), He.free_ok X G (c.fact 30 (f := .free "list") rfl), He.free_ok X G (c.fact 31 (f := .free "isinstance") rfl), He.free_ok X G (c.fact 32 (f := .free "int") rfl), He.free_ok X G (c.fact 33 (f := .free "bool") rfl), He.free_ok X G (c.fact 34 (f := .free "tuple") rfl), He.free_ok X G (c.fact 35 (f := .free "str") rfl), He.free_ok X G (c.fact 36 (f := .free "range") rfl), He.free_ok X G (c.fact 37 (f := .free "sum") rfl), He.free_ok X G (c.fact 38 (f := .free "all") rfl), He.free_ok X G (c.fact 39 (f := .free "enumerate") rfl), He.free_ok X G (c.fact 40 (f := .free "zip") rfl), He.free_ok X G (c.fact 41 (f := .free "repr") rfl), He.free_ok X G (c.fact 42 (f := .free "abs") rfl)⟩
  have Tc : Consts mg := ⟨He.str_ok X G (c.fact 48 (f := .str "DIGITS" "0123456789") rfl), He.int_ok X G (c.fact 43 (f := .int "LONGEST" (14)) rfl), He.int_ok X G (c.fact 44 (f := .int "LIMIT" (1000000000000)) rfl), He.int_ok X G (c.fact 45 (f := .int "MAX_PRICE" (1000000)) rfl), He.int_ok X G (c.fact 46 (f := .int "MAX_STEPS" (6)) rfl), He.int_ok X G (c.fact 47 (f := .int "MAX_PERIODS" (6)) rfl)⟩
  refine ⟨fd_law, fun s v => bd s [v] rfl, fun base _ _ => ?_⟩
  have h_is_integer := DC.g_is_integer (P := P) (w := w) (base := base) (He5.fun_of F_is_integer) m_is_integer Tb
  have h_is_integer_in := DC.g_is_integer_in (P := P) (w := w) (base := base) (He5.fun_of F_is_integer_in) m_is_integer_in h_is_integer
  have h_is_tuple_of := DC.g_is_tuple_of (P := P) (w := w) (base := base) (He5.fun_of F_is_tuple_of) m_is_tuple_of Tb
  have h_step_error := DC.g_step_error (P := P) (w := w) (base := base) (He5.fun_of F_step_error) m_step_error Tc h_is_integer h_is_integer_in h_is_tuple_of
  have h_last_place := DC.g_last_place (P := P) (w := w) (base := base) (He5.fun_of F_last_place) m_last_place Tb
  have h_data_error := DC.g_data_error (P := P) (w := w) (base := base) (He5.fun_of F_data_error) m_data_error Tb Tc h_is_integer_in h_is_tuple_of h_step_error h_last_place
  have h_data_text := DC.g_data_text (P := P) (w := w) (base := base) (He5.fun_of F_data_text) m_data_text Tb
  have h_read_integer := DC.g_read_integer (P := P) (w := w) (base := base) (He5.fun_of F_read_integer) m_read_integer Tb Tc
  have h_read_integers := DC.g_read_integers (P := P) (w := w) (base := base) (He5.fun_of F_read_integers) m_read_integers Tb h_read_integer
  have h_read_data := DC.g_read_data (P := P) (w := w) (base := base) (He5.fun_of F_read_data) m_read_data Tb h_read_integers
  have h_is_data_text := DC.g_is_data_text (P := P) (w := w) (base := base) (He5.fun_of F_is_data_text) m_is_data_text h_data_error h_read_data
  have h_book_text := DC.g_book_text (P := P) (w := w) (base := base) (He5.fun_of F_book_text) m_book_text h_data_text
  have h_is_line := DC.g_is_line (P := P) (w := w) (base := base) (He5.fun_of F_is_line) m_is_line Tb Tc h_is_integer_in h_read_integer h_is_data_text
  have h_parse_book := DC.g_parse_book (P := P) (w := w) (base := base) (He5.fun_of F_parse_book) m_parse_book Tb h_read_data h_is_line
  have h__law_deck := fun a ns => DC.g__law_deck (P := P) (w := w) (base := base) (He5.fun_of F__law_deck) m__law_deck Tb a ns
  have h__law_next := fun a => DC.g__law_next (P := P) (w := w) (base := base) (He5.fun_of F__law_next) m__law_next Tb a
  have h__law_one := fun a => DC.g__law_one (P := P) (w := w) (base := base) (He5.fun_of F__law_one) m__law_one Tb h__law_next a
  have h__law_same := DC.g__law_same (P := P) (w := w) (base := base) (He5.fun_of F__law_same) m__law_same Tb 12
  have h__law_great := fun a => DC.g__law_great (P := P) (w := w) (base := base) (He5.fun_of F__law_great) m__law_great h__law_next a
  have h__law_steps := fun a => DC.g__law_steps (P := P) (w := w) (base := base) (He5.fun_of F__law_steps) m__law_steps Tb h__law_next a
  have h__law_units := DC.g__law_units (P := P) (w := w) (base := base) (He5.fun_of F__law_units) m__law_units Tb
  have h__law_data := fun a => DC.g__law_data (P := P) (w := w) (base := base) (He5.fun_of F__law_data) m__law_data h__law_next h__law_steps a
  have h__law_around := fun a => DC.g__law_around (P := P) (w := w) (base := base) (He5.fun_of F__law_around) m__law_around h__law_next h__law_one h__law_steps h__law_units a
  have h__law_book := fun a => DC.g__law_book (P := P) (w := w) (base := base) (He5.fun_of F__law_book) m__law_book Tb h__law_next h__law_units h__law_data h__law_around a
  have h__law_text_of := DC.g__law_text_of (P := P) (w := w) (base := base) (He5.fun_of F__law_text_of) m__law_text_of Tb
  have h__law_book_text := DC.g__law_book_text (P := P) (w := w) (base := base) (He5.fun_of F__law_book_text) m__law_book_text Tb h__law_text_of
  have h__law_wide_data := fun a => DC.g__law_wide_data (P := P) (w := w) (base := base) (He5.fun_of F__law_wide_data) m__law_wide_data Tb h__law_next h__law_one h__law_great h__law_data a
  have h__law_wide_book := fun a => DC.g__law_wide_book (P := P) (w := w) (base := base) (He5.fun_of F__law_wide_book) m__law_wide_book Tb h__law_next h__law_one h__law_great h__law_book h__law_wide_data a
  exact law_run (st := s_law) (N := N_law) (He5.fun_of F_law) sc_law roomA rfl rfl rfl (by first | exact Or.inl rfl | exact Or.inr rfl) (by first | exact Or.inl rfl | exact Or.inr (Or.inl rfl) | exact Or.inr (Or.inr rfl)) (kd := 1) (by decide) (m := 6) rfl (fun _ _ _ _ _ => rfl) (fun _ _ _ _ _ => rfl) h__law_deck (fun a ns hl => e_deck a ns (by omega)) deck_ne
    (fun a cdv outer s H E hr => g_law Tb h_book_text h_parse_book h__law_same h__law_book_text h__law_wide_book hr rfl) fun a ns _ => law_end a ⟨grL ns, smL ns, 0⟩ (deck_ok ns) rfl
end
end DC
open PySem PySem.W PySem.Calls PyProof.Rows
theorem PySem.Challenge.cw_dearcurves_k70_texts_of_books_holds : PySem.Challenge.rw_dearcurves_k70_texts_of_books.Holds := by
  w_on; o_law
  refine HandSHeadRun.head_any (r := DC.RR) (q := view DC.RR.prog [41]) (H := DC.hkD) (ob := DC.obD) (M := 2000) (loose := DC.nmD) (d := (HandSHeadRun.topDef (OpenLaw.row PySem.Challenge.rw_dearcurves_k70_texts_of_books).prog 41)) (kwd := []) DC.obD_eq
    (by kernel_rfl) (fun s => by kernel_rfl) DC.runD (by kernel_rfl) (by kernel_rfl) (by kernel_rfl) (by rfl) (by first | assumption | decide +kernel) (by decide +kernel) ⟨rfl, rfl, rfl, rfl, rfl, by decide +kernel⟩ ?wit ?cal
  case wit => w_witness2
  case cal =>
    refine DC.walk_g (l := PySem.Challenge.rw_dearcurves_k70_texts_of_books) (n := 63) (x := "_law_script") (CX := fun w => L2.CX (PySem.Challenge.rw_dearcurves_k70_texts_of_books).prog w) rfl (by decide) (by kernel_rfl) ?fac fun w H s e s2 z => ?out
    case out =>
      obtain ⟨_, _, _, _, _, _, _, _, _, _, _, _, z⟩ := z
      exact z.elim
    case fac =>
      intro w mg fa h Y G hm0
      obtain ⟨K, kin, c⟩ := Y
      have hm : mg ("law" : PySem.Str) = some (.ref fa) := by
        have z : (HandSHeadRun.topDef (OpenLaw.row PySem.Challenge.rw_dearcurves_k70_texts_of_books).prog 41).name = ("law" : PySem.Str) := by kernel_rfl
        rw [← z]
        exact hm0
      obtain ⟨fd, hb, hF⟩ := DC.factsD (P := (PySem.Challenge.rw_dearcurves_k70_texts_of_books).prog) (w := w) kin G hm c
      exact ⟨K, fd, DC.spLaw K, kin, hb, fun H a ns hl only sq => ⟨a, ns, rfl, hl, only, sq, fun _ => rfl⟩, hF⟩
