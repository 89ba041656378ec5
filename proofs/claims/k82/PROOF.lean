import PyProof.Rows.All
import Wide.All
import OpenK.AllK
import Wide.FinOn
import HandS.ForMost
import HandS.More
import HandS.Codes
import HandS.IsInst
import HandS.TupAny
import HandS.Style
import HandS.Deep
import HandS.Zip
import HandS.Strs
import HandS.NoneIn
import HandS.Wide
import HandS.WideBits
import HandS.Flow
import HandS.Walk
import HandS.Defaults
import KE.GoesEnum
import HandS.HeadHook1
import HandS.HeadHook2
import HandS.HeadHook3
import HandS.HeadHook4
import HandS.SetFor
import KE.KStateDown
import HandS.WordsExc
import HandS.Head0
import HandS.Head1
import HandS.Head2
import HandS.Head3
import HandS.HeadEnd
import PySem.Challenge.RW_callgames_k82_price_sheets_judged
set_option Elab.async false
set_option linter.all false
set_option maxRecDepth 100000
set_option maxHeartbeats 2000000
/-! Ly: data without addresses, environments of slots, and what an expression or a statement does to them -/
namespace Ly
open PySem L2

/-! ### data -/
inductive D where
  | non | bl (b : Bool) | int (i : Int) | str (s : Str) | tup (xs : List D) | lst (xs : List D) | lck (xs : List D)

section
variable (K : PySem.W.Frag) (F : Hp)
mutual
inductive Rp : V → D → Prop
  | non : Rp .non .non
  | bl (b : Bool) : Rp (.bl b) (.bl b)
  | int (i : Int) : Rp (.int i) (.int i)
  | str (x : Str) : Rp (.str x) (.str x)
  | tup {a : Addr} {xs : List V} {ds : List D} : SqT K F a xs → RpA xs ds → Rp (.ref a) (.tup ds)
  | lst {a : Addr} {xs : List V} {ds : List D} : F a = some (.lst xs) → RpA xs ds → Rp (.ref a) (.lst ds)
  | lck {a : Addr} {xs : List V} {ds : List D} : SqL K F a xs → RpA xs ds → Rp (.ref a) (.lck ds)
inductive RpA : List V → List D → Prop
  | nil : RpA [] []
  | cons {v : V} {vs : List V} {d : D} {ds : List D} : Rp v d → RpA vs ds → RpA (v :: vs) (d :: ds)
end
end

theorem sameT {K : PySem.W.Frag} {H H' : Hp} {a : Addr} {xs : List V} (e : Same H H') (h : SqT K H a xs) : SqT K H' a xs := by
  rcases h with (h | ⟨o, h⟩) | h
  · exact .inl (.inl (e _ _ h))
  · exact .inl (.inr ⟨o, e _ _ h⟩)
  · exact .inr h
theorem sameL {K : PySem.W.Frag} {H H' : Hp} {a : Addr} {xs : List V} (e : Same H H') (h : SqL K H a xs) : SqL K H' a xs := e.seq h

section
variable {K : PySem.W.Frag} {F F' : Hp}
mutual
theorem Rp.mono (e : Same F F') : ∀ (d : D) (v : V), Rp K F v d → Rp K F' v d
  | .non, _, h => by cases h; exact .non
  | .bl b, _, h => by cases h; exact .bl b
  | .int b, _, h => by cases h; exact .int b
  | .str b, _, h => by cases h; exact .str b
  | .tup ds, _, h => by
    cases h with
    | tup h1 h2 => exact .tup (sameT e h1) (RpA.mono e ds _ h2)
  | .lst ds, _, h => by
    cases h with
    | lst h1 h2 => exact .lst (e _ _ h1) (RpA.mono e ds _ h2)
  | .lck ds, _, h => by
    cases h with
    | lck h1 h2 => exact .lck (sameL e h1) (RpA.mono e ds _ h2)
theorem RpA.mono (e : Same F F') : ∀ (ds : List D) (vs : List V), RpA K F vs ds → RpA K F' vs ds
  | [], _, h => by cases h; exact .nil
  | d :: ds, _, h => by
    cases h with
    | cons h1 h2 => exact .cons (Rp.mono e d _ h1) (RpA.mono e ds _ h2)
end
theorem Rp.up {v : V} {d : D} (h : Rp K F v d) (e : Same F F') : Rp K F' v d := Rp.mono e d v h
theorem RpA.up {vs : List V} {ds : List D} (h : RpA K F vs ds) (e : Same F F') : RpA K F' vs ds := RpA.mono e ds vs h
theorem RpA.len {vs : List V} {ds : List D} (h : RpA K F vs ds) : vs.length = ds.length := by
  induction ds generalizing vs with
  | nil => cases h; rfl
  | cons d ds ih =>
    cases h with
    | cons h1 h2 => rw [List.length_cons, List.length_cons, ih h2]
theorem RpA.get {vs : List V} {ds : List D} (h : RpA K F vs ds) {i : Nat} {v : V} (hv : vs[i]? = some v) : ∃ d, ds[i]? = some d ∧ Rp K F v d := by
  induction ds generalizing vs i with
  | nil => cases h; cases i <;> simp at hv
  | cons d ds ih =>
    cases h with
    | cons h1 h2 =>
      cases i with
      | zero => rw [List.getElem?_cons_zero] at hv; cases hv; exact ⟨d, rfl, h1⟩
      | succ i => simp only [List.getElem?_cons_succ] at hv; obtain ⟨e1, e, r⟩ := ih h2 hv; exact ⟨e1, e, r⟩
theorem RpA.get' {vs : List V} {ds : List D} (h : RpA K F vs ds) {i : Nat} {d : D} (hd : ds[i]? = some d) : ∃ v, vs[i]? = some v ∧ Rp K F v d := by
  have hl := h.len
  have hi : i < vs.length := by rw [hl]; exact (List.getElem?_eq_some_iff.mp hd).1
  obtain ⟨d', e, r⟩ := h.get (List.getElem?_eq_getElem hi)
  rw [hd] at e; cases e
  exact ⟨_, List.getElem?_eq_getElem hi, r⟩
theorem RpA.append {vs ws : List V} {ds es : List D} (h : RpA K F vs ds) (h' : RpA K F ws es) : RpA K F (vs ++ ws) (ds ++ es) := by
  induction ds generalizing vs with
  | nil => cases h; exact h'
  | cons d ds ih =>
    cases h with
    | cons h1 h2 => exact .cons h1 (ih h2)
theorem RpA.drop {vs : List V} {ds : List D} (h : RpA K F vs ds) (n : Nat) : RpA K F (vs.drop n) (ds.drop n) := by
  induction ds generalizing vs n with
  | nil => cases h; simp; exact .nil
  | cons d ds ih =>
    cases h with
    | cons h1 h2 =>
      cases n with
      | zero => exact .cons h1 h2
      | succ n => exact ih h2 n
theorem RpA.take {vs : List V} {ds : List D} (h : RpA K F vs ds) (n : Nat) : RpA K F (vs.take n) (ds.take n) := by
  induction ds generalizing vs n with
  | nil => cases h; simp; exact .nil
  | cons d ds ih =>
    cases h with
    | cons h1 h2 =>
      cases n with
      | zero => exact .nil
      | succ n => exact .cons h1 (ih h2 n)
theorem RpA.set {vs : List V} {ds : List D} {v : V} {d : D} (h : RpA K F vs ds) (hv : Rp K F v d) (n : Nat) : RpA K F (vs.set n v) (ds.set n d) := by
  induction ds generalizing vs n with
  | nil => cases h; simp; exact .nil
  | cons e ds ih =>
    cases h with
    | cons h1 h2 =>
      cases n with
      | zero => exact .cons hv h2
      | succ n => exact .cons h1 (ih h2 n)
theorem RpA.one {v : V} {d : D} (h : Rp K F v d) : RpA K F [v] [d] := .cons h .nil
end

/-! ### environments -/
inductive Sl where
  | fz (d : D) | ow (xs : List D) | pr (a : Addr) (xs : List D)
abbrev Env := List (Option Sl)
/-- slot i owns a list -/
def isOw : Option (Option Sl) → Prop
  | some (some (.ow _)) => True
  | some (some (.pr _ _)) => True
  | _ => False
def Own (ρ : Env) (σ : L2.St) (a : Addr) : Prop := ∃ i : Nat, isOw ρ[i]? ∧ σ[i]? = some (some (V.ref a))
def SlOk (K : PySem.W.Frag) (F H : Hp) : Option (Option Sl) → Option (Option V) → Prop
  | some (some (.fz d)), v => ∃ x, v = some (some x) ∧ Rp K F x d
  | some (some (.ow xs)), v => ∃ a vs, v = some (some (.ref a)) ∧ F a = none ∧ H a = some (.lst vs) ∧ RpA K F vs xs
  | some (some (.pr a xs)), v => ∃ vs, v = some (some (.ref a)) ∧ F a = none ∧ H a = some (.lst vs) ∧ RpA K F vs xs
  | _, _ => True
structure StOk (K : PySem.W.Frag) (F : Hp) (ρ : Env) (σ : L2.St) (H : Hp) : Prop where
  fh : Same F H
  len : ρ.length = σ.length
  sl : ∀ i : Nat, SlOk K F H ρ[i]? σ[i]?
  dis : ∀ (i j : Nat) (a : Addr), isOw ρ[i]? → isOw ρ[j]? → σ[i]? = some (some (V.ref a)) → σ[j]? = some (some (V.ref a)) → i = j
/-- from (F, H) to (F', H'): what is frozen stays; what is neither frozen nor owned stays; O' is owned behind -/
structure Step (O O' : Addr → Prop) (F H F' H' : Hp) : Prop where
  f : Same F F'
  keep : ∀ a, H a ≠ none → ¬ O a → F a = none → H' a = H a ∧ F' a = none
  own : ∀ a, O' a → O a ∨ H a = none
  dom : ∀ a, H a ≠ none → H' a ≠ none
theorem Step.refl {O : Addr → Prop} {F H : Hp} : Step O O F H F H := ⟨Same.refl F, fun _ _ _ h => ⟨rfl, h⟩, fun _ h => .inl h, fun _ h => h⟩
theorem Step.trans {O O1 O2 : Addr → Prop} {F H F1 H1 F2 H2 : Hp} (a : Step O O1 F H F1 H1) (b : Step O1 O2 F1 H1 F2 H2) : Step O O2 F H F2 H2 where
  f := a.f.trans b.f
  keep := fun x h1 h2 h3 => by
    obtain ⟨e1, e2⟩ := a.keep x h1 h2 h3
    have h4 : ¬ O1 x := fun z => (a.own x z).elim h2 h1
    obtain ⟨e3, e4⟩ := b.keep x (by rw [e1]; exact h1) h4 e2
    exact ⟨e3.trans e1, e4⟩
  own := fun x h => by
    rcases b.own x h with h | h
    · exact a.own x h
    · refine .inr ?_
      cases q : H x with
      | none => rfl
      | some o => exact absurd h (a.dom x (by rw [q]; simp))
  dom := fun x h => b.dom x (a.dom x h)
theorem Step.wk {O O' O2 : Addr → Prop} {F H F' H' : Hp} (a : Step O O' F H F' H') (h : ∀ x, O2 x → O' x) : Step O O2 F H F' H' := ⟨a.f, a.keep, fun x z => a.own x (h x z), a.dom⟩

section
variable {K : PySem.W.Frag} {F F' H H' : Hp} {ρ ρ' : Env} {σ : L2.St} {O : Addr → Prop}
/-- a new frozen object -/
theorem Same.updF {p : Addr} {o : HO} (e : Same F H) (hp : H p = none) : Same (upd F p o) (upd H p o) := fun b u h => by
  by_cases hb : b = p
  · subst hb; rw [upd_same] at h ⊢; exact h
  · rw [upd_ne hb] at h ⊢; exact e b u h
theorem Same.freeF {p : Addr} (e : Same F H) (hp : H p = none) : F p = none := e.free hp
theorem Same.toUpd {p : Addr} {o : HO} (hp : F p = none) : Same F (upd F p o) := fun b u h => by
  rw [upd_ne (ne_of_none h hp)]; exact h
theorem SlOk.mv {r : Option (Option Sl)} {v : Option (Option V)} (h : SlOk K F H r v) (ef : Same F F') (ek : ∀ a, v = some (some (.ref a)) → isOw r → F a = none → H' a = H a ∧ F' a = none) : SlOk K F' H' r v := by
  match r, h with
  | some (some (.fz d)), ⟨x, e, q⟩ => exact ⟨x, e, q.up ef⟩
  | some (some (.ow xs)), ⟨a, vs, e, f, hh, q⟩ =>
    obtain ⟨e1, e2⟩ := ek a e trivial f
    exact ⟨a, vs, e, e2, by rw [e1]; exact hh, q.up ef⟩
  | some (some (.pr a xs)), ⟨vs, e, f, hh, q⟩ =>
    obtain ⟨e1, e2⟩ := ek a e trivial f
    exact ⟨vs, e, e2, by rw [e1]; exact hh, q.up ef⟩
  | some none, _ => trivial
  | none, _ => trivial
/-- the environment stands when the heap grows by a step that touches nothing of it -/
theorem StOk.mv (S : StOk K F ρ σ H) (ef : Same F F') (eh : Same F' H') (ek : ∀ a, Own ρ σ a → F a = none → H' a = H a ∧ F' a = none) : StOk K F' ρ σ H' :=
  ⟨eh, S.len, fun i => (S.sl i).mv ef fun a e o f => ek a ⟨i, o, e⟩ f, S.dis⟩
/-- what a slot owns is in the heap -/
theorem SlOk.own {r : Option (Option Sl)} {v : Option (Option V)} {a : Addr} (h : SlOk K F H r v) (o : isOw r) (e : v = some (some (.ref a))) : F a = none ∧ ∃ vs, H a = some (.lst vs) := by
  match r, h, o with
  | some (some (.ow xs)), ⟨b, vs, e', f, hh, q⟩, _ =>
    have := e.symm.trans e'
    cases this
    exact ⟨f, vs, hh⟩
  | some (some (.pr b xs)), ⟨vs, e', f, hh, q⟩, _ =>
    have := e.symm.trans e'
    cases this
    exact ⟨f, vs, hh⟩
theorem StOk.own (S : StOk K F ρ σ H) {a : Addr} (h : Own ρ σ a) : F a = none ∧ ∃ vs, H a = some (.lst vs) := by
  obtain ⟨i, o, e⟩ := h
  exact (S.sl i).own o e
/-- a new frozen object: the step, the environment -/
theorem StOk.alloc (S : StOk K F ρ σ H) {p : Addr} {o : HO} (hp : H p = none) : Step (Own ρ σ) (Own ρ σ) F H (upd F p o) (upd H p o) ∧ StOk K (upd F p o) ρ σ (upd H p o) := by
  have fp : F p = none := S.fh.free hp
  have nep : ∀ a, H a ≠ none → a ≠ p := fun a h e => h (by rw [e]; exact hp)
  refine ⟨⟨Same.toUpd fp, fun a h1 _ h3 => ⟨upd_ne (nep a h1), by rw [upd_ne (nep a h1)]; exact h3⟩, fun _ h => .inl h, fun a h => by rw [upd_ne (nep a h)]; exact h⟩, ?_⟩
  refine S.mv (Same.toUpd fp) (Same.updF S.fh hp) fun a h f => ?_
  obtain ⟨_, vs, e⟩ := S.own h
  have n : a ≠ p := ne_of_none e hp
  exact ⟨upd_ne n, by rw [upd_ne n]; exact f⟩
theorem rp_tup {p : Addr} {xs : List V} {ds : List D} (fp : F p = none) (r : RpA K F xs ds) : Rp K (upd F p (.tup xs)) (.ref p) (.tup ds) := .tup (SqT.of upd_same) (r.up (Same.toUpd fp))
theorem rp_lst {p : Addr} {xs : List V} {ds : List D} (fp : F p = none) (r : RpA K F xs ds) : Rp K (upd F p (.lst xs)) (.ref p) (.lst ds) := .lst upd_same (r.up (Same.toUpd fp))
end

/-! ### the monad -/
/-- an exception: its class; its fields -/
structure Xc where
  cls : Value
  fs : Option (List (Str × D))
inductive R (α : Type) where
  | stuck | ok (a : α) (ρ : Env) | ex (c : Xc) (ρ : Env)
abbrev M (α : Type) := Env → R α
def pur {α : Type} (a : α) : M α := fun ρ => .ok a ρ
def bndR {α β : Type} (r : R α) (k : α → M β) : R β := match r with
  | .stuck => .stuck
  | .ok a ρ' => k a ρ'
  | .ex c ρ' => .ex c ρ'
def bnd {α β : Type} (m : M α) (k : α → M β) : M β := fun ρ => bndR (m ρ) k
def stk {α : Type} : M α := fun _ => .stuck
def lif {α : Type} (o : Option α) : M α := fun ρ => match o with
  | some a => .ok a ρ
  | none => .stuck
/-- no exception gets through -/
def nox {α : Type} (m : M α) : M α := fun ρ => match m ρ with
  | .ex _ _ => .stuck
  | r => r
def XOk (K : PySem.W.Frag) (c : Xc) (cls : Value) (od : Option Addr) (F : Hp) : Prop := cls = c.cls ∧ match c.fs, od with
  | none, none => True
  | some l, some d => ∃ vs : List (Str × V), F d = some (.xd vs) ∧ Paired (fun (p : Str × V) (q : Str × D) => p.1 = q.1 ∧ Rp K F p.2 q.2) vs l
  | _, _ => False

abbrev EX := L2.St → XK
/-- what a transformer P does, said by the result r; (ρ, F, H) is where it began -/
def At {α β : Type} (K : PySem.W.Frag) (E : EX) (σ : L2.St) (P : (β → Hp → Prop) → Prop) (r : R α) (Rel : Hp → Hp → β → α → Prop) (ext : β → Addr → Prop) (ρ : Env) (F H : Hp) : Prop :=
  match r with
  | .stuck => True
  | .ok a ρ' => ∀ Q : β → Hp → Prop, (∀ b F' H', Step (Own ρ σ) (fun x => Own ρ' σ x ∨ ext b x) F H F' H' → StOk K F' ρ' σ H' → Rel F' H' b a → Q b H') → P Q
  | .ex c ρ' => ∀ Q : β → Hp → Prop, (∀ F' H' cls od, Step (Own ρ σ) (Own ρ' σ) F H F' H' → StOk K F' ρ' σ H' → XOk K c cls od F' → E σ cls od H') → P Q
abbrev no {β : Type} : β → Addr → Prop := fun _ _ => False
def Snd {α β : Type} (K : PySem.W.Frag) (E : EX) (σ : L2.St) (T : Hp → (β → Hp → Prop) → Prop) (m : M α) (Rel : Hp → Hp → β → α → Prop) (ext : β → Addr → Prop) : Prop :=
  ∀ ρ F H, StOk K F ρ σ H → At K E σ (T H) (m ρ) Rel ext ρ F H
section
variable {α β γ δ : Type} {K : PySem.W.Frag} {E : EX} {σ : L2.St} {ρ ρ1 : Env} {F H F1 H1 : Hp}
theorem At.pre {P : (β → Hp → Prop) → Prop} {r : R α} {Rel : Hp → Hp → β → α → Prop} {ext : β → Addr → Prop} (s : Step (Own ρ σ) (Own ρ1 σ) F H F1 H1) (h : At K E σ P r Rel ext ρ1 F1 H1) : At K E σ P r Rel ext ρ F H := by
  cases r with
  | stuck => trivial
  | ok a ρ' => exact fun Q k => h Q fun b F' H' s' S q => k b F' H' (s.trans s') S q
  | ex c ρ' => exact fun Q k => h Q fun F' H' cls od s' S q => k F' H' cls od (s.trans s') S q
theorem Step.noext {O : Addr → Prop} {ρ' : Env} {b : β} {F H F' H' : Hp} (s : Step O (fun x => Own ρ' σ x ∨ no b x) F H F' H') : Step O (Own ρ' σ) F H F' H' := s.wk fun _ h => .inl h
theorem Step.addext {O : Addr → Prop} {ρ' : Env} {b : β} {F H F' H' : Hp} (s : Step O (Own ρ' σ) F H F' H') : Step O (fun x => Own ρ' σ x ∨ no b x) F H F' H' := s.wk fun _ h => h.elim id False.elim
theorem At.bind {P1 : (β → Hp → Prop) → Prop} {T2 : β → Hp → (γ → Hp → Prop) → Prop} {r : R α} {k : α → M δ} {Rel1 : Hp → Hp → β → α → Prop} {Rel2 : Hp → Hp → γ → δ → Prop} {ext : γ → Addr → Prop}
    (h1 : At K E σ P1 r Rel1 no ρ F H) (h2 : ∀ b a ρ1 F1 H1, Step (Own ρ σ) (Own ρ1 σ) F H F1 H1 → Rel1 F1 H1 b a → StOk K F1 ρ1 σ H1 → At K E σ (T2 b H1) (k a ρ1) Rel2 ext ρ1 F1 H1) :
    At K E σ (fun Q => P1 fun b H1 => T2 b H1 Q) (bndR r k) Rel2 ext ρ F H := by
  cases r with
  | stuck => trivial
  | ex c ρ' => exact fun Q q => h1 _ q
  | ok a ρ' =>
    show At K E σ _ (k a ρ') Rel2 ext ρ F H
    have h3 : ∀ b F1 H1, Step (Own ρ σ) (Own ρ' σ) F H F1 H1 → Rel1 F1 H1 b a → StOk K F1 ρ' σ H1 → At K E σ (T2 b H1) (k a ρ') Rel2 ext ρ F H := fun b F1 H1 s r S => (h2 b a ρ' F1 H1 s r S).pre s
    generalize k a ρ' = r2 at h3
    cases r2 with
    | stuck => trivial
    | ok d ρ2 => exact fun Q q => h1 _ fun b F1 H1 s S r1 => h3 b F1 H1 s.noext r1 S Q q
    | ex c ρ2 => exact fun Q q => h1 _ fun b F1 H1 s S r1 => h3 b F1 H1 s.noext r1 S Q q
theorem Snd.bind {T1 : Hp → (β → Hp → Prop) → Prop} {T2 : β → Hp → (γ → Hp → Prop) → Prop} {m : M α} {k : α → M δ} {Rel1 : Hp → Hp → β → α → Prop} {Rel2 : Hp → Hp → γ → δ → Prop} {ext : γ → Addr → Prop}
    (h1 : Snd K E σ T1 m Rel1 no) (h2 : ∀ b a ρ F H, Rel1 F H b a → StOk K F ρ σ H → At K E σ (T2 b H) (k a ρ) Rel2 ext ρ F H) : Snd K E σ (fun H Q => T1 H fun b H1 => T2 b H1 Q) (bnd m k) Rel2 ext :=
  fun ρ F H S => At.bind (h1 ρ F H S) fun b a ρ1 F1 H1 _ r S1 => h2 b a ρ1 F1 H1 r S1
/-- a value, the state as it is -/
theorem At.now {P : (β → Hp → Prop) → Prop} {Rel : Hp → Hp → β → α → Prop} {a : α} (S : StOk K F ρ σ H) (h : ∀ Q : β → Hp → Prop, (∀ b, Rel F H b a → Q b H) → P Q) : At K E σ P (.ok a ρ) Rel no ρ F H :=
  fun Q q => h Q fun b r => q b F H Step.refl.addext S r
/-- weaken what is said of the result -/
theorem At.mono {P : (β → Hp → Prop) → Prop} {r : R α} {Rel Rel' : Hp → Hp → β → α → Prop} {ext : β → Addr → Prop} (h : At K E σ P r Rel ext ρ F H) (hr : ∀ F' H' b a, Same F F' → Rel F' H' b a → Rel' F' H' b a) : At K E σ P r Rel' ext ρ F H := by
  cases r with
  | stuck => trivial
  | ex c ρ' => exact h
  | ok a ρ' => exact fun Q q => h Q fun b F' H' s S r => q b F' H' s S (hr F' H' b a s.f r)
end
end Ly

set_option Elab.async false
set_option linter.all false
set_option maxRecDepth 100000
set_option maxHeartbeats 2000000
namespace Ly
open PySem L2

/-! ### growth by frozen (or forgotten) objects -/
structure Gr (F H F' H' : Hp) : Prop where
  f : Same F F'
  fh : Same F' H'
  keep : ∀ a, H a ≠ none → H' a = H a ∧ (F a = none → F' a = none)
section
variable {K : PySem.W.Frag} {F F' H H' : Hp} {ρ ρ' : Env} {σ : L2.St}
theorem Gr.refl (e : Same F H) : Gr F H F H := ⟨Same.refl F, e, fun _ _ => ⟨rfl, id⟩⟩
theorem Gr.new {p : Addr} {o : HO} (e : Same F H) (hp : H p = none) : Gr F H (upd F p o) (upd H p o) :=
  ⟨Same.toUpd (e.free hp), Same.updF e hp, fun a h => by
    have n : a ≠ p := fun z => h (by rw [z]; exact hp)
    exact ⟨upd_ne n, fun q => by rw [upd_ne n]; exact q⟩⟩
/-- an object that is forgotten at once -/
theorem Gr.drop {p : Addr} {o : HO} (e : Same F H) (hp : H p = none) : Gr F H F (upd H p o) :=
  ⟨Same.refl F, fun b u h => by rw [upd_ne (ne_of_none (e b u h) hp)]; exact e b u h, fun a h => by
    have n : a ≠ p := fun z => h (by rw [z]; exact hp)
    exact ⟨upd_ne n, id⟩⟩
theorem Gr.trans {F1 H1 : Hp} (a : Gr F H F1 H1) (b : Gr F1 H1 F' H') : Gr F H F' H' :=
  ⟨a.f.trans b.f, b.fh, fun x h => by
    obtain ⟨e1, q1⟩ := a.keep x h
    obtain ⟨e2, q2⟩ := b.keep x (by rw [e1]; exact h)
    exact ⟨e2.trans e1, fun z => q2 (q1 z)⟩⟩
theorem StOk.gr (S : StOk K F ρ σ H) (g : Gr F H F' H') : Step (Own ρ σ) (Own ρ σ) F H F' H' ∧ StOk K F' ρ σ H' := by
  refine ⟨⟨g.f, fun a h _ f => ⟨(g.keep a h).1, (g.keep a h).2 f⟩, fun _ h => .inl h, fun a h => by rw [(g.keep a h).1]; exact h⟩, S.mv g.f g.fh fun a h f => ?_⟩
  obtain ⟨_, vs, e⟩ := S.own h
  have n : H a ≠ none := by rw [e]; simp
  exact ⟨(g.keep a n).1, (g.keep a n).2 f⟩
end

abbrev RelD (K : PySem.W.Frag) : Hp → Hp → V → D → Prop := fun F _ v d => Rp K F v d
abbrev RelA (K : PySem.W.Frag) : Hp → Hp → List V → List D → Prop := fun F _ v d => RpA K F v d
abbrev RelB : Hp → Hp → Bool → Bool → Prop := fun _ _ b a => b = a
/-- X: a family of contexts over one written part K (a def's body; a comprehension's blocks) -/
structure DE {ι : Type} (X : ι → Cx) (K : PySem.W.Frag) (E : EX) (e : Expr) (m : M D) : Prop where
  ex : ∃ t : TE, (∀ i, PE (X i) e t) ∧ ∀ σ, Snd K E σ (t σ) m (RelD K) no
structure DT {ι : Type} (X : ι → Cx) (K : PySem.W.Frag) (E : EX) (e : Expr) (m : M Bool) : Prop where
  ex : ∃ t : TT, (∀ i, PT (X i) e t) ∧ ∀ σ, Snd K E σ (t σ) m RelB no
/-- a test whatever its whole is -/
structure DW {ι : Type} (X : ι → Cx) (K : PySem.W.Frag) (E : EX) (e : Expr) (m : M Bool) : Prop where
  ex : ∃ t : TT, (∀ i, PW (X i) e t) ∧ ∀ σ, Snd K E σ (t σ) m RelB no
structure DA {ι : Type} (X : ι → Cx) (K : PySem.W.Frag) (E : EX) (es : List Expr) (m : M (List D)) : Prop where
  ex : ∃ t : TA, (∀ i, PA (X i) es t) ∧ ∀ σ, Snd K E σ (t σ) m (RelA K) no

section
variable {α β : Type} {K : PySem.W.Frag} {E : EX} {σ : L2.St} {ρ : Env} {F H : Hp}
/-- a value by growth -/
theorem at_gr {P : (β → Hp → Prop) → Prop} {Rel : Hp → Hp → β → α → Prop} {o : Option α} (S : StOk K F ρ σ H)
    (h : ∀ z, o = some z → ∀ Q : β → Hp → Prop, (∀ v F' H', Gr F H F' H' → Rel F' H' v z → Q v H') → P Q) : At K E σ P (lif o ρ) Rel no ρ F H := by
  cases o with
  | none => trivial
  | some z => exact fun Q q => h z rfl Q fun v F' H' g r => q v F' H' (S.gr g).1.addext (S.gr g).2 r
theorem at_pur {P : (β → Hp → Prop) → Prop} {Rel : Hp → Hp → β → α → Prop} {a : α} (S : StOk K F ρ σ H)
    (h : ∀ Q : β → Hp → Prop, (∀ v F' H', Gr F H F' H' → Rel F' H' v a → Q v H') → P Q) : At K E σ P (pur a ρ) Rel no ρ F H :=
  fun Q q => h Q fun v F' H' g r => q v F' H' (S.gr g).1.addext (S.gr g).2 r
end

/-! ### operations by values -/
/-- r does what f says; (new objects are frozen) -/
structure ValR (K : PySem.W.Frag) (r : R2) (f : D → D → Option D) : Prop where
  run : ∀ F H x y d e z, Same F H → Rp K F x d → Rp K F y e → f d e = some z → ∀ Q : VK, (∀ v F' H', Gr F H F' H' → Rp K F' v z → Q v H') → r x y H Q
structure ValC (K : PySem.W.Frag) (r : List V → Hp → VK → Prop) (f : List D → Option D) : Prop where
  run : ∀ F H xs ds z, Same F H → RpA K F xs ds → f ds = some z → ∀ Q : VK, (∀ v F' H', Gr F H F' H' → Rp K F' v z → Q v H') → r xs H Q
def bin (f : D → D → Option D) (a b : M D) : M D := bnd a fun x => bnd b fun y => lif (f x y)
section
variable {K : PySem.W.Frag} {E : EX}
theorem snd_bin {r : R2} {f : D → D → Option D} {ta tb : TE} {ma mb : M D} (hv : ValR K r f) (ha : ∀ σ, Snd K E σ (ta σ) ma (RelD K) no) (hb : ∀ σ, Snd K E σ (tb σ) mb (RelD K) no) (σ : L2.St) :
    Snd K E σ (tOp r ta tb σ) (bin f ma mb) (RelD K) no :=
  Snd.bind (T1 := ta σ) (T2 := fun x H1 Q => tb σ H1 fun y H2 => r x y H2 Q) (ha σ) fun x d ρ F H rx S => At.bind (P1 := tb σ H) (T2 := fun y H2 Q => r x y H2 Q) (hb σ ρ F H S) fun y e ρ1 F1 H1 st ry S1 =>
    at_gr S1 fun z hz Q q => hv.run F1 H1 x y d e z S1.fh (Rp.up rx st.f) ry hz Q q
theorem snd_call {r : List V → Hp → VK → Prop} {f : List D → Option D} {ta : TA} {ma : M (List D)} (hv : ValC K r f) (ha : ∀ σ, Snd K E σ (ta σ) ma (RelA K) no) (σ : L2.St) :
    Snd K E σ (tCB r ta σ) (bnd ma fun ds => lif (f ds)) (RelD K) no :=
  Snd.bind (T1 := ta σ) (T2 := fun vs H1 Q => r vs H1 Q) (ha σ) fun x d ρ F H rx S => at_gr S fun z hz Q q => hv.run F H x d z S.fh rx hz Q q
end
def tst (m : M D) : M Bool := bnd m fun d => match d with
  | .bl b => pur b
  | _ => stk
section
variable {K : PySem.W.Frag} {E : EX}
theorem snd_tst {t : TE} {m : M D} (h : ∀ σ, Snd K E σ (t σ) m (RelD K) no) (σ : L2.St) : Snd K E σ (tTest t σ) (tst m) RelB no :=
  Snd.bind (T1 := t σ) (T2 := fun x H' Q => ∃ k, x = .bl k ∧ Q k H') (h σ) fun x d ρ F H rx S => by
    cases d with
    | bl b =>
      cases rx
      exact fun Q q => ⟨b, rfl, q b F H Step.refl.addext S rfl⟩
    | _ => trivial
theorem snd_B {t : TE} {m : M D} (h : ∀ σ, Snd K E σ (t σ) m (RelD K) no) (σ : L2.St) : Snd K E σ (tB t σ) (tst m) RelB no := snd_tst h σ
end

section
variable {ι : Type} {X : ι → Cx} {K : PySem.W.Frag} {E : EX} {a b c e : Expr} {ma mb mc : M D} {pos : Pos}
theorem de_op {op : Operator} {r : R2} {f : D → D → Option D} (ho : ∀ i, OpR (X i) (binaryOp op) r) (hv : ValR K r f) (ha : DE X K E a ma) (hb : DE X K E b mb) : DE X K E (.BinOp a op b pos) (bin f ma mb) := by
  obtain ⟨ta, pa, sa⟩ := ha.ex
  obtain ⟨tb, pb, sb⟩ := hb.ex
  exact ⟨_, fun i => pe_op (ho i) (pa i) (pb i), snd_bin hv sa sb⟩
theorem de_cmp {op : CmpOp} {r : R2} {f : D → D → Option D} (ho : ∀ i, OpR (X i) (compareOp op) r) (hv : ValR K r f) (ha : DE X K E a ma) (hb : DE X K E b mb)
    (hm : behindInMarks op b = false := by first | exact nobehind _ (by decide) (by decide) | with_unfolding_all rfl) : DE X K E (.Compare a [op] [b] pos) (bin f ma mb) := by
  obtain ⟨ta, pa, sa⟩ := ha.ex
  obtain ⟨tb, pb, sb⟩ := hb.ex
  exact ⟨_, fun i => pe_cmpR (ho i) (pa i) (pb i) hm, snd_bin hv sa sb⟩
theorem dt_cmp {op : CmpOp} {r : R2} {f : D → D → Option D} (ho : ∀ i, OpR (X i) (compareOp op) r) (hv : ValR K r f) (ha : DE X K E a ma) (hb : DE X K E b mb)
    (hm : behindInMarks op b = false := by first | exact nobehind _ (by decide) (by decide) | with_unfolding_all rfl) : DT X K E (.Compare a [op] [b] pos) (tst (bin f ma mb)) := by
  obtain ⟨ta, pa, sa⟩ := ha.ex
  obtain ⟨tb, pb, sb⟩ := hb.ex
  exact ⟨_, fun i => pt_cmpR (ho i) (pa i) (pb i) hm, snd_tst (snd_bin hv sa sb)⟩
theorem dt_val (h : DE X K E e ma) (he : ∀ i whole, isTrue e (X i).env whole = (do let v ← whole; standAt e.pos; holding [v] (truthy v)) := by intro _ _; rfl) : DT X K E e (tst ma) := by
  obtain ⟨t, p, s⟩ := h.ex
  exact ⟨_, fun i => pt_val (p i) (he i), snd_B s⟩

/-! ### choices -/
/-- a choice between two ways -/
theorem at_ite {α β : Type} {K : PySem.W.Frag} {σ : L2.St} {ρ : Env} {F H : Hp} {k : Bool} {P1 P2 : (β → Hp → Prop) → Prop} {r1 r2 : R α} {Rel : Hp → Hp → β → α → Prop} {ext : β → Addr → Prop}
    (h1 : k = true → At K E σ P1 r1 Rel ext ρ F H) (h2 : k = false → At K E σ P2 r2 Rel ext ρ F H) : At K E σ (fun Q => if k = true then P1 Q else P2 Q) (if k = true then r1 else r2) Rel ext ρ F H := by
  cases k with
  | true => simpa using h1 rfl
  | false => simpa using h2 rfl
theorem at_cast {α β : Type} {K : PySem.W.Frag} {σ : L2.St} {ρ : Env} {F H : Hp} {P P' : (β → Hp → Prop) → Prop} {r : R α} {Rel : Hp → Hp → β → α → Prop} {ext : β → Addr → Prop}
    (h : At K E σ P r Rel ext ρ F H) (hp : ∀ Q, P Q → P' Q) : At K E σ P' r Rel ext ρ F H := by
  cases r with
  | stuck => trivial
  | ok a ρ' => exact fun Q q => hp Q (h Q q)
  | ex c ρ' => exact fun Q q => hp Q (h Q q)
def iteM {α : Type} (k : Bool) (a b : M α) : M α := fun ρ => if k = true then a ρ else b ρ
/-- a op1 b op2 c -/
def chn (f g : D → D → Option D) (a b c : M D) : M D := bnd a fun x => bnd b fun y => bnd (lif (f x y)) fun z => match z with
  | .bl k => iteM k (bnd c fun w => lif (g y w)) (pur (.bl false))
  | _ => stk
theorem snd_chn {K : PySem.W.Frag} {r r' : R2} {f g : D → D → Option D} {ta tb tc : TE} (hv : ValR K r f) (hw : ValR K r' g) (ha : ∀ σ, Snd K E σ (ta σ) ma (RelD K) no) (hb : ∀ σ, Snd K E σ (tb σ) mb (RelD K) no) (hc : ∀ σ, Snd K E σ (tc σ) mc (RelD K) no) (σ : L2.St) :
    Snd K E σ (tChain r r' ta tb tc σ) (chn f g ma mb mc) (RelD K) no :=
  Snd.bind (T1 := ta σ) (T2 := fun x H1 Q => tb σ H1 fun y H2 => r x y H2 fun z H3 => ∃ k, z = .bl k ∧ (if k = true then tc σ H3 fun w' H4 => r' y w' H4 Q else Q (.bl false) H3)) (ha σ) fun x d ρ F H rx S =>
    At.bind (P1 := tb σ H) (T2 := fun y H2 Q => r x y H2 fun z H3 => ∃ k, z = .bl k ∧ (if k = true then tc σ H3 fun w' H4 => r' y w' H4 Q else Q (.bl false) H3)) (hb σ ρ F H S) fun y e ρ1 F1 H1 st ry S1 =>
      At.bind (P1 := r x y H1) (T2 := fun z H3 Q => ∃ k, z = .bl k ∧ (if k = true then tc σ H3 fun w' H4 => r' y w' H4 Q else Q (.bl false) H3)) (Rel1 := RelD K)
        (at_gr S1 fun z hz Q q => hv.run F1 H1 x y d e z S1.fh (Rp.up rx st.f) ry hz Q q) fun z' z ρ2 F2 H2 st2 rz S2 => by
          cases z with
          | bl k =>
            cases rz
            refine at_cast (P := fun Q => if k = true then tc σ H2 fun w' H4 => r' y w' H4 Q else Q (.bl false) H2) ?_ fun Q h => ⟨k, rfl, h⟩
            refine at_ite (fun _ => ?_) fun _ => At.now S2 fun Q q => q _ (.bl false)
            exact At.bind (P1 := tc σ H2) (T2 := fun w' H4 Q => r' y w' H4 Q) (hc σ ρ2 F2 H2 S2) fun w' w ρ3 F3 H3 st3 rw' S3 =>
              at_gr S3 fun z hz Q q => hw.run F3 H3 y w' e w z S3.fh (Rp.up ry (st2.f.trans st3.f)) rw' hz Q q
          | _ => trivial
theorem de_chn {op op' : CmpOp} {r r' : R2} {f g : D → D → Option D} (ho : ∀ i, OpR (X i) (compareOp op) r) (hv : ValR K r f) (ho' : ∀ i, OpR (X i) (compareOp op') r') (hw : ValR K r' g) (ha : DE X K E a ma) (hb : DE X K E b mb) (hc : DE X K E c mc)
    (hm : lastMarks [op, op'] [b, c] = false := by with_unfolding_all rfl) : DE X K E (.Compare a [op, op'] [b, c] pos) (chn f g ma mb mc) := by
  obtain ⟨ta, pa, sa⟩ := ha.ex
  obtain ⟨tb, pb, sb⟩ := hb.ex
  obtain ⟨tc, pc, sc⟩ := hc.ex
  exact ⟨_, fun i => pe_chain (ho i) (ho' i) (pa i) (pb i) (pc i) hm, snd_chn hv hw sa sb sc⟩
theorem dt_chn {op op' : CmpOp} {r r' : R2} {f g : D → D → Option D} (ho : ∀ i, OpR (X i) (compareOp op) r) (hv : ValR K r f) (ho' : ∀ i, OpR (X i) (compareOp op') r') (hw : ValR K r' g) (ha : DE X K E a ma) (hb : DE X K E b mb) (hc : DE X K E c mc)
    (hm : lastMarks [op, op'] [b, c] = false := by with_unfolding_all rfl) : DT X K E (.Compare a [op, op'] [b, c] pos) (tst (chn f g ma mb mc)) := by
  obtain ⟨ta, pa, sa⟩ := ha.ex
  obtain ⟨tb, pb, sb⟩ := hb.ex
  obtain ⟨tc, pc, sc⟩ := hc.ex
  exact ⟨_, fun i => pt_chain (ho i) (ho' i) (pa i) (pb i) (pc i) hm, snd_tst (snd_chn hv hw sa sb sc)⟩

variable {na nb nt : M Bool} {rest : List Expr}
def andT (a b : M Bool) : M Bool := bnd a fun k => iteM k b (pur false)
def orT (a b : M Bool) : M Bool := bnd a fun k => iteM k (pur true) b
theorem snd_andT {K : PySem.W.Frag} {t u : TT} (ha : ∀ σ, Snd K E σ (t σ) na RelB no) (hb : ∀ σ, Snd K E σ (u σ) nb RelB no) (σ : L2.St) : Snd K E σ (tAnd t u σ) (andT na nb) RelB no :=
  Snd.bind (T1 := t σ) (T2 := fun c H1 Q => if c = true then u σ H1 Q else Q false H1) (ha σ) fun k k' ρ F H rx S => by
    cases rx
    exact at_ite (fun _ => hb σ ρ F H S) fun _ => At.now S fun Q q => q _ rfl
theorem snd_orT {K : PySem.W.Frag} {t u : TT} (ha : ∀ σ, Snd K E σ (t σ) na RelB no) (hb : ∀ σ, Snd K E σ (u σ) nb RelB no) (σ : L2.St) : Snd K E σ (tOr t u σ) (orT na nb) RelB no :=
  Snd.bind (T1 := t σ) (T2 := fun c H1 Q => if c = true then Q true H1 else u σ H1 Q) (ha σ) fun k k' ρ F H rx S => by
    cases rx
    exact at_ite (P1 := fun Q => Q true H) (fun _ => At.now S fun Q q => q _ rfl) fun _ => hb σ ρ F H S
theorem dw_and1 (ha : DT X K E a na) : DW X K E (.BoolOp .And [a] pos) na := by
  obtain ⟨t, p, s⟩ := ha.ex
  exact ⟨_, fun i => pw_and1 (p i), s⟩
theorem dw_or1 (ha : DT X K E a na) : DW X K E (.BoolOp .Or [a] pos) na := by
  obtain ⟨t, p, s⟩ := ha.ex
  exact ⟨_, fun i => pw_or1 (p i), s⟩
theorem dw_and (ha : DT X K E a na) (hb : DW X K E (.BoolOp .And (b :: rest) pos) nb) : DW X K E (.BoolOp .And (a :: b :: rest) pos) (andT na nb) := by
  obtain ⟨t, p, s⟩ := ha.ex
  obtain ⟨u, q, s'⟩ := hb.ex
  exact ⟨_, fun i => pw_and (p i) (q i), snd_andT s s'⟩
theorem dw_or (ha : DT X K E a na) (hb : DW X K E (.BoolOp .Or (b :: rest) pos) nb) : DW X K E (.BoolOp .Or (a :: b :: rest) pos) (orT na nb) := by
  obtain ⟨t, p, s⟩ := ha.ex
  obtain ⟨u, q, s'⟩ := hb.ex
  exact ⟨_, fun i => pw_or (p i) (q i), snd_orT s s'⟩
theorem dt_w (h : DW X K E e na) : DT X K E e na := by
  obtain ⟨t, p, s⟩ := h.ex
  exact ⟨_, fun i => (p i).pt, s⟩
def notT (a : M Bool) : M Bool := bnd a fun k => pur (!k)
theorem dt_not (ha : DT X K E a na) : DT X K E (.UnaryOp .Not a pos) (notT na) := by
  obtain ⟨t, p, s⟩ := ha.ex
  exact ⟨_, fun i => pt_not (p i), fun σ => Snd.bind (T1 := t σ) (T2 := fun c H1 Q => Q (!c) H1) (s σ) fun k k' ρ F H rx S => by cases rx; exact At.now S fun Q q => q _ rfl⟩
/-- .. as values -/
def andV (a b : M D) : M D := bnd (tst a) fun k => iteM k b (pur (.bl false))
def orV (a b : M D) : M D := bnd (tst a) fun k => iteM k (pur (.bl true)) b
def notV (a : M D) : M D := bnd (tst a) fun k => pur (.bl (!k))
theorem snd_bl {α : Type} {K : PySem.W.Frag} {t : TE} {T2 : Bool → Hp → (V → Hp → Prop) → Prop} {k : Bool → M D} (h : ∀ σ, Snd K E σ (t σ) ma (RelD K) no) (σ : L2.St)
    (h2 : ∀ c ρ F H, StOk K F ρ σ H → At K E σ (T2 c H) (k c ρ) (RelD K) no ρ F H) : Snd K E σ (fun H Q => t σ H fun x H1 => ∃ c, x = .bl c ∧ T2 c H1 Q) (bnd (tst ma) k) (RelD K) no := fun ρ F H S => by
  have := Snd.bind (T1 := tTest t σ) (T2 := T2) (Rel2 := RelD K) (ext := no) (snd_tst h σ) (fun c c' ρ F H rx S => by cases rx; exact h2 c ρ F H S) ρ F H S
  exact this
theorem de_one {op : BoolOp} (ha : DE X K E a ma) : DE X K E (.BoolOp op [a] pos) ma := by
  obtain ⟨t, p, s⟩ := ha.ex
  exact ⟨_, fun i => pe_one (p i), s⟩
theorem de_and (ha : DE X K E a ma) (hb : DE X K E (.BoolOp .And (b :: rest) pos) mb) : DE X K E (.BoolOp .And (a :: b :: rest) pos) (andV ma mb) := by
  obtain ⟨t, p, s⟩ := ha.ex
  obtain ⟨u, q, s'⟩ := hb.ex
  exact ⟨_, fun i => pe_and (p i) (q i), fun σ => snd_bl (α := D) (T2 := fun c H1 Q => if c = true then u σ H1 Q else Q (.bl false) H1) s σ fun c ρ F H S => at_ite (fun _ => s' σ ρ F H S) fun _ => At.now S fun Q q => q _ (.bl false)⟩
theorem de_or (ha : DE X K E a ma) (hb : DE X K E (.BoolOp .Or (b :: rest) pos) mb) : DE X K E (.BoolOp .Or (a :: b :: rest) pos) (orV ma mb) := by
  obtain ⟨t, p, s⟩ := ha.ex
  obtain ⟨u, q, s'⟩ := hb.ex
  exact ⟨_, fun i => pe_or (p i) (q i), fun σ => snd_bl (α := D) (T2 := fun c H1 Q => if c = true then Q (.bl true) H1 else u σ H1 Q) s σ fun c ρ F H S => at_ite (P1 := fun Q => Q (.bl true) H) (fun _ => At.now S fun Q q => q _ (.bl true)) fun _ => s' σ ρ F H S⟩
theorem de_not (ha : DE X K E a ma) : DE X K E (.UnaryOp .Not a pos) (notV ma) := by
  obtain ⟨t, p, s⟩ := ha.ex
  exact ⟨_, fun i => pe_not (p i), fun σ => snd_bl (α := D) (T2 := fun c H1 Q => Q (.bl (!c)) H1) s σ fun c ρ F H S => At.now S fun Q q => q _ (.bl _)⟩
def ifE (c : M Bool) (a b : M D) : M D := bnd c fun k => iteM k a b
theorem de_if (hc : DT X K E c nt) (ha : DE X K E a ma) (hb : DE X K E b mb) : DE X K E (.IfExp c a b pos) (ifE nt ma mb) := by
  obtain ⟨t, p, s⟩ := hc.ex
  obtain ⟨ta, pa, sa⟩ := ha.ex
  obtain ⟨tb, pb, sb⟩ := hb.ex
  exact ⟨_, fun i => pe_ifExp (p i) (pa i) (pb i), fun σ => Snd.bind (T1 := t σ) (T2 := fun c H1 Q => if c = true then ta σ H1 Q else tb σ H1 Q) (s σ) fun k k' ρ F H rx S => by cases rx; exact at_ite (fun _ => sa σ ρ F H S) fun _ => sb σ ρ F H S⟩

/-! ### names, constants, displays -/
theorem de_int {i j} : DE X K E (.Constant (.int i) j pos) (pur (.int i)) := ⟨_, fun _ => pe_int, fun _ _ _ _ S => At.now S fun _ q => q _ (.int i)⟩
theorem de_bl {i j} : DE X K E (.Constant (.bool i) j pos) (pur (.bl i)) := ⟨_, fun _ => pe_bl, fun _ _ _ _ S => At.now S fun _ q => q _ (.bl i)⟩
theorem de_non {j} : DE X K E (.Constant .none j pos) (pur .non) := ⟨_, fun _ => pe_non, fun _ _ _ _ S => At.now S fun _ q => q _ .non⟩
theorem de_str {i j} : DE X K E (.Constant (.str i) j pos) (pur (.str i)) := ⟨_, fun _ => pe_str, fun _ _ _ _ S => At.now S fun _ q => q _ (.str i)⟩
/-- a constant of the module -/
structure Glo (K : PySem.W.Frag) (mg : Str → Option Value) (x : Str) (d : D) : Prop where
  ex : ∃ u v, mg x = some u ∧ RelV v u ∧ ∀ F, Rp K F v d
theorem de_glob {x : Str} {d : D} {mg : Str → Option Value} (h : Glo K mg x d) (hmg : ∀ i, (X i).mg = mg := by intro _; rfl) (hg : ∀ i, Gl (X i) x := by intro _; rfl) (hd : (x == ("__debug__" : Str)) = false := by decide) : DE X K E (.Name x pos) (pur d) := by
  obtain ⟨u, v, hm, r, q⟩ := h.ex
  exact ⟨_, fun i => pe_glob (hg i) (by rw [hmg i]; exact hm) r hd, fun _ _ F _ S => At.now S fun _ k => k v (q F)⟩
theorem da_nil : DA X K E [] (pur []) := ⟨_, fun _ => pa_nil, fun _ _ _ _ S => At.now S fun _ q => q _ .nil⟩
def consM (a : M D) (b : M (List D)) : M (List D) := bnd a fun x => bnd b fun xs => pur (x :: xs)
theorem da_cons {es : List Expr} {ms : M (List D)} (ha : DE X K E a ma) (hr : DA X K E es ms) (hs : ∀ i, starEach (a :: es) (X i).env = (false, eval a (X i).env) :: starEach es (X i).env := by intro _; rfl) : DA X K E (a :: es) (consM ma ms) := by
  obtain ⟨t, p, s⟩ := ha.ex
  obtain ⟨u, q, s'⟩ := hr.ex
  refine ⟨_, fun i => pa_cons (p i) (q i) (hs i), fun σ => Snd.bind (T1 := t σ) (T2 := fun x H1 Q => u σ H1 fun xs H2 => Q (x :: xs) H2) (s σ) fun x d ρ F H rx S => ?_⟩
  exact At.bind (P1 := u σ H) (T2 := fun xs H2 Q => Q (x :: xs) H2) (s' σ ρ F H S) fun xs ds ρ1 F1 H1 st rxs S1 => At.now S1 fun Q q => q _ (.cons (Rp.up rx st.f) rxs)
def szOk (ds : List D) : Bool := decide (ds.length ≤ sizeLine)
def tupM (m : M (List D)) : M D := bnd m fun ds => iteM (szOk ds) (pur (.tup ds)) stk
def lstM (m : M (List D)) : M D := bnd m fun ds => iteM (szOk ds) (pur (.lst ds)) stk
theorem de_tup {es : List Expr} {ms : M (List D)} {x1} (h : DA X K E es ms) : DE X K E (.Tuple es x1 pos) (tupM ms) := by
  obtain ⟨t, p, s⟩ := h.ex
  refine ⟨_, fun i => pe_tup (p i), fun σ => Snd.bind (T1 := t σ) (T2 := fun xs H1 Q => xs.length ≤ sizeLine ∧ ∀ p, H1 p = none → Q (V.ref p) (upd H1 p (.tup xs))) (s σ) fun xs ds ρ F H rx S => ?_⟩
  unfold iteM
  by_cases hz : szOk ds = true
  · rw [if_pos hz]
    exact at_pur S fun Q q => ⟨by rw [rx.len]; exact of_decide_eq_true hz, fun p hp => q _ _ _ (Gr.new S.fh hp) (rp_tup (S.fh.free hp) rx)⟩
  · rw [if_neg hz]; trivial
theorem de_lst {es : List Expr} {ms : M (List D)} (h : DA X K E es ms) : DE X K E (.List es pos) (lstM ms) := by
  obtain ⟨t, p, s⟩ := h.ex
  refine ⟨_, fun i => pe_lst (p i), fun σ => Snd.bind (T1 := t σ) (T2 := fun xs H1 Q => xs.length ≤ sizeLine ∧ ∀ p, H1 p = none → Q (V.ref p) (upd H1 p (.lst xs))) (s σ) fun xs ds ρ F H rx S => ?_⟩
  unfold iteM
  by_cases hz : szOk ds = true
  · rw [if_pos hz]
    exact at_pur S fun Q q => ⟨by rw [rx.len]; exact of_decide_eq_true hz, fun p hp => q _ _ _ (Gr.new S.fh hp) (rp_lst (S.fh.free hp) rx)⟩
  · rw [if_neg hz]; trivial
/-- a slot that is frozen; one that owns is frozen by it -/
def getM (i : Nat) : M D := fun ρ => match ρ[i]? with
  | some (some (.fz d)) => .ok d ρ
  | some (some (.ow xs)) => .ok (.lst xs) (ρ.set i (some (.fz (.lst xs))))
  | _ => .stuck
end
/-- an owned list frozen where it stands -/
theorem StOk.freeze {K : PySem.W.Frag} {F H : Hp} {ρ : Env} {σ : L2.St} {i : Nat} {xs : List D} (S : StOk K F ρ σ H) (h : ρ[i]? = some (some (.ow xs))) : ∃ a vs, σ[i]? = some (some (V.ref a)) ∧
    Step (Own ρ σ) (Own (ρ.set i (some (.fz (.lst xs)))) σ) F H (upd F a (.lst vs)) H ∧ StOk K (upd F a (.lst vs)) (ρ.set i (some (.fz (.lst xs)))) σ H ∧ Rp K (upd F a (.lst vs)) (.ref a) (.lst xs) := by
  have h0 := S.sl i
  rw [h] at h0
  obtain ⟨a, vs, e, fa, ha, r⟩ := h0
  have hi : i < ρ.length := (List.getElem?_eq_some_iff.mp h).1
  have ha2 : Own ρ σ a := ⟨i, by rw [h]; trivial, e⟩
  have hs : Same F (upd F a (.lst vs)) := Same.toUpd fa
  have hr : Rp K (upd F a (.lst vs)) (.ref a) (.lst xs) := rp_lst fa r
  have hn : ∀ b, Own (ρ.set i (some (.fz (.lst xs)))) σ b → Own ρ σ b ∧ b ≠ a := fun b ⟨j, o, q⟩ => by
    by_cases hj : i = j
    · subst hj
      rw [List.getElem?_set_self hi] at o
      exact o.elim
    · rw [List.getElem?_set_ne hj] at o
      refine ⟨⟨j, o, q⟩, fun z => hj ?_⟩
      subst z
      exact S.dis i j b (by rw [h]; trivial) o e q
  refine ⟨a, vs, e, ⟨hs, fun b hb ho hf => ?_, fun b hb => .inl (hn b hb).1, fun _ z => z⟩, ⟨fun b u q => ?_, by rw [List.length_set]; exact S.len, fun j => ?_, fun j k b oj ok ej ek => ?_⟩, hr⟩
  · have : b ≠ a := fun z => ho (z ▸ ha2)
    exact ⟨rfl, by rw [upd_ne this]; exact hf⟩
  · by_cases hb : b = a
    · subst hb; rw [upd_same] at q; cases q; exact ha
    · rw [upd_ne hb] at q; exact S.fh b u q
  · by_cases hj : i = j
    · subst hj
      rw [List.getElem?_set_self hi]
      exact ⟨.ref a, e, hr⟩
    · rw [List.getElem?_set_ne hj]
      have q := S.sl j
      refine q.mv hs fun b hb o fb => ⟨rfl, ?_⟩
      have : b ≠ a := (hn b ⟨j, by rw [List.getElem?_set_ne hj]; exact o, hb⟩).2
      rw [upd_ne this]; exact fb
  · by_cases h1 : i = j
    · subst h1
      rw [List.getElem?_set_self hi] at oj
      exact oj.elim
    · by_cases h2 : i = k
      · subst h2
        rw [List.getElem?_set_self hi] at ok
        exact ok.elim
      · rw [List.getElem?_set_ne h1] at oj
        rw [List.getElem?_set_ne h2] at ok
        exact S.dis j k b oj ok ej ek
theorem snd_get {K : PySem.W.Frag} {E : EX} (i : Nat) (σ : L2.St) : Snd K E σ (tVar i σ) (getM i) (RelD K) no := fun ρ F H S => by
  unfold getM
  split
  · rename_i d h
    have q := S.sl i
    rw [h] at q
    obtain ⟨x, e, r⟩ := q
    exact At.now S fun Q k => ⟨x, e, k x r⟩
  · rename_i xs h
    obtain ⟨a, vs, e, st, S', r⟩ := S.freeze h
    exact fun Q k => ⟨.ref a, e, k _ _ _ st.addext S' r⟩
  · trivial
theorem de_var {ι : Type} {X : ι → Cx} {K : PySem.W.Frag} {E : EX} (i : Nat) {x : Str} {pos : Pos} (hN : ∀ j, (X j).N[i]? = some x := by intro _; rfl) (hv : ∀ j, Vis (X j).env.scope x := by first | exact fun _ => Or.inl rfl | exact fun _ => Or.inr (Or.inl rfl) | exact fun _ => Or.inr (Or.inr rfl)) (hd : (x == ("__debug__" : Str)) = false := by decide)
    (hcd : (x == ("__classdict__" : Str)) = false := by decide) : DE X K E (.Name x pos) (getM i) := ⟨_, fun j => pe_var (hN j) (hv j) hd hcd, snd_get i⟩
end Ly

set_option Elab.async false
set_option linter.all false
set_option maxRecDepth 100000
set_option maxHeartbeats 2000000
namespace Ly
open PySem L2
theorem OpR.or {X : Cx} {f : Value → Value → Sem Value} {r r' : R2} (h : OpR X f r) (h' : OpR X f r') : OpR X f (fun x y H Q => r x y H Q ∨ r' x y H Q) := by
  intro pins s σ H x y v u Q I rx ry q
  rcases q with q | q
  · exact h pins s σ H x y v u Q I rx ry q
  · exact h' pins s σ H x y v u Q I rx ry q
section
variable {K : PySem.W.Frag} {F H : Hp}
theorem RpA.nil_iff {vs : List V} {ds : List D} (r : RpA K F vs ds) : vs = [] ↔ ds = [] := by
  cases r <;> simp
theorem SqT.up {a : Addr} {xs : List V} (e : Same F H) (h : SqT K F a xs) : SqT K H a xs := sameT e h
/-- what a data value is as a value with a list behind it -/
def seqD : D → Option (List D)
  | .tup xs => some xs
  | .lst xs => some xs
  | .lck xs => some xs
  | _ => none
theorem rp_seq {v : V} {d : D} {xs : List D} (r : Rp K F v d) (h : seqD d = some xs) (e : Same F H) : ∃ a vs, v = .ref a ∧ (SqL K H a vs ∨ SqT K H a vs) ∧ RpA K F vs xs := by
  cases r with
  | tup h1 h2 => cases h; exact ⟨_, _, rfl, .inr (sameT e h1), h2⟩
  | lst h1 h2 => cases h; exact ⟨_, _, rfl, .inl (SqL.of (e _ _ h1)), h2⟩
  | lck h1 h2 => cases h; exact ⟨_, _, rfl, .inl (sameL e h1), h2⟩
  | _ => cases h

/-! ### arithmetic -/
theorem intD {v : V} {i : Int} (r : Rp K F v (.int i)) : v = .int i := by cases r; rfl
theorem strD {v : V} {i : Str} (r : Rp K F v (.str i)) : v = .str i := by cases r; rfl
theorem blD {v : V} {i : Bool} (r : Rp K F v (.bl i)) : v = .bl i := by cases r; rfl
def i2 (c : Int → Int → Bool) (g : Int → Int → D) : D → D → Option D
  | .int i, .int j => if c i j then some (g i j) else none
  | _, _ => none
theorem val_i2 {c : Int → Int → Bool} {g : Int → Int → D} {C : Int → Int → Prop} {gV : Int → Int → V} (hc : ∀ i j, c i j = true → C i j) (hg : ∀ K F i j, Rp K F (gV i j) (g i j)) : ValR K (rI C gV) (i2 c g) := ⟨fun F H x y d e z eq rx ry h Q q => by
  cases d with
  | int i => cases e with
    | int j =>
      simp only [i2] at h
      split at h
      · rename_i hcc
        cases h
        exact ⟨i, j, intD rx, intD ry, hc i j hcc, q _ _ _ (Gr.refl eq) (hg _ _ i j)⟩
      · cases h
    | _ => cases h
  | _ => cases h⟩
def i20 (g : Int → Int → D) : D → D → Option D
  | .int i, .int j => some (g i j)
  | _, _ => none
theorem val_i20 {g : Int → Int → D} {gV : Int → Int → V} (hg : ∀ K F i j, Rp K F (gV i j) (g i j)) : ValR K (rI0 gV) (i20 g) := ⟨fun F H x y d e z eq rx ry h Q q => by
  cases d with
  | int i => cases e with
    | int j => cases h; exact ⟨i, j, intD rx, intD ry, q _ _ _ (Gr.refl eq) (hg _ _ i j)⟩
    | _ => cases h
  | _ => cases h⟩
instance (i j : Int) : Decidable (IntMulOk i j) := by unfold IntMulOk; infer_instance
theorem op_mulY {X : Cx} : OpR X (binaryOp .Mult) (rI IntMulOk fun i j => .int (i * j)) := opI fun _ _ _ _ _ _ _ hc q => PyProof.Rows.mul_int q hc
instance (i j : Int) : Decidable (CDivW i j) := by unfold CDivW; infer_instance
def cMul (i j : Int) : Bool := decide (IntMulOk i j)
def cDiv (i j : Int) : Bool := decide (CDivW i j)
def cMod (_ j : Int) : Bool := decide (0 < j)
def CPowX (i j : Int) : Prop := 0 ≤ j ∧ (Builtin.Int.intBits i : Int) * j ≤ 2 ^ 27
instance (i j : Int) : Decidable (CPowX i j) := by unfold CPowX; infer_instance
theorem op_powX {X : Cx} : OpR X (binaryOp .Pow) (rI CPowX fun i j => .int (i ^ j.toNat)) := opI fun _ _ _ _ _ _ _ hc q => PyProof.Rows.pow_int hc.1 hc.2 q
def rAddS : R2 := fun x y H Q => ∃ i j, x = .str i ∧ y = .str j ∧ i.length + j.length ≤ sizeLine ∧ Q (.str (i ++ j)) H
abbrev rAdd4 (K : PySem.W.Frag) : R2 := fun x y H Q => (rI0 (fun i j => .int (i + j)) x y H Q ∨ rAddS x y H Q) ∨ (rCatA K x y H Q ∨ rCat x y H Q)
theorem op_add4 {X : Cx} : OpR X (binaryOp .Add) (rAdd4 X.K) := OpR.or (OpR.or op_add op_add_str) (OpR.or op_catA op_cat)
def addD : D → D → Option D
  | .int i, .int j => some (.int (i + j))
  | .str i, .str j => if i.length + j.length ≤ sizeLine then some (.str (i ++ j)) else none
  | .tup a, .tup b => if a.length + b.length ≤ sizeLine then some (.tup (a ++ b)) else none
  | .lst a, .lst b => if a.length + b.length ≤ sizeLine then some (.lst (a ++ b)) else none
  | _, _ => none
theorem val_add : ValR K (rAdd4 K) addD := ⟨fun F H x y d e z eq rx ry h Q q => by
  cases d with
  | int i => cases e with
    | int j => cases h; exact .inl (.inl ⟨i, j, intD rx, intD ry, q _ _ _ (Gr.refl eq) (.int _)⟩)
    | _ => cases h
  | str i => cases e with
    | str j =>
      simp only [addD] at h
      split at h
      · cases h; exact .inl (.inr ⟨i, j, strD rx, strD ry, by assumption, q _ _ _ (Gr.refl eq) (.str _)⟩)
      · cases h
    | _ => cases h
  | tup i => cases e with
    | tup j =>
      simp only [addD] at h
      split at h
      · cases h
        rename_i hz
        cases rx with
        | tup h1 h2 => cases ry with
          | tup h3 h4 =>
            refine .inr (.inl ⟨_, _, _, _, rfl, rfl, sameT eq h1, sameT eq h3, by rw [h2.len, h4.len]; exact hz, fun hn => ?_, fun _ hn => ?_, fun _ _ p hp => ?_⟩)
            · obtain rfl := h2.nil_iff.mp hn
              exact q _ _ _ (Gr.refl eq) (.tup h3 h4)
            · obtain rfl := h4.nil_iff.mp hn
              exact q _ _ _ (Gr.refl eq) (by rw [List.append_nil]; exact .tup h1 h2)
            · exact q _ _ _ (Gr.new eq hp) (rp_tup (eq.free hp) (h2.append h4))
      · cases h
    | _ => cases h
  | lst i => cases e with
    | lst j =>
      simp only [addD] at h
      split at h
      · cases h
        rename_i hz
        cases rx with
        | lst h1 h2 => cases ry with
          | lst h3 h4 =>
            exact .inr (.inr ⟨_, _, _, _, rfl, rfl, eq _ _ h1, eq _ _ h3, by rw [h2.len, h4.len]; exact hz, fun p hp => q _ _ _ (Gr.new eq hp) (rp_lst (eq.free hp) (h2.append h4))⟩)
      · cases h
    | _ => cases h
  | _ => cases h⟩
theorem RpA.rep {vs : List V} {ds : List D} (r : RpA K F vs ds) : ∀ n : Nat, RpA K F (List.replicate n vs).flatten (List.replicate n ds).flatten
  | 0 => .nil
  | n + 1 => by
    rw [List.replicate_succ, List.replicate_succ, List.flatten_cons, List.flatten_cons]
    exact r.append (RpA.rep r n)
abbrev rMul2 (K : PySem.W.Frag) : R2 := fun x y H Q => rI IntMulOk (fun i j => .int (i * j)) x y H Q ∨ rRep x y H Q
theorem op_mul2 {X : Cx} : OpR X (binaryOp .Mult) (rMul2 X.K) := OpR.or op_mulY op_rep
def mulD : D → D → Option D
  | .int i, .int j => if cMul i j then some (.int (i * j)) else none
  | .lst a, .int j => if decide (-(2 ^ 63) ≤ j) && decide (j < 2 ^ 63) && decide (a.length * j.toNat ≤ sizeLine) then some (.lst (List.replicate j.toNat a).flatten) else none
  | _, _ => none
theorem val_mul : ValR K (rMul2 K) mulD := ⟨fun F H x y d e z eq rx ry h Q q => by
  cases d with
  | int i => cases e with
    | int j =>
      simp only [mulD] at h
      split at h
      · cases h; rename_i hc; exact .inl ⟨i, j, intD rx, intD ry, of_decide_eq_true hc, q _ _ _ (Gr.refl eq) (.int _)⟩
      · cases h
    | _ => cases h
  | lst i => cases e with
    | int j =>
      simp only [mulD] at h
      split at h
      · cases h
        rename_i hc
        simp only [Bool.and_eq_true, decide_eq_true_eq] at hc
        cases rx with
        | lst h1 h2 =>
          exact .inr ⟨_, j, _, rfl, intD ry, eq _ _ h1, hc.1.1, hc.1.2, by rw [h2.len]; exact hc.2, fun p hp => q _ _ _ (Gr.new eq hp) (rp_lst (eq.free hp) (h2.rep _))⟩
      · cases h
    | _ => cases h
  | _ => cases h⟩
def subD : D → D → Option D := i20 fun i j => .int (i - j)
theorem val_sub : ValR K (rI0 fun i j => .int (i - j)) subD := val_i20 fun _ _ _ _ => .int _
def fdivD : D → D → Option D := i2 cDiv fun i j => .int (i / j)
theorem val_fdiv : ValR K (rI CDivW fun i j => .int (i / j)) fdivD := val_i2 (fun _ _ h => of_decide_eq_true h) fun _ _ _ _ => .int _
def modD : D → D → Option D := i2 cMod fun i j => .int (i % j)
theorem val_mod : ValR K (rI (fun _ j => 0 < j) fun i j => .int (i % j)) modD := val_i2 (fun _ _ h => of_decide_eq_true h) fun _ _ _ _ => .int _
def powD : D → D → Option D := i2 (fun i j => decide (CPowX i j)) fun i j => .int (i ^ j.toNat)
theorem val_pow : ValR K (rI CPowX fun i j => .int (i ^ j.toNat)) powD := val_i2 (fun _ _ h => of_decide_eq_true h) fun _ _ _ _ => .int _
def ltD : D → D → Option D := i20 fun i j => .bl (decide (i < j))
def leD : D → D → Option D := i20 fun i j => .bl (decide (i ≤ j))
def gtD : D → D → Option D := i20 fun i j => .bl (decide (j < i))
def geD : D → D → Option D := i20 fun i j => .bl (decide (j ≤ i))
theorem val_lt : ValR K (rI0 fun i j => .bl (decide (i < j))) ltD := val_i20 fun _ _ _ _ => .bl _
theorem val_le : ValR K (rI0 fun i j => .bl (decide (i ≤ j))) leD := val_i20 fun _ _ _ _ => .bl _
theorem val_gt : ValR K (rI0 fun i j => .bl (decide (j < i))) gtD := val_i20 fun _ _ _ _ => .bl _
theorem val_ge : ValR K (rI0 fun i j => .bl (decide (j ≤ i))) geD := val_i20 fun _ _ _ _ => .bl _

/-! ### equality -/
mutual
def toP : D → PyData
  | .non => .none | .bl b => .bool b | .int i => .int i | .str s => .str s
  | .tup xs => .tuple (toPs xs) | .lst xs => .list (toPs xs) | .lck xs => .list (toPs xs)
def toPs : List D → List PyData
  | [] => []
  | d :: ds => toP d :: toPs ds
end
mutual
theorem Rp.dp (e : Same F H) : ∀ (d : D) (v : V), Rp K F v d → Dp K H v (toP d)
  | .non, _, h => by cases h; exact .non
  | .bl b, _, h => by cases h; exact .bl b
  | .int b, _, h => by cases h; exact .int b
  | .str b, _, h => by cases h; exact .str b
  | .tup ds, _, h => by
    cases h with
    | tup h1 h2 => exact .tup (sameT e h1) (RpA.dp e ds _ h2)
  | .lst ds, _, h => by
    cases h with
    | lst h1 h2 => exact .lst (SqL.of (e _ _ h1)) (RpA.dp e ds _ h2)
  | .lck ds, _, h => by
    cases h with
    | lck h1 h2 => exact .lst (sameL e h1) (RpA.dp e ds _ h2)
theorem RpA.dp (e : Same F H) : ∀ (ds : List D) (vs : List V), RpA K F vs ds → DpAll K H vs (toPs ds)
  | [], _, h => by cases h; exact .nil
  | d :: ds, _, h => by
    cases h with
    | cons h1 h2 => exact .cons (Rp.dp e d _ h1) (RpA.dp e ds _ h2)
end
def shD (d : D) : Bool := SeqAt.shaped (toP d)
def eqD (d e : D) : Option Bool := if shD d && shD e then some (PyData.eqv (toP d) (toP e)) else none
def eqO (d e : D) : Option D := (eqD d e).map .bl
def neO (d e : D) : Option D := (eqD d e).map fun b => .bl (!b)
theorem val_eq : ValR K (rEqD K) eqO := ⟨fun F H x y d e z eq rx ry h Q q => by
  unfold eqO eqD at h
  split at h
  · rename_i hs
    rw [Bool.and_eq_true] at hs
    cases h
    exact ⟨toP d, toP e, rx.dp eq d, ry.dp eq e, hs.1, hs.2, q _ _ _ (Gr.refl eq) (.bl _)⟩
  · cases h⟩
theorem val_ne : ValR K (rNeD K) neO := ⟨fun F H x y d e z eq rx ry h Q q => by
  unfold neO eqD at h
  split at h
  · rename_i hs
    rw [Bool.and_eq_true] at hs
    cases h
    exact ⟨toP d, toP e, rx.dp eq d, ry.dp eq e, hs.1, hs.2, q _ _ _ (Gr.refl eq) (.bl _)⟩
  · cases h⟩
def isNon : D → Bool
  | .non => true
  | _ => false
theorem isNon_v {v : V} {d : D} (r : Rp K F v d) : decide (v = .non) = isNon d := by
  cases r <;> simp [isNon]
def isO : D → D → Option D
  | d, .non => some (.bl (isNon d))
  | _, _ => none
def isnO : D → D → Option D
  | d, .non => some (.bl (!isNon d))
  | _, _ => none
abbrev rIsN : R2 := fun x y H Q => y = .non ∧ Q (.bl (decide (x = .non))) H
abbrev rNotN : R2 := fun x y H Q => y = .non ∧ Q (.bl (!decide (x = .non))) H
theorem val_is : ValR K rIsN isO := ⟨fun F H x y d e z eq rx ry h Q q => by
  cases e with
  | non =>
    have e1 : some (D.bl (isNon d)) = some z := by cases d <;> exact h
    cases e1
    cases ry
    exact ⟨rfl, by rw [isNon_v rx]; exact q _ _ _ (Gr.refl eq) (.bl _)⟩
  | _ => cases d <;> cases h⟩
theorem val_isn : ValR K rNotN isnO := ⟨fun F H x y d e z eq rx ry h Q q => by
  cases e with
  | non =>
    have e1 : some (D.bl (!isNon d)) = some z := by cases d <;> exact h
    cases e1
    cases ry
    exact ⟨rfl, by rw [isNon_v rx]; exact q _ _ _ (Gr.refl eq) (.bl _)⟩
  | _ => cases d <;> cases h⟩
/-- is, is not of truth values -/
def isbO : D → D → Option D
  | .bl a, .bl b => some (.bl (decide (a = b)))
  | _, _ => none
def isnbO : D → D → Option D
  | .bl a, .bl b => some (.bl (!decide (a = b)))
  | _, _ => none
theorem val_isb : ValR K rIsB isbO := ⟨fun F H x y d e z eq rx ry h Q q => by
  cases d with
  | bl a => cases e with
    | bl b => cases h; exact ⟨a, b, blD rx, blD ry, q _ _ _ (Gr.refl eq) (.bl _)⟩
    | _ => cases h
  | _ => cases h⟩
theorem val_isnb : ValR K rNotB isnbO := ⟨fun F H x y d e z eq rx ry h Q q => by
  cases d with
  | bl a => cases e with
    | bl b => cases h; exact ⟨a, b, blD rx, blD ry, q _ _ _ (Gr.refl eq) (.bl _)⟩
    | _ => cases h
  | _ => cases h⟩

/-! ### in -/
def flV : D → Option V
  | .non => some .non | .bl b => some (.bl b) | .int i => some (.int i) | .str s => some (.str s)
  | _ => none
def flVs : List D → Option (List V)
  | [] => some []
  | d :: ds => match flV d, flVs ds with
    | some v, some vs => some (v :: vs)
    | _, _ => none
theorem flV_of {v u : V} {d : D} (r : Rp K F v d) (h : flV d = some u) : v = u ∧ flatV v = true := by
  cases r <;> cases h <;> exact ⟨rfl, rfl⟩
theorem flVs_of {vs us : List V} {ds : List D} (r : RpA K F vs ds) (h : flVs ds = some us) : vs = us ∧ vs.all flatV = true := by
  induction ds generalizing vs us with
  | nil => cases r; cases h; exact ⟨rfl, rfl⟩
  | cons d ds ih =>
    cases r with
    | cons h1 h2 =>
      simp only [flVs] at h
      split at h
      · rename_i v' vs' e1 e2
        cases h
        obtain ⟨rfl, f1⟩ := flV_of h1 e1
        obtain ⟨rfl, f2⟩ := ih h2 e2
        exact ⟨rfl, by rw [List.all_cons, f1, f2]; rfl⟩
      · cases h
def inB : D → D → Option Bool
  | .str s, .str z => match s.cps.toList with
    | [c] => some (decide (c ∈ z.cps.toList))
    | _ => none
  | d, .tup ds => match flV d, flVs ds with
    | some v, some vs => some (inV v vs)
    | _, _ => none
  | d, .lst ds => if shD d && shD (.lst ds) then some ((toPs ds).any fun z => PyData.eqv z (toP d)) else none
  | _, _ => none
def inO (d e : D) : Option D := (inB d e).map .bl
def ninO (d e : D) : Option D := (inB d e).map fun b => .bl (!b)
def rSg (neg : Bool) : R2 := fun x y H Q => ∃ (c : Nat) (z : Str), x = .str ⟨#[c]⟩ ∧ y = .str z ∧ Q (.bl (if neg then !decide (c ∈ z.cps.toList) else decide (c ∈ z.cps.toList))) H
def rInL (K : PySem.W.Frag) (neg : Bool) : R2 := fun x y H Q => ∃ d ds, Dp K H x d ∧ Dp K H y (.list ds) ∧ SeqAt.shaped d = true ∧ SeqAt.shaped (.list ds) = true ∧ Q (.bl (if neg then !ds.any fun z => PyData.eqv z d else ds.any fun z => PyData.eqv z d)) H
abbrev rInA (K : PySem.W.Frag) (neg : Bool) : R2 := fun x y H Q => rSg neg x y H Q ∨ (rIn K neg x y H Q ∨ rInL K neg x y H Q)
theorem op_inA {X : Cx} (hu : X.A.units + 65 < cLine) : OpR X (compareOp .In) (rInA X.K false) := OpR.or op_in_sign (OpR.or op_in_seq (op_inD hu))
theorem op_ninA {X : Cx} (hu : X.A.units + 65 < cLine) : OpR X (compareOp .NotIn) (rInA X.K true) := OpR.or op_notIn_sign (OpR.or op_notIn_seq (op_notInD hu))
theorem one_sign {s : Str} {c : Nat} (h : s.cps.toList = [c]) : s = ⟨#[c]⟩ := by
  obtain ⟨a⟩ := s
  congr 1
  apply Array.toList_inj.mp
  exact h
theorem rp_lstdp {v : V} {ds : List D} (eq : Same F H) (r : Rp K F v (.lst ds)) : Dp K H v (.list (toPs ds)) := by
  have := r.dp eq (.lst ds)
  simpa only [toP] using this
theorem val_inA (neg : Bool) : ValR K (rInA K neg) (fun d e => (inB d e).map fun b => .bl (if neg then !b else b)) := ⟨fun F H x y d e z eq rx ry h Q q => by
  cases hb : inB d e with
  | none => rw [hb] at h; cases h
  | some b =>
    rw [hb] at h
    cases h
    unfold inB at hb
    split at hb
    · rename_i s t
      split at hb
      · rename_i c hc
        cases hb
        cases (strD rx)
        cases (strD ry)
        exact .inl ⟨c, t, by rw [one_sign hc], rfl, q _ _ _ (Gr.refl eq) (.bl _)⟩
      · cases hb
    · split at hb
      · rename_i v vs e1 e2
        cases hb
        cases ry with
        | tup h1 h2 =>
          obtain ⟨rfl, f1⟩ := flV_of rx e1
          obtain ⟨rfl, f2⟩ := flVs_of h2 e2
          exact .inr (.inl ⟨_, _, rfl, .inr (sameT eq h1), f1, f2, q _ _ _ (Gr.refl eq) (.bl _)⟩)
      · cases hb
    · split at hb
      · rename_i hs
        cases hb
        rw [Bool.and_eq_true] at hs
        have hs2 := hs.2
        unfold shD at hs2
        simp only [toP] at hs2
        exact .inr (.inr ⟨_, _, rx.dp eq _, rp_lstdp eq ry, hs.1, hs2, q _ _ _ (Gr.refl eq) (.bl _)⟩)
      · cases hb
    · cases hb⟩
theorem val_in : ValR K (rInA K false) inO := by
  have := val_inA (K := K) false
  have e : (fun d e => (inB d e).map fun b => D.bl (if false = true then !b else b)) = inO := by
    funext d e
    simp only [inO]
    cases inB d e <;> rfl
  rw [e] at this
  exact this
theorem val_nin : ValR K (rInA K true) ninO := by
  have := val_inA (K := K) true
  have e : (fun d e => (inB d e).map fun b => D.bl (if true = true then !b else b)) = ninO := by
    funext d e
    simp only [ninO, if_true]
  rw [e] at this
  exact this

/-! ### items -/
theorem RpA.atI {vs : List V} {ds : List D} {i : Int} {d : D} (r : RpA K F vs ds) (h : atI ds i = some d) : ∃ v, atI vs i = some v ∧ Rp K F v d := by
  unfold L2.atI at h ⊢
  rw [r.len]
  cases e : ixN ds.length i with
  | none => rw [e] at h; cases h
  | some j =>
    rw [e] at h
    obtain ⟨v, hv, q⟩ := r.get' (i := j) h
    exact ⟨v, hv, q⟩
def ixD : D → D → Option D
  | .tup ds, .int i => atI ds i
  | .lst ds, .int i => atI ds i
  | .lck ds, .int i => atI ds i
  | .str z, .int i => if z.length ≤ sizeLine then (atI z.cps.toList i).map fun c => .str ⟨#[c]⟩ else none
  | _, _ => none
theorem val_ix : ValR K (rIx K) ixD := ⟨fun F H x y d e z eq rx ry h Q q => by
  cases e with
  | int i =>
    cases (intD ry)
    cases d with
    | tup ds =>
      cases rx with
      | tup h1 h2 =>
        obtain ⟨v, hv, r⟩ := h2.atI h
        exact .inr (.inl ⟨_, _, i, v, rfl, rfl, sameT eq h1, hv, q _ _ _ (Gr.refl eq) r⟩)
    | lst ds =>
      cases rx with
      | lst h1 h2 =>
        obtain ⟨v, hv, r⟩ := h2.atI h
        exact .inl ⟨_, _, i, v, rfl, rfl, SqL.of (eq _ _ h1), hv, q _ _ _ (Gr.refl eq) r⟩
    | lck ds =>
      cases rx with
      | lck h1 h2 =>
        obtain ⟨v, hv, r⟩ := h2.atI h
        exact .inl ⟨_, _, i, v, rfl, rfl, sameL eq h1, hv, q _ _ _ (Gr.refl eq) r⟩
    | str s =>
      simp only [ixD] at h
      split at h
      · rename_i hz
        cases hc : atI s.cps.toList i with
        | none => rw [hc] at h; cases h
        | some c =>
          rw [hc] at h
          cases h
          cases (strD rx)
          exact .inr (.inr ⟨s, i, c, rfl, rfl, hz, hc, q _ _ _ (Gr.refl eq) (.str _)⟩)
      · cases h
    | _ => cases h
  | _ => cases d <;> cases h⟩
end
/-! ### the operators as rules -/
abbrev KOf {ι : Type} (X : ι → Cx) (K : PySem.W.Frag) : Prop := ∀ i, (X i).K = K
section
variable {ι : Type} {X : ι → Cx} {K : PySem.W.Frag} {E : EX} {a b c : Expr} {ma mb mc : M D} {pos : Pos}
theorem de_add (ha : DE X K E a ma) (hb : DE X K E b mb) (hK : KOf X K := by intro _; rfl) : DE X K E (.BinOp a .Add b pos) (bin addD ma mb) := de_op (fun i => by rw [← hK i]; exact op_add4) val_add ha hb
theorem de_sub (ha : DE X K E a ma) (hb : DE X K E b mb) : DE X K E (.BinOp a .Sub b pos) (bin subD ma mb) := de_op (fun i => op_sub) val_sub ha hb
theorem de_mul (ha : DE X K E a ma) (hb : DE X K E b mb) (hK : KOf X K := by intro _; rfl) : DE X K E (.BinOp a .Mult b pos) (bin mulD ma mb) := de_op (fun i => by rw [← hK i]; exact op_mul2) val_mul ha hb
theorem de_fdiv (ha : DE X K E a ma) (hb : DE X K E b mb) : DE X K E (.BinOp a .FloorDiv b pos) (bin fdivD ma mb) := de_op (fun i => op_fdivW) val_fdiv ha hb
theorem de_mod (ha : DE X K E a ma) (hb : DE X K E b mb) : DE X K E (.BinOp a .Mod b pos) (bin modD ma mb) := de_op (fun i => op_mod) val_mod ha hb
theorem de_pow (ha : DE X K E a ma) (hb : DE X K E b mb) : DE X K E (.BinOp a .Pow b pos) (bin powD ma mb) := de_op (fun i => op_powX) val_pow ha hb
theorem de_lt (ha : DE X K E a ma) (hb : DE X K E b mb) : DE X K E (.Compare a [.Lt] [b] pos) (bin ltD ma mb) := de_cmp (fun i => op_lt) val_lt ha hb
theorem de_le (ha : DE X K E a ma) (hb : DE X K E b mb) : DE X K E (.Compare a [.LtE] [b] pos) (bin leD ma mb) := de_cmp (fun i => op_le) val_le ha hb
theorem de_gt (ha : DE X K E a ma) (hb : DE X K E b mb) : DE X K E (.Compare a [.Gt] [b] pos) (bin gtD ma mb) := de_cmp (fun i => op_gt) val_gt ha hb
theorem de_ge (ha : DE X K E a ma) (hb : DE X K E b mb) : DE X K E (.Compare a [.GtE] [b] pos) (bin geD ma mb) := de_cmp (fun i => op_ge) val_ge ha hb
theorem dt_lt (ha : DE X K E a ma) (hb : DE X K E b mb) : DT X K E (.Compare a [.Lt] [b] pos) (tst (bin ltD ma mb)) := dt_cmp (fun i => op_lt) val_lt ha hb
theorem dt_le (ha : DE X K E a ma) (hb : DE X K E b mb) : DT X K E (.Compare a [.LtE] [b] pos) (tst (bin leD ma mb)) := dt_cmp (fun i => op_le) val_le ha hb
theorem dt_gt (ha : DE X K E a ma) (hb : DE X K E b mb) : DT X K E (.Compare a [.Gt] [b] pos) (tst (bin gtD ma mb)) := dt_cmp (fun i => op_gt) val_gt ha hb
theorem dt_ge (ha : DE X K E a ma) (hb : DE X K E b mb) : DT X K E (.Compare a [.GtE] [b] pos) (tst (bin geD ma mb)) := dt_cmp (fun i => op_ge) val_ge ha hb
theorem de_eq (hu : ∀ i, (X i).A.units + 65 < cLine) (ha : DE X K E a ma) (hb : DE X K E b mb) (hK : KOf X K := by intro _; rfl) : DE X K E (.Compare a [.Eq] [b] pos) (bin eqO ma mb) := de_cmp (fun i => by rw [← hK i]; exact op_eqD (Nat.lt_trans (Nat.lt_succ_self _) (hu i))) val_eq ha hb
theorem de_ne (hu : ∀ i, (X i).A.units + 65 < cLine) (ha : DE X K E a ma) (hb : DE X K E b mb) (hK : KOf X K := by intro _; rfl) : DE X K E (.Compare a [.NotEq] [b] pos) (bin neO ma mb) := de_cmp (fun i => by rw [← hK i]; exact op_neD (Nat.lt_trans (Nat.lt_succ_self _) (hu i))) val_ne ha hb
theorem dt_eq (hu : ∀ i, (X i).A.units + 65 < cLine) (ha : DE X K E a ma) (hb : DE X K E b mb) (hK : KOf X K := by intro _; rfl) : DT X K E (.Compare a [.Eq] [b] pos) (tst (bin eqO ma mb)) := dt_cmp (fun i => by rw [← hK i]; exact op_eqD (Nat.lt_trans (Nat.lt_succ_self _) (hu i))) val_eq ha hb
theorem dt_ne (hu : ∀ i, (X i).A.units + 65 < cLine) (ha : DE X K E a ma) (hb : DE X K E b mb) (hK : KOf X K := by intro _; rfl) : DT X K E (.Compare a [.NotEq] [b] pos) (tst (bin neO ma mb)) := dt_cmp (fun i => by rw [← hK i]; exact op_neD (Nat.lt_trans (Nat.lt_succ_self _) (hu i))) val_ne ha hb
theorem de_is (ha : DE X K E a ma) (hb : DE X K E b mb) : DE X K E (.Compare a [.Is] [b] pos) (bin isO ma mb) := de_cmp (fun i => op_isN) val_is ha hb
theorem de_isn (ha : DE X K E a ma) (hb : DE X K E b mb) : DE X K E (.Compare a [.IsNot] [b] pos) (bin isnO ma mb) := de_cmp (fun i => op_notN) val_isn ha hb
theorem dt_is (ha : DE X K E a ma) (hb : DE X K E b mb) : DT X K E (.Compare a [.Is] [b] pos) (tst (bin isO ma mb)) := dt_cmp (fun i => op_isN) val_is ha hb
theorem dt_isn (ha : DE X K E a ma) (hb : DE X K E b mb) : DT X K E (.Compare a [.IsNot] [b] pos) (tst (bin isnO ma mb)) := dt_cmp (fun i => op_notN) val_isn ha hb
theorem de_isb (ha : DE X K E a ma) (hb : DE X K E b mb) : DE X K E (.Compare a [.Is] [b] pos) (bin isbO ma mb) := de_cmp (fun i => op_isBl) val_isb ha hb
theorem dt_isb (ha : DE X K E a ma) (hb : DE X K E b mb) : DT X K E (.Compare a [.Is] [b] pos) (tst (bin isbO ma mb)) := dt_cmp (fun i => op_isBl) val_isb ha hb
theorem dt_isnb (ha : DE X K E a ma) (hb : DE X K E b mb) : DT X K E (.Compare a [.IsNot] [b] pos) (tst (bin isnbO ma mb)) := dt_cmp (fun i => op_notBl) val_isnb ha hb
theorem de_in (hu : ∀ i, (X i).A.units + 65 < cLine) (ha : DE X K E a ma) (hb : DE X K E b mb) (hm : behindInMarks .In b = false := by with_unfolding_all rfl) (hK : KOf X K := by intro _; rfl) : DE X K E (.Compare a [.In] [b] pos) (bin inO ma mb) := de_cmp (fun i => by rw [← hK i]; exact op_inA (hu i)) val_in ha hb hm
theorem de_nin (hu : ∀ i, (X i).A.units + 65 < cLine) (ha : DE X K E a ma) (hb : DE X K E b mb) (hm : behindInMarks .NotIn b = false := by with_unfolding_all rfl) (hK : KOf X K := by intro _; rfl) : DE X K E (.Compare a [.NotIn] [b] pos) (bin ninO ma mb) := de_cmp (fun i => by rw [← hK i]; exact op_ninA (hu i)) val_nin ha hb hm
theorem dt_in (hu : ∀ i, (X i).A.units + 65 < cLine) (ha : DE X K E a ma) (hb : DE X K E b mb) (hm : behindInMarks .In b = false := by with_unfolding_all rfl) (hK : KOf X K := by intro _; rfl) : DT X K E (.Compare a [.In] [b] pos) (tst (bin inO ma mb)) := dt_cmp (fun i => by rw [← hK i]; exact op_inA (hu i)) val_in ha hb hm
theorem dt_nin (hu : ∀ i, (X i).A.units + 65 < cLine) (ha : DE X K E a ma) (hb : DE X K E b mb) (hm : behindInMarks .NotIn b = false := by with_unfolding_all rfl) (hK : KOf X K := by intro _; rfl) : DT X K E (.Compare a [.NotIn] [b] pos) (tst (bin ninO ma mb)) := dt_cmp (fun i => by rw [← hK i]; exact op_ninA (hu i)) val_nin ha hb hm
/-- lo <= x <= hi -/
theorem de_chnLL (ha : DE X K E a ma) (hb : DE X K E b mb) (hc : DE X K E c mc) (hm : lastMarks [.LtE, .LtE] [b, c] = false := by with_unfolding_all rfl) : DE X K E (.Compare a [.LtE, .LtE] [b, c] pos) (chn leD leD ma mb mc) := de_chn (fun i => op_le) val_le (fun i => op_le) val_le ha hb hc hm
theorem dt_chnLL (ha : DE X K E a ma) (hb : DE X K E b mb) (hc : DE X K E c mc) (hm : lastMarks [.LtE, .LtE] [b, c] = false := by with_unfolding_all rfl) : DT X K E (.Compare a [.LtE, .LtE] [b, c] pos) (tst (chn leD leD ma mb mc)) := dt_chn (fun i => op_le) val_le (fun i => op_le) val_le ha hb hc hm
theorem de_chnLl (ha : DE X K E a ma) (hb : DE X K E b mb) (hc : DE X K E c mc) (hm : lastMarks [.LtE, .Lt] [b, c] = false := by with_unfolding_all rfl) : DE X K E (.Compare a [.LtE, .Lt] [b, c] pos) (chn leD ltD ma mb mc) := de_chn (fun i => op_le) val_le (fun i => op_lt) val_lt ha hb hc hm
theorem dt_chnLl (ha : DE X K E a ma) (hb : DE X K E b mb) (hc : DE X K E c mc) (hm : lastMarks [.LtE, .Lt] [b, c] = false := by with_unfolding_all rfl) : DT X K E (.Compare a [.LtE, .Lt] [b, c] pos) (tst (chn leD ltD ma mb mc)) := dt_chn (fun i => op_le) val_le (fun i => op_lt) val_lt ha hb hc hm
theorem de_ix (ha : DE X K E a ma) (hb : DE X K E b mb) (hs : PlainIx b := by intro _ _; rfl) (hK : KOf X K := by intro _; rfl) : DE X K E (.Subscript a b pos) (bin ixD ma mb) := by
  obtain ⟨ta, pa, sa⟩ := ha.ex
  obtain ⟨tb, pb, sb⟩ := hb.ex
  exact ⟨tOp (rIx K) ta tb, fun i => by have := pe_ix (pos := pos) (ix_seq (X := X i)) (pa i) (pb i) hs; rw [hK i] at this; exact this, snd_bin val_ix sa sb⟩
/-- -n as a written number -/
theorem de_neg {k : Nat} {p2 : Pos} {n : Int} : DE X K E (.UnaryOp .USub (.Constant (.int n) k p2) pos) (pur (.int (-n))) := ⟨_, fun _ => pe_un un_neg pe_int, fun _ _ _ _ S => At.now S fun _ q => ⟨n, rfl, q _ (.int (-n))⟩⟩
end

/-! ### slices -/
structure DP {ι : Type} (X : ι → Cx) (K : PySem.W.Frag) (E : EX) (e : Option Expr) (m : M (Option Int)) : Prop where
  ex : ∃ t : TO, (∀ i, PO (X i) e t) ∧ ∀ σ, Snd K E σ (t σ) m (fun _ _ b a => b = a) no
def cutL {α : Type} (xs : List α) (lo hi : Option Int) : List α := (xs.drop (HT.sIx xs.length 0 lo)).take (HT.sIx xs.length xs.length hi - HT.sIx xs.length 0 lo)
theorem RpA.cut {K : PySem.W.Frag} {F : Hp} {vs : List V} {ds : List D} (r : RpA K F vs ds) (lo hi : Option Int) : RpA K F (cutV vs lo hi) (cutL ds lo hi) := by
  unfold cutV cutL
  rw [r.len]
  exact (r.drop _).take _
theorem cutL_len {α : Type} (xs : List α) (lo hi : Option Int) : (cutL xs lo hi).length ≤ xs.length := by
  unfold cutL
  rw [List.length_take, List.length_drop]
  omega
section
variable {ι : Type} {X : ι → Cx} {K : PySem.W.Frag} {E : EX} {a b e : Expr} {ma mb : M D} {pos : Pos}
theorem dp_none : DP X K E none (pur none) := ⟨_, fun _ => po_none, fun _ _ _ _ S => At.now S fun _ q => q _ rfl⟩
def partM (m : M D) : M (Option Int) := bnd m fun d => match d with
  | .int i => pur (some i)
  | _ => stk
theorem dp_some (h : DE X K E e ma) : DP X K E (some e) (partM ma) := by
  obtain ⟨t, p, s⟩ := h.ex
  refine ⟨_, fun i => po_some (p i), fun σ => Snd.bind (T1 := t σ) (T2 := fun x H1 Q => ∃ i, x = .int i ∧ Q (some i) H1) (s σ) fun x d ρ F H rx S => ?_⟩
  cases d with
  | int i => cases (intD rx); exact At.now S fun Q q => ⟨i, rfl, q _ rfl⟩
  | _ => trivial
def sliceD (d : D) (lo hi : Option Int) : Option D := match d with
  | .tup xs => some (.tup (cutL xs lo hi))
  | .lst xs => some (.lst (cutL xs lo hi))
  | .str z => if z.length ≤ sizeLine then some (.str (Txt.slice z lo hi)) else none
  | _ => none
def slM (a : M D) (lo hi : M (Option Int)) : M D := bnd a fun d => bnd lo fun l => bnd hi fun u => lif (sliceD d l u)
theorem de_slice {lo hi : Option Expr} {ml mh : M (Option Int)} {p2 : Pos} (ha : DE X K E a ma) (hl : DP X K E lo ml) (hh : DP X K E hi mh) (hK : KOf X K := by intro _; rfl) : DE X K E (.Subscript a (.Slice lo hi none p2) pos) (slM ma ml mh) := by
  obtain ⟨ta, pa, sa⟩ := ha.ex
  obtain ⟨tl, pl, sl⟩ := hl.ex
  obtain ⟨tu, pu, su⟩ := hh.ex
  refine ⟨tSl (fun x l u H3 Q => (rSlA K x l u H3 Q ∨ (rSlL K x l u H3 Q ∨ C8.rSlX x l u H3 Q))) ta tl tu, fun i => by have := pe_slice (pos := pos) (p2 := p2) (SlR.or (sl_tupA (X := X i)) (SlR.or sl_list C8.sl_txt)) (pa i) (pl i) (pu i); rw [hK i] at this; exact this, fun σ => ?_⟩
  refine Snd.bind (T1 := ta σ) (T2 := fun x H1 Q => tl σ H1 fun l H2 => tu σ H2 fun u H3 => (rSlA K x l u H3 Q ∨ (rSlL K x l u H3 Q ∨ C8.rSlX x l u H3 Q))) (sa σ) fun x d ρ F H rx S => ?_
  refine At.bind (P1 := tl σ H) (T2 := fun l H2 Q => tu σ H2 fun u H3 => (rSlA K x l u H3 Q ∨ (rSlL K x l u H3 Q ∨ C8.rSlX x l u H3 Q))) (sl σ ρ F H S) fun l l' ρ1 F1 H1 st1 rl S1 => ?_
  refine At.bind (P1 := tu σ H1) (T2 := fun u H3 Q => (rSlA K x l u H3 Q ∨ (rSlL K x l u H3 Q ∨ C8.rSlX x l u H3 Q))) (su σ ρ1 F1 H1 S1) fun u u' ρ2 F2 H2 st2 ru S2 => ?_
  cases rl
  cases ru
  have rx2 := Rp.up rx (st1.f.trans st2.f)
  refine at_gr S2 fun z hz Q q => ?_
  cases d with
  | tup ds =>
    cases hz
    cases rx2 with
    | tup h1 h2 =>
      refine .inl ⟨_, _, rfl, sameT S2.fh h1, fun hw => ?_, fun _ p hp => q _ _ _ (Gr.new S2.fh hp) (rp_tup (S2.fh.free hp) (h2.cut _ _))⟩
      refine q _ _ _ (Gr.refl S2.fh) ?_
      have e : cutL ds l u = ds := by
        unfold cutL
        rw [h2.len] at hw
        rw [hw.1, hw.2, List.drop_zero, Nat.sub_zero, List.take_length]
      rw [e]
      exact .tup h1 h2
  | lst ds =>
    cases hz
    cases rx2 with
    | lst h1 h2 => exact .inr (.inl ⟨_, _, rfl, SqL.of (S2.fh _ _ h1), fun p hp => q _ _ _ (Gr.new S2.fh hp) (rp_lst (S2.fh.free hp) (h2.cut _ _))⟩)
  | str s =>
    simp only [sliceD] at hz
    split at hz
    · rename_i hs
      cases hz
      cases (strD rx2)
      exact .inr (.inr ⟨s, rfl, hs, q _ _ _ (Gr.refl S2.fh) (.str _)⟩)
    · cases hz
  | _ => cases hz
end
end Ly

set_option Elab.async false
set_option linter.all false
set_option maxRecDepth 100000
set_option maxHeartbeats 2000000
namespace Ly
open PySem L2
/-! ### built-ins by name -/
section
variable {ι : Type} {X : ι → Cx} {K : PySem.W.Frag} {E : EX} {e : Expr} {es : List Expr} {ms : M (List D)} {x : Str} {p pos : Pos} {r : List V → Hp → VK → Prop} {f : List D → Option D}
def calM (f : List D → Option D) (ms : M (List D)) : M D := bnd ms fun ds => lif (f ds)
theorem de_callB {id : String} (hc : ∀ i, CallR (X i) (.builtin id) r) (hv : ValC K r f) (hm : ∀ i, (X i).mg x = none) (hb : bootBuiltins x = some (.builtin id)) (ha : DA X K E (e :: es) ms) (hg : ∀ i, Gl (X i) x) (hn : x ≠ "__name__") (hdb : (x == ("__debug__" : Str)) = false)
    (na : ∀ i, starEach (e :: es) (X i).env = (false, eval e (X i).env) :: starEach es (X i).env) (hpl : ∀ i, (backTo pos (starEach es (X i).env)).any (·.1) = false) : DE X K E (.Call (.Name x p) (e :: es) [] pos) (calM f ms) := by
  obtain ⟨t, q, s⟩ := ha.ex
  exact ⟨_, fun i => pe_callB (hc i) (hg i) (hm i) hb (q i) hn hdb (na i) (hpl i), snd_call hv s⟩
theorem de_callT {T : String} (hc : ∀ i, CallR (X i) (.type T) r) (hv : ValC K r f) (hm : ∀ i, (X i).mg x = none) (hb : bootBuiltins x = some (.type T)) (ha : DA X K E (e :: es) ms) (hg : ∀ i, Gl (X i) x) (hn : x ≠ "__name__") (hdb : (x == ("__debug__" : Str)) = false)
    (na : ∀ i, starEach (e :: es) (X i).env = (false, eval e (X i).env) :: starEach es (X i).env) (hpl : ∀ i, (backTo pos (starEach es (X i).env)).any (·.1) = false) : DE X K E (.Call (.Name x p) (e :: es) [] pos) (calM f ms) := by
  obtain ⟨t, q, s⟩ := ha.ex
  exact ⟨_, fun i => pe_callTy (hc i) (hg i) (hm i) hb (q i) hn hdb (na i) (hpl i), snd_call hv s⟩
end
section
variable {K : PySem.W.Frag} {F H : Hp}
theorem rpa1 {xs : List V} {d : D} (r : RpA K F xs [d]) : ∃ v, xs = [v] ∧ Rp K F v d := by
  cases r with
  | cons h1 h2 => cases h2; exact ⟨_, rfl, h1⟩
theorem rpa2 {xs : List V} {d e : D} (r : RpA K F xs [d, e]) : ∃ v u, xs = [v, u] ∧ Rp K F v d ∧ Rp K F u e := by
  cases r with
  | cons h1 h2 => obtain ⟨u, rfl, h3⟩ := rpa1 h2; exact ⟨_, u, rfl, h1, h3⟩
/-- len -/
def lenC : List D → Option D
  | [.str z] => if z.length ≤ sizeLine then some (.int z.length) else none
  | [d] => (seqD d).map fun xs => .int xs.length
  | _ => none
abbrev rLen2 (K : PySem.W.Frag) : List V → Hp → VK → Prop := fun xs H Q => (∃ p ys, xs = [.ref p] ∧ (SqL K H p ys ∨ SqT K H p ys) ∧ Q (.int ys.length) H) ∨ (∃ z, xs = [.str z] ∧ z.length ≤ sizeLine ∧ Q (.int z.length) H)
theorem cr_len2 {X : Cx} : CallR X (.builtin "len") (rLen2 X.K) := CallR.or call_len_seq call_len_str
theorem vc_len : ValC K (rLen2 K) lenC := ⟨fun F H xs ds z eq rx h Q q => by
  have go : ∀ d, RpA K F xs [d] → (seqD d).map (fun xs => D.int xs.length) = some z → rLen2 K xs H Q := fun d rx h => by
    obtain ⟨v, rfl, r⟩ := rpa1 rx
    cases hs : seqD d with
    | none => rw [hs] at h; cases h
    | some ys =>
      rw [hs] at h
      cases h
      obtain ⟨a, vs, rfl, h1, h2⟩ := rp_seq r hs eq
      exact .inl ⟨a, vs, rfl, h1, by rw [h2.len]; exact q _ _ _ (Gr.refl eq) (.int _)⟩
  match ds, h, rx with
  | [.str s], h, rx =>
    obtain ⟨v, rfl, r⟩ := rpa1 rx
    cases (strD r)
    simp only [lenC] at h
    split at h
    · cases h; exact .inr ⟨s, rfl, by assumption, q _ _ _ (Gr.refl eq) (.int _)⟩
    · cases h
  | [.non], h, rx => exact go _ rx h
  | [.bl _], h, rx => exact go _ rx h
  | [.int _], h, rx => exact go _ rx h
  | [.tup _], h, rx => exact go _ rx h
  | [.lst _], h, rx => exact go _ rx h
  | [.lck _], h, rx => exact go _ rx h
  | [], h, _ => cases h
  | _ :: _ :: _, h, _ => simp [lenC] at h⟩
/-- abs, int, str of ints -/
def absC : List D → Option D
  | [.int i] => some (.int (if i < 0 then -i else i))
  | _ => none
theorem vc_abs : ValC K (fun xs H Q => ∃ i, xs = [.int i] ∧ Q (.int (if i < 0 then -i else i)) H) absC := ⟨fun F H xs ds z eq rx h Q q => by
  match ds, h, rx with
  | [.int i], h, rx =>
    obtain ⟨v, rfl, r⟩ := rpa1 rx
    cases (intD r)
    cases h
    exact ⟨i, rfl, q _ _ _ (Gr.refl eq) (.int _)⟩⟩
def intC : List D → Option D
  | [.int i] => some (.int i)
  | [.bl b] => some (.int (if b then 1 else 0))
  | _ => none
theorem vc_int : ValC K (fun xs H Q => (∃ i, xs = [.int i] ∧ Q (.int i) H) ∨ ∃ k, xs = [.bl k] ∧ Q (.int (if k then 1 else 0)) H) intC := ⟨fun F H xs ds z eq rx h Q q => by
  match ds, h, rx with
  | [.int i], h, rx =>
    obtain ⟨v, rfl, r⟩ := rpa1 rx
    cases (intD r)
    cases h
    exact .inl ⟨i, rfl, q _ _ _ (Gr.refl eq) (.int _)⟩
  | [.bl i], h, rx =>
    obtain ⟨v, rfl, r⟩ := rpa1 rx
    cases (blD r)
    cases h
    exact .inr ⟨i, rfl, q _ _ _ (Gr.refl eq) (.int _)⟩⟩
def strC : List D → Option D
  | [.int i] => if i.natAbs.log2 < 1920 then some (.str (toString i)) else none
  | _ => none
theorem vc_str : ValC K (fun xs H Q => ∃ i, xs = [.int i] ∧ i.natAbs.log2 < 1920 ∧ Q (.str (toString i)) H) strC := ⟨fun F H xs ds z eq rx h Q q => by
  match ds, h, rx with
  | [.int i], h, rx =>
    obtain ⟨v, rfl, r⟩ := rpa1 rx
    cases (intD r)
    simp only [strC] at h
    split at h
    · cases h; exact ⟨i, rfl, by assumption, q _ _ _ (Gr.refl eq) (.str _)⟩
    · cases h⟩
/-- lists of ints, of truth values -/
def intsD : List D → Option (List Int)
  | [] => some []
  | .int i :: ds => (intsD ds).map (i :: ·)
  | _ :: _ => none
theorem intsD_of {vs : List V} {ds : List D} {ns : List Int} (r : RpA K F vs ds) (h : intsD ds = some ns) : vs = ns.map V.int := by
  induction ds generalizing vs ns with
  | nil => cases r; cases h; rfl
  | cons d ds ih =>
    cases r with
    | cons h1 h2 =>
      cases d with
      | int i =>
        simp only [intsD] at h
        cases e : intsD ds with
        | none => rw [e] at h; cases h
        | some ms =>
          rw [e] at h
          cases h
          rw [intD h1, ih h2 e]
          rfl
      | _ => cases h
def blsD : List D → Option (List Bool)
  | [] => some []
  | .bl i :: ds => (blsD ds).map (i :: ·)
  | _ :: _ => none
theorem blsD_of {vs : List V} {ds : List D} {ns : List Bool} (r : RpA K F vs ds) (h : blsD ds = some ns) : vs = ns.map V.bl := by
  induction ds generalizing vs ns with
  | nil => cases r; cases h; rfl
  | cons d ds ih =>
    cases r with
    | cons h1 h2 =>
      cases d with
      | bl i =>
        simp only [blsD] at h
        cases e : blsD ds with
        | none => rw [e] at h; cases h
        | some ms =>
          rw [e] at h
          cases h
          rw [blD h1, ih h2 e]
          rfl
      | _ => cases h
def lstD : D → Option (List D)
  | .lst xs => some xs
  | .lck xs => some xs
  | _ => none
theorem rp_lstD {v : V} {d : D} {xs : List D} (r : Rp K F v d) (h : lstD d = some xs) (e : Same F H) : ∃ a vs, v = .ref a ∧ SqL K H a vs ∧ RpA K F vs xs := by
  cases r with
  | lst h1 h2 => cases h; exact ⟨_, _, rfl, SqL.of (e _ _ h1), h2⟩
  | lck h1 h2 => cases h; exact ⟨_, _, rfl, sameL e h1, h2⟩
  | _ => cases h
def onInts (g : List Int → Option D) : List D → Option D
  | [d] => (lstD d).bind fun xs => (intsD xs).bind g
  | _ => none
theorem onInts_of {xs : List V} {ds : List D} {z : D} {g : List Int → Option D} (e : Same F H) (rx : RpA K F xs ds) (h : onInts g ds = some z) : ∃ a ns, xs = [V.ref a] ∧ SqL K H a (ns.map V.int) ∧ g ns = some z := by
  match ds, h, rx with
  | [d], h, rx =>
    obtain ⟨v, rfl, r⟩ := rpa1 rx
    simp only [onInts] at h
    cases h1 : lstD d with
    | none => rw [h1] at h; cases h
    | some ys =>
      rw [h1] at h
      simp only [Option.bind_some] at h
      cases h2 : intsD ys with
      | none => rw [h2] at h; cases h
      | some ns =>
        rw [h2] at h
        obtain ⟨a, vs, rfl, q1, q2⟩ := rp_lstD r h1 e
        have := intsD_of q2 h2
        subst this
        exact ⟨a, ns, rfl, q1, h⟩
  | [], h, _ => cases h
  | _ :: _ :: _, h, _ => cases h
def sumC : List D → Option D := onInts fun ns => some (.int ns.sum)
theorem vc_sum : ValC K (rSum K) sumC := ⟨fun F H xs ds z eq rx h Q q => by
  obtain ⟨a, ns, rfl, h1, h2⟩ := onInts_of eq rx h
  cases h2
  exact ⟨a, ns, rfl, h1, q _ _ _ (Gr.refl eq) (.int _)⟩⟩
def minC : List D → Option D := onInts fun ns => ns.min?.map .int
def maxC : List D → Option D := onInts fun ns => ns.max?.map .int
theorem vc_min : ValC K (rMin K) minC := ⟨fun F H xs ds z eq rx h Q q => by
  obtain ⟨a, ns, rfl, h1, h2⟩ := onInts_of eq rx h
  cases hm : ns.min? with
  | none => rw [hm] at h2; cases h2
  | some m =>
    rw [hm] at h2
    cases h2
    obtain ⟨hin, hle⟩ := List.min?_eq_some_iff.mp hm
    refine ⟨a, ns, rfl, h1, ?_, fun m' hm' hle' => ?_⟩
    · exact List.length_pos_of_mem hin
    · have : m' = m := by
        have h3 := hle' m hin
        have h4 := hle m' hm'
        omega
      subst this
      exact q _ _ _ (Gr.refl eq) (.int _)⟩
theorem vc_max : ValC K (rMax K) maxC := ⟨fun F H xs ds z eq rx h Q q => by
  obtain ⟨a, ns, rfl, h1, h2⟩ := onInts_of eq rx h
  cases hm : ns.max? with
  | none => rw [hm] at h2; cases h2
  | some m =>
    rw [hm] at h2
    cases h2
    obtain ⟨hin, hle⟩ := List.max?_eq_some_iff.mp hm
    refine ⟨a, ns, rfl, h1, ?_, fun m' hm' hle' => ?_⟩
    · exact List.length_pos_of_mem hin
    · have : m' = m := by
        have h3 := hle' m hin
        have h4 := hle m' hm'
        omega
      subst this
      exact q _ _ _ (Gr.refl eq) (.int _)⟩
def min2C : List D → Option D
  | [.int i, .int j] => some (.int (if j < i then j else i))
  | _ => none
def max2C : List D → Option D
  | [.int i, .int j] => some (.int (if j > i then j else i))
  | _ => none
theorem vc_min2 : ValC K (fun xs H Q => ∃ i j, xs = [.int i, .int j] ∧ Q (.int (if j < i then j else i)) H) min2C := ⟨fun F H xs ds z eq rx h Q q => by
  match ds, h, rx with
  | [.int i, .int j], h, rx =>
    obtain ⟨v, u, rfl, r1, r2⟩ := rpa2 rx
    cases (intD r1)
    cases (intD r2)
    cases h
    exact ⟨i, j, rfl, q _ _ _ (Gr.refl eq) (.int _)⟩⟩
theorem vc_max2 : ValC K (fun xs H Q => ∃ i j, xs = [.int i, .int j] ∧ Q (.int (if j > i then j else i)) H) max2C := ⟨fun F H xs ds z eq rx h Q q => by
  match ds, h, rx with
  | [.int i, .int j], h, rx =>
    obtain ⟨v, u, rfl, r1, r2⟩ := rpa2 rx
    cases (intD r1)
    cases (intD r2)
    cases h
    exact ⟨i, j, rfl, q _ _ _ (Gr.refl eq) (.int _)⟩⟩
def onBls (g : List Bool → Option D) : List D → Option D
  | [.lst xs] => (blsD xs).bind g
  | _ => none
theorem onBls_of {xs : List V} {ds : List D} {z : D} {g : List Bool → Option D} (e : Same F H) (rx : RpA K F xs ds) (h : onBls g ds = some z) : ∃ a ns, xs = [V.ref a] ∧ SqL K H a (ns.map V.bl) ∧ g ns = some z := by
  match ds, h, rx with
  | [.lst ys], h, rx =>
    obtain ⟨v, rfl, r⟩ := rpa1 rx
    simp only [onBls] at h
    cases h2 : blsD ys with
    | none => rw [h2] at h; cases h
    | some ns =>
      rw [h2] at h
      obtain ⟨a, vs, rfl, q1, q2⟩ := rp_lstD r (xs := ys) rfl e
      have := blsD_of q2 h2
      subst this
      exact ⟨a, ns, rfl, q1, h⟩
def allC : List D → Option D := onBls fun bs => some (.bl (bs.all id))
def anyC : List D → Option D := onBls fun bs => some (.bl (bs.any id))
theorem vc_all : ValC K (rAll K) allC := ⟨fun F H xs ds z eq rx h Q q => by
  obtain ⟨a, ns, rfl, h1, h2⟩ := onBls_of eq rx h
  cases h2
  exact ⟨a, ns, rfl, h1, q _ _ _ (Gr.refl eq) (.bl _)⟩⟩
theorem vc_any : ValC K (rAny K) anyC := ⟨fun F H xs ds z eq rx h Q q => by
  obtain ⟨a, ns, rfl, h1, h2⟩ := onBls_of eq rx h
  cases h2
  exact ⟨a, ns, rfl, h1, q _ _ _ (Gr.refl eq) (.bl _)⟩⟩
/-- list(..), tuple(..) -/
def listC : List D → Option D
  | [d] => (seqD d).map .lst
  | _ => none
theorem vc_list : ValC K (fun xs H Q => ∃ p ys, xs = [.ref p] ∧ (SqL K H p ys ∨ SqT K H p ys) ∧ ∀ l, H l = none → Q (.ref l) (upd H l (.lst ys))) listC := ⟨fun F H xs ds z eq rx h Q q => by
  match ds, h, rx with
  | [d], h, rx =>
    obtain ⟨v, rfl, r⟩ := rpa1 rx
    simp only [listC] at h
    cases hs : seqD d with
    | none => rw [hs] at h; cases h
    | some ys =>
      rw [hs] at h
      cases h
      obtain ⟨a, vs, rfl, h1, h2⟩ := rp_seq r hs eq
      exact ⟨a, vs, rfl, h1, fun p hp => q _ _ _ (Gr.new eq hp) (rp_lst (eq.free hp) h2)⟩
  | [], h, _ => cases h
  | _ :: _ :: _, h, _ => cases h⟩
def tupleC : List D → Option D
  | [.tup xs] => some (.tup xs)
  | [.lst xs] => some (.tup xs)
  | _ => none
theorem vc_tuple : ValC K (fun xs H Q => ∃ p ys, xs = [.ref p] ∧ ((SqL K H p ys ∧ ∀ l, H l = none → Q (.ref l) (upd H l (.tup ys))) ∨ (SqT K H p ys ∧ Q (.ref p) H))) tupleC := ⟨fun F H xs ds z eq rx h Q q => by
  match ds, h, rx with
  | [.tup ys], h, rx =>
    obtain ⟨v, rfl, r⟩ := rpa1 rx
    cases h
    cases r with
    | tup h1 h2 => exact ⟨_, _, rfl, .inr ⟨sameT eq h1, q _ _ _ (Gr.refl eq) (.tup h1 h2)⟩⟩
  | [.lst ys], h, rx =>
    obtain ⟨v, rfl, r⟩ := rpa1 rx
    cases h
    cases r with
    | lst h1 h2 => exact ⟨_, _, rfl, .inl ⟨SqL.of (eq _ _ h1), fun p hp => q _ _ _ (Gr.new eq hp) (rp_tup (eq.free hp) h2)⟩⟩⟩
end

/-! ### isinstance -/
def tyD : D → String
  | .non => "NoneType" | .bl _ => "bool" | .int _ => "int" | .str _ => "str" | .tup _ => "tuple" | .lst _ => "list" | .lck _ => "list"
theorem tyX {K : PySem.W.Frag} {F H : Hp} {v : V} {d : D} (r : Rp K F v d) (e : Same F H) : TyX K H v (.type (tyD d)) := by
  cases r with
  | non => exact .base .non
  | bl b => exact .base (.bl b)
  | int b => exact .base (.int b)
  | str b => exact .base (.str b)
  | tup h1 h2 =>
    rcases sameT e h1 with (h | ⟨o, h⟩) | ⟨o, its, n, h, c, _⟩
    · exact .base (.tup h)
    · exact .fTuple h
    · exact .kTuple h c
  | lst h1 h2 => exact .base (.lst (e _ _ h1))
  | lck h1 h2 =>
    rcases sameL e h1 with (h | ⟨o, h⟩) | ⟨o, its, n, h, c, _⟩
    · exact .base (.lst h)
    · exact .base (.frz h)
    · exact .kList h c
def isiM (T : String) (m : M D) : M D := bnd m fun d => lif ((kitB (tyD d) T).map .bl)
def isiTs : String → List String → Option Bool
  | _, [] => some false
  | a, T :: Ts => match kitB a T with
    | some true => some true
    | some false => isiTs a Ts
    | none => none
theorem isiTs_ok {K : PySem.W.Frag} {a : String} {b : Bool} : ∀ {Ts : List String}, isiTs a Ts = some b → PySem.W.kitAny K (.type a) (Ts.map Value.type) = some b
  | [], h => by cases h; rfl
  | T :: Ts, h => by
    simp only [isiTs] at h
    cases hk : kitB a T with
    | none => rw [hk] at h; cases h
    | some c =>
      rw [hk] at h
      cases c with
      | true =>
        cases h
        exact kitAny_cons (kit_ty hk) (fun z => by cases z) fun _ => rfl
      | false => exact kitAny_cons (kit_ty hk) (fun _ => isiTs_ok h) fun z => by cases z
def isiTM (Ts : List String) (m : M D) : M D := bnd m fun d => lif ((isiTs (tyD d) Ts).map .bl)
section
variable {ι : Type} {X : ι → Cx} {K : PySem.W.Frag} {E : EX} {e : Expr} {es : List Expr} {ms : M (List D)} {p pos : Pos}
theorem de_len (hm : ∀ i, (X i).mg "len" = none) (ha : DA X K E (e :: es) ms) (hK : KOf X K := by intro _; rfl) (hc : ∀ i, (X i).calm = true := by intro _; rfl) (hg : ∀ i, Gl (X i) "len" := by intro _; rfl)
    (na : ∀ i, starEach (e :: es) (X i).env = (false, eval e (X i).env) :: starEach es (X i).env := by intro _; rfl) (hpl : ∀ i, (backTo pos (starEach es (X i).env)).any (·.1) = false := by intro _; rfl) : DE X K E (.Call (.Name "len" p) (e :: es) [] pos) (calM lenC ms) :=
  de_callB (fun i => by rw [← hK i]; exact cr_len2) vc_len hm (by decide +kernel) ha hg (by decide) (by decide) na hpl
theorem de_abs (hm : ∀ i, (X i).mg "abs" = none) (ha : DA X K E (e :: es) ms) (hK : KOf X K := by intro _; rfl) (hc : ∀ i, (X i).calm = true := by intro _; rfl) (hg : ∀ i, Gl (X i) "abs" := by intro _; rfl)
    (na : ∀ i, starEach (e :: es) (X i).env = (false, eval e (X i).env) :: starEach es (X i).env := by intro _; rfl) (hpl : ∀ i, (backTo pos (starEach es (X i).env)).any (·.1) = false := by intro _; rfl) : DE X K E (.Call (.Name "abs" p) (e :: es) [] pos) (calM absC ms) :=
  de_callB (fun i => by exact call_abs) vc_abs hm (by decide +kernel) ha hg (by decide) (by decide) na hpl
theorem de_sum (hm : ∀ i, (X i).mg "sum" = none) (ha : DA X K E (e :: es) ms) (hK : KOf X K := by intro _; rfl) (hc : ∀ i, (X i).calm = true := by intro _; rfl) (hg : ∀ i, Gl (X i) "sum" := by intro _; rfl)
    (na : ∀ i, starEach (e :: es) (X i).env = (false, eval e (X i).env) :: starEach es (X i).env := by intro _; rfl) (hpl : ∀ i, (backTo pos (starEach es (X i).env)).any (·.1) = false := by intro _; rfl) : DE X K E (.Call (.Name "sum" p) (e :: es) [] pos) (calM sumC ms) :=
  de_callB (fun i => by rw [← hK i]; exact cr_sum (hc i)) vc_sum hm (by decide +kernel) ha hg (by decide) (by decide) na hpl
theorem de_min (hm : ∀ i, (X i).mg "min" = none) (ha : DA X K E (e :: es) ms) (hK : KOf X K := by intro _; rfl) (hc : ∀ i, (X i).calm = true := by intro _; rfl) (hg : ∀ i, Gl (X i) "min" := by intro _; rfl)
    (na : ∀ i, starEach (e :: es) (X i).env = (false, eval e (X i).env) :: starEach es (X i).env := by intro _; rfl) (hpl : ∀ i, (backTo pos (starEach es (X i).env)).any (·.1) = false := by intro _; rfl) : DE X K E (.Call (.Name "min" p) (e :: es) [] pos) (calM minC ms) :=
  de_callB (fun i => by rw [← hK i]; exact cr_min (hc i)) vc_min hm (by decide +kernel) ha hg (by decide) (by decide) na hpl
theorem de_max (hm : ∀ i, (X i).mg "max" = none) (ha : DA X K E (e :: es) ms) (hK : KOf X K := by intro _; rfl) (hc : ∀ i, (X i).calm = true := by intro _; rfl) (hg : ∀ i, Gl (X i) "max" := by intro _; rfl)
    (na : ∀ i, starEach (e :: es) (X i).env = (false, eval e (X i).env) :: starEach es (X i).env := by intro _; rfl) (hpl : ∀ i, (backTo pos (starEach es (X i).env)).any (·.1) = false := by intro _; rfl) : DE X K E (.Call (.Name "max" p) (e :: es) [] pos) (calM maxC ms) :=
  de_callB (fun i => by rw [← hK i]; exact cr_max (hc i)) vc_max hm (by decide +kernel) ha hg (by decide) (by decide) na hpl
theorem de_min2 (hm : ∀ i, (X i).mg "min" = none) (ha : DA X K E (e :: es) ms) (hK : KOf X K := by intro _; rfl) (hc : ∀ i, (X i).calm = true := by intro _; rfl) (hg : ∀ i, Gl (X i) "min" := by intro _; rfl)
    (na : ∀ i, starEach (e :: es) (X i).env = (false, eval e (X i).env) :: starEach es (X i).env := by intro _; rfl) (hpl : ∀ i, (backTo pos (starEach es (X i).env)).any (·.1) = false := by intro _; rfl) : DE X K E (.Call (.Name "min" p) (e :: es) [] pos) (calM min2C ms) :=
  de_callB (fun i => by exact call_min2 (hc i)) vc_min2 hm (by decide +kernel) ha hg (by decide) (by decide) na hpl
theorem de_max2 (hm : ∀ i, (X i).mg "max" = none) (ha : DA X K E (e :: es) ms) (hK : KOf X K := by intro _; rfl) (hc : ∀ i, (X i).calm = true := by intro _; rfl) (hg : ∀ i, Gl (X i) "max" := by intro _; rfl)
    (na : ∀ i, starEach (e :: es) (X i).env = (false, eval e (X i).env) :: starEach es (X i).env := by intro _; rfl) (hpl : ∀ i, (backTo pos (starEach es (X i).env)).any (·.1) = false := by intro _; rfl) : DE X K E (.Call (.Name "max" p) (e :: es) [] pos) (calM max2C ms) :=
  de_callB (fun i => by exact call_max2 (hc i)) vc_max2 hm (by decide +kernel) ha hg (by decide) (by decide) na hpl
theorem de_all (hm : ∀ i, (X i).mg "all" = none) (ha : DA X K E (e :: es) ms) (hK : KOf X K := by intro _; rfl) (hc : ∀ i, (X i).calm = true := by intro _; rfl) (hg : ∀ i, Gl (X i) "all" := by intro _; rfl)
    (na : ∀ i, starEach (e :: es) (X i).env = (false, eval e (X i).env) :: starEach es (X i).env := by intro _; rfl) (hpl : ∀ i, (backTo pos (starEach es (X i).env)).any (·.1) = false := by intro _; rfl) : DE X K E (.Call (.Name "all" p) (e :: es) [] pos) (calM allC ms) :=
  de_callB (fun i => by rw [← hK i]; exact cr_all (hc i)) vc_all hm (by decide +kernel) ha hg (by decide) (by decide) na hpl
theorem de_any (hm : ∀ i, (X i).mg "any" = none) (ha : DA X K E (e :: es) ms) (hK : KOf X K := by intro _; rfl) (hc : ∀ i, (X i).calm = true := by intro _; rfl) (hg : ∀ i, Gl (X i) "any" := by intro _; rfl)
    (na : ∀ i, starEach (e :: es) (X i).env = (false, eval e (X i).env) :: starEach es (X i).env := by intro _; rfl) (hpl : ∀ i, (backTo pos (starEach es (X i).env)).any (·.1) = false := by intro _; rfl) : DE X K E (.Call (.Name "any" p) (e :: es) [] pos) (calM anyC ms) :=
  de_callB (fun i => by rw [← hK i]; exact cr_any (hc i)) vc_any hm (by decide +kernel) ha hg (by decide) (by decide) na hpl
theorem de_int1 (hm : ∀ i, (X i).mg "int" = none) (ha : DA X K E (e :: es) ms) (hK : KOf X K := by intro _; rfl) (hc : ∀ i, (X i).calm = true := by intro _; rfl) (hg : ∀ i, Gl (X i) "int" := by intro _; rfl)
    (na : ∀ i, starEach (e :: es) (X i).env = (false, eval e (X i).env) :: starEach es (X i).env := by intro _; rfl) (hpl : ∀ i, (backTo pos (starEach es (X i).env)).any (·.1) = false := by intro _; rfl) : DE X K E (.Call (.Name "int" p) (e :: es) [] pos) (calM intC ms) :=
  de_callT (fun i => by exact call_int1) vc_int hm (by decide +kernel) ha hg (by decide) (by decide) na hpl
theorem de_str1 (hm : ∀ i, (X i).mg "str" = none) (ha : DA X K E (e :: es) ms) (hK : KOf X K := by intro _; rfl) (hc : ∀ i, (X i).calm = true := by intro _; rfl) (hg : ∀ i, Gl (X i) "str" := by intro _; rfl)
    (na : ∀ i, starEach (e :: es) (X i).env = (false, eval e (X i).env) :: starEach es (X i).env := by intro _; rfl) (hpl : ∀ i, (backTo pos (starEach es (X i).env)).any (·.1) = false := by intro _; rfl) : DE X K E (.Call (.Name "str" p) (e :: es) [] pos) (calM strC ms) :=
  de_callT (fun i => by exact call_str_int) vc_str hm (by decide +kernel) ha hg (by decide) (by decide) na hpl
theorem de_list (hm : ∀ i, (X i).mg "list" = none) (ha : DA X K E (e :: es) ms) (hK : KOf X K := by intro _; rfl) (hc : ∀ i, (X i).calm = true := by intro _; rfl) (hg : ∀ i, Gl (X i) "list" := by intro _; rfl)
    (na : ∀ i, starEach (e :: es) (X i).env = (false, eval e (X i).env) :: starEach es (X i).env := by intro _; rfl) (hpl : ∀ i, (backTo pos (starEach es (X i).env)).any (·.1) = false := by intro _; rfl) : DE X K E (.Call (.Name "list" p) (e :: es) [] pos) (calM listC ms) :=
  de_callT (fun i => by rw [← hK i]; exact call_list_of) vc_list hm (by decide +kernel) ha hg (by decide) (by decide) na hpl
theorem de_tuple (hm : ∀ i, (X i).mg "tuple" = none) (ha : DA X K E (e :: es) ms) (hK : KOf X K := by intro _; rfl) (hc : ∀ i, (X i).calm = true := by intro _; rfl) (hg : ∀ i, Gl (X i) "tuple" := by intro _; rfl)
    (na : ∀ i, starEach (e :: es) (X i).env = (false, eval e (X i).env) :: starEach es (X i).env := by intro _; rfl) (hpl : ∀ i, (backTo pos (starEach es (X i).env)).any (·.1) = false := by intro _; rfl) : DE X K E (.Call (.Name "tuple" p) (e :: es) [] pos) (calM tupleC ms) :=
  de_callT (fun i => by rw [← hK i]; exact call_tuple_of) vc_tuple hm (by decide +kernel) ha hg (by decide) (by decide) na hpl
end
section
variable {ι : Type} {X : ι → Cx} {K : PySem.W.Frag} {E : EX} {e : Expr} {m : M D} {x : Str} {p p2 p3 pos : Pos}
theorem de_isi {T : String} (hm : ∀ i, (X i).mg "isinstance" = none) (hx : ∀ i, (X i).mg x = none) (hb : bootBuiltins x = some (.type T)) (ha : DE X K E e m) (hK : KOf X K := by intro _; rfl) (hg : ∀ i, Gl (X i) "isinstance" := by intro _; rfl) (hg2 : ∀ i, Gl (X i) x := by intro _; rfl) (hn : x ≠ "__name__" := by decide) (hdb : (x == ("__debug__" : Str)) = false := by decide)
    (na : ∀ i, starEach [e, .Name x p2] (X i).env = (false, eval e (X i).env) :: starEach [.Name x p2] (X i).env := by intro _; rfl) (na2 : ∀ i, starEach [Expr.Name x p2] (X i).env = (false, eval (.Name x p2) (X i).env) :: starEach [] (X i).env := by intro _; rfl) (hpl : ∀ i, (backTo pos (starEach [Expr.Name x p2] (X i).env)).any (·.1) = false := by intro _; rfl) :
    DE X K E (.Call (.Name "isinstance" p) [e, .Name x p2] [] pos) (isiM T m) := by
  obtain ⟨t, q, s⟩ := ha.ex
  refine ⟨tCB (rIsi K) (tCons t (tCons (tC (.ty T)) tNil)), fun i => by have := pe_callB (p := p) (call_isi (X := X i)) (hg i) (hm i) (by decide +kernel) (pa_cons (q i) (pa_cons (pe_bltn (v := .ty T) (hg2 i) (hx i) hb rfl hn hdb) pa_nil (na2 i)) (na i)) (by decide) (by decide) (na i) (hpl i); rw [hK i] at this; exact this, fun σ => ?_⟩
  refine Snd.bind (T1 := t σ) (T2 := fun v H1 Q => rIsi K [v, .ty T] H1 Q) (s σ) fun v d ρ F H rx S => at_gr S fun z hz Q k => ?_
  cases hk : kitB (tyD d) T with
  | none => rw [hk] at hz; cases hz
  | some b =>
    rw [hk] at hz
    cases hz
    exact ⟨v, .ty T, _, _, b, rfl, .ty T, tyX rx S.fh, kit_ty hk, k _ _ _ (Gr.refl S.fh) (.bl b)⟩
theorem de_isi2 {x' : Str} {T T' : String} {k} (hm : ∀ i, (X i).mg "isinstance" = none) (hx : ∀ i, (X i).mg x = none) (hb : bootBuiltins x = some (.type T)) (hx' : ∀ i, (X i).mg x' = none) (hb' : bootBuiltins x' = some (.type T')) (ha : DE X K E e m) (hK : KOf X K := by intro _; rfl) (hg : ∀ i, Gl (X i) "isinstance" := by intro _; rfl) (hg2 : ∀ i, Gl (X i) x := by intro _; rfl) (hg3 : ∀ i, Gl (X i) x' := by intro _; rfl)
    (hn : x ≠ "__name__" := by decide) (hdb : (x == ("__debug__" : Str)) = false := by decide) (hn' : x' ≠ "__name__" := by decide) (hdb' : (x' == ("__debug__" : Str)) = false := by decide)
    {pt : Pos} (na : ∀ i, starEach [e, .Tuple [.Name x p2, .Name x' p3] k pt] (X i).env = (false, eval e (X i).env) :: starEach [.Tuple [.Name x p2, .Name x' p3] k pt] (X i).env := by intro _; rfl)
    (na2 : ∀ i, starEach [Expr.Tuple [.Name x p2, .Name x' p3] k pt] (X i).env = (false, eval (.Tuple [.Name x p2, .Name x' p3] k pt) (X i).env) :: starEach [] (X i).env := by intro _; rfl)
    (na3 : ∀ i, starEach [Expr.Name x p2, .Name x' p3] (X i).env = (false, eval (.Name x p2) (X i).env) :: starEach [.Name x' p3] (X i).env := by intro _; rfl) (na4 : ∀ i, starEach [Expr.Name x' p3] (X i).env = (false, eval (.Name x' p3) (X i).env) :: starEach [] (X i).env := by intro _; rfl)
    (hpl : ∀ i, (backTo pos (starEach [Expr.Tuple [.Name x p2, .Name x' p3] k pt] (X i).env)).any (·.1) = false := by intro _; rfl) :
    DE X K E (.Call (.Name "isinstance" p) [e, .Tuple [.Name x p2, .Name x' p3] k pt] [] pos) (isiTM [T, T'] m) := by
  obtain ⟨t, q, s⟩ := ha.ex
  refine ⟨tCB (rIsiT K) (tCons t (tCons (tTup (tCons (tC (.ty T)) (tCons (tC (.ty T')) tNil))) tNil)), fun i => by have := pe_callB (p := p) (call_isiT (X := X i)) (hg i) (hm i) (by decide +kernel) (pa_cons (q i) (pa_cons (pe_tup (pa_cons (pe_bltn (v := .ty T) (hg2 i) (hx i) hb rfl hn hdb) (pa_cons (pe_bltn (v := .ty T') (hg3 i) (hx' i) hb' rfl hn' hdb') pa_nil (na4 i)) (na3 i))) pa_nil (na2 i)) (na i)) (by decide) (by decide) (na i) (hpl i); rw [hK i] at this; exact this, fun σ => ?_⟩
  refine Snd.bind (T1 := t σ) (T2 := fun v H1 Q => ([V.ty T, V.ty T'] : List V).length ≤ sizeLine ∧ ∀ p, H1 p = none → rIsiT K [v, V.ref p] (upd H1 p (.tup [V.ty T, V.ty T'])) Q) (s σ) fun v d ρ F H rx S => at_gr S fun z hz Q k => ?_
  cases hk : isiTs (tyD d) [T, T'] with
  | none => rw [hk] at hz; cases hz
  | some b =>
    rw [hk] at hz
    cases hz
    refine ⟨by show 2 ≤ sizeLine; decide, fun p hp => ?_⟩
    have g : Gr F H F (upd H p (.tup [V.ty T, V.ty T'])) := Gr.drop S.fh hp
    exact ⟨v, p, _, _, _, b, rfl, upd_same, .cons (.ty T) (.cons (.ty T') .nil), tyX rx g.fh, isiTs_ok hk, k _ _ _ g (.bl b)⟩
end
end Ly

set_option Elab.async false
set_option linter.all false
set_option maxRecDepth 100000
set_option maxHeartbeats 2000000
namespace Ly
open PySem L2

/-! ### owned lists: content, change -/
def cont (ρ : Env) (i : Nat) : Option (List D) := match ρ[i]? with
  | some (some (.ow xs)) => some xs
  | some (some (.pr _ xs)) => some xs
  | _ => none
def setC (ρ : Env) (i : Nat) (zs : List D) : Env := match ρ[i]? with
  | some (some (.ow _)) => ρ.set i (some (.ow zs))
  | some (some (.pr a _)) => ρ.set i (some (.pr a zs))
  | _ => ρ
section
variable {K : PySem.W.Frag} {F F' H H' : Hp} {ρ ρ' : Env} {σ : L2.St} {i j : Nat} {xs zs : List D}
theorem cont_ow (h : cont ρ i = some xs) : isOw ρ[i]? := by
  unfold cont at h
  split at h
  · rename_i e; rw [e]; trivial
  · rename_i e; rw [e]; trivial
  · cases h
theorem StOk.cont (S : StOk K F ρ σ H) (h : cont ρ i = some xs) : ∃ a vs, σ[i]? = some (some (V.ref a)) ∧ F a = none ∧ H a = some (.lst vs) ∧ RpA K F vs xs := by
  unfold Ly.cont at h
  have q := S.sl i
  split at h
  · rename_i e
    cases h
    rw [e] at q
    obtain ⟨a, vs, e1, e2, e3, e4⟩ := q
    exact ⟨a, vs, e1, e2, e3, e4⟩
  · rename_i e
    cases h
    rw [e] at q
    obtain ⟨vs, e1, e2, e3, e4⟩ := q
    exact ⟨_, vs, e1, e2, e3, e4⟩
  · cases h
theorem setC_len : (setC ρ i zs).length = ρ.length := by
  unfold setC
  split <;> simp
theorem setC_isOw (j : Nat) : isOw (setC ρ i zs)[j]? ↔ isOw ρ[j]? := by
  unfold setC
  split
  · rename_i e
    by_cases h : i = j
    · subst h
      rw [List.getElem?_set_self (List.getElem?_eq_some_iff.mp e).1, e]
      exact Iff.rfl
    · rw [List.getElem?_set_ne h]
  · rename_i e
    by_cases h : i = j
    · subst h
      rw [List.getElem?_set_self (List.getElem?_eq_some_iff.mp e).1, e]
      exact Iff.rfl
    · rw [List.getElem?_set_ne h]
  · exact Iff.rfl
theorem setC_own {b : Addr} : Own (setC ρ i zs) σ b ↔ Own ρ σ b :=
  ⟨fun ⟨j, o, e⟩ => ⟨j, (setC_isOw j).mp o, e⟩, fun ⟨j, o, e⟩ => ⟨j, (setC_isOw j).mpr o, e⟩⟩
theorem setC_ne (h : i ≠ j) : (setC ρ i zs)[j]? = ρ[j]? := by
  unfold setC
  split
  · rw [List.getElem?_set_ne h]
  · rw [List.getElem?_set_ne h]
  · rfl
/-- the list of slot i changed in place -/
theorem StOk.setC {a : Addr} {ws : List V} (S : StOk K F ρ σ H) (h : Ly.cont ρ i = some xs) (ea : σ[i]? = some (some (V.ref a))) (r : RpA K F ws zs) :
    Step (Own ρ σ) (Own (Ly.setC ρ i zs) σ) F H F (upd H a (.lst ws)) ∧ StOk K F (Ly.setC ρ i zs) σ (upd H a (.lst ws)) := by
  obtain ⟨a', vs, e1, e2, e3, e4⟩ := S.cont h
  rw [ea] at e1
  cases e1
  have oa : Own ρ σ a := ⟨i, cont_ow h, ea⟩
  refine ⟨⟨Same.refl F, fun b hb ho hf => ⟨upd_ne fun z => ho (z ▸ oa), hf⟩, fun b hb => .inl (setC_own.mp hb), fun b hb => ?_⟩, ⟨fun b u q => ?_, by rw [setC_len]; exact S.len, fun j => ?_, fun j k b oj ok ej ek => S.dis j k b ((setC_isOw j).mp oj) ((setC_isOw k).mp ok) ej ek⟩⟩
  · by_cases hba : b = a
    · subst hba; rw [upd_same]; simp
    · rw [upd_ne hba]; exact hb
  · have : b ≠ a := ne_of_none q e2
    rw [upd_ne this]
    exact S.fh b u q
  · by_cases hj : i = j
    · subst hj
      unfold Ly.setC
      unfold Ly.cont at h
      split at h
      · rename_i e
        rw [List.getElem?_set_self (List.getElem?_eq_some_iff.mp e).1]
        exact ⟨a, ws, ea, e2, upd_same, r⟩
      · rename_i e
        have q := S.sl i
        rw [e] at q
        obtain ⟨_, e5, _⟩ := q
        rw [ea] at e5
        cases e5
        rw [List.getElem?_set_self (List.getElem?_eq_some_iff.mp e).1]
        exact ⟨ws, ea, e2, upd_same, r⟩
      · cases h
    · rw [setC_ne hj]
      refine (S.sl j).mv (Same.refl F) fun b hb o fb => ⟨upd_ne fun z => hj ?_, fb⟩
      subst z
      exact S.dis i j b (cont_ow h) o ea hb
end
section
variable {ι : Type} {X : ι → Cx} {K : PySem.W.Frag} {E : EX} {e : Expr} {m : M D} {x : Str} {p p2 pos : Pos}
theorem slot_val {K : PySem.W.Frag} {F H : Hp} {ρ : Env} {σ : L2.St} {i : Nat} {s : Sl} (S : StOk K F ρ σ H) (h : ρ[i]? = some (some s)) : ∃ v, σ[i]? = some (some v) := by
  have q := S.sl i
  rw [h] at q
  cases s with
  | fz d => obtain ⟨v, e, _⟩ := q; exact ⟨v, e⟩
  | ow xs => obtain ⟨a, _, e, _⟩ := q; exact ⟨_, e⟩
  | pr a xs => obtain ⟨_, e, _⟩ := q; exact ⟨_, e⟩
/-- an item of what a name holds (owned or frozen) -/
def ixN' (ρ : Env) (i : Nat) (d : D) : Option D := match ρ[i]? with
  | some (some (.fz c)) => ixD c d
  | some (some (.ow xs)) => ixD (.lst xs) d
  | some (some (.pr _ xs)) => ixD (.lst xs) d
  | _ => none
def ixM (i : Nat) (m : M D) : M D := fun ρ => match ρ[i]? with
  | some (some _) => bnd m (fun d ρ1 => lif (ixN' ρ1 i d) ρ1) ρ
  | _ => .stuck
theorem de_ixN (i : Nat) {b : Expr} (hb : DE X K E b m) (hN : ∀ j, (X j).N[i]? = some x := by intro _; rfl) (hv : ∀ j, Vis (X j).env.scope x := by first | exact fun _ => Or.inl rfl | exact fun _ => Or.inr (Or.inl rfl) | exact fun _ => Or.inr (Or.inr rfl)) (hs : PlainIx b := by intro _ _; rfl) (hK : KOf X K := by intro _; rfl) (hd : (x == ("__debug__" : Str)) = false := by decide)
    (hcd : (x == ("__classdict__" : Str)) = false := by decide) : DE X K E (.Subscript (.Name x p) b pos) (ixM i m) := by
  obtain ⟨t, q, s⟩ := hb.ex
  refine ⟨tOp (rIx K) (tVar i) t, fun j => by have := pe_ix (pos := pos) (ix_seq (X := X j)) (pe_var (pos := p) (hN j) (hv j) hd hcd) (q j) hs; rw [hK j] at this; exact this, fun σ ρ F H S => ?_⟩
  unfold ixM
  split
  · rename_i sl hsl
    obtain ⟨v, hv'⟩ := slot_val S hsl
    refine at_cast (P := fun Q => t σ H fun y H2 => rIx K v y H2 Q) ?_ fun Q h => ⟨v, hv', h⟩
    refine At.bind (P1 := t σ H) (T2 := fun y H2 Q => rIx K v y H2 Q) (s σ ρ F H S) fun y d ρ1 F1 H1 st ry S1 => ?_
    refine at_gr S1 fun z hz Q k => ?_
    have q1 := S1.sl i
    unfold ixN' at hz
    have own : ∀ xs a vs, F1 a = none → H1 a = some (.lst vs) → RpA K F1 vs xs → some (some v) = some (some (V.ref a)) → ixD (.lst xs) d = some z → rIx K v y H1 Q := fun xs a vs h1 h2 h3 h4 h5 => by
      cases h4
      cases d with
      | int n =>
        cases (intD ry)
        obtain ⟨w, hw, rw'⟩ := h3.atI h5
        exact .inl ⟨a, vs, n, w, rfl, rfl, SqL.of h2, hw, k _ _ _ (Gr.refl S1.fh) rw'⟩
      | _ => cases h5
    split at hz
    · rename_i c hc
      rw [hc, hv'] at q1
      obtain ⟨w, e, r⟩ := q1
      cases e
      exact val_ix.run F1 H1 v y c d z S1.fh r ry hz Q k
    · rename_i xs hc
      rw [hc, hv'] at q1
      obtain ⟨a, vs, e, h1, h2, h3⟩ := q1
      exact own xs a vs h1 h2 h3 e hz
    · rename_i a xs hc
      rw [hc, hv'] at q1
      obtain ⟨vs, e, h1, h2, h3⟩ := q1
      exact own xs a vs h1 h2 h3 e hz
    · cases hz
  · trivial
/-- len, tuple, list of a name that owns its list -/
def ownC (f : List D → Option D) (i : Nat) : M D := fun ρ => match cont ρ i with
  | some xs => lif (f xs) ρ
  | none => .stuck
def lenO (i : Nat) : M D := ownC (fun xs => some (.int xs.length)) i
def tupO (i : Nat) : M D := ownC (fun xs => some (.tup xs)) i
theorem de_lenO (i : Nat) (hm : ∀ i, (X i).mg "len" = none) (hN : ∀ j, (X j).N[i]? = some x := by intro _; rfl) (hv : ∀ j, Vis (X j).env.scope x := by first | exact fun _ => Or.inl rfl | exact fun _ => Or.inr (Or.inl rfl) | exact fun _ => Or.inr (Or.inr rfl)) (hK : KOf X K := by intro _; rfl) (hg : ∀ i, Gl (X i) "len" := by intro _; rfl) (hd : (x == ("__debug__" : Str)) = false := by decide)
    (hcd : (x == ("__classdict__" : Str)) = false := by decide) (na : ∀ i, starEach [Expr.Name x p2] (X i).env = (false, eval (.Name x p2) (X i).env) :: starEach [] (X i).env := by intro _; rfl) (hpl : ∀ i, (backTo pos (starEach [] (X i).env)).any (·.1) = false := by intro _; rfl) : DE X K E (.Call (.Name "len" p) [.Name x p2] [] pos) (lenO i) := by
  refine ⟨tCB (fun xs H Q => ∃ p ys, xs = [.ref p] ∧ (SqL K H p ys ∨ SqT K H p ys) ∧ Q (.int ys.length) H) (tCons (tVar i) tNil), fun j => by have := pe_callB (p := p) (call_len_seq (X := X j)) (hg j) (hm j) PySem.boot_len (pa_cons (pe_var (hN j) (hv j) hd hcd) pa_nil (na j)) (by decide) (by decide) (na j) (hpl j); rw [hK j] at this; exact this, fun σ ρ F H S => ?_⟩
  unfold lenO ownC
  cases h : cont ρ i with
  | none => trivial
  | some xs =>
    obtain ⟨a, vs, e1, e2, e3, e4⟩ := S.cont h
    exact at_gr S fun z hz Q k => ⟨.ref a, e1, a, vs, rfl, .inl (SqL.of e3), by cases hz; rw [e4.len]; exact k _ _ _ (Gr.refl S.fh) (.int _)⟩
theorem de_tupO (i : Nat) (hm : ∀ i, (X i).mg "tuple" = none) (hN : ∀ j, (X j).N[i]? = some x := by intro _; rfl) (hv : ∀ j, Vis (X j).env.scope x := by first | exact fun _ => Or.inl rfl | exact fun _ => Or.inr (Or.inl rfl) | exact fun _ => Or.inr (Or.inr rfl)) (hK : KOf X K := by intro _; rfl) (hg : ∀ i, Gl (X i) "tuple" := by intro _; rfl) (hd : (x == ("__debug__" : Str)) = false := by decide)
    (hcd : (x == ("__classdict__" : Str)) = false := by decide) (na : ∀ i, starEach [Expr.Name x p2] (X i).env = (false, eval (.Name x p2) (X i).env) :: starEach [] (X i).env := by intro _; rfl) (hpl : ∀ i, (backTo pos (starEach [] (X i).env)).any (·.1) = false := by intro _; rfl) : DE X K E (.Call (.Name "tuple" p) [.Name x p2] [] pos) (tupO i) := by
  refine ⟨tCB (fun xs H Q => ∃ p ys, xs = [.ref p] ∧ ((SqL K H p ys ∧ ∀ l, H l = none → Q (.ref l) (upd H l (.tup ys))) ∨ (SqT K H p ys ∧ Q (.ref p) H))) (tCons (tVar i) tNil), fun j => by have := pe_callTy (p := p) (call_tuple_of (X := X j)) (hg j) (hm j) (by decide +kernel) (pa_cons (pe_var (hN j) (hv j) hd hcd) pa_nil (na j)) (by decide) (by decide) (na j) (hpl j); rw [hK j] at this; exact this, fun σ ρ F H S => ?_⟩
  unfold tupO ownC
  cases h : cont ρ i with
  | none => trivial
  | some xs =>
    obtain ⟨a, vs, e1, e2, e3, e4⟩ := S.cont h
    exact at_gr S fun z hz Q k => ⟨.ref a, e1, a, vs, rfl, .inl ⟨SqL.of e3, fun p hp => by cases hz; exact k _ _ _ (Gr.new S.fh hp) (rp_tup (S.fh.free hp) e4)⟩⟩
/-- in a list that a name owns -/
def inOM (neg : Bool) (m : M D) (i : Nat) : M D := bnd m fun d ρ => match cont ρ i with
  | some xs => lif ((inB d (.lst xs)).map fun b => .bl (if neg then !b else b)) ρ
  | none => .stuck
theorem snd_inO {neg : Bool} {i : Nat} {t : TE} (s : ∀ σ, Snd K E σ (t σ) m (RelD K) no) (σ : L2.St) : Snd K E σ (tOp (rInA K neg) t (tVar i) σ) (inOM neg m i) (RelD K) no := by
  refine Snd.bind (T1 := t σ) (T2 := fun v H1 Q => ∃ u, σ[i]? = some (some u) ∧ rInA K neg v u H1 Q) (s σ) fun v d ρ F H rx S => ?_
  cases h : cont ρ i with
  | none => trivial
  | some xs =>
    obtain ⟨a, vs, e1, e2, e3, e4⟩ := S.cont h
    refine at_gr S fun z hz Q k => ⟨.ref a, e1, ?_⟩
    cases hb : inB d (.lst xs) with
    | none => rw [hb] at hz; cases hz
    | some b =>
      rw [hb] at hz
      cases hz
      have hb2 : (if shD d && shD (.lst xs) then some ((toPs xs).any fun z => PyData.eqv z (toP d)) else none) = some b := by
        cases d <;> exact hb
      split at hb2
      · rename_i hs
        cases hb2
        rw [Bool.and_eq_true] at hs
        have hs2 := hs.2
        unfold shD at hs2
        simp only [toP] at hs2
        exact .inr (.inr ⟨_, _, rx.dp S.fh _, .lst (SqL.of e3) (e4.dp S.fh _), hs.1, hs2, k _ _ _ (Gr.refl S.fh) (.bl _)⟩)
      · cases hb2
theorem de_inO (i : Nat) (hu : ∀ i, (X i).A.units + 65 < cLine) (ha : DE X K E e m) (hN : ∀ j, (X j).N[i]? = some x := by intro _; rfl) (hv : ∀ j, Vis (X j).env.scope x := by first | exact fun _ => Or.inl rfl | exact fun _ => Or.inr (Or.inl rfl) | exact fun _ => Or.inr (Or.inr rfl)) (hd : (x == ("__debug__" : Str)) = false := by decide)
    (hcd : (x == ("__classdict__" : Str)) = false := by decide) (hm : behindInMarks .In (.Name x p) = false := by with_unfolding_all rfl) (hK : KOf X K := by intro _; rfl) : DE X K E (.Compare e [.In] [.Name x p] pos) (inOM false m i) := by
  obtain ⟨t, q, s⟩ := ha.ex
  exact ⟨tOp (rInA K false) t (tVar i), fun j => pe_cmpR (by rw [← hK j]; exact op_inA (hu j)) (q j) (pe_var (hN j) (hv j) hd hcd) hm, snd_inO s⟩
theorem de_ninO (i : Nat) (hu : ∀ i, (X i).A.units + 65 < cLine) (ha : DE X K E e m) (hN : ∀ j, (X j).N[i]? = some x := by intro _; rfl) (hv : ∀ j, Vis (X j).env.scope x := by first | exact fun _ => Or.inl rfl | exact fun _ => Or.inr (Or.inl rfl) | exact fun _ => Or.inr (Or.inr rfl)) (hd : (x == ("__debug__" : Str)) = false := by decide)
    (hcd : (x == ("__classdict__" : Str)) = false := by decide) (hm : behindInMarks .NotIn (.Name x p) = false := by with_unfolding_all rfl) (hK : KOf X K := by intro _; rfl) : DE X K E (.Compare e [.NotIn] [.Name x p] pos) (inOM true m i) := by
  obtain ⟨t, q, s⟩ := ha.ex
  exact ⟨tOp (rInA K true) t (tVar i), fun j => pe_cmpR (by rw [← hK j]; exact op_ninA (hu j)) (q j) (pe_var (hN j) (hv j) hd hcd) hm, snd_inO s⟩
theorem dt_inO (i : Nat) (hu : ∀ i, (X i).A.units + 65 < cLine) (ha : DE X K E e m) (hN : ∀ j, (X j).N[i]? = some x := by intro _; rfl) (hv : ∀ j, Vis (X j).env.scope x := by first | exact fun _ => Or.inl rfl | exact fun _ => Or.inr (Or.inl rfl) | exact fun _ => Or.inr (Or.inr rfl)) (hd : (x == ("__debug__" : Str)) = false := by decide)
    (hcd : (x == ("__classdict__" : Str)) = false := by decide) (hm : behindInMarks .In (.Name x p) = false := by with_unfolding_all rfl) (hK : KOf X K := by intro _; rfl) : DT X K E (.Compare e [.In] [.Name x p] pos) (tst (inOM false m i)) := by
  obtain ⟨t, q, s⟩ := ha.ex
  exact ⟨tTest (tOp (rInA K false) t (tVar i)), fun j => pt_cmpR (by rw [← hK j]; exact op_inA (hu j)) (q j) (pe_var (hN j) (hv j) hd hcd) hm, snd_tst (snd_inO s)⟩
theorem dt_ninO (i : Nat) (hu : ∀ i, (X i).A.units + 65 < cLine) (ha : DE X K E e m) (hN : ∀ j, (X j).N[i]? = some x := by intro _; rfl) (hv : ∀ j, Vis (X j).env.scope x := by first | exact fun _ => Or.inl rfl | exact fun _ => Or.inr (Or.inl rfl) | exact fun _ => Or.inr (Or.inr rfl)) (hd : (x == ("__debug__" : Str)) = false := by decide)
    (hcd : (x == ("__classdict__" : Str)) = false := by decide) (hm : behindInMarks .NotIn (.Name x p) = false := by with_unfolding_all rfl) (hK : KOf X K := by intro _; rfl) : DT X K E (.Compare e [.NotIn] [.Name x p] pos) (tst (inOM true m i)) := by
  obtain ⟨t, q, s⟩ := ha.ex
  exact ⟨tTest (tOp (rInA K true) t (tVar i)), fun j => pt_cmpR (by rw [← hK j]; exact op_ninA (hu j)) (q j) (pe_var (hN j) (hv j) hd hcd) hm, snd_tst (snd_inO s)⟩
end

/-! ### statements -/
inductive Ret where
  | fz (d : D) | fr (ds : List D)
inductive Fl where
  | nx | bk | ct | rt (r : Ret)
def EndOk (K : PySem.W.Frag) (Dd : Ends) (O : Addr → Prop) (F H : Hp) (ρ' : Env) : Fl → Prop
  | .nx => ∀ F' σ' H', Step O (Own ρ' σ') F H F' H' → StOk K F' ρ' σ' H' → Dd.nx σ' H'
  | .bk => ∀ F' σ' H', Step O (Own ρ' σ') F H F' H' → StOk K F' ρ' σ' H' → Dd.bk σ' H'
  | .ct => ∀ F' σ' H', Step O (Own ρ' σ') F H F' H' → StOk K F' ρ' σ' H' → Dd.ct σ' H'
  | .rt (.fz d) => ∀ v F' σ' H', Step O (Own ρ' σ') F H F' H' → StOk K F' ρ' σ' H' → Rp K F' v d → Dd.rt v H'
  | .rt (.fr ds) => ∀ p vs F' σ' H', Step O (fun x => Own ρ' σ' x ∨ x = p) F H F' H' → StOk K F' ρ' σ' H' → ¬ Own ρ' σ' p → F' p = none → H' p = some (.lst vs) → RpA K F' vs ds → Dd.rt (.ref p) H'
def AtS (K : PySem.W.Frag) (E : EX) (T : Ends → Prop) (r : R Fl) (O : Addr → Prop) (F H : Hp) : Prop :=
  match r with
  | .stuck => True
  | .ok fl ρ' => ∀ Dd : Ends, EndOk K Dd O F H ρ' fl → T Dd
  | .ex c ρ' => (∀ F' σ' H' cls od, Step O (Own ρ' σ') F H F' H' → StOk K F' ρ' σ' H' → XOk K c cls od F' → E σ' cls od H') → ∀ Dd, T Dd
def SndS (K : PySem.W.Frag) (E : EX) (t : TS) (m : M Fl) : Prop := ∀ σ ρ F H, StOk K F ρ σ H → AtS K E (fun Dd => t Dd σ H) (m ρ) (Own ρ σ) F H
structure DS {ι : Type} (X : ι → Cx) (K : PySem.W.Frag) (E : EX) (st : Stmt) (m : M Fl) : Prop where
  ex : ∃ t : TS, (∀ i, PS (X i) st t) ∧ SndS K E t m
structure DSs {ι : Type} (X : ι → Cx) (K : PySem.W.Frag) (E : EX) (st : List Stmt) (m : M Fl) : Prop where
  ex : ∃ t : TS, (∀ i, PSs (X i) st t) ∧ SndS K E t m
section
variable {K : PySem.W.Frag} {E : EX} {O O1 : Addr → Prop} {F H F1 H1 : Hp}
theorem EndOk.pre {Dd : Ends} {ρ' : Env} {fl : Fl} (s : Step O O1 F H F1 H1) (h : EndOk K Dd O F H ρ' fl) : EndOk K Dd O1 F1 H1 ρ' fl := by
  match fl, h with
  | .nx, h => exact fun F' σ' H' st S => h F' σ' H' (s.trans st) S
  | .bk, h => exact fun F' σ' H' st S => h F' σ' H' (s.trans st) S
  | .ct, h => exact fun F' σ' H' st S => h F' σ' H' (s.trans st) S
  | .rt (.fz d), h => exact fun v F' σ' H' st S r => h v F' σ' H' (s.trans st) S r
  | .rt (.fr ds), h => exact fun p vs F' σ' H' st S n f g r => h p vs F' σ' H' (s.trans st) S n f g r
theorem AtS.pre {T : Ends → Prop} {r : R Fl} (s : Step O O1 F H F1 H1) (h : AtS K E T r O1 F1 H1) : AtS K E T r O F H := by
  cases r with
  | stuck => trivial
  | ok fl ρ' => exact fun Dd e => h Dd (e.pre s)
  | ex c ρ' => exact fun k Dd => h (fun F' σ' H' cls od st S q => k F' σ' H' cls od (s.trans st) S q) Dd
/-- an expression first -/
theorem AtS.bind {α β : Type} {σ : L2.St} {ρ : Env} {P1 : (β → Hp → Prop) → Prop} {T2 : β → Hp → Ends → Prop} {r : R α} {k : α → M Fl} {Rel1 : Hp → Hp → β → α → Prop}
    (h1 : At K E σ P1 r Rel1 no ρ F H) (h2 : ∀ b a ρ1 F1 H1, Step (Own ρ σ) (Own ρ1 σ) F H F1 H1 → Rel1 F1 H1 b a → StOk K F1 ρ1 σ H1 → AtS K E (T2 b H1) (k a ρ1) (Own ρ1 σ) F1 H1) :
    AtS K E (fun Dd => P1 fun b H1 => T2 b H1 Dd) (bndR r k) (Own ρ σ) F H := by
  cases r with
  | stuck => trivial
  | ex c ρ' => exact fun q Dd => h1 _ fun F' H' cls od st S x => q F' σ H' cls od st S x
  | ok a ρ' =>
    show AtS K E _ (k a ρ') (Own ρ σ) F H
    have h3 : ∀ b F1 H1, Step (Own ρ σ) (Own ρ' σ) F H F1 H1 → Rel1 F1 H1 b a → StOk K F1 ρ' σ H1 → AtS K E (T2 b H1) (k a ρ') (Own ρ σ) F H := fun b F1 H1 s r S => (h2 b a ρ' F1 H1 s r S).pre s
    generalize k a ρ' = r2 at h3
    cases r2 with
    | stuck => trivial
    | ok d ρ2 => exact fun Dd q => h1 _ fun b F1 H1 s S r1 => h3 b F1 H1 s.noext r1 S Dd q
    | ex c ρ2 => exact fun q Dd => h1 _ fun b F1 H1 s S r1 => h3 b F1 H1 s.noext r1 S q Dd
end
/-- one behind the other -/
def seqS (a b : M Fl) : M Fl := bnd a fun fl => match fl with
  | .nx => b
  | fl => pur fl
section
variable {ι : Type} {X : ι → Cx} {K : PySem.W.Frag} {E : EX} {st : Stmt} {rest : List Stmt} {e : Expr} {m : M D} {ma mb : M Fl} {pos : Pos}
theorem dss_nil : DSs X K E [] (pur .nx) := ⟨_, fun _ => pss_nil, fun σ ρ F H S Dd q => q F σ H Step.refl S⟩
theorem dss_cons (h : DS X K E st ma) (h2 : DSs X K E rest mb) : DSs X K E (st :: rest) (seqS ma mb) := by
  obtain ⟨t, p, s⟩ := h.ex
  obtain ⟨u, q, s2⟩ := h2.ex
  refine ⟨_, fun i => pss_cons (p i) (q i), fun σ ρ F H S => ?_⟩
  have h1 := s σ ρ F H S
  show AtS K E (fun Dd => t { Dd with nx := u Dd } σ H) (bnd ma _ ρ) (Own ρ σ) F H
  unfold bnd
  generalize ma ρ = r at h1
  cases r with
  | stuck => trivial
  | ex c ρ' => exact fun k Dd => h1 k _
  | ok fl ρ' =>
    cases fl with
    | nx =>
      show AtS K E _ (mb ρ') _ _ _
      have h3 : ∀ F' σ' H', Step (Own ρ σ) (Own ρ' σ') F H F' H' → StOk K F' ρ' σ' H' → AtS K E (fun Dd => u Dd σ' H') (mb ρ') (Own ρ σ) F H := fun F' σ' H' st S' => (s2 σ' ρ' F' H' S').pre st
      generalize mb ρ' = r2 at h3
      cases r2 with
      | stuck => trivial
      | ok fl2 ρ2 => exact fun Dd k => h1 _ fun F' σ' H' st S' => h3 F' σ' H' st S' Dd k
      | ex c ρ2 => exact fun k Dd => h1 _ fun F' σ' H' st S' => h3 F' σ' H' st S' k Dd
    | bk => exact fun Dd k => h1 _ k
    | ct => exact fun Dd k => h1 _ k
    | rt r => cases r <;> exact fun Dd k => h1 _ k
theorem ds_pass : DS X K E (.Pass pos) (pur .nx) := ⟨_, fun _ => ps_pass, fun σ ρ F H S Dd q => q F σ H Step.refl S⟩
theorem ds_break : DS X K E (.Break pos) (pur .bk) := ⟨_, fun _ => ps_break, fun σ ρ F H S Dd q => q F σ H Step.refl S⟩
theorem ds_continue : DS X K E (.Continue pos) (pur .ct) := ⟨_, fun _ => ps_continue, fun σ ρ F H S Dd q => q F σ H Step.refl S⟩
theorem ds_never : DS X K E st stk := ⟨_, fun _ => ps_never, fun σ ρ F H S => trivial⟩
theorem dss_never {l : List Stmt} : DSs X K E l stk := ⟨fun _ _ _ => False, fun _ => ⟨fun _ _ _ _ _ _ h => h.elim⟩, fun σ ρ F H S => trivial⟩
theorem ds_expr (he : DE X K E e m) (hs : ∀ i, swapsWith e none pos.line (X i).env = pure false := by intro _; rfl) : DS X K E (.Expr e pos) (bnd m fun _ => pur .nx) := by
  obtain ⟨t, p, s⟩ := he.ex
  exact ⟨_, fun i => ps_expr (p i) (hs i), fun σ ρ F H S => AtS.bind (k := fun _ => pur .nx) (P1 := t σ H) (T2 := fun _ H1 Dd => Dd.nx σ H1) (s σ ρ F H S) fun b a ρ1 F1 H1 st r S1 => fun Dd q => q F1 σ H1 Step.refl S1⟩
def retM (m : M D) : M Fl := bnd m fun d => pur (.rt (.fz d))
theorem ds_ret (he : DE X K E e m) : DS X K E (.Return (some e) pos) (retM m) := by
  obtain ⟨t, p, s⟩ := he.ex
  exact ⟨_, fun i => ps_ret (p i), fun σ ρ F H S => AtS.bind (k := fun d => pur (.rt (.fz d))) (P1 := t σ H) (T2 := fun v H1 Dd => Dd.rt v H1) (s σ ρ F H S) fun b a ρ1 F1 H1 st r S1 => fun Dd q => q b F1 σ H1 Step.refl S1 r⟩
theorem ds_retN : DS X K E (.Return none pos) (pur (.rt (.fz .non))) := ⟨_, fun _ => ps_retN, fun σ ρ F H S Dd q => q .non F σ H Step.refl S .non⟩
def iteS (c : M Bool) (a b : M Fl) : M Fl := bnd c fun k => iteM k a b
theorem ds_if {c : Expr} {l1 l2 : List Stmt} {nc : M Bool} (hc : DT X K E c nc) (ha : DSs X K E l1 ma) (hb : DSs X K E l2 mb) : DS X K E (.If c l1 l2 pos) (iteS nc ma mb) := by
  obtain ⟨t, p, s⟩ := hc.ex
  obtain ⟨ta, pa, sa⟩ := ha.ex
  obtain ⟨tb, pb, sb⟩ := hb.ex
  refine ⟨_, fun i => ps_if (p i) (pa i) (pb i), fun σ ρ F H S => AtS.bind (k := fun k => iteM k ma mb) (P1 := t σ H) (T2 := fun b H1 Dd => if b = true then ta Dd σ H1 else tb Dd σ H1) (s σ ρ F H S) fun b a ρ1 F1 H1 st r S1 => ?_⟩
  cases r
  unfold iteM
  cases b with
  | true => simpa using sa σ ρ1 F1 H1 S1
  | false => simpa using sb σ ρ1 F1 H1 S1
end

/-! ### stores -/
section
variable {K : PySem.W.Frag} {F H : Hp} {ρ : Env} {σ : L2.St}
/-- a slot takes a frozen value -/
theorem StOk.setFz {i : Nat} {v : V} {d : D} (S : StOk K F ρ σ H) (hi : i < ρ.length) (r : Rp K F v d) : Step (Own ρ σ) (Own (ρ.set i (some (.fz d))) (σ.set i (some v))) F H F H ∧ StOk K F (ρ.set i (some (.fz d))) (σ.set i (some v)) H := by
  have hn : ∀ b j, isOw (ρ.set i (some (.fz d)))[j]? → (σ.set i (some v))[j]? = some (some (V.ref b)) → i ≠ j ∧ isOw ρ[j]? ∧ σ[j]? = some (some (V.ref b)) := fun b j o e => by
    by_cases h : i = j
    · subst h
      rw [List.getElem?_set_self hi] at o
      exact o.elim
    · rw [List.getElem?_set_ne h] at o e
      exact ⟨h, o, e⟩
  refine ⟨⟨Same.refl F, fun _ _ _ h => ⟨rfl, h⟩, fun b ⟨j, o, e⟩ => .inl ⟨j, (hn b j o e).2⟩, fun _ h => h⟩, ⟨S.fh, by rw [List.length_set, List.length_set]; exact S.len, fun j => ?_, fun j k b oj ok ej ek => S.dis j k b (hn b j oj ej).2.1 (hn b k ok ek).2.1 (hn b j oj ej).2.2 (hn b k ok ek).2.2⟩⟩
  by_cases h : i = j
  · subst h
    rw [List.getElem?_set_self hi, List.getElem?_set_self (by rw [← S.len]; exact hi)]
    exact ⟨v, rfl, r⟩
  · rw [List.getElem?_set_ne h, List.getElem?_set_ne h]
    exact S.sl j
/-- a slot takes a list that nobody else knows -/
theorem StOk.setOw {i : Nat} {p : Addr} {vs : List V} {ds : List D} (S : StOk K F ρ σ H) (hi : i < ρ.length) (hn : ¬ Own ρ σ p) (fp : F p = none) (hp : H p = some (.lst vs)) (r : RpA K F vs ds) :
    (∀ b, Own (ρ.set i (some (.ow ds))) (σ.set i (some (.ref p))) b → Own ρ σ b ∨ b = p) ∧ StOk K F (ρ.set i (some (.ow ds))) (σ.set i (some (.ref p))) H := by
  have hs : i < σ.length := by rw [← S.len]; exact hi
  have hn : ∀ b j, isOw (ρ.set i (some (.ow ds)))[j]? → (σ.set i (some (V.ref p)))[j]? = some (some (V.ref b)) → (i = j ∧ b = p) ∨ (i ≠ j ∧ b ≠ p ∧ isOw ρ[j]? ∧ σ[j]? = some (some (V.ref b))) := fun b j o e => by
    by_cases h : i = j
    · subst h
      rw [List.getElem?_set_self hs] at e
      cases e
      exact .inl ⟨rfl, rfl⟩
    · rw [List.getElem?_set_ne h] at o e
      exact .inr ⟨h, fun z => hn (z ▸ ⟨j, o, e⟩), o, e⟩
  refine ⟨fun b ⟨j, o, e⟩ => (hn b j o e).elim (fun z => .inr z.2) fun z => .inl ⟨j, z.2.2⟩, ⟨S.fh, by rw [List.length_set, List.length_set]; exact S.len, fun j => ?_, fun j k b oj ok ej ek => ?_⟩⟩
  · by_cases h : i = j
    · subst h
      rw [List.getElem?_set_self hi, List.getElem?_set_self hs]
      exact ⟨p, vs, rfl, fp, hp, r⟩
    · rw [List.getElem?_set_ne h, List.getElem?_set_ne h]
      exact S.sl j
  · rcases hn b j oj ej with ⟨h1, h2⟩ | ⟨h1, h2, h3, h4⟩
    · rcases hn b k ok ek with ⟨h5, h6⟩ | ⟨h5, h6, _⟩
      · exact h1.symm.trans h5
      · exact absurd h2 h6
    · rcases hn b k ok ek with ⟨h5, h6⟩ | ⟨h5, h6, h7, h8⟩
      · exact absurd h6 h2
      · exact S.dis j k b h3 h7 h4 h8
end
/-- a target of an assignment, a for, a comprehension: what it does with a frozen value; ts: the slots that it writes -/
structure GOk {α : Type} (g : α → M Unit) : Prop where
  nx : ∀ d ρ c ρ', g d ρ ≠ .ex c ρ'
  ln : ∀ d ρ ρ' u, g d ρ = .ok u ρ' → ρ'.length = ρ.length
structure DG {ι : Type} (X : ι → Cx) (K : PySem.W.Frag) (tg : Expr) (g : D → M Unit) (ts : List Nat) : Prop where
  ok : GOk g
  ex : ∃ t : TG, (∀ i, PG (X i) tg t) ∧ ∀ d v σ ρ F H, StOk K F ρ σ H → Rp K F v d → match g d ρ with
    | .ok _ ρ' => ∀ Q : L2.St → Hp → Prop, (∀ σ', Step (Own ρ σ) (Own ρ' σ') F H F H → StOk K F ρ' σ' H → (∀ j, j ∉ ts → σ'[j]? = σ[j]?) → Q σ' H) → t v σ H Q
    | _ => True
structure DGs {ι : Type} (X : ι → Cx) (K : PySem.W.Frag) (tgs : List Expr) (g : List D → M Unit) (ts : List Nat) : Prop where
  ok : GOk g
  ex : ∃ t : TGs, (∀ i, PGs (X i) tgs t) ∧ ∀ ds vs σ ρ F H, StOk K F ρ σ H → RpA K F vs ds → match g ds ρ with
    | .ok _ ρ' => ∀ Q : L2.St → Hp → Prop, (∀ σ', Step (Own ρ σ) (Own ρ' σ') F H F H → StOk K F ρ' σ' H → (∀ j, j ∉ ts → σ'[j]? = σ[j]?) → Q σ' H) → t vs σ H Q
    | _ => True
/-- slot i := d (not where a parameter's own list is held) -/
def putM (i : Nat) (d : D) : M Unit := fun ρ => match ρ[i]? with
  | some (some (.pr _ _)) => .stuck
  | some _ => .ok () (ρ.set i (some (.fz d)))
  | none => .stuck
section
variable {ι : Type} {X : ι → Cx} {K : PySem.W.Frag} {E : EX} {x : Str} {pos : Pos}
theorem put_lt {i : Nat} {d : D} {ρ ρ' : Env} (h : putM i d ρ = .ok () ρ') : i < ρ.length ∧ ρ' = ρ.set i (some (.fz d)) := by
  unfold putM at h
  split at h
  · cases h
  · rename_i e
    cases h
    exact ⟨(List.getElem?_eq_some_iff.mp (by assumption)).1, rfl⟩
  · cases h
theorem put_ok {i : Nat} : GOk (putM i) := ⟨fun d ρ c ρ' => by
  unfold putM
  split <;> simp, fun d ρ ρ' u h => by
  have q : putM i d ρ = .ok () ρ' := h
  rw [(put_lt q).2, List.length_set]⟩
theorem dg_name (i : Nat) (hN : ∀ j, (X j).N.Nodup) (hi : ∀ j, (X j).N[i]? = some x := by intro _; rfl) (hx : ∀ j, Loc (X j).env.scope x := by first | exact fun _ => Or.inl rfl | exact fun _ => Or.inr rfl) (hf : ∀ j, (X j).fn x = true ∨ (X j).env.scope.names.lookup x = some .local := by first | exact fun _ => .inl rfl | exact fun _ => .inr rfl) : DG X K (.Name x pos) (putM i) [i] := by
  refine ⟨put_ok, _, fun j => pg_name (hN j) (hi j) (hx j) (hf j), fun d v σ ρ F H S r => ?_⟩
  cases h : putM i d ρ with
  | ok u ρ' =>
    obtain ⟨h1, rfl⟩ := put_lt h
    obtain ⟨h2, h3⟩ := S.setFz h1 r
    exact fun Q k => k _ h2 h3 fun j hj => List.getElem?_set_ne (by simpa using fun z => hj (by simp [z]))
  | _ => trivial
def gnil (ds : List D) : M Unit := match ds with
  | [] => pur ()
  | _ => stk
theorem gnil_ok : GOk gnil := ⟨fun d ρ c ρ' => by cases d <;> simp [gnil, pur, stk], fun d ρ ρ' u h => by
  cases d with
  | nil => cases h; rfl
  | cons _ _ => cases h⟩
theorem dgs_nil : DGs X K [] gnil [] := by
  refine ⟨gnil_ok, _, fun _ => pgs_nil, fun ds vs σ ρ F H S r => ?_⟩
  cases r with
  | nil => exact fun Q k => ⟨rfl, k σ Step.refl S fun _ _ => rfl⟩
  | cons h1 h2 => trivial
def gcons (g : D → M Unit) (gs : List D → M Unit) (ds : List D) : M Unit := match ds with
  | d :: ds => bnd (g d) fun _ => gs ds
  | [] => stk
theorem gcons_ok {g : D → M Unit} {gs : List D → M Unit} (h : GOk g) (h2 : GOk gs) : GOk (gcons g gs) := ⟨fun d ρ c ρ' => by
  cases d with
  | nil => simp [gcons, stk]
  | cons d ds =>
    simp only [gcons, bnd]
    cases e : g d ρ with
    | stuck => simp [bndR]
    | ex c1 ρ1 => exact absurd e (h.nx _ _ _ _)
    | ok u ρ1 => exact h2.nx _ _ _ _, fun d ρ ρ' u q => by
  cases d with
  | nil => cases q
  | cons d ds =>
    simp only [gcons, bnd] at q
    cases e : g d ρ with
    | stuck => rw [e] at q; cases q
    | ex c1 ρ1 => exact absurd e (h.nx _ _ _ _)
    | ok u1 ρ1 =>
      rw [e] at q
      exact (h2.ln _ _ _ _ q).trans (h.ln _ _ _ _ e)⟩
theorem dgs_cons {e : Expr} {es : List Expr} {g : D → M Unit} {gs : List D → M Unit} {ts us : List Nat} (h : DG X K e g ts) (h2 : DGs X K es gs us) (hs : ∀ i, (assignEach (e :: es) (X i).env).map (·.2) = assign e (X i).env :: (assignEach es (X i).env).map (·.2) := by intro _; rfl) : DGs X K (e :: es) (gcons g gs) (ts ++ us) := by
  obtain ⟨t, p, s⟩ := h.ex
  obtain ⟨u, q, s2⟩ := h2.ex
  refine ⟨gcons_ok h.ok h2.ok, _, fun i => pgs_cons (p i) (q i) (hs i), fun ds vs σ ρ F H S r => ?_⟩
  cases r with
  | nil => trivial
  | @cons v vs d ds h1 h3 =>
    have a := s d v σ ρ F H S h1
    show match bnd (g d) (fun _ => gs ds) ρ with
      | .ok _ ρ' => _
      | _ => True
    unfold bnd
    cases hr : g d ρ with
    | ok u1 ρ1 =>
      rw [hr] at a
      simp only [bndR]
      cases hr2 : gs ds ρ1 with
      | ok u2 ρ2 =>
        refine fun Q k => ⟨v, vs, rfl, a _ fun σ1 st S1 e1 => ?_⟩
        have b := s2 ds vs σ1 ρ1 F H S1 h3
        rw [hr2] at b
        exact b _ fun σ2 st2 S2 e2 => k σ2 (st.trans st2) S2 fun j hj => (e2 j fun z => hj (List.mem_append_right _ z)).trans (e1 j fun z => hj (List.mem_append_left _ z))
      | _ => trivial
    | _ => trivial
def gtup (n : Nat) (gs : List D → M Unit) (d : D) : M Unit := match d with
  | .tup ds => iteM (ds.length == n) (gs ds) stk
  | _ => stk
theorem gtup_ok {n : Nat} {gs : List D → M Unit} (h : GOk gs) : GOk (gtup n gs) := ⟨fun d ρ c ρ' => by
  cases d with
  | tup ds =>
    simp only [gtup, iteM]
    split
    · exact h.nx _ _ _ _
    · simp [stk]
  | _ => simp [gtup, stk], fun d ρ ρ' u q => by
  cases d with
  | tup ds =>
    simp only [gtup, iteM] at q
    split at q
    · exact h.ln _ _ _ _ q
    · cases q
  | _ => cases q⟩
theorem dg_tup {es : List Expr} {k n : Nat} {gs : List D → M Unit} {ts : List Nat} (h : DGs X K es gs ts) (hK : KOf X K := by intro _; rfl) (hc : ∀ i, (X i).calm = true := by intro _; rfl) (hn : ∀ i, (assignEach es (X i).env).length = n := by intro _; rfl) (hst : ∀ i, (assignEach es (X i).env).findIdx? (·.1) = none := by intro _; rfl) : DG X K (.Tuple es k pos) (gtup n gs) ts := by
  obtain ⟨t, p, s⟩ := h.ex
  refine ⟨gtup_ok h.ok, gTup K n t, fun i => by have := pg_tup (k := k) (pos := pos) (hc i) (p i) (hn i) (hst i); rw [hK i] at this; exact this, fun d v σ ρ F H S r => ?_⟩
  cases d with
  | tup ds =>
    cases r with
    | @tup a vs ds h1 h2 =>
      have b := s ds vs σ ρ F H S h2
      show match iteM (ds.length == n) (gs ds) stk ρ with
        | .ok _ ρ' => _
        | _ => True
      unfold iteM
      split
      · rename_i hr
        split at hr
        · rename_i hl
          rw [hr] at b
          exact fun Q k => ⟨a, vs, rfl, sameT S.fh h1, by rw [h2.len]; exact eq_of_beq hl, b Q k⟩
        · cases hr
      · trivial
  | _ => trivial
/-- x = e -/
def asgM (m : M D) (g : D → M Unit) : M Fl := bnd m fun d => bnd (g d) fun _ => pur .nx
theorem snd_asg {t : TE} {gt : TG} {m : M D} {g : D → M Unit} {ts : List Nat} (s : ∀ σ, Snd K E σ (t σ) m (RelD K) no)
    (s2 : ∀ d v σ ρ F H, StOk K F ρ σ H → Rp K F v d → match g d ρ with
      | .ok _ ρ' => ∀ Q : L2.St → Hp → Prop, (∀ σ', Step (Own ρ σ) (Own ρ' σ') F H F H → StOk K F ρ' σ' H → (∀ j, j ∉ ts → σ'[j]? = σ[j]?) → Q σ' H) → gt v σ H Q
      | _ => True) (hx : ∀ d ρ c ρ', g d ρ ≠ .ex c ρ') : SndS K E (tAsg t gt) (asgM m g) := fun σ ρ F H S =>
  AtS.bind (k := fun d => bnd (g d) fun _ => pur .nx) (P1 := t σ H) (T2 := fun v H1 Dd => gt v σ H1 Dd.nx) (s σ ρ F H S) fun v d ρ1 F1 H1 st r S1 => by
    have a := s2 d v σ ρ1 F1 H1 S1 r
    unfold bnd
    cases hr : g d ρ1 with
    | stuck => trivial
    | ex c ρ' => exact absurd hr (hx d ρ1 c ρ')
    | ok u ρ2 =>
      rw [hr] at a
      exact fun Dd k => a _ fun σ' st2 S2 _ => k F1 σ' H1 st2 S2
theorem put_nox {i : Nat} (d : D) (ρ : Env) (c : Xc) (ρ' : Env) : putM i d ρ ≠ .ex c ρ' := by
  unfold putM
  split <;> simp
theorem ds_set {m : M D} {e : Expr} (i : Nat) {pos' : Pos} (he : DE X K E e m) (hN : ∀ j, (X j).N.Nodup) (hi : ∀ j, (X j).N[i]? = some x := by intro _; rfl) (hx : ∀ j, Loc (X j).env.scope x := by first | exact fun _ => Or.inl rfl | exact fun _ => Or.inr rfl) (hs : ∀ j, swapsWith e (some (.Name x pos')) pos.line (X j).env = pure false := by intro _; rfl) (hf : ∀ j, (X j).fn x = true ∨ (X j).env.scope.names.lookup x = some .local := by first | exact fun _ => .inl rfl | exact fun _ => .inr rfl) :
    DS X K E (.Assign [.Name x pos'] e pos) (asgM m (putM i)) := by
  obtain ⟨t, p, s⟩ := he.ex
  obtain ⟨gt, pg, sg⟩ := (dg_name (X := X) (K := K) (x := x) (pos := pos') i hN hi hx hf).ex
  exact ⟨_, fun j => ps_set (i := i) (hN j) (hi j) (hx j) (p j) (hs j) (hf j), snd_asg (ts := [i]) s (fun d v σ ρ F H S r => by
    cases h : putM i d ρ with
    | ok u ρ' =>
      obtain ⟨h1, rfl⟩ := put_lt h
      obtain ⟨h2, h3⟩ := S.setFz h1 r
      exact fun Q k => k _ h2 h3 fun j hj => List.getElem?_set_ne (by simpa using fun z => hj (by simp [z]))
    | _ => trivial) (put_nox)⟩
/-- a, b = e -/
theorem ds_asg {m : M D} {e tg : Expr} {g : D → M Unit} {ts : List Nat} (he : DE X K E e m) (hg : DG X K tg g ts) (hs : ∀ i, swapsWithSole [tg] e pos.line (X i).env = pure false := by intro _; rfl) (hw : ∀ i, swappedStores [tg] e (X i).env = pure none := by intro _; rfl)
    (h1 : ∀ i, (assignEach [tg] (X i).env).map (·.2) = [assign tg (X i).env] := by intro _; rfl) : DS X K E (.Assign [tg] e pos) (asgM m g) := by
  obtain ⟨t, p, s⟩ := he.ex
  obtain ⟨gt, pg, sg⟩ := hg.ex
  exact ⟨_, fun i => ps_asg (p i) (pg i) (hs i) (hw i) (h1 i), snd_asg s sg hg.ok.nx⟩
end
end Ly

set_option Elab.async false
set_option linter.all false
set_option maxRecDepth 100000
set_option maxHeartbeats 2000000
namespace Ly
open PySem L2

/-! ### changes of owned lists -/
section
variable {ι : Type} {X : ι → Cx} {K : PySem.W.Frag} {E : EX} {e e2 : Expr} {m mk : M D} {x : Str} {p p2 p3 pos apos : Pos}
def appM (i : Nat) (m : M D) : M Fl := fun ρ => match cont ρ i with
  | some _ => bnd m (fun d ρ1 => match cont ρ1 i with
    | some xs => if xs.length < sizeLine then .ok .nx (setC ρ1 i (xs ++ [d])) else .stuck
    | none => .stuck) ρ
  | none => .stuck
theorem ds_app (i : Nat) (he : DE X K E e m) (hN : ∀ j, (X j).N[i]? = some x := by intro _; rfl) (hv : ∀ j, Vis (X j).env.scope x := by first | exact fun _ => Or.inl rfl | exact fun _ => Or.inr (Or.inl rfl) | exact fun _ => Or.inr (Or.inr rfl)) (hK : KOf X K := by intro _; rfl) (hd : (x == ("__debug__" : Str)) = false := by decide)
    (hcd : (x == ("__classdict__" : Str)) = false := by decide) (hba : ∀ j, attributeBase (.Name x p) "append" (X j).env (eval (.Name x p) (X j).env) = eval (.Name x p) (X j).env := by intro _; rfl) (hl : (apos.endLine == p2.line || apos.endLine == p2.line) = (apos.endLine == p2.line || apos.endLine == p2.line) := by rfl)
    (hs : ∀ j, swapsWith (.Call (.Attribute (.Name x p) "append" apos) [e] [] p2) none pos.line (X j).env = pure false := by intro _; rfl)
    (hpe : ∀ (j : ι) (t : TE), PE (X j) e t → PE (X j) (.Call (.Attribute (.Name x p) "append" apos) [e] [] p2) (tBM (X j).K "list" rAppend (tVar i) (tCons t tNil)) := by intro j t h; exact pe_bm PySem.F.plainAttrs_list PySem.F.slot_list_append PySem.F.type_list_append mt_append (pv _) (pa_cons h pa_nil)) :
    DS X K E (.Expr (.Call (.Attribute (.Name x p) "append" apos) [e] [] p2) pos) (appM i m) := by
  obtain ⟨t, q, s⟩ := he.ex
  refine ⟨tDrop (tBM K "list" rAppend (tVar i) (tCons t tNil)), fun j => ps_expr (by have := hpe j t (q j); rw [hK j] at this; exact this) (hs j), fun σ ρ F H S => ?_⟩
  unfold appM
  cases h : cont ρ i with
  | none => trivial
  | some xs0 =>
    obtain ⟨a, vs0, e1, e2, e3, e4⟩ := S.cont h
    have hb := AtS.bind (K := K) (E := E) (P1 := t σ H) (T2 := fun y H2 Dd => rAppend (.ref a) [y] H2 fun _ H3 => Dd.nx σ H3) (k := fun d ρ1 => match cont ρ1 i with
      | some xs => if xs.length < sizeLine then .ok .nx (setC ρ1 i (xs ++ [d])) else .stuck
      | none => .stuck) (s σ ρ F H S) fun y d ρ1 F1 H1 st r S1 => by
        cases h1 : cont ρ1 i with
        | none => trivial
        | some xs =>
          simp only
          split
          · rename_i hz
            obtain ⟨a', vs, e5, e6, e7, e8⟩ := S1.cont h1
            rw [e1] at e5
            cases e5
            obtain ⟨st2, S2⟩ := S1.setC h1 e1 (e8.append (.cons r .nil))
            exact fun Dd k => ⟨a, vs, y, rfl, rfl, e7, by rw [e8.len]; exact hz, k F1 σ _ st2 S2⟩
          · trivial
    show AtS K E _ (bnd m _ ρ) _ _ _
    unfold bnd
    revert hb
    generalize bndR (m ρ) _ = r
    intro hb
    have key : ∀ Dd : Ends, (t σ H fun y H2 => rAppend (.ref a) [y] H2 fun _ H3 => Dd.nx σ H3) → tDrop (tBM K "list" rAppend (tVar i) (tCons t tNil)) Dd σ H := fun Dd h => ⟨.ref a, e1, .inl ⟨rfl, vs0, .inl (.inl e3)⟩, h⟩
    cases r with
    | stuck => trivial
    | ok fl ρ' => exact fun Dd k => key Dd (hb Dd k)
    | ex c ρ' => exact fun k Dd => key Dd (hb k Dd)
/-- name[i] = e -/
def setIM (i : Nat) (m mk : M D) : M Fl := bnd m fun d ρ => match cont ρ i with
  | some _ => bnd mk (fun n ρ1 => match n, cont ρ1 i with
    | .int n, some xs => match ixN xs.length n with
      | some j => .ok .nx (setC ρ1 i (xs.set j d))
      | none => .stuck
    | _, _ => .stuck) ρ
  | none => .stuck
theorem ds_setI (i : Nat) (he : DE X K E e m) (hi : DE X K E e2 mk) (hN : ∀ j, (X j).N[i]? = some x := by intro _; rfl) (hv : ∀ j, Vis (X j).env.scope x := by first | exact fun _ => Or.inl rfl | exact fun _ => Or.inr (Or.inl rfl) | exact fun _ => Or.inr (Or.inr rfl)) (hd : (x == ("__debug__" : Str)) = false := by decide)
    (hcd : (x == ("__classdict__" : Str)) = false := by decide) (ha : ∀ j v, assign (.Subscript (.Name x p) e2 p2) (X j).env v = (do
      let ov ← holding [v] (eval (.Name x p) (X j).env)
      let iv ← holding [v, ov] (eval e2 (X j).env)
      standAt p2
      holding [v, ov, iv] (setItem ov iv v)
      release [v, ov, iv] []) := by intro _ _; rfl)
    (hs : ∀ i, swapsWithSole [.Subscript (.Name x p) e2 p2] e pos.line (X i).env = pure false := by intro _; rfl) (hw : ∀ i, swappedStores [.Subscript (.Name x p) e2 p2] e (X i).env = pure none := by intro _; rfl)
    (h1 : ∀ i, (assignEach [.Subscript (.Name x p) e2 p2] (X i).env).map (·.2) = [assign (.Subscript (.Name x p) e2 p2) (X i).env] := by intro _; rfl) : DS X K E (.Assign [.Subscript (.Name x p) e2 p2] e pos) (setIM i m mk) := by
  obtain ⟨t, q, s⟩ := he.ex
  obtain ⟨u, q2, s2⟩ := hi.ex
  refine ⟨tAsg t (gSub (tVar i) u rSetL), fun j => ps_asg (q j) (pg_sub (pe_var (hN j) (hv j) hd hcd) (q2 j) set_list (ha j)) (hs j) (hw j) (h1 j), fun σ ρ F H S => ?_⟩
  refine AtS.bind (P1 := t σ H) (T2 := fun v H1 Dd => gSub (tVar i) u rSetL v σ H1 Dd.nx) (s σ ρ F H S) fun v d ρ1 F1 H1 st r S1 => ?_
  cases h : cont ρ1 i with
  | none => trivial
  | some xs0 =>
    obtain ⟨a, vs0, e1, e2, e3, e4⟩ := S1.cont h
    have hb := AtS.bind (K := K) (E := E) (P1 := u σ H1) (T2 := fun y H2 Dd => rSetL (.ref a) y v H2 fun H3 => Dd.nx σ H3) (k := fun n ρ1 => match n, cont ρ1 i with
      | .int n, some xs => match ixN xs.length n with
        | some j => .ok .nx (setC ρ1 i (xs.set j d))
        | none => .stuck
      | _, _ => .stuck) (s2 σ ρ1 F1 H1 S1) fun y n ρ2 F2 H2 st2 ry S2 => by
        cases n with
        | int n =>
          cases (intD ry)
          cases h1 : cont ρ2 i with
          | none => trivial
          | some xs =>
            simp only
            cases hj : ixN xs.length n with
            | none => trivial
            | some j =>
              obtain ⟨a', vs, e5, e6, e7, e8⟩ := S2.cont h1
              rw [e1] at e5
              cases e5
              obtain ⟨st3, S3⟩ := S2.setC h1 e1 (e8.set (Rp.up r st2.f) j)
              exact fun Dd k => ⟨a, vs, n, j, rfl, rfl, e7, by rw [e8.len]; exact hj, k F2 σ _ st3 S3⟩
        | _ => trivial
    simp only
    unfold bnd
    revert hb
    generalize bndR (mk ρ1) _ = r
    intro hb
    have key : ∀ Dd : Ends, (u σ H1 fun y H2 => rSetL (.ref a) y v H2 fun H3 => Dd.nx σ H3) → gSub (tVar i) u rSetL v σ H1 Dd.nx := fun Dd h => ⟨.ref a, e1, h⟩
    cases r with
    | stuck => trivial
    | ok fl ρ' => exact fun Dd k => key Dd (hb Dd k)
    | ex c ρ' => exact fun k Dd => key Dd (hb k Dd)
end

/-! ### lists that nobody else knows -/
def AtO (K : PySem.W.Frag) (E : EX) (σ : L2.St) (P : VK → Prop) (r : R (List D)) (ρ : Env) (F H : Hp) : Prop :=
  match r with
  | .stuck => True
  | .ok ds ρ' => ∀ Q : VK, (∀ p vs F' H', Step (Own ρ σ) (fun x => Own ρ' σ x ∨ x = p) F H F' H' → StOk K F' ρ' σ H' → ¬ Own ρ' σ p → F' p = none → H' p = some (.lst vs) → RpA K F' vs ds → Q (.ref p) H') → P Q
  | .ex c ρ' => ∀ Q : VK, (∀ F' H' cls od, Step (Own ρ σ) (Own ρ' σ) F H F' H' → StOk K F' ρ' σ H' → XOk K c cls od F' → E σ cls od H') → P Q
structure DO {ι : Type} (X : ι → Cx) (K : PySem.W.Frag) (E : EX) (e : Expr) (m : M (List D)) : Prop where
  ex : ∃ t : TE, (∀ i, PE (X i) e t) ∧ ∀ σ ρ F H, StOk K F ρ σ H → AtO K E σ (t σ H) (m ρ) ρ F H
section
variable {K : PySem.W.Frag} {E : EX} {F H F1 H1 : Hp} {ρ ρ1 : Env} {σ : L2.St}
/-- a new list as the last thing -/
theorem AtO.new {α β : Type} {P1 : (β → Hp → Prop) → Prop} {T2 : β → Hp → VK → Prop} {r : R α} {k : α → M (List D)} {Rel1 : Hp → Hp → β → α → Prop}
    (h1 : At K E σ P1 r Rel1 no ρ F H) (h2 : ∀ b a ρ1 F1 H1, Rel1 F1 H1 b a → StOk K F1 ρ1 σ H1 → match k a ρ1 with
      | .stuck => True
      | .ok ds ρ2 => ρ2 = ρ1 ∧ ∃ vs, RpA K F1 vs ds ∧ ∀ Q : VK, (∀ p, H1 p = none → Q (.ref p) (upd H1 p (.lst vs))) → T2 b H1 Q
      | .ex _ _ => False) : AtO K E σ (fun Q => P1 fun b H1 => T2 b H1 Q) (bndR r k) ρ F H := by
  cases r with
  | stuck => trivial
  | ex c ρ' => exact fun Q q => h1 _ q
  | ok a ρ' =>
    show AtO K E σ _ (k a ρ') ρ F H
    have h3 := fun b F1 H1 => h2 b a ρ' F1 H1
    generalize k a ρ' = r2 at h3
    cases r2 with
    | stuck => trivial
    | ex c ρ2 => exact fun Q q => h1 _ fun b F1 H1 s S r1 => (h3 b F1 H1 r1 S).elim
    | ok ds ρ2 =>
      refine fun Q q => h1 _ fun b F1 H1 s S r1 => ?_
      obtain ⟨e, vs, r, h4⟩ := h3 b F1 H1 r1 S
      subst e
      refine h4 Q fun p hp => ?_
      have np : ¬ Own ρ2 σ p := fun z => by
        obtain ⟨_, ws, e⟩ := S.own z
        rw [hp] at e
        cases e
      have fp := S.fh.free hp
      have g : Gr F1 H1 F1 (upd H1 p (.lst vs)) := Gr.drop S.fh hp
      obtain ⟨st, S'⟩ := S.gr g
      have hnew : H p = none := by
        cases z : H p with
        | none => rfl
        | some o => exact absurd hp (s.dom p (by rw [z]; simp))
      refine q p vs F1 _ ⟨s.f, fun a h1 h2 h3 => ?_, fun a h => ?_, fun a h => ?_⟩ S' np fp upd_same r
      · obtain ⟨e1, e2⟩ := s.keep a h1 h2 h3
        have : a ≠ p := fun z => h1 (z ▸ hnew)
        exact ⟨by rw [upd_ne this]; exact e1, e2⟩
      · rcases h with h | h
        · exact s.own a (.inl h)
        · exact .inr (h ▸ hnew)
      · have : a ≠ p := fun z => h (z ▸ hnew)
        rw [upd_ne this]
        exact s.dom a h
end
section
variable {ι : Type} {X : ι → Cx} {K : PySem.W.Frag} {E : EX} {e : Expr} {es : List Expr} {ms : M (List D)} {mo : M (List D)} {m : M D} {x : Str} {p pos : Pos}
def lstO (m : M (List D)) : M (List D) := bnd m fun ds => iteM (szOk ds) (pur ds) stk
theorem do_lst (h : DA X K E es ms) : DO X K E (.List es pos) (lstO ms) := by
  obtain ⟨t, q, s⟩ := h.ex
  refine ⟨_, fun i => pe_lst (q i), fun σ ρ F H S => ?_⟩
  refine AtO.new (P1 := t σ H) (T2 := fun xs H1 Q => xs.length ≤ sizeLine ∧ ∀ p, H1 p = none → Q (V.ref p) (upd H1 p (.lst xs))) (s σ ρ F H S) fun xs ds ρ1 F1 H1 r S1 => ?_
  unfold iteM
  by_cases hz : szOk ds = true
  · rw [if_pos hz]
    exact ⟨rfl, xs, r, fun Q q => ⟨by rw [RpA.len r]; exact of_decide_eq_true hz, q⟩⟩
  · rw [if_neg hz]; trivial
def listO (m : M D) : M (List D) := bnd m fun d => lif (seqD d)
theorem do_list (hm : ∀ i, (X i).mg "list" = none) (ha : DE X K E e m) (hK : KOf X K := by intro _; rfl) (hg : ∀ i, Gl (X i) "list" := by intro _; rfl)
    (na : ∀ i, starEach [e] (X i).env = (false, eval e (X i).env) :: starEach [] (X i).env := by intro _; rfl) (hpl : ∀ i, (backTo pos (starEach [] (X i).env)).any (·.1) = false := by intro _; rfl) : DO X K E (.Call (.Name "list" p) [e] [] pos) (listO m) := by
  obtain ⟨t, q, s⟩ := ha.ex
  refine ⟨tCB (fun xs H Q => ∃ p ys, xs = [.ref p] ∧ (SqL K H p ys ∨ SqT K H p ys) ∧ ∀ l, H l = none → Q (.ref l) (upd H l (.lst ys))) (tCons t tNil), fun i => by have := pe_callTy (p := p) (call_list_of (X := X i)) (hg i) (hm i) (by decide +kernel) (pa_cons (q i) pa_nil (na i)) (by decide) (by decide) (na i) (hpl i); rw [hK i] at this; exact this, fun σ ρ F H S => ?_⟩
  refine AtO.new (P1 := t σ H) (T2 := fun x H1 Q => ∃ p ys, [x] = [V.ref p] ∧ (SqL K H1 p ys ∨ SqT K H1 p ys) ∧ ∀ l, H1 l = none → Q (.ref l) (upd H1 l (.lst ys))) (s σ ρ F H S) fun x d ρ1 F1 H1 r S1 => ?_
  cases hs : seqD d with
  | none => trivial
  | some ys =>
    obtain ⟨a, vs, rfl, h1, h2⟩ := rp_seq r hs S1.fh
    exact ⟨rfl, vs, h2, fun Q q => ⟨a, vs, rfl, h1, q⟩⟩
/-- such a list frozen -/
def frzM (m : M (List D)) : M D := bnd m fun ds => pur (.lst ds)
theorem AtO.frz {σ : L2.St} {P : VK → Prop} {r : R (List D)} {ρ : Env} {F H : Hp} (h : AtO K E σ P r ρ F H) : At K E σ P (bndR r fun ds => pur (.lst ds)) (RelD K) no ρ F H := by
  cases r with
  | stuck => trivial
  | ex c ρ' => exact h
  | ok ds ρ' =>
    refine fun Q q => h Q fun p vs F' H' st S np fp hp r => ?_
    have hs : Same F' (upd F' p (.lst vs)) := Same.toUpd fp
    refine q (.ref p) (upd F' p (.lst vs)) H' ⟨st.f.trans hs, fun a h1 h2 h3 => ?_, fun a h => st.own a (h.elim (fun z => .inl z) False.elim), st.dom⟩ (S.mv hs (fun b u hb => ?_) fun a ha fa => ?_) (rp_lst fp r)
    · obtain ⟨e1, e2⟩ := st.keep a h1 h2 h3
      have : a ≠ p := fun z => by
        rcases st.own p (.inr rfl) with o | o
        · exact h2 (z ▸ o)
        · exact h1 (z ▸ o)
      exact ⟨e1, by rw [upd_ne this]; exact e2⟩
    · by_cases z : b = p
      · subst z; rw [upd_same] at hb; cases hb; exact hp
      · rw [upd_ne z] at hb; exact S.fh b u hb
    · have : a ≠ p := fun z => np (z ▸ ha)
      exact ⟨rfl, by rw [upd_ne this]; exact fa⟩
theorem de_frz (h : DO X K E e mo) : DE X K E e (frzM mo) := by
  obtain ⟨t, q, s⟩ := h.ex
  exact ⟨t, q, fun σ ρ F H S => (s σ ρ F H S).frz⟩
/-- x = a list that nobody else knows -/
def setOM (i : Nat) (m : M (List D)) : M Fl := bnd m fun ds ρ => match ρ[i]? with
  | some (some (.pr _ _)) => .stuck
  | some _ => .ok .nx (ρ.set i (some (.ow ds)))
  | none => .stuck
theorem ds_setO (i : Nat) {pos' : Pos} (he : DO X K E e mo) (hN : ∀ j, (X j).N.Nodup) (hi : ∀ j, (X j).N[i]? = some x := by intro _; rfl) (hx : ∀ j, Loc (X j).env.scope x := by first | exact fun _ => Or.inl rfl | exact fun _ => Or.inr rfl) (hs : ∀ j, swapsWith e (some (.Name x pos')) pos.line (X j).env = pure false := by intro _; rfl) (hf : ∀ j, (X j).fn x = true ∨ (X j).env.scope.names.lookup x = some .local := by first | exact fun _ => .inl rfl | exact fun _ => .inr rfl) :
    DS X K E (.Assign [.Name x pos'] e pos) (setOM i mo) := by
  obtain ⟨t, q, s⟩ := he.ex
  refine ⟨_, fun j => ps_set (i := i) (hN j) (hi j) (hx j) (q j) (hs j) (hf j), fun σ ρ F H S => ?_⟩
  have h := s σ ρ F H S
  show AtS K E (fun Dd => t σ H fun v H1 => Dd.nx (σ.set i (some v)) H1) (bndR (mo ρ) _) (Own ρ σ) F H
  generalize mo ρ = r at h
  cases r with
  | stuck => trivial
  | ex c ρ' => exact fun k Dd => h _ fun F' H' cls od st S' xo => k F' σ H' cls od st S' xo
  | ok ds ρ' =>
    simp only [bndR]
    split
    · trivial
    · rename_i hh _
      refine fun Dd k => h _ fun p vs F' H' st S' np fp hp r => ?_
      have hl : i < ρ'.length := (List.getElem?_eq_some_iff.mp (by assumption)).1
      obtain ⟨h1, h2⟩ := S'.setOw hl np fp hp r
      exact k F' _ H' (st.wk h1) h2
    · trivial
/-- return of a name -/
def retN (i : Nat) : M Fl := fun ρ => match ρ[i]? with
  | some (some (.fz d)) => .ok (.rt (.fz d)) ρ
  | some (some (.ow xs)) => .ok (.rt (.fr xs)) (ρ.set i none)
  | _ => .stuck
theorem StOk.drop {K : PySem.W.Frag} {F H : Hp} {ρ : Env} {σ : L2.St} (S : StOk K F ρ σ H) (i : Nat) : (∀ b, Own (ρ.set i none) σ b → Own ρ σ b ∧ σ[i]? ≠ some (some (V.ref b)) ∨ (Own (ρ.set i none) σ b ∧ Own ρ σ b)) ∧ StOk K F (ρ.set i none) σ H := by
  have hn : ∀ j, isOw (ρ.set i none)[j]? → i ≠ j ∧ isOw ρ[j]? := fun j o => by
    by_cases h : i = j
    · subst h
      by_cases hi : i < ρ.length
      · rw [List.getElem?_set_self hi] at o; exact o.elim
      · rw [List.getElem?_eq_none (by simpa using hi)] at o; exact o.elim
    · rw [List.getElem?_set_ne h] at o
      exact ⟨h, o⟩
  refine ⟨fun b ⟨j, o, e⟩ => .inr ⟨⟨j, o, e⟩, ⟨j, (hn j o).2, e⟩⟩, ⟨S.fh, by rw [List.length_set]; exact S.len, fun j => ?_, fun j k b oj ok => S.dis j k b (hn j oj).2 (hn k ok).2⟩⟩
  by_cases h : i = j
  · subst h
    by_cases hi : i < ρ.length
    · rw [List.getElem?_set_self hi]; trivial
    · rw [List.getElem?_eq_none (by simpa using hi)]; trivial
  · rw [List.getElem?_set_ne h]
    exact S.sl j
theorem ds_retO (i : Nat) (hN : ∀ j, (X j).N[i]? = some x := by intro _; rfl) (hv : ∀ j, Vis (X j).env.scope x := by first | exact fun _ => Or.inl rfl | exact fun _ => Or.inr (Or.inl rfl) | exact fun _ => Or.inr (Or.inr rfl)) (hd : (x == ("__debug__" : Str)) = false := by decide)
    (hcd : (x == ("__classdict__" : Str)) = false := by decide) : DS X K E (.Return (some (.Name x p)) pos) (retN i) := by
  refine ⟨_, fun j => ps_ret (pe_var (hN j) (hv j) hd hcd), fun σ ρ F H S => ?_⟩
  unfold retN
  split
  · rename_i d h
    have q := S.sl i
    rw [h] at q
    obtain ⟨v, e, r⟩ := q
    exact fun Dd k => ⟨v, e, k v F σ H Step.refl S r⟩
  · rename_i xs h
    have q := S.sl i
    rw [h] at q
    obtain ⟨a, vs, e1, e2, e3, e4⟩ := q
    obtain ⟨_, S'⟩ := S.drop i
    have hi : i < ρ.length := (List.getElem?_eq_some_iff.mp h).1
    have oa : Own ρ σ a := ⟨i, by rw [h]; trivial, e1⟩
    have hn : ∀ b, Own (ρ.set i none) σ b → Own ρ σ b ∧ b ≠ a := fun b ⟨j, o, e⟩ => by
      by_cases hj : i = j
      · subst hj
        rw [List.getElem?_set_self hi] at o
        exact o.elim
      · rw [List.getElem?_set_ne hj] at o
        exact ⟨⟨j, o, e⟩, fun z => hj (S.dis i j a (by rw [h]; trivial) o e1 (z ▸ e))⟩
    exact fun Dd k => ⟨.ref a, e1, k a vs F σ H ⟨Same.refl F, fun _ _ _ f => ⟨rfl, f⟩, fun b hb => .inl (hb.elim (fun z => (hn b z).1) fun z => z ▸ oa), fun _ z => z⟩ S' (fun z => (hn a z).2 rfl) e2 e3 e4⟩
  · trivial
/-- return of such a list -/
def retOM (m : M (List D)) : M Fl := bnd m fun ds => pur (.rt (.fr ds))
theorem ds_retF (h : DO X K E e mo) : DS X K E (.Return (some e) pos) (retOM mo) := by
  obtain ⟨t, q, s⟩ := h.ex
  refine ⟨_, fun i => ps_ret (q i), fun σ ρ F H S => ?_⟩
  have h := s σ ρ F H S
  show AtS K E (fun Dd => t σ H Dd.rt) (bndR (mo ρ) _) (Own ρ σ) F H
  generalize mo ρ = r at h
  cases r with
  | stuck => trivial
  | ex c ρ' => exact fun k Dd => h _ fun F' H' cls od st S' xo => k F' σ H' cls od st S' xo
  | ok ds ρ' => exact fun Dd k => h _ fun p vs F' H' st S' np fp hp r => k p vs F' σ H' st S' np fp hp r
end
end Ly

set_option Elab.async false
set_option linter.all false
set_option maxRecDepth 100000
set_option maxHeartbeats 2000000
namespace Ly
open PySem L2

/-! ### what is walked -/
structure ItOk (K : PySem.W.Frag) (J : It) (F : Hp) (ds : List D) : Prop where
  ex : ∃ Y : Nat → Hp → V → Hp → Prop, Walk J ds.length (fun H => Same F H) Y ∧ ∀ i H x H' F2, i < ds.length → Same F F2 → Same F2 H → Y i H x H' → ∃ F' d, Gr F2 H F' H' ∧ ds[i]? = some d ∧ Rp K F' x d
structure DI {ι : Type} (X : ι → Cx) (K : PySem.W.Frag) (E : EX) (tg iter : Expr) (m : M (List D)) : Prop where
  ex : ∃ w : TI, (∀ i, PI (X i) tg iter w) ∧ ∀ σ, Snd K E σ (w σ) m (fun F _ J ds => ItOk K J F ds) no
section
variable {ι : Type} {X : ι → Cx} {K : PySem.W.Frag} {E : EX} {tg e e2 : Expr} {es : List Expr} {m m2 : M D} {x : Str} {p pos : Pos}
theorem itok_list {F : Hp} {a : Addr} {vs : List V} {ds : List D} (h : SqL K F a vs) (r : RpA K F vs ds) : ItOk K (Itl K a) F ds :=
  ⟨YAt vs, by rw [← r.len]; exact walk_list.mono (fun H e => sameL e h) (fun _ _ _ _ _ _ y => y), fun i H x H' F2 hi e1 e2 ⟨e3, hx⟩ => by
    subst e3
    obtain ⟨d, hd, q⟩ := r.get hx
    exact ⟨F2, d, Gr.refl e2, hd, q.up e1⟩⟩
theorem itok_tup {F : Hp} {a : Addr} {vs : List V} {ds : List D} (h : SqT K F a vs) (r : RpA K F vs ds) : ItOk K (Itt K a) F ds :=
  ⟨YAt vs, by rw [← r.len]; exact walk_tup.mono (fun H e => sameT e h) (fun _ _ _ _ _ _ y => y), fun i H x H' F2 hi e1 e2 ⟨e3, hx⟩ => by
    subst e3
    obtain ⟨d, hd, q⟩ := r.get hx
    exact ⟨F2, d, Gr.refl e2, hd, q.up e1⟩⟩
/-- the items of a list; of a tuple; the signs of a text -/
def itemsL (m : M D) : M (List D) := bnd m fun d => lif (lstD d)
def itemsT (m : M D) : M (List D) := bnd m fun d => match d with
  | .tup xs => pur xs
  | _ => stk
def itemsS (m : M D) : M (List D) := bnd m fun d => match d with
  | .str z => pur (z.cps.toList.map fun c => .str ⟨#[c]⟩)
  | _ => stk
theorem di_list (h : DE X K E e m) (hK : KOf X K := by intro _; rfl) : DI X K E tg e (itemsL m) := by
  obtain ⟨t, q, s⟩ := h.ex
  refine ⟨iList K t, fun i => by have := pi_list (tg := tg) (q i); rw [hK i] at this; exact this, fun σ => ?_⟩
  refine Snd.bind (T1 := t σ) (T2 := fun x H1 R => ∃ a, x = .ref a ∧ (∃ xs, SqL K H1 a xs) ∧ R (Itl K a) H1) (s σ) fun x d ρ F H rx S => ?_
  cases d with
  | lst ds =>
    cases rx with
    | lst h1 h2 => exact At.now S fun Q k => ⟨_, rfl, ⟨_, SqL.of (S.fh _ _ h1)⟩, k _ (itok_list (SqL.of h1) h2)⟩
  | lck ds =>
    cases rx with
    | lck h1 h2 => exact At.now S fun Q k => ⟨_, rfl, ⟨_, sameL S.fh h1⟩, k _ (itok_list h1 h2)⟩
  | _ => trivial
theorem di_tup (h : DE X K E e m) (hK : KOf X K := by intro _; rfl) : DI X K E tg e (itemsT m) := by
  obtain ⟨t, q, s⟩ := h.ex
  refine ⟨iTup K t, fun i => by have := pi_tup (tg := tg) (q i); rw [hK i] at this; exact this, fun σ => ?_⟩
  refine Snd.bind (T1 := t σ) (T2 := fun x H1 R => ∃ a, x = .ref a ∧ (∃ xs, SqT K H1 a xs) ∧ R (Itt K a) H1) (s σ) fun x d ρ F H rx S => ?_
  cases d with
  | tup ds =>
    cases rx with
    | tup h1 h2 => exact At.now S fun Q k => ⟨_, rfl, ⟨_, sameT S.fh h1⟩, k _ (itok_tup h1 h2)⟩
  | _ => trivial
/-- lo, lo + 1, .. -/
def rangeD (lo : Int) (n : Nat) : List D := (List.range n).map fun (i : Nat) => D.int (lo + (i : Int))
theorem itok_range {F : Hp} {lo : Int} {n : Nat} : ItOk K (Itr lo n) F (rangeD lo n) :=
  ⟨YFn fun i => .int (lo + i), by unfold rangeD; rw [List.length_map, List.length_range]; exact walk_range.mono (fun _ _ => trivial) (fun _ _ _ _ _ _ y => y), fun i H x H' F2 hi e1 e2 ⟨e3, hx⟩ => by
    subst e3
    subst hx
    have hi2 : i < n := by unfold rangeD at hi; rw [List.length_map, List.length_range] at hi; exact hi
    refine ⟨F2, .int (lo + i), Gr.refl e2, ?_, .int _⟩
    unfold rangeD
    rw [List.getElem?_map, List.getElem?_range hi2]
    rfl⟩
def okR (i : Int) : Bool := decide (-(2 ^ 62) ≤ i) && decide (i < 2 ^ 62)
def rng1 (ms : M (List D)) : M (List D) := bnd ms fun ds => match ds with
  | [.int j] => iteM (okR j) (pur (rangeD 0 j.toNat)) stk
  | _ => stk
def rng2 (ms : M (List D)) : M (List D) := bnd ms fun ds => match ds with
  | [.int i, .int j] => iteM (okR i && okR j) (pur (rangeD i (j - i).toNat)) stk
  | _ => stk
variable {ms : M (List D)}
theorem di_range1 {a : Expr} (hm : ∀ i, (X i).mg "range" = none) (ha : DA X K E [a] ms) (hg : ∀ i, Gl (X i) "range" := by intro _; rfl) (hs : ∀ i, starEach [a] (X i).env = [(false, eval a (X i).env)] := by intro _; rfl) : DI X K E tg (.Call (.Name "range" p) [a] [] pos) (rng1 ms) := by
  obtain ⟨t, q, s⟩ := ha.ex
  refine ⟨_, fun i => pi_range1 (hg i) (hm i) (q i) (hs i), fun σ => ?_⟩
  refine Snd.bind (T1 := t σ) (T2 := fun vs H1 R => ∃ j : Int, vs = [.int j] ∧ -(2 ^ 62) ≤ j ∧ j < 2 ^ 62 ∧ R (Itr 0 j.toNat) H1) (s σ) fun vs ds ρ F H r S => ?_
  split
  · rename_i j
    unfold iteM
    by_cases hz : okR j = true
    · rw [if_pos hz]
      simp only [okR, Bool.and_eq_true, decide_eq_true_eq] at hz
      obtain ⟨v, rfl, r1⟩ := rpa1 r
      cases (intD r1)
      exact At.now S fun Q k => ⟨j, rfl, hz.1, hz.2, k _ itok_range⟩
    · rw [if_neg hz]; trivial
  · trivial
theorem di_range2 {a b : Expr} (hm : ∀ i, (X i).mg "range" = none) (ha : DA X K E [a, b] ms) (hg : ∀ i, Gl (X i) "range" := by intro _; rfl) (hs : ∀ i, starEach [a, b] (X i).env = [(false, eval a (X i).env), (false, eval b (X i).env)] := by intro _; rfl) (hs2 : ∀ i, starEach [b] (X i).env = [(false, eval b (X i).env)] := by intro _; rfl) : DI X K E tg (.Call (.Name "range" p) [a, b] [] pos) (rng2 ms) := by
  obtain ⟨t, q, s⟩ := ha.ex
  refine ⟨_, fun i => pi_range2 (hg i) (hm i) (q i) (hs i) (hs2 i), fun σ => ?_⟩
  refine Snd.bind (T1 := t σ) (T2 := fun vs H1 R => ∃ i j : Int, vs = [.int i, .int j] ∧ (-(2 ^ 62) ≤ i ∧ i < 2 ^ 62 ∧ -(2 ^ 62) ≤ j ∧ j < 2 ^ 62) ∧ R (Itr i (j - i).toNat) H1) (s σ) fun vs ds ρ F H r S => ?_
  split
  · rename_i i j
    unfold iteM
    by_cases hz : (okR i && okR j) = true
    · rw [if_pos hz]
      simp only [okR, Bool.and_eq_true, decide_eq_true_eq] at hz
      obtain ⟨v, u, rfl, r1, r2⟩ := rpa2 r
      cases (intD r1)
      cases (intD r2)
      exact At.now S fun Q k => ⟨i, j, rfl, ⟨hz.1.1, hz.1.2, hz.2.1, hz.2.2⟩, k _ itok_range⟩
    · rw [if_neg hz]; trivial
  · trivial
theorem di_str (h : DE X K E e m) : DI X K E tg e (itemsS m) := by
  obtain ⟨t, q, s⟩ := h.ex
  refine ⟨_, fun i => pi_str (q i), fun σ => ?_⟩
  refine Snd.bind (T1 := t σ) (T2 := fun x H1 R => ∃ z, x = .str z ∧ R (Its z) H1) (s σ) fun x d ρ F H rx S => ?_
  cases d with
  | str z =>
    cases (strD rx)
    refine At.now S fun Q k => ⟨z, rfl, k _ ⟨fun i H v H' => H' = H ∧ ∃ c, z.cps[i]? = some c ∧ v = .str ⟨#[c]⟩, ?_, ?_⟩⟩
    · rw [List.length_map, Array.length_toList]; exact walk_str.mono (fun _ _ => trivial) (fun _ _ _ _ _ _ y => y)
    · rintro i H x H' F2 hi e1 e2 ⟨e3, c, hc, rfl⟩
      subst e3
      refine ⟨F2, .str ⟨#[c]⟩, Gr.refl e2, ?_, .str _⟩
      rw [List.getElem?_map, Array.getElem?_toList, hc]
      rfl
  | _ => trivial
/-- enumerate of a list -/
def enumD (ds : List D) : List D := ds.mapIdx fun i d => .tup [.int (i : Nat), d]
def enumL (ms : M (List D)) : M (List D) := bnd ms fun ds => match ds with
  | [d] => bnd (lif (lstD d)) fun xs => pur (enumD xs)
  | _ => stk
theorem walk_enumL {a : Addr} {xs : List V} : Walk (Ite K a) xs.length (fun H => SqL K H a xs) (fun i H v H' => ∃ T x, v = .ref T ∧ H T = none ∧ H' = upd H T (.tup [.int (i : Nat), x]) ∧ xs[i]? = some x) :=
  ⟨fun i _ hi q => ⟨xs, xs[i], q, by simp [hi]⟩, fun _ q => ⟨xs, q, Nat.le_refl _⟩, fun i H v H' hi q ⟨T, x, e1, e2, e3, e4⟩ => ⟨T, x, e1, e2, e3, e4 xs q⟩⟩
theorem enum_item {F2 H H' : Hp} {vs : List V} {ds : List D} {i : Nat} {v : V} {F : Hp} (r : RpA K F vs ds) (e1 : Same F F2) (e2 : Same F2 H) (h : ∃ T x, v = .ref T ∧ H T = none ∧ H' = upd H T (.tup [.int (i : Nat), x]) ∧ vs[i]? = some x) :
    ∃ F' d, Gr F2 H F' H' ∧ (enumD ds)[i]? = some d ∧ Rp K F' v d := by
  obtain ⟨T, x, rfl, hT, rfl, hx⟩ := h
  obtain ⟨d, hd, q⟩ := r.get hx
  refine ⟨_, .tup [.int (i : Nat), d], Gr.new e2 hT, ?_, rp_tup (e2.free hT) (.cons (.int _) (.cons (q.up e1) .nil))⟩
  unfold enumD
  rw [List.getElem?_mapIdx, hd]
  rfl
theorem di_enumL {elts : List Expr} {kk : Nat} {tpos : Pos} (hm : ∀ i, (X i).mg "enumerate" = none) (ha : DA X K E [e] ms) (hK : KOf X K := by intro _; rfl) (hg : ∀ i, Gl (X i) "enumerate" := by intro _; rfl) (hs : ∀ i, starEach [e] (X i).env = [(false, eval e (X i).env)] := by intro _; rfl) :
    DI X K E (.Tuple elts kk tpos) (.Call (.Name "enumerate" p) [e] [] pos) (enumL ms) := by
  obtain ⟨t, q, s⟩ := ha.ex
  refine ⟨iEnum K t, fun i => by have := pi_enum (p := p) (pos := pos) (elts := elts) (kk := kk) (tpos := tpos) (hg i) (hm i) (q i) (hs i); rw [hK i] at this; exact this, fun σ => ?_⟩
  refine Snd.bind (T1 := t σ) (T2 := fun vs H1 R => ∃ a xs, vs = [V.ref a] ∧ SqL K H1 a xs ∧ R (Ite K a) H1) (s σ) fun vs ds ρ F H r S => ?_
  split
  · rename_i d
    obtain ⟨v, rfl, r1⟩ := rpa1 r
    cases hl : lstD d with
    | none => trivial
    | some ys =>
      have go : ∀ a vs, SqL K F a vs → RpA K F vs ys → v = V.ref a → At K E σ (fun R => ∃ a xs, [v] = [V.ref a] ∧ SqL K H a xs ∧ R (Ite K a) H) (R.ok (enumD ys) ρ) (fun F _ J ds => ItOk K J F ds) no ρ F H := fun a vs h1 h2 h3 => by
        subst h3
        refine At.now S fun Q k => ⟨a, vs, rfl, sameL S.fh h1, k _ ⟨_, ?_, fun i H x H' F2 hi e1 e2 y => enum_item h2 e1 e2 y⟩⟩
        unfold enumD
        rw [List.length_mapIdx, ← h2.len]
        exact walk_enumL.mono (fun H e => sameL e h1) (fun _ _ _ _ _ _ y => y)
      cases r1 with
      | lst h1 h2 => cases hl; exact go _ _ (SqL.of h1) h2 rfl
      | lck h1 h2 => cases hl; exact go _ _ h1 h2 rfl
      | _ => cases hl
  · trivial
end

/-! ### for -/
def forL (g : D → M Unit) (b : M Fl) : List D → M Fl
  | [] => pur .nx
  | d :: ds => bnd (g d) fun _ => bnd b fun fl => match fl with
    | .bk => pur .nx
    | .rt r => pur (.rt r)
    | _ => forL g b ds
def FinOk (K : PySem.W.Frag) (E : EX) (Dd : Ends) (O : Addr → Prop) (F H : Hp) : R Fl → Prop
  | .stuck => False
  | .ok fl ρ' => EndOk K Dd O F H ρ' fl
  | .ex c ρ' => ∀ F' σ' H' cls od, Step O (Own ρ' σ') F H F' H' → StOk K F' ρ' σ' H' → XOk K c cls od F' → E σ' cls od H'
section
variable {K : PySem.W.Frag} {E : EX} {O O1 : Addr → Prop} {F H F1 H1 : Hp} {r : R Fl} {T : Ends → Prop} {Dd : Ends}
theorem AtS.fin (h : AtS K E T r O F H) (k : FinOk K E Dd O F H r) : T Dd := by
  cases r with
  | stuck => exact k.elim
  | ok fl ρ' => exact h Dd k
  | ex c ρ' => exact h k Dd
theorem AtS.of (h : r ≠ .stuck → ∀ Dd, FinOk K E Dd O F H r → T Dd) : AtS K E T r O F H := by
  cases r with
  | stuck => trivial
  | ok fl ρ' => exact fun Dd k => h (by simp) Dd k
  | ex c ρ' => exact fun k Dd => h (by simp) Dd k
theorem FinOk.pre (s : Step O O1 F H F1 H1) (h : FinOk K E Dd O F H r) : FinOk K E Dd O1 F1 H1 r := by
  cases r with
  | stuck => exact h
  | ok fl ρ' => exact EndOk.pre s h
  | ex c ρ' => exact fun F' σ' H' cls od st S x => h F' σ' H' cls od (s.trans st) S x
end
/-- the body's ends within a loop -/
theorem fin_loop {K : PySem.W.Frag} {E : EX} {Dd : Ends} {O : Addr → Prop} {F H : Hp} {r rb : R Fl} {k : M Fl} {N : L2.St → Hp → Prop}
    (hk : FinOk K E Dd O F H r) (e : bndR rb (fun fl => match fl with
      | .bk => pur .nx
      | .rt r => pur (.rt r)
      | _ => k) = r) (hN : ∀ ρ' σ' F' H', Step O (Own ρ' σ') F H F' H' → StOk K F' ρ' σ' H' → k ρ' = r → N σ' H') : FinOk K E { Dd with nx := N, ct := N, bk := Dd.nx } O F H rb := by
  cases rb with
  | stuck => subst e; exact hk
  | ex c ρ' => subst e; exact hk
  | ok fl ρ' =>
    cases fl with
    | nx => exact fun F' σ' H' st S => hN ρ' σ' F' H' st S e
    | ct => exact fun F' σ' H' st S => hN ρ' σ' F' H' st S e
    | bk => subst e; exact hk
    | rt x => subst e; cases x <;> exact hk
section
variable {ι : Type} {X : ι → Cx} {K : PySem.W.Frag} {E : EX} {tg iter : Expr} {body : List Stmt} {mi : M (List D)} {g : D → M Unit} {ts : List Nat} {mb : M Fl} {pos : Pos}
def forM (mi : M (List D)) (g : D → M Unit) (b : M Fl) : M Fl := bnd mi (forL g b)
theorem ds_for (hi : DI X K E tg iter mi) (hg : DG X K tg g ts) (hb : DSs X K E body mb) (hp : ∀ i, PassesOwn (model (X i).prog (X i).w) (X i).A (X i).env (X i).xe) (hc : ∀ i, (X i).calm = true := by intro _; rfl)
    (hs : ∀ i x, foldedSetIterable iter (X i).env x = pure x := by intro _ _; rfl) : DS X K E (.For tg iter body [] pos) (forM mi g mb) := by
  obtain ⟨w, q, s⟩ := hi.ex
  obtain ⟨gt, pg, sg⟩ := hg.ex
  obtain ⟨tb, pb, sb⟩ := hb.ex
  refine ⟨_, fun i => ps_for (hp i) (hc i) (q i) (pg i) (pb i) (hs i), fun σ ρ F H S => ?_⟩
  refine AtS.bind (P1 := w σ H) (T2 := fun J H1 Dd => ∃ W : Nat → Nat → L2.St → Hp → Prop, (∃ m, W 0 m σ H1) ∧ ∀ i m σ H, W i m σ H →
    (J.stop i H ∧ Dd.nx σ H) ∨ (J.go i H ∧ ∃ N : L2.St → Hp → Prop, (∀ σ' H', N σ' H' → ∃ m', m' < m ∧ W (i + 1) m' σ' H') ∧ ∀ x H', J.yld i H x H' → gt x σ H' fun σ2 H2 => tb { Dd with nx := N, ct := N, bk := Dd.nx } σ2 H2)) (s σ ρ F H S) fun J ds ρ1 F1 H1 st it S1 => ?_
  obtain ⟨Y, wk, hY⟩ := it.ex
  refine AtS.of fun hns Dd hk => ?_
  refine for_it wk (fun i σ' H' => ∃ ρi Fi, Step (Own ρ1 σ) (Own ρi σ') F1 H1 Fi H' ∧ StOk K Fi ρi σ' H' ∧ forL g mb (ds.drop i) ρi = forL g mb ds ρ1) ⟨ρ1, F1, Step.refl, S1, rfl⟩ (fun i σ' H' _ ⟨ρi, Fi, st2, S2, _⟩ => st2.f.trans S2.fh) ?_ ?_
  · rintro i x σ' H' H'' hi ⟨ρi, Fi, st2, S2, e⟩ y
    obtain ⟨F', d, gr, hd, rx⟩ := hY i H' x H'' Fi hi st2.f S2.fh y
    obtain ⟨st3, S3⟩ := S2.gr gr
    have ed : ds.drop i = d :: ds.drop (i + 1) := by
      obtain ⟨h1, h2⟩ := List.getElem?_eq_some_iff.mp hd
      rw [List.drop_eq_getElem_cons h1, h2]
    rw [ed] at e
    have hgd := sg d x σ' ρi F' H'' S3 rx
    cases hr : g d ρi with
    | stuck =>
      have e2 : forL g mb ds ρ1 = .stuck := by rw [← e]; simp [forL, bnd, bndR, hr]
      exact absurd e2 hns
    | ex c ρ' => exact absurd hr (hg.ok.nx d ρi c ρ')
    | ok u ρg =>
      rw [hr] at hgd
      refine hgd _ fun σ2 st4 S4 _ => ?_
      have st5 := (st2.trans st3).trans st4
      have e2 : bndR (mb ρg) (fun fl => match fl with
        | .bk => pur .nx
        | .rt r => pur (.rt r)
        | _ => forL g mb (ds.drop (i + 1))) = forL g mb ds ρ1 := by
        rw [← e]
        simp only [forL, bnd, bndR, hr]
      exact (sb σ2 ρg F' H'' S4).fin (fin_loop (hk.pre st5) e2 fun ρ' σ'' F'' H3 st6 S6 e3 => ⟨ρ', F'', st5.trans st6, S6, e3⟩)
  · rintro σ' H' ⟨ρi, Fi, st2, S2, e⟩
    rw [List.drop_length] at e
    rw [← e] at hk
    exact hk Fi σ' H' st2 S2
/-! ### while -/
def whL (c : M Bool) (b : M Fl) : Nat → M Fl
  | 0 => stk
  | n + 1 => bnd c fun k => iteM k (bnd b fun fl => match fl with
    | .bk => pur .nx
    | .rt r => pur (.rt r)
    | _ => whL c b n) (pur .nx)
open Classical in
noncomputable def whM (c : M Bool) (b : M Fl) : M Fl := fun ρ => if h : ∃ n, whL c b n ρ ≠ .stuck then whL c b h.choose ρ else .stuck
theorem whL_mono {c : M Bool} {b : M Fl} : ∀ {n k : Nat} {ρ : Env}, n ≤ k → whL c b n ρ ≠ .stuck → whL c b k ρ = whL c b n ρ
  | 0, k, ρ, _, h => absurd rfl h
  | n + 1, 0, ρ, hk, _ => absurd hk (Nat.not_succ_le_zero n)
  | n + 1, k + 1, ρ, hk, h => by
    simp only [whL, bnd] at h ⊢
    cases hc : c ρ with
    | stuck => rfl
    | ex x ρ' => rfl
    | ok k' ρ' =>
      rw [hc] at h
      simp only [bndR, iteM] at h ⊢
      cases k' with
      | false => rfl
      | true =>
        simp only [if_true, bnd] at h ⊢
        cases hb : b ρ' with
        | stuck => rfl
        | ex x ρ2 => rfl
        | ok fl ρ2 =>
          rw [hb] at h
          simp only [bndR] at h ⊢
          cases fl with
          | nx => exact whL_mono (Nat.le_of_succ_le_succ hk) h
          | ct => exact whL_mono (Nat.le_of_succ_le_succ hk) h
          | bk => rfl
          | rt r => rfl
theorem whM_eq {c : M Bool} {b : M Fl} {n : Nat} {ρ : Env} {r : R Fl} (h : whL c b n ρ = r) (hr : r ≠ .stuck) : whM c b ρ = r := by
  have hx : ∃ n, whL c b n ρ ≠ .stuck := ⟨n, by rw [h]; exact hr⟩
  unfold whM
  rw [dif_pos hx]
  have h1 := hx.choose_spec
  rcases Nat.le_total n hx.choose with z | z
  · rw [whL_mono z (by rw [h]; exact hr), h]
  · rw [← whL_mono z h1, h]
theorem ds_while {c : Expr} {nc : M Bool} (hc : DT X K E c nc) (hb : DSs X K E body mb) (hp : ∀ i, PassesOwn (model (X i).prog (X i).w) (X i).A (X i).env (X i).xe) : DS X K E (.While c body [] pos) (whM nc mb) := by
  obtain ⟨t, q, s⟩ := hc.ex
  obtain ⟨tb, pb, sb⟩ := hb.ex
  refine ⟨_, fun i => ps_while (hp i) (q i) (pb i), fun σ ρ F H S => ?_⟩
  refine AtS.of fun hns Dd hk => ?_
  have hx : ∃ n, whL nc mb n ρ ≠ .stuck := by
    unfold whM at hns
    by_cases h : ∃ n, whL nc mb n ρ ≠ .stuck
    · exact h
    · rw [dif_neg h] at hns; exact absurd rfl hns
  obtain ⟨n, hn⟩ := hx
  rw [whM_eq rfl hn] at hk
  refine ⟨fun m σ' H' => ∃ ρi Fi, Step (Own ρ σ) (Own ρi σ') F H Fi H' ∧ StOk K Fi ρi σ' H' ∧ whL nc mb m ρi = whL nc mb n ρ, ⟨n, ρ, F, Step.refl, S, rfl⟩, ?_⟩
  rintro m σ' H' ⟨ρi, Fi, st, S', e⟩
  cases m with
  | zero => exact absurd e.symm hn
  | succ m =>
    simp only [whL, bnd] at e
    have a := s σ' ρi Fi H' S'
    cases hr : nc ρi with
    | stuck => rw [hr] at e; exact absurd e.symm hn
    | ex x ρ' =>
      rw [hr] at a e
      exact a _ fun F' H'' cls od st2 S2 xo => by
        have hk2 : FinOk K E Dd (Own ρ σ) F H (.ex x ρ') := by rw [show R.ex x ρ' = _ from e]; exact hk
        exact hk2 F' σ' H'' cls od (st.trans st2) S2 xo
    | ok k ρ2 =>
      rw [hr] at a e
      refine a _ fun b F2 H2 st2 S2 eb => ?_
      subst eb
      have st3 := st.trans st2.noext
      simp only [bndR, iteM] at e
      cases b with
      | true =>
        simp only [if_true] at e ⊢
        refine ⟨fun σ'' H3 => ∃ ρ' F', Step (Own ρ σ) (Own ρ' σ'') F H F' H3 ∧ StOk K F' ρ' σ'' H3 ∧ whL nc mb m ρ' = whL nc mb n ρ, fun σ'' H3 h => ⟨m, Nat.lt_succ_self m, h⟩, ?_⟩
        exact (sb σ' ρ2 F2 H2 S2).fin (fin_loop (hk.pre st3) e fun ρ' σ'' F'' H3 st6 S6 e3 => ⟨ρ', F'', st3.trans st6, S6, e3⟩)
      | false =>
        simp only [Bool.false_eq_true, if_false] at e ⊢
        rw [← e] at hk
        exact hk F2 σ' H2 st3 S2
end
end Ly

set_option Elab.async false
set_option linter.all false
set_option maxRecDepth 100000
set_option maxHeartbeats 2000000
namespace Ly
open PySem L2

/-! ### a block's own slots -/
def wipE (ρ : Env) : List Nat → Env
  | [] => ρ
  | v :: vs => (wipE ρ vs).set v none
def rstE (ρ0 ρ : Env) : List Nat → Env
  | [] => ρ
  | v :: vs => (rstE ρ0 ρ vs).set v (ρ0[v]?.getD none)
def noOw (ρ : Env) (vs : List Nat) : Bool := vs.all fun v => match ρ[v]? with
  | some (some (.ow _)) => false
  | some (some (.pr _ _)) => false
  | _ => true
theorem set_get {α : Type} (l : List α) (v j : Nat) (x : α) : (l.set v x)[j]? = if v = j then l[j]?.map (fun _ => x) else l[j]? := by
  by_cases h : v = j
  · subst h
    rw [if_pos rfl]
    by_cases hv : v < l.length
    · rw [List.getElem?_set_self hv, List.getElem?_eq_getElem hv]; rfl
    · rw [List.getElem?_eq_none (by simpa using hv), List.getElem?_eq_none (by simpa using hv)]; rfl
  · rw [if_neg h, List.getElem?_set_ne h]
theorem wipE_len (ρ : Env) : ∀ vs, (wipE ρ vs).length = ρ.length
  | [] => rfl
  | v :: vs => by unfold wipE; rw [List.length_set, wipE_len ρ vs]
theorem rstE_len (ρ0 ρ : Env) : ∀ vs, (rstE ρ0 ρ vs).length = ρ.length
  | [] => rfl
  | v :: vs => by unfold rstE; rw [List.length_set, rstE_len ρ0 ρ vs]
theorem wipE_in {ρ : Env} {j : Nat} : ∀ {vs : List Nat}, j ∈ vs → (wipE ρ vs)[j]? = none ∨ (wipE ρ vs)[j]? = some none
  | [], h => by cases h
  | v :: vs, h => by
    unfold wipE
    rw [set_get]
    by_cases e : v = j
    · rw [if_pos e]
      cases (wipE ρ vs)[j]? with
      | none => exact .inl rfl
      | some _ => exact .inr rfl
    · rw [if_neg e]
      rcases List.mem_cons.mp h with z | z
      · exact absurd z.symm e
      · exact wipE_in z
theorem wipE_out {ρ : Env} {j : Nat} : ∀ {vs : List Nat}, j ∉ vs → (wipE ρ vs)[j]? = ρ[j]?
  | [], _ => rfl
  | v :: vs, h => by
    simp only [List.mem_cons, not_or] at h
    unfold wipE
    rw [set_get, if_neg (fun e => h.1 e.symm), wipE_out h.2]
theorem wipe_out2 {σ : L2.St} {j : Nat} : ∀ {vs : List Nat}, j ∉ vs → (wipe σ vs)[j]? = σ[j]?
  | [], _ => rfl
  | v :: vs, h => by
    simp only [List.mem_cons, not_or] at h
    unfold wipe
    rw [set_get, if_neg (fun e => h.1 e.symm), wipe_out2 h.2]
theorem wipe_in2 {σ τ : L2.St} (hl : σ.length = τ.length) {j : Nat} : ∀ {vs : List Nat}, j ∈ vs → (wipe σ vs)[j]? = (wipe τ vs)[j]?
  | [], h => by cases h
  | v :: vs, h => by
    unfold wipe
    rw [set_get, set_get]
    by_cases e : v = j
    · rw [if_pos e, if_pos e]
      have h1 := wipe_length σ vs
      have h2 := wipe_length τ vs
      by_cases hj : j < σ.length
      · rw [List.getElem?_eq_getElem (by omega), List.getElem?_eq_getElem (by omega)]; rfl
      · rw [List.getElem?_eq_none (by omega), List.getElem?_eq_none (by omega)]
    · rw [if_neg e, if_neg e]
      rcases List.mem_cons.mp h with z | z
      · exact absurd z.symm e
      · exact wipe_in2 hl z
theorem wipe_eq {σ τ : L2.St} {vs : List Nat} (hl : σ.length = τ.length) (h : ∀ j, j ∉ vs → σ[j]? = τ[j]?) : wipe σ vs = wipe τ vs := by
  apply List.ext_getElem?
  intro j
  by_cases hj : j ∈ vs
  · exact wipe_in2 hl hj
  · rw [wipe_out2 hj, wipe_out2 hj, h j hj]
theorem wipe_twice (σ : L2.St) (vs : List Nat) : wipe (wipe σ vs) vs = wipe σ vs := wipe_eq (wipe_length σ vs) fun _ hj => wipe_out2 hj
theorem rstE_in {ρ0 ρ : Env} (hl : ρ0.length = ρ.length) {j : Nat} : ∀ {vs : List Nat}, j ∈ vs → (rstE ρ0 ρ vs)[j]? = ρ0[j]?
  | [], h => by cases h
  | v :: vs, h => by
    unfold rstE
    rw [set_get]
    by_cases e : v = j
    · subst e
      rw [if_pos rfl]
      have h1 := rstE_len ρ0 ρ vs
      by_cases hj : v < ρ.length
      · rw [List.getElem?_eq_getElem (show v < (rstE ρ0 ρ vs).length by omega), List.getElem?_eq_getElem (show v < ρ0.length by omega)]; rfl
      · rw [List.getElem?_eq_none (show (rstE ρ0 ρ vs).length ≤ v by omega), List.getElem?_eq_none (show ρ0.length ≤ v by omega)]; rfl
    · rw [if_neg e]
      rcases List.mem_cons.mp h with z | z
      · exact absurd z.symm e
      · exact rstE_in hl z
theorem rstE_out {ρ0 ρ : Env} {j : Nat} : ∀ {vs : List Nat}, j ∉ vs → (rstE ρ0 ρ vs)[j]? = ρ[j]?
  | [], _ => rfl
  | v :: vs, h => by
    simp only [List.mem_cons, not_or] at h
    unfold rstE
    rw [set_get, if_neg (fun e => h.1 e.symm), rstE_out h.2]
theorem noOw_of {ρ : Env} {vs : List Nat} (h : noOw ρ vs = true) {j : Nat} (hj : j ∈ vs) : ¬ isOw ρ[j]? := by
  have := List.all_eq_true.mp h j hj
  intro z
  revert this z
  cases e : ρ[j]? with
  | none => intro _ z; exact z
  | some o =>
    cases o with
    | none => intro _ z; exact z
    | some s =>
      cases s with
      | fz d => intro _ z; exact z
      | ow xs => intro h; cases h
      | pr a xs => intro h; cases h
section
variable {K : PySem.W.Frag} {F F' H H' : Hp} {ρ ρ' : Env} {σ : L2.St} {vs : List Nat}
theorem own_wipE {b : Addr} (h : Own (wipE ρ vs) (wipe σ vs) b) : Own ρ σ b := by
  obtain ⟨j, o, e⟩ := h
  by_cases hj : j ∈ vs
  · rcases wipE_in (ρ := ρ) hj with z | z
    · rw [z] at o; exact o.elim
    · rw [z] at o; exact o.elim
  · rw [wipE_out hj] at o
    rw [wipe_out2 hj] at e
    exact ⟨j, o, e⟩
theorem StOk.wipE (S : StOk K F ρ σ H) (vs : List Nat) : StOk K F (Ly.wipE ρ vs) (wipe σ vs) H := by
  have hn : ∀ j, isOw (Ly.wipE ρ vs)[j]? → j ∉ vs := fun j o hj => by
    rcases wipE_in (ρ := ρ) hj with z | z
    · rw [z] at o; exact o.elim
    · rw [z] at o; exact o.elim
  refine ⟨S.fh, by rw [wipE_len, wipe_length]; exact S.len, fun j => ?_, fun j k b oj ok ej ek => ?_⟩
  · by_cases hj : j ∈ vs
    · rcases wipE_in (ρ := ρ) hj with z | z
      · rw [z]; trivial
      · rw [z]; trivial
    · rw [wipE_out hj, wipe_out2 hj]; exact S.sl j
  · have h1 := hn j oj
    have h2 := hn k ok
    rw [wipE_out h1] at oj
    rw [wipE_out h2] at ok
    rw [wipe_out2 h1] at ej
    rw [wipe_out2 h2] at ek
    exact S.dis j k b oj ok ej ek
theorem own_rstE (hl : ρ.length = ρ'.length) (hn : noOw ρ vs = true) {b : Addr} (h : Own (rstE ρ ρ' vs) σ b) : Own ρ' (wipe σ vs) b := by
  obtain ⟨j, o, e⟩ := h
  by_cases hj : j ∈ vs
  · rw [rstE_in hl hj] at o
    exact absurd o (noOw_of hn hj)
  · rw [rstE_out hj] at o
    exact ⟨j, o, by rw [wipe_out2 hj]; exact e⟩
theorem StOk.rstE (S0 : StOk K F ρ σ H) (S : StOk K F' ρ' (wipe σ vs) H') (hn : noOw ρ vs = true) (hf : Same F F') : StOk K F' (Ly.rstE ρ ρ' vs) σ H' := by
  have hl : ρ.length = ρ'.length := by rw [S0.len, S.len, wipe_length]
  refine ⟨S.fh, by rw [rstE_len, S.len, wipe_length], fun j => ?_, fun j k b oj ok ej ek => ?_⟩
  · by_cases hj : j ∈ vs
    · rw [rstE_in hl hj]
      exact (S0.sl j).mv hf fun a e o f => absurd o (noOw_of hn hj)
    · rw [rstE_out hj]
      have q := S.sl j
      rw [wipe_out2 hj] at q
      exact q
  · have h1 : j ∉ vs := fun hj => by rw [rstE_in hl hj] at oj; exact noOw_of hn hj oj
    have h2 : k ∉ vs := fun hj => by rw [rstE_in hl hj] at ok; exact noOw_of hn hj ok
    rw [rstE_out h1] at oj
    rw [rstE_out h2] at ok
    exact S.dis j k b oj ok (by rw [wipe_out2 h1]; exact ej) (by rw [wipe_out2 h2]; exact ek)
/-- an object that the environment does not know changes -/
theorem StOk.other (S : StOk K F ρ σ H) {p : Addr} {o : HO} (hf : F p = none) (hn : ¬ Own ρ σ p) : StOk K F ρ σ (upd H p o) :=
  S.mv (Same.refl F) (fun b u e => by
    have : b ≠ p := ne_of_none e hf
    rw [upd_ne this]; exact S.fh b u e) fun a ha fa => ⟨upd_ne fun z => hn (z ▸ ha), fa⟩
end

/-! ### the loop of a comprehension -/
def lcLoop (g : D → M Unit) (c : M Bool) (el : M D) (vs : List Nat) : List D → List D → Env → Option (List D × Env)
  | [], acc, ρ => some (acc, ρ)
  | d :: ds, acc, ρ => match g d ρ with
    | .ok _ ρ1 => match c ρ1 with
      | .ok true ρ2 => match el ρ2 with
        | .ok y ρ3 => if acc.length < sizeLine then lcLoop g c el vs ds (acc ++ [y]) (wipE ρ3 vs) else none
        | _ => none
      | .ok false ρ2 => lcLoop g c el vs ds acc (wipE ρ2 vs)
      | _ => none
    | _ => none
/-- the new list at p: known to nobody -/
structure Hid (K : PySem.W.Frag) (p : Addr) (ρ : Env) (σ : L2.St) (F H : Hp) (vs : List V) (acc : List D) : Prop where
  at_ : H p = some (.lst vs)
  fr : F p = none
  no : ¬ Own ρ σ p
  rp : RpA K F vs acc
theorem Hid.step {K : PySem.W.Frag} {p : Addr} {ρ ρ' : Env} {σ σ' : L2.St} {F H F' H' : Hp} {vs : List V} {acc : List D} (h : Hid K p ρ σ F H vs acc) (s : Step (Own ρ σ) (Own ρ' σ') F H F' H') : Hid K p ρ' σ' F' H' vs acc := by
  have hn : H p ≠ none := by rw [h.at_]; simp
  obtain ⟨e1, e2⟩ := s.keep p hn h.no h.fr
  exact ⟨by rw [e1]; exact h.at_, e2, fun z => (s.own p z).elim h.no hn, h.rp.up s.f⟩
theorem run_it {J : It} {n : Nat} {G : Hp → Prop} {Y : Nat → Hp → V → Hp → Prop} {H1 : Hp} {Qd : Hp → Prop} {B : (Hp → Prop) → V → Hp → Prop} (wk : Walk J n G Y) (Pv : Nat → Hp → Prop) (h0 : Pv 0 H1) (hG : ∀ i H, i ≤ n → Pv i H → G H)
    (hs : ∀ i x H H', i < n → Pv i H → Y i H x H' → B (Pv (i + 1)) x H') (hd : ∀ H, Pv n H → Qd H) :
    ∃ W : Nat → Nat → Hp → Prop, (∃ m, W 0 m H1) ∧ ∀ i m H, W i m H → (J.stop i H ∧ Qd H) ∨ (J.go i H ∧ ∃ Nx : Hp → Prop, (∀ H', Nx H' → ∃ m', m' < m ∧ W (i + 1) m' H') ∧ ∀ x H', J.yld i H x H' → B Nx x H') := by
  refine ⟨fun i m H => m = n - i ∧ i ≤ n ∧ Pv i H, ⟨n, by simp, Nat.zero_le _, h0⟩, ?_⟩
  rintro i m H ⟨rfl, hi, p⟩
  have q := hG i H hi p
  by_cases hlt : i < n
  · exact .inr ⟨wk.goes i H hlt q, Pv (i + 1), fun H' p' => ⟨n - (i + 1), by omega, rfl, hlt, p'⟩, fun x H' y => hs i x H H' hlt p (wk.yields i H x H' hlt q y)⟩
  · have e : i = n := by omega
    subst e
    exact .inl ⟨wk.stops H q, hd H p⟩
abbrev E0x : EX := fun _ _ _ _ => False
section
variable {K : PySem.W.Frag} {g : D → M Unit} {gt : TG} {c : M Bool} {tt : TT} {el : M D} {te : TE} {ts vs : List Nat}
/-- what is known of the parts of a comprehension -/
structure LcOk (K : PySem.W.Frag) (g : D → M Unit) (gt : TG) (c : M Bool) (tt : TT) (el : M D) (te : TE) (ts vs : List Nat) : Prop where
  sg : ∀ d v σ ρ F H, StOk K F ρ σ H → Rp K F v d → match g d ρ with
    | .ok _ ρ' => ∀ Q : L2.St → Hp → Prop, (∀ σ', Step (Own ρ σ) (Own ρ' σ') F H F H → StOk K F ρ' σ' H → (∀ j, j ∉ ts → σ'[j]? = σ[j]?) → Q σ' H) → gt v σ H Q
    | _ => True
  sc : ∀ σ, Snd K E0x σ (tt σ) c RelB no
  se : ∀ σ, Snd K E0x σ (te σ) el (RelD K) no
  sub : ∀ j, j ∈ ts → j ∈ vs
  len : ∀ d ρ ρ' u, g d ρ = .ok u ρ' → ρ'.length = ρ.length
/-- p beside what is owned -/
abbrev plus (O : Addr → Prop) (p : Addr) : Addr → Prop := fun a => O a ∨ a = p
theorem Step.plus {O O' : Addr → Prop} {F H F' H' : Hp} (s : Step O O' F H F' H') (p : Addr) : Step (Ly.plus O p) (Ly.plus O' p) F H F' H' :=
  ⟨s.f, fun a h1 h2 h3 => s.keep a h1 (fun z => h2 (.inl z)) h3, fun a h => h.elim (fun z => (s.own a z).imp .inl id) fun z => .inl (.inr z), s.dom⟩
theorem Step.chg {O : Addr → Prop} {F H : Hp} {p : Addr} {o : HO} : Step (Ly.plus O p) (Ly.plus O p) F H F (upd H p o) :=
  ⟨Same.refl F, fun a h1 h2 h3 => ⟨upd_ne fun z => h2 (.inr z), h3⟩, fun a h => .inl h, fun a h => by
    by_cases z : a = p
    · rw [z, upd_same]; simp
    · rw [upd_ne z]; exact h⟩
theorem Step.sub {O O' O2 : Addr → Prop} {F H F' H' : Hp} (a : Step O O' F H F' H') (h : ∀ x, O2 x → O' x) : Step O O2 F H F' H' := a.wk h
theorem At.okE {α β : Type} {K : PySem.W.Frag} {E : EX} {σ : L2.St} {P : (β → Hp → Prop) → Prop} {a : α} {ρ ρ' : Env} {F H : Hp} {Rel : Hp → Hp → β → α → Prop} {r : R α} (h : At K E σ P r Rel no ρ F H) (e : r = .ok a ρ') (Q : β → Hp → Prop) (q : ∀ b F' H', Step (Own ρ σ) (Own ρ' σ) F H F' H' → StOk K F' ρ' σ H' → Rel F' H' b a → Q b H') : P Q := by
  subst e
  exact h Q fun b F' H' s S r => q b F' H' s.noext S r
theorem lc_run (L : LcOk K g gt c tt el te ts vs) {J : It} {ds acc0 acc : List D} {F1 H1 : Hp} {ρ1 ρ2 : Env} {σ : L2.St} {p : Addr} {vs0 : List V} (it : ItOk K J F1 ds) (S1 : StOk K F1 ρ1 σ H1) (h1 : Hid K p ρ1 σ F1 H1 vs0 acc0) (hn : noOw ρ1 vs = true)
    (hl : lcLoop g c el vs ds acc0 (wipE ρ1 vs) = some (acc, ρ2)) {Qd : Hp → Prop}
    (hQ : ∀ vsl F' H', Step (plus (Own ρ1 σ) p) (plus (Own (rstE ρ1 ρ2 vs) σ) p) F1 H1 F' H' → StOk K F' (rstE ρ1 ρ2 vs) σ H' → Hid K p (rstE ρ1 ρ2 vs) σ F' H' vsl acc → Qd H') :
    ∃ W : Nat → Nat → Hp → Prop, (∃ m, W 0 m H1) ∧ ∀ i m H, W i m H → (J.stop i H ∧ Qd H) ∨ (J.go i H ∧ ∃ Nx : Hp → Prop, (∀ H', Nx H' → ∃ m', m' < m ∧ W (i + 1) m' H') ∧ ∀ x H', J.yld i H x H' →
      gt x (wipe σ vs) H' fun σ2 H2 => wipe σ2 vs = wipe σ vs ∧ tt σ2 H2 fun b H3 => if b = true then te σ2 H3 fun y H4 => ∃ acc, H4 p = some (.lst acc) ∧ acc.length < sizeLine ∧ Nx (upd H4 p (.lst (acc ++ [y]))) else Nx H3) := by
  obtain ⟨Y, wk, hY⟩ := it.ex
  refine run_it (B := fun Nx x H' => gt x (wipe σ vs) H' fun σ2 H2 => wipe σ2 vs = wipe σ vs ∧ tt σ2 H2 fun b H3 => if b = true then te σ2 H3 fun y H4 => ∃ acc, H4 p = some (.lst acc) ∧ acc.length < sizeLine ∧ Nx (upd H4 p (.lst (acc ++ [y]))) else Nx H3) wk
    (fun i H' => ∃ ρi Fi acci vsl, Step (plus (Own ρ1 σ) p) (plus (Own ρi (wipe σ vs)) p) F1 H1 Fi H' ∧ StOk K Fi ρi (wipe σ vs) H' ∧ Hid K p ρi (wipe σ vs) Fi H' vsl acci ∧ lcLoop g c el vs (ds.drop i) acci ρi = some (acc, ρ2)) ?_ (fun i H' _ ⟨ρi, Fi, _, _, st, S, _⟩ => st.f.trans S.fh) ?_ ?_
  · refine ⟨wipE ρ1 vs, F1, acc0, vs0, (Step.refl (O := plus (Own ρ1 σ) p)).wk fun a h => h.imp own_wipE id, S1.wipE vs, ⟨h1.at_, h1.fr, fun z => h1.no (own_wipE z), h1.rp⟩, hl⟩
  · rintro i x H' H'' hi ⟨ρi, Fi, acci, vsl, st, S, hd, e⟩ y
    obtain ⟨F', d, gr, hdi, rx⟩ := hY i H' x H'' Fi hi st.f S.fh y
    obtain ⟨st3, S3⟩ := S.gr gr
    have hd3 := hd.step st3
    have ed : ds.drop i = d :: ds.drop (i + 1) := by
      obtain ⟨h1, h2⟩ := List.getElem?_eq_some_iff.mp hdi
      rw [List.drop_eq_getElem_cons h1, h2]
    rw [ed] at e
    simp only [lcLoop] at e
    have hgd := L.sg d x (wipe σ vs) ρi F' H'' S3 rx
    split at e
    · rename_i u ρg hr
      rw [hr] at hgd
      refine hgd _ fun σ2 st4 S4 hts => ?_
      have hd4 := hd3.step st4
      have hlen : σ2.length = (wipe σ vs).length := by
        have h1 := S4.len
        have h2 := S3.len
        have h5 : ρg.length = ρi.length := L.len d ρi ρg u hr
        omega
      have hw : wipe σ2 vs = wipe σ vs := by
        rw [← wipe_twice σ vs]
        exact wipe_eq hlen fun j hj => hts j fun z => hj (L.sub j z)
      refine ⟨hw, ?_⟩
      have st5 := (st.trans (st3.plus p)).trans (st4.plus p)
      split at e
      · rename_i ρc hc
        refine (L.sc σ2 ρg F' H'' S4).okE hc _ fun b F5 H5 st6 S5 eb => ?_
        subst eb
        rw [if_pos rfl]
        have hd5 := hd4.step st6
        split at e
        · rename_i yd ρe he
          split at e
          · rename_i hz
            refine (L.se σ2 ρc F5 H5 S5).okE he _ fun yv F6 H6 st7 S6 ry => ?_
            have hd6 := hd5.step st7
            refine ⟨vsl, hd6.at_, by rw [hd6.rp.len]; exact hz, wipE ρe vs, F6, acci ++ [yd], vsl ++ [yv], ?_, ?_, ?_, e⟩
            · refine (((st5.trans (st6.plus p)).trans (st7.plus p)).trans Step.chg).wk fun a h => h.imp (fun z => ?_) id
              rw [← hw] at z
              exact own_wipE z
            · rw [← hw]
              exact (S6.other hd6.fr hd6.no).wipE vs
            · exact ⟨upd_same, hd6.fr, fun z => hd6.no (by rw [← hw] at z; exact own_wipE z), hd6.rp.append (.cons ry .nil)⟩
          · cases e
        · cases e
      · rename_i ρc hc
        refine (L.sc σ2 ρg F' H'' S4).okE hc _ fun b F5 H5 st6 S5 eb => ?_
        subst eb
        rw [if_neg Bool.false_ne_true]
        have hd5 := hd4.step st6
        refine ⟨wipE ρc vs, F5, acci, vsl, ?_, ?_, ⟨hd5.at_, hd5.fr, fun z => hd5.no (by rw [← hw] at z; exact own_wipE z), hd5.rp⟩, e⟩
        · refine (st5.trans (st6.plus p)).wk fun a h => h.imp (fun z => ?_) id
          rw [← hw] at z
          exact own_wipE z
        · rw [← hw]
          exact S5.wipE vs
      · cases e
    · cases e
  · rintro H' ⟨ρi, Fi, acci, vsl, st, S, hd, e⟩
    rw [List.drop_length] at e
    cases e
    have hlen : ρ1.length = ρ2.length := by rw [S1.len, S.len, wipe_length]
    exact hQ vsl Fi H' (st.wk fun a h => h.imp (own_rstE hlen hn) id) (S1.rstE S hn st.f) ⟨hd.at_, hd.fr, fun z => hd.no (own_rstE hlen hn z), hd.rp⟩
end
end Ly

set_option Elab.async false
set_option linter.all false
set_option maxRecDepth 100000
set_option maxHeartbeats 2000000
namespace Ly
open PySem L2

/-! ### comprehensions -/
abbrev BA : Type := Shared × Hp × Addr × List (Str × Addr) × List Addr
abbrev blkX {ι : Type} (X : ι → Cx) (sc : Scope) : ι × BA → Cx := fun q => (X q.1).blk q.2.1 q.2.2.1 sc (compEnvC sc q.2.2.2.2.1 q.2.2.2.1 (X q.1).env) q.2.2.2.2.2
structure DTs {ι : Type} (X : ι → Cx) (K : PySem.W.Frag) (E : EX) (ifs : List Expr) (m : M Bool) : Prop where
  ex : ∃ t : TT, (∀ i, PTs (X i) ifs t) ∧ ∀ σ, Snd K E σ (t σ) m RelB no
section
variable {ι : Type} {X : ι → Cx} {K : PySem.W.Frag} {E : EX} {c : Expr} {nc : M Bool}
theorem dts_nil : DTs X K E [] (pur true) := ⟨_, fun _ => pts_nil, fun _ _ _ _ S => At.now S fun _ q => q _ rfl⟩
theorem dts_one (h : DT X K E c nc) : DTs X K E [c] nc := by
  obtain ⟨t, p, s⟩ := h.ex
  exact ⟨_, fun i => pts_one (p i), s⟩
end
section
variable {K : PySem.W.Frag} {E : EX} {F H F1 H1 : Hp} {ρ ρ1 : Env} {σ : L2.St}
theorem AtO.pre {P : VK → Prop} {r : R (List D)} (s : Step (Own ρ σ) (Own ρ1 σ) F H F1 H1) (h : AtO K E σ P r ρ1 F1 H1) : AtO K E σ P r ρ F H := by
  cases r with
  | stuck => trivial
  | ok ds ρ' => exact fun Q k => h Q fun p vs F' H' st => k p vs F' H' (s.trans st)
  | ex c ρ' => exact fun Q k => h Q fun F' H' cls od st S x => k F' H' cls od (s.trans st) S x
theorem AtO.bind {α β : Type} {P1 : (β → Hp → Prop) → Prop} {T2 : β → Hp → VK → Prop} {r : R α} {k : α → M (List D)} {Rel1 : Hp → Hp → β → α → Prop}
    (h1 : At K E σ P1 r Rel1 no ρ F H) (h2 : ∀ b a ρ1 F1 H1, Step (Own ρ σ) (Own ρ1 σ) F H F1 H1 → Rel1 F1 H1 b a → StOk K F1 ρ1 σ H1 → AtO K E σ (T2 b H1) (k a ρ1) ρ1 F1 H1) : AtO K E σ (fun Q => P1 fun b H1 => T2 b H1 Q) (bndR r k) ρ F H := by
  cases r with
  | stuck => trivial
  | ex c ρ' => exact fun Q q => h1 _ q
  | ok a ρ' =>
    show AtO K E σ _ (k a ρ') ρ F H
    have h3 : ∀ b F1 H1, Step (Own ρ σ) (Own ρ' σ) F H F1 H1 → Rel1 F1 H1 b a → StOk K F1 ρ' σ H1 → AtO K E σ (T2 b H1) (k a ρ') ρ F H := fun b F1 H1 s r S => (h2 b a ρ' F1 H1 s r S).pre s
    generalize k a ρ' = r2 at h3
    cases r2 with
    | stuck => trivial
    | ok ds ρ2 => exact fun Q q => h1 _ fun b F1 H1 s S r1 => h3 b F1 H1 s.noext r1 S Q q
    | ex c ρ2 => exact fun Q q => h1 _ fun b F1 H1 s S r1 => h3 b F1 H1 s.noext r1 S Q q
end
/-- a comprehension: the value, and the statement that stores it -/
structure DL {ι : Type} (X : ι → Cx) (K : PySem.W.Frag) (E : EX) (e : Expr) (m : M (List D)) : Prop where
  ex : ∃ t : TE, (∀ i, PE (X i) e t) ∧ (∀ i (j : Nat) (y : Str) (py spos : Pos), (X i).N[j]? = some y → (X i).env.scope.names.lookup y = some .local → swapsWith e (some (.Name y py)) spos.line (X i).env = pure true → PS (X i) (.Assign [.Name y py] e spos) (tAsg t (gName j))) ∧
    ∀ σ ρ F H, StOk K F ρ σ H → AtO K E σ (t σ H) (m ρ) ρ F H
def lcO (vs : List Nat) (mi : M (List D)) (g : D → M Unit) (c : M Bool) (el : M D) : M (List D) := bnd mi fun ds ρ => match noOw ρ vs, lcLoop g c el vs ds [] (wipE ρ vs) with
  | true, some (acc, ρ2) => .ok acc (rstE ρ ρ2 vs)
  | _, _ => .stuck
section
variable {ι : Type} {X : ι → Cx} {K : PySem.W.Frag} {E : EX} {tg iter elt tg1 iter1 : Expr} {ifs ifs1 : List Expr} {scope : Scope} {own : List (Str × Nat)} {pos : Pos} {mi mi1 : M (List D)} {g g1 : D → M Unit} {c c1 : M Bool} {el : M D} {ts ts1 : List Nat}
theorem hid_new {F H : Hp} {ρ : Env} {σ : L2.St} {p : Addr} (S : StOk K F ρ σ H) (hp : H p = none) : Hid K p ρ σ F (upd H p (.lst [])) [] [] ∧ StOk K F ρ σ (upd H p (.lst [])) ∧ Step (Own ρ σ) (plus (Own ρ σ) p) F H F (upd H p (.lst [])) := by
  have np : ¬ Own ρ σ p := fun z => by
    obtain ⟨_, ws, e⟩ := S.own z
    rw [hp] at e
    cases e
  have g : Gr F H F (upd H p (.lst [])) := Gr.drop S.fh hp
  obtain ⟨st, S'⟩ := S.gr g
  exact ⟨⟨upd_same, S.fh.free hp, np, .nil⟩, S', ⟨st.f, st.keep, fun a h => h.elim .inl fun z => .inr (z ▸ hp), st.dom⟩⟩
theorem dl_lc (hi : DI X K E tg iter mi) (hg : DG (blkX X scope) K tg g ts) (ht : DTs (blkX X scope) K E0x ifs c) (he : DE (blkX X scope) K E0x elt el) (hts : ∀ j, j ∈ ts → j ∈ own.map (·.2)) (ok : ∀ i, BlkOk (X i).N (X i).env.scope scope own) (hN : ∀ i, (X i).N.Nodup)
    (hc : ∀ i, (X i).calm = true := by intro _; rfl) (hs : ∀ i x, foldedSetIterable iter (X i).env x = pure x := by intro _ _; rfl) : DL X K E (.ListComp elt [⟨tg, iter, ifs, 0⟩] scope pos) (lcO (own.map (·.2)) mi g c el) := by
  obtain ⟨w, q, s⟩ := hi.ex
  obtain ⟨gt, pg, sg⟩ := hg.ex
  obtain ⟨tt, pt, sc⟩ := ht.ex
  obtain ⟨te, pe, se⟩ := he.ex
  refine ⟨tLc w gt tt te (own.map (·.2)), fun i => pe_lc (hc i) (hN i) (q i) (ok i) (fun s H C cl fp => pg (i, s, H, C, cl, fp)) (fun s H C cl fp => pt (i, s, H, C, cl, fp)) (fun s H C cl fp => pe (i, s, H, C, cl, fp)) (hs i),
    fun i j y py spos h1 h2 h3 => ps_setLc (hc i) (hN i) h1 h2 h3 (q i) (ok i) (fun s H C cl fp => pg (i, s, H, C, cl, fp)) (fun s H C cl fp => pt (i, s, H, C, cl, fp)) (fun s H C cl fp => pe (i, s, H, C, cl, fp)) (hs i), fun σ ρ F H S => ?_⟩
  have L : LcOk K g gt c tt el te ts (own.map (·.2)) := ⟨sg, sc, se, hts, hg.ok.ln⟩
  refine AtO.bind (P1 := w σ H) (T2 := fun J H1 Q => ∀ p, H1 p = none → ∃ W : Nat → Nat → Hp → Prop, (∃ m, W 0 m (upd H1 p (.lst []))) ∧ ∀ i m H, W i m H →
    (J.stop i H ∧ Q (.ref p) H) ∨ (J.go i H ∧ ∃ Nx : Hp → Prop, (∀ H', Nx H' → ∃ m', m' < m ∧ W (i + 1) m' H') ∧ ∀ x H', J.yld i H x H' → gt x (wipe σ (own.map (·.2))) H' fun σ2 H2 => wipe σ2 (own.map (·.2)) = wipe σ (own.map (·.2)) ∧ tt σ2 H2 fun b H3 =>
      if b = true then te σ2 H3 fun y H4 => ∃ acc, H4 p = some (.lst acc) ∧ acc.length < sizeLine ∧ Nx (upd H4 p (.lst (acc ++ [y]))) else Nx H3)) (s σ ρ F H S) fun J ds ρ1 F1 H1 st1 it S1 => ?_
  split
  · rename_i acc ρ2 hn hl
    refine fun Q k p hp => ?_
    obtain ⟨hd, S2, st2⟩ := hid_new S1 hp
    exact lc_run L it S2 hd hn hl fun vsl F' H' st3 S3 hd3 => k p vsl F' H' (st2.trans st3) S3 hd3.no hd3.fr hd3.at_ hd3.rp
  · trivial
/-- two sources -/
def lc2Loop (g : D → M Unit) (c : M Bool) (mi1 : M (List D)) (g1 : D → M Unit) (c1 : M Bool) (el : M D) (vs vs1 : List Nat) : List D → List D → Env → Option (List D × Env)
  | [], acc, ρ => some (acc, ρ)
  | d :: ds, acc, ρ => match g d ρ with
    | .ok _ ρ1 => match c ρ1 with
      | .ok true ρ2 => match mi1 ρ2 with
        | .ok es ρ3 => match noOw ρ3 vs1, lcLoop g1 c1 el vs1 es acc (wipE ρ3 vs1) with
          | true, some (acc', ρ4) => lc2Loop g c mi1 g1 c1 el vs vs1 ds acc' (wipE (rstE ρ3 ρ4 vs1) vs)
          | _, _ => none
        | _ => none
      | .ok false ρ2 => lc2Loop g c mi1 g1 c1 el vs vs1 ds acc (wipE ρ2 vs)
      | _ => none
    | _ => none
def lcO2 (vs vs1 : List Nat) (mi : M (List D)) (g : D → M Unit) (c : M Bool) (mi1 : M (List D)) (g1 : D → M Unit) (c1 : M Bool) (el : M D) : M (List D) := bnd mi fun ds ρ => match noOw ρ vs, lc2Loop g c mi1 g1 c1 el vs vs1 ds [] (wipE ρ vs) with
  | true, some (acc, ρ2) => .ok acc (rstE ρ ρ2 vs)
  | _, _ => .stuck
theorem dl_lc2 {vs1 : List Nat} (hi : DI X K E tg iter mi) (hg : DG (blkX X scope) K tg g ts) (ht : DTs (blkX X scope) K E0x ifs c) (hi1 : DI (blkX X scope) K E0x tg1 iter1 mi1) (hg1 : DG (blkX X scope) K tg1 g1 ts1) (ht1 : DTs (blkX X scope) K E0x ifs1 c1) (he : DE (blkX X scope) K E0x elt el)
    (hts : ∀ j, j ∈ ts → j ∈ own.map (·.2)) (hts1 : ∀ j, j ∈ ts1 → j ∈ vs1) (hv : ∀ i ∈ vs1, i ∈ own.map (·.2)) (ok : ∀ i, BlkOk (X i).N (X i).env.scope scope own) (hN : ∀ i, (X i).N.Nodup)
    (hc : ∀ i, (X i).calm = true := by intro _; rfl) (hs : ∀ i x, foldedSetIterable iter (X i).env x = pure x := by intro _ _; rfl) (hs1 : ∀ env x, foldedSetIterable iter1 env x = pure x := by intro _ _; rfl) : DL X K E (.ListComp elt [⟨tg, iter, ifs, 0⟩, ⟨tg1, iter1, ifs1, 0⟩] scope pos) (lcO2 (own.map (·.2)) vs1 mi g c mi1 g1 c1 el) := by
  obtain ⟨w, q, s⟩ := hi.ex
  obtain ⟨gt, pg, sg⟩ := hg.ex
  obtain ⟨tt, pt, sc⟩ := ht.ex
  obtain ⟨w1, q1, s1⟩ := hi1.ex
  obtain ⟨gt1, pg1, sg1⟩ := hg1.ex
  obtain ⟨tt1, pt1, sc1⟩ := ht1.ex
  obtain ⟨te, pe, se⟩ := he.ex
  refine ⟨tLc2 w gt tt w1 gt1 tt1 te (own.map (·.2)) vs1, fun i => pe_lc2 (hc i) (hN i) (q i) (ok i) hv (fun s H C cl fp => pg (i, s, H, C, cl, fp)) (fun s H C cl fp => pt (i, s, H, C, cl, fp)) (fun s H C cl fp => q1 (i, s, H, C, cl, fp)) (fun s H C cl fp => pg1 (i, s, H, C, cl, fp)) (fun s H C cl fp => pt1 (i, s, H, C, cl, fp)) (fun s H C cl fp => pe (i, s, H, C, cl, fp)) (hs i) hs1,
    fun i j y py spos h1 h2 h3 => ps_setLc2 (hc i) (hN i) h1 h2 h3 (q i) (ok i) hv (fun s H C cl fp => pg (i, s, H, C, cl, fp)) (fun s H C cl fp => pt (i, s, H, C, cl, fp)) (fun s H C cl fp => q1 (i, s, H, C, cl, fp)) (fun s H C cl fp => pg1 (i, s, H, C, cl, fp)) (fun s H C cl fp => pt1 (i, s, H, C, cl, fp)) (fun s H C cl fp => pe (i, s, H, C, cl, fp)) (hs i) hs1, fun σ ρ F H S => ?_⟩
  have L1 : LcOk K g1 gt1 c1 tt1 el te ts1 vs1 := ⟨sg1, sc1, se, hts1, hg1.ok.ln⟩
  generalize own.map (·.2) = vs at hts hv
  refine AtO.bind (P1 := w σ H) (T2 := fun J H1 Q => ∀ p, H1 p = none → ∃ W : Nat → Nat → Hp → Prop, (∃ m, W 0 m (upd H1 p (.lst []))) ∧ ∀ i m H, W i m H →
    (J.stop i H ∧ Q (.ref p) H) ∨ (J.go i H ∧ ∃ Nx : Hp → Prop, (∀ H', Nx H' → ∃ m', m' < m ∧ W (i + 1) m' H') ∧ ∀ x H', J.yld i H x H' → gt x (wipe σ vs) H' fun σ2 H2 => wipe σ2 vs = wipe σ vs ∧ tt σ2 H2 fun b H3 =>
      if b = true then w1 σ2 H3 fun J1 H4 => ∃ W1 : Nat → Nat → Hp → Prop, (∃ m, W1 0 m H4) ∧ ∀ j k H, W1 j k H →
        (J1.stop j H ∧ Nx H) ∨ (J1.go j H ∧ ∃ Nx1 : Hp → Prop, (∀ H', Nx1 H' → ∃ k', k' < k ∧ W1 (j + 1) k' H') ∧ ∀ x H', J1.yld j H x H' → gt1 x (wipe σ2 vs1) H' fun σ3 H5 => wipe σ3 vs1 = wipe σ2 vs1 ∧ tt1 σ3 H5 fun b H6 =>
          if b = true then te σ3 H6 fun y H7 => ∃ acc, H7 p = some (.lst acc) ∧ acc.length < sizeLine ∧ Nx1 (upd H7 p (.lst (acc ++ [y]))) else Nx1 H6)
      else Nx H3)) (s σ ρ F H S) fun J ds ρ1 F1 H1 st1 it S1 => ?_
  split
  · rename_i accF ρF hn hl
    refine fun Q k p hp => ?_
    obtain ⟨hd0, S2, st2⟩ := hid_new S1 hp
    obtain ⟨Y, wk, hY⟩ := it.ex
    refine run_it (B := fun Nx x H' => gt x (wipe σ vs) H' fun σ2 H2 => wipe σ2 vs = wipe σ vs ∧ tt σ2 H2 fun b H3 =>
      if b = true then w1 σ2 H3 fun J1 H4 => ∃ W1 : Nat → Nat → Hp → Prop, (∃ m, W1 0 m H4) ∧ ∀ j k H, W1 j k H →
        (J1.stop j H ∧ Nx H) ∨ (J1.go j H ∧ ∃ Nx1 : Hp → Prop, (∀ H', Nx1 H' → ∃ k', k' < k ∧ W1 (j + 1) k' H') ∧ ∀ x H', J1.yld j H x H' → gt1 x (wipe σ2 vs1) H' fun σ3 H5 => wipe σ3 vs1 = wipe σ2 vs1 ∧ tt1 σ3 H5 fun b H6 =>
          if b = true then te σ3 H6 fun y H7 => ∃ acc, H7 p = some (.lst acc) ∧ acc.length < sizeLine ∧ Nx1 (upd H7 p (.lst (acc ++ [y]))) else Nx1 H6)
      else Nx H3) wk
      (fun i H' => ∃ ρi Fi acci vsl, Step (plus (Own ρ1 σ) p) (plus (Own ρi (wipe σ vs)) p) F1 (upd H1 p (.lst [])) Fi H' ∧ StOk K Fi ρi (wipe σ vs) H' ∧ Hid K p ρi (wipe σ vs) Fi H' vsl acci ∧ lc2Loop g c mi1 g1 c1 el vs vs1 (ds.drop i) acci ρi = some (accF, ρF)) ?_ (fun i H' _ ⟨ρi, Fi, _, _, st, S, _⟩ => st.f.trans S.fh) ?_ ?_
    · exact ⟨wipE ρ1 vs, F1, [], [], (Step.refl (O := plus (Own ρ1 σ) p)).wk fun a h => h.imp own_wipE id, S2.wipE vs, ⟨hd0.at_, hd0.fr, fun z => hd0.no (own_wipE z), hd0.rp⟩, hl⟩
    · rintro i x H' H'' hi ⟨ρi, Fi, acci, vsl, st, S, hd, e⟩ y
      obtain ⟨F', d, gr, hdi, rx⟩ := hY i H' x H'' Fi hi st.f S.fh y
      obtain ⟨st3, S3⟩ := S.gr gr
      have hd3 := hd.step st3
      have ed : ds.drop i = d :: ds.drop (i + 1) := by
        obtain ⟨h1, h2⟩ := List.getElem?_eq_some_iff.mp hdi
        rw [List.drop_eq_getElem_cons h1, h2]
      rw [ed] at e
      simp only [lc2Loop] at e
      have hgd := sg d x (wipe σ vs) ρi F' H'' S3 rx
      split at e
      · rename_i u ρg hr
        rw [hr] at hgd
        refine hgd _ fun σ2 st4 S4 hts2 => ?_
        have hd4 := hd3.step st4
        have hlen : σ2.length = (wipe σ vs).length := by
          have h1 := S4.len
          have h2 := S3.len
          have h5 : ρg.length = ρi.length := hg.ok.ln d ρi ρg u hr
          omega
        have hw : wipe σ2 vs = wipe σ vs := by
          rw [← wipe_twice σ vs]
          exact wipe_eq hlen fun j hj => hts2 j fun z => hj (hts j z)
        refine ⟨hw, ?_⟩
        have st5 := (st.trans (st3.plus p)).trans (st4.plus p)
        split at e
        · rename_i ρc hc
          refine (sc σ2 ρg F' H'' S4).okE hc _ fun b F5 H5 st6 S5 eb => ?_
          subst eb
          rw [if_pos rfl]
          have hd5 := hd4.step st6
          split at e
          · rename_i es ρ3 hm
            refine (s1 σ2 ρc F5 H5 S5).okE hm _ fun J1 F6 H6 st7 S6 it1 => ?_
            have hd6 := hd5.step st7
            split at e
            · rename_i acc' ρ4 hn1 hl1
              refine lc_run L1 it1 S6 hd6 hn1 hl1 fun vsl' F7 H7 st8 S7 hd7 => ⟨wipE (rstE ρ3 ρ4 vs1) vs, F7, acc', vsl', ?_, ?_, ⟨hd7.at_, hd7.fr, fun z => hd7.no (by rw [← hw] at z; exact own_wipE z), hd7.rp⟩, e⟩
              · refine (((st5.trans (st6.plus p)).trans (st7.plus p)).trans st8).wk fun a h => h.imp (fun z => ?_) id
                rw [← hw] at z
                exact own_wipE z
              · rw [← hw]
                exact S7.wipE vs
            · cases e
          · cases e
        · rename_i ρc hc
          refine (sc σ2 ρg F' H'' S4).okE hc _ fun b F5 H5 st6 S5 eb => ?_
          subst eb
          rw [if_neg Bool.false_ne_true]
          have hd5 := hd4.step st6
          refine ⟨wipE ρc vs, F5, acci, vsl, ?_, ?_, ⟨hd5.at_, hd5.fr, fun z => hd5.no (by rw [← hw] at z; exact own_wipE z), hd5.rp⟩, e⟩
          · refine (st5.trans (st6.plus p)).wk fun a h => h.imp (fun z => ?_) id
            rw [← hw] at z
            exact own_wipE z
          · rw [← hw]
            exact S5.wipE vs
        · cases e
      · cases e
    · rintro H' ⟨ρi, Fi, acci, vsl, st, S, hd, e⟩
      rw [List.drop_length] at e
      cases e
      have hlen : ρ1.length = ρF.length := by rw [S1.len, S.len, wipe_length]
      exact k p vsl Fi H' ((st2.trans st).wk fun a h => h.imp (own_rstE hlen hn) id) (S1.rstE S hn st.f) (fun z => hd.no (own_rstE hlen hn z)) hd.fr hd.at_ hd.rp
  · trivial
end
end Ly

set_option Elab.async false
set_option linter.all false
set_option maxRecDepth 100000
set_option maxHeartbeats 2000000
namespace Ly
open PySem L2
section
variable {ι : Type} {X : ι → Cx} {K : PySem.W.Frag} {E : EX} {e a b c : Expr} {mo : M (List D)} {m ma mb mc : M D} {x y z : Str} {pos : Pos}
theorem do_dl (h : DL X K E e mo) : DO X K E e mo := by
  obtain ⟨t, q, _, s⟩ := h.ex
  exact ⟨t, q, s⟩
theorem de_dl (h : DL X K E e mo) : DE X K E e (frzM mo) := de_frz (do_dl h)
theorem snd_put (i : Nat) (d : D) (v : V) (σ : L2.St) (ρ : Env) (F H : Hp) (S : StOk K F ρ σ H) (r : Rp K F v d) : match putM i d ρ with
    | .ok _ ρ' => ∀ Q : L2.St → Hp → Prop, (∀ σ', Step (Own ρ σ) (Own ρ' σ') F H F H → StOk K F ρ' σ' H → (∀ j, j ∉ [i] → σ'[j]? = σ[j]?) → Q σ' H) → gName i v σ H Q
    | _ => True := by
  cases h : putM i d ρ with
  | ok u ρ' =>
    obtain ⟨h1, rfl⟩ := put_lt h
    obtain ⟨h2, h3⟩ := S.setFz h1 r
    exact fun Q k => k _ h2 h3 fun j hj => List.getElem?_set_ne (by simpa using fun z => hj (by simp [z]))
  | _ => trivial
/-- x = [..] -/
theorem ds_setL (i : Nat) {py : Pos} (h : DL X K E e mo) (hi : ∀ j, (X j).N[i]? = some x := by intro _; rfl) (hx : ∀ j, (X j).env.scope.names.lookup x = some .local := by intro _; rfl)
    (hs : ∀ j, swapsWith e (some (.Name x py)) pos.line (X j).env = pure true := by intro _; exact sw_true rfl rfl rfl (by decide +kernel)) : DS X K E (.Assign [.Name x py] e pos) (asgM (frzM mo) (putM i)) := by
  obtain ⟨t, q, ps, s⟩ := h.ex
  exact ⟨_, fun j => ps j i x py pos (hi j) (hx j) (hs j), snd_asg (ts := [i]) (fun σ ρ F H S => (s σ ρ F H S).frz) (snd_put i) put_nox⟩
theorem snd_setO {t : TE} (i : Nat) (s : ∀ σ ρ F H, StOk K F ρ σ H → AtO K E σ (t σ H) (mo ρ) ρ F H) : SndS K E (tAsg t (gName i)) (setOM i mo) := fun σ ρ F H S => by
  have h := s σ ρ F H S
  show AtS K E (fun Dd => t σ H fun v H1 => Dd.nx (σ.set i (some v)) H1) (bndR (mo ρ) _) (Own ρ σ) F H
  generalize mo ρ = r at h
  cases r with
  | stuck => trivial
  | ex c ρ' => exact fun k Dd => h _ fun F' H' cls od st S' xo => k F' σ H' cls od st S' xo
  | ok ds ρ' =>
    simp only [bndR]
    split
    · trivial
    · rename_i hh _
      refine fun Dd k => h _ fun p vs F' H' st S' np fp hp r => ?_
      have hl : i < ρ'.length := (List.getElem?_eq_some_iff.mp (by assumption)).1
      obtain ⟨h1, h2⟩ := S'.setOw hl np fp hp r
      exact k F' _ H' (st.wk h1) h2
    · trivial
theorem ds_setLO (i : Nat) {py : Pos} (h : DL X K E e mo) (hi : ∀ j, (X j).N[i]? = some x := by intro _; rfl) (hx : ∀ j, (X j).env.scope.names.lookup x = some .local := by intro _; rfl)
    (hs : ∀ j, swapsWith e (some (.Name x py)) pos.line (X j).env = pure true := by intro _; exact sw_true rfl rfl rfl (by decide +kernel)) : DS X K E (.Assign [.Name x py] e pos) (setOM i mo) := by
  obtain ⟨t, q, ps, s⟩ := h.ex
  exact ⟨_, fun j => ps j i x py pos (hi j) (hx j) (hs j), snd_setO i s⟩
/-- x, y = a, b -/
def parM (i j : Nat) (ms : M (List D)) : M Fl := bnd ms fun ds => match ds with
  | [d, e] => bnd (putM i d) fun _ => bnd (putM j e) fun _ => pur .nx
  | _ => stk
theorem ds_par (i j : Nat) {px py pt : Pos} {kt k2 pt2} {ms : M (List D)} (h : DA X K E [a, b] ms) (hc : ∀ q, (X q).calm = true := by intro _; rfl) (hN : ∀ q, (X q).N.Nodup) (hi : ∀ q, (X q).N[i]? = some x := by intro _; rfl) (hj : ∀ q, (X q).N[j]? = some y := by intro _; rfl) (hij : i ≠ j := by decide)
    (hps : ∀ (q : ι) (t : TA), PA (X q) [a, b] t → PS (X q) (.Assign [.Tuple [.Name x px, .Name y py] kt pt] (.Tuple [a, b] k2 pt2) pos) (tPar i j t)) : DS X K E (.Assign [.Tuple [.Name x px, .Name y py] kt pt] (.Tuple [a, b] k2 pt2) pos) (parM i j ms) := by
  obtain ⟨t, q, s⟩ := h.ex
  refine ⟨_, fun r => hps r t (q r), fun σ ρ F H S => ?_⟩
  refine AtS.bind (P1 := t σ H) (T2 := fun vs H1 Dd => ∃ v w, vs = [v, w] ∧ Dd.nx ((σ.set i (some v)).set j (some w)) H1) (s σ ρ F H S) fun vs ds ρ1 F1 H1 st r S1 => ?_
  split
  · rename_i d e
    obtain ⟨v, w, rfl, r1, r2⟩ := rpa2 r
    unfold bnd
    have h1 := snd_put i d v σ ρ1 F1 H1 S1 r1
    cases hd : putM i d ρ1 with
    | stuck => trivial
    | ex c ρ' => exact absurd hd (put_nox _ _ _ _)
    | ok u ρ2 =>
      simp only [bndR]
      cases he : putM j e ρ2 with
      | stuck => trivial
      | ex c ρ' => exact absurd he (put_nox _ _ _ _)
      | ok u ρ3 =>
        obtain ⟨l1, rfl⟩ := put_lt hd
        obtain ⟨l2, rfl⟩ := put_lt he
        obtain ⟨st2, S2⟩ := S1.setFz l1 r1
        obtain ⟨st3, S3⟩ := S2.setFz l2 r2
        exact fun Dd k => ⟨v, w, rfl, k F1 _ H1 (st2.trans st3) S3⟩
  · trivial
/-- x, y, z = a, b, c -/
def parM3 (i j l : Nat) (ms : M (List D)) : M Fl := bnd ms fun ds => match ds with
  | [d, e, f] => bnd (putM i d) fun _ => bnd (putM j e) fun _ => bnd (putM l f) fun _ => pur .nx
  | _ => stk
theorem ds_par3 (i j l : Nat) {px py pz pt : Pos} {kt k2 pt2} {ms : M (List D)} (h : DA X K E [a, b, c] ms)
    (hps : ∀ (q : ι) (t : TA), PA (X q) [a, b, c] t → PS (X q) (.Assign [.Tuple [.Name x px, .Name y py, .Name z pz] kt pt] (.Tuple [a, b, c] k2 pt2) pos) (tPar3 i j l t)) : DS X K E (.Assign [.Tuple [.Name x px, .Name y py, .Name z pz] kt pt] (.Tuple [a, b, c] k2 pt2) pos) (parM3 i j l ms) := by
  obtain ⟨t, q, s⟩ := h.ex
  refine ⟨_, fun r => hps r t (q r), fun σ ρ F H S => ?_⟩
  refine AtS.bind (P1 := t σ H) (T2 := fun vs H1 Dd => ∃ u v w, vs = [u, v, w] ∧ Dd.nx (((σ.set i (some u)).set j (some v)).set l (some w)) H1) (s σ ρ F H S) fun vs ds ρ1 F1 H1 st r S1 => ?_
  split
  · rename_i d e f
    cases r with
    | @cons v vs _ _ r1 r23 =>
      obtain ⟨w, w2, rfl, r2, r3⟩ := rpa2 r23
      unfold bnd
      cases hd : putM i d ρ1 with
      | stuck => trivial
      | ex c ρ' => exact absurd hd (put_nox _ _ _ _)
      | ok u ρ2 =>
        simp only [bndR]
        cases he : putM j e ρ2 with
        | stuck => trivial
        | ex c ρ' => exact absurd he (put_nox _ _ _ _)
        | ok u ρ3 =>
          simp only [bnd]
          cases hf : putM l f ρ3 with
          | stuck => trivial
          | ex c ρ' => exact absurd hf (put_nox _ _ _ _)
          | ok u ρ4 =>
            obtain ⟨l1, rfl⟩ := put_lt hd
            obtain ⟨l2, rfl⟩ := put_lt he
            obtain ⟨l3, rfl⟩ := put_lt hf
            obtain ⟨st2, S2⟩ := S1.setFz l1 r1
            obtain ⟨st3, S3⟩ := S2.setFz l2 r2
            obtain ⟨st4, S4⟩ := S3.setFz l3 r3
            exact fun Dd k => ⟨v, w, w2, rfl, k F1 _ H1 ((st2.trans st3).trans st4) S4⟩
  · trivial
end

/-! ### defs: what they do, what they promise -/
inductive Ar where
  | val (d : D) | mu (xs : List D)
def Ar.sl : Ar → Option Sl
  | .val d => some (.fz d)
  | .mu xs => some (.ow xs)
abbrev FSem : Type := List Ar → Option (Except Xc Ret × List Ar)
def FinF (K : PySem.W.Frag) (Q : VK) (E : XK) (O : Addr → Prop) (F H : Hp) (vs : List V) (as' : List Ar) : Except Xc Ret → Prop
  | .ok (.fz d) => ∀ v F' H', Step O O F H F' H' → StOk K F' (as'.map Ar.sl) (vs.map some) H' → Rp K F' v d → Q v H'
  | .ok (.fr ds) => ∀ p ws F' H', Step O (plus O p) F H F' H' → StOk K F' (as'.map Ar.sl) (vs.map some) H' → F' p = none → ¬ O p → H' p = some (.lst ws) → RpA K F' ws ds → Q (.ref p) H'
  | .error c => ∀ cls od F' H', Step O O F H F' H' → StOk K F' (as'.map Ar.sl) (vs.map some) H' → XOk K c cls od F' → E cls od H'
def spF (K : PySem.W.Frag) (n : Nat) (g : FSem) : Sp := fun vs H Q E => ∃ F as r as', as.length = n ∧ StOk K F (as.map Ar.sl) (vs.map some) H ∧ g as = some (r, as') ∧ FinF K Q E (Own (as.map Ar.sl) (vs.map some)) F H vs as' r
theorem spF_len {K : PySem.W.Frag} {n : Nat} {g : FSem} {vs : List V} {H : Hp} {Q : VK} {E : XK} (h : spF K n g vs H Q E) : vs.length = n := by
  obtain ⟨F, as, r, as', h1, h2, _⟩ := h
  have := h2.len
  rw [List.length_map, List.length_map] at this
  omega
/-- a def that may be called by its name -/
structure Cal (P : Program) (w : World) (K : PySem.W.Frag) (mg : Str → Option Value) (base : Heap) (k : Nat) (x : Str) (n : Nat) (g : FSem) : Prop where
  ex : ∃ (f : Addr) (fd : FuncData) (ps : List Str), FnOk P w K mg base CX0 k f fd ps (spF K n g) ∧ mg x = some (.ref f) ∧ PySem.W.keepIn K (.ref f) = true ∧ Binds K fd ps []
/-! ### a call -/
inductive AV where
  | v (d : D) | s (i : Nat)
def RelAV (K : PySem.W.Frag) (σ : L2.St) (F : Hp) : V → AV → Prop
  | v, .v d => Rp K F v d
  | v, .s i => σ[i]? = some (some v)
structure DR {ι : Type} (X : ι → Cx) (K : PySem.W.Frag) (E : EX) (es : List Expr) (m : M (List AV)) : Prop where
  ex : ∃ t : TA, (∀ i, PA (X i) es t) ∧ ∀ σ, Snd K E σ (t σ) m (fun F _ vs as => Paired (RelAV K σ F) vs as ∧ as.length = es.length) no
section
variable {ι : Type} {X : ι → Cx} {K : PySem.W.Frag} {E : EX} {e : Expr} {es : List Expr} {m : M D} {mr : M (List AV)} {x : Str} {p pos : Pos}
theorem RelAV.up {σ : L2.St} {F F' : Hp} {v : V} {a : AV} (h : RelAV K σ F v a) (e : Same F F') : RelAV K σ F' v a := by
  cases a with
  | v d => exact Rp.up (show Rp K F v d from h) e
  | s i => exact h
theorem dr_nil : DR X K E [] (pur []) := ⟨_, fun _ => pa_nil, fun _ _ _ _ S => At.now S fun _ q => q _ ⟨.nil, rfl⟩⟩
def consV (a : M D) (b : M (List AV)) : M (List AV) := bnd a fun x => bnd b fun xs => pur (.v x :: xs)
theorem dr_val (ha : DE X K E e m) (hr : DR X K E es mr) (hs : ∀ i, starEach (e :: es) (X i).env = (false, eval e (X i).env) :: starEach es (X i).env := by intro _; rfl) : DR X K E (e :: es) (consV m mr) := by
  obtain ⟨t, p, s⟩ := ha.ex
  obtain ⟨u, q, s'⟩ := hr.ex
  refine ⟨_, fun i => pa_cons (p i) (q i) (hs i), fun σ => Snd.bind (T1 := t σ) (T2 := fun x H1 Q => u σ H1 fun xs H2 => Q (x :: xs) H2) (s σ) fun x d ρ F H rx S => ?_⟩
  exact At.bind (P1 := u σ H) (T2 := fun xs H2 Q => Q (x :: xs) H2) (s' σ ρ F H S) fun xs ds ρ1 F1 H1 st rxs S1 => At.now S1 fun Q q => q _ ⟨.cons (Rp.up rx st.f) rxs.1, by simp [rxs.2]⟩
/-- a name that owns a list, lent -/
def consS (i : Nat) (b : M (List AV)) : M (List AV) := fun ρ => match ρ[i]? with
  | some (some _) => bnd b (fun xs => pur (.s i :: xs)) ρ
  | _ => .stuck
theorem dr_ref (i : Nat) (hr : DR X K E es mr) (hN : ∀ j, (X j).N[i]? = some x := by intro _; rfl) (hv : ∀ j, Vis (X j).env.scope x := by first | exact fun _ => Or.inl rfl | exact fun _ => Or.inr (Or.inl rfl) | exact fun _ => Or.inr (Or.inr rfl)) (hd : (x == ("__debug__" : Str)) = false := by decide)
    (hcd : (x == ("__classdict__" : Str)) = false := by decide) (hs : ∀ j, starEach (.Name x p :: es) (X j).env = (false, eval (.Name x p) (X j).env) :: starEach es (X j).env := by intro _; rfl) : DR X K E (.Name x p :: es) (consS i mr) := by
  obtain ⟨u, q, s'⟩ := hr.ex
  refine ⟨_, fun j => pa_cons (pe_var (hN j) (hv j) hd hcd) (q j) (hs j), fun σ ρ F H S => ?_⟩
  unfold consS
  split
  · rename_i sl h
    obtain ⟨v, hv⟩ := slot_val S h
    refine at_cast (P := fun Q => u σ H fun xs H2 => Q (v :: xs) H2) ?_ fun Q h => ⟨v, hv, h⟩
    exact At.bind (P1 := u σ H) (T2 := fun xs H2 Q => Q (v :: xs) H2) (s' σ ρ F H S) fun xs ds ρ1 F1 H1 st rxs S1 => At.now S1 fun Q q => q _ ⟨.cons hv rxs.1, by simp [rxs.2]⟩
  · trivial
end
def toAr (ρ : Env) : List AV → Option (List Ar)
  | [] => some []
  | .v d :: r => (toAr ρ r).map (.val d :: ·)
  | .s i :: r => match cont ρ i, toAr ρ r with
    | some xs, some as => some (.mu xs :: as)
    | _, _ => none
def slotsOf : List AV → List Nat
  | [] => []
  | .v _ :: r => slotsOf r
  | .s i :: r => i :: slotsOf r
/-- the same kinds; values as they were -/
def fits : List Ar → List Ar → Bool
  | [], [] => true
  | .val _ :: r, .val _ :: r' => fits r r'
  | .mu _ :: r, .mu _ :: r' => fits r r'
  | _, _ => false
def wrt (ρ : Env) : List AV → List Ar → Env
  | .v _ :: r, _ :: as => wrt ρ r as
  | .s i :: r, .mu xs :: as => setC (wrt ρ r as) i xs
  | _, _ => ρ
section
variable {K : PySem.W.Frag} {F F' H H' : Hp} {ρ : Env} {σ : L2.St}
theorem wrt_isOw (j : Nat) : ∀ (avs : List AV) (as : List Ar), isOw (wrt ρ avs as)[j]? ↔ isOw ρ[j]?
  | [], _ => by unfold wrt; exact Iff.rfl
  | .v _ :: r, [] => by unfold wrt; exact Iff.rfl
  | .v _ :: r, _ :: as => wrt_isOw j r as
  | .s i :: r, [] => by unfold wrt; exact Iff.rfl
  | .s i :: r, .val _ :: as => by unfold wrt; exact Iff.rfl
  | .s i :: r, .mu xs :: as => (setC_isOw j).trans (wrt_isOw j r as)
theorem wrt_len : ∀ (avs : List AV) (as : List Ar), (wrt ρ avs as).length = ρ.length
  | [], _ => by unfold wrt; rfl
  | .v _ :: r, [] => by unfold wrt; rfl
  | .v _ :: r, _ :: as => wrt_len r as
  | .s i :: r, [] => by unfold wrt; rfl
  | .s i :: r, .val _ :: as => by unfold wrt; rfl
  | .s i :: r, .mu xs :: as => by show (setC (wrt ρ r as) i xs).length = _; rw [setC_len, wrt_len r as]
theorem wrt_out {j : Nat} : ∀ (avs : List AV) (as : List Ar), j ∉ slotsOf avs → (wrt ρ avs as)[j]? = ρ[j]?
  | [], _, _ => by unfold wrt; rfl
  | .v _ :: r, [], _ => by unfold wrt; rfl
  | .v _ :: r, _ :: as, h => wrt_out r as h
  | .s i :: r, [], _ => by unfold wrt; rfl
  | .s i :: r, .val _ :: as, _ => by unfold wrt; rfl
  | .s i :: r, .mu xs :: as, h => by
    simp only [slotsOf, List.mem_cons, not_or] at h
    show (setC (wrt ρ r as) i xs)[j]? = _
    rw [setC_ne (fun e => h.1 e.symm), wrt_out r as h.2]
/-- what a slot is with another content -/
def newSl : Option (Option Sl) → List D → Option (Option Sl)
  | some (some (.ow _)), xs => some (some (.ow xs))
  | some (some (.pr a _)), xs => some (some (.pr a xs))
  | o, _ => o
theorem setC_at {i : Nat} {xs : List D} : (setC ρ i xs)[i]? = newSl ρ[i]? xs := by
  unfold setC
  split
  · rename_i e
    rw [List.getElem?_set_self (List.getElem?_eq_some_iff.mp e).1, e]
    rfl
  · rename_i e
    rw [List.getElem?_set_self (List.getElem?_eq_some_iff.mp e).1, e]
    rfl
  · rename_i h1 h2
    cases e : ρ[i]? with
    | none => rfl
    | some o =>
      cases o with
      | none => rfl
      | some s =>
        cases s with
        | fz d => rfl
        | ow xs => exact absurd e (h1 xs)
        | pr a xs => exact absurd e (h2 a xs)
theorem wrt_in : ∀ (avs : List AV) (as : List Ar) {k i : Nat} {ys : List D}, (slotsOf avs).Nodup → avs[k]? = some (.s i) → as[k]? = some (.mu ys) → fits as as = true → (∀ (l : Nat) i, avs[l]? = some (.s i) → ∃ zs, as[l]? = some (.mu zs)) → (wrt ρ avs as)[i]? = newSl ρ[i]? ys
  | [], _, k, i, ys, _, h, _, _, _ => by simp at h
  | .v _ :: r, [], k, i, ys, _, _, h, _, _ => by simp at h
  | .v _ :: r, a :: as, 0, i, ys, _, h, _, _, _ => by simp at h
  | .v _ :: r, a :: as, k + 1, i, ys, hn, h1, h2, h3, h4 => wrt_in r as (k := k) hn (by simpa using h1) (by simpa using h2) (by cases a <;> exact h3) fun l i h => h4 (l + 1) i (by simpa using h)
  | .s i0 :: r, [], k, i, ys, _, _, h, _, _ => by simp at h
  | .s i0 :: r, .val _ :: as, k, i, ys, _, _, _, _, h4 => by
    obtain ⟨zs, e⟩ := h4 0 i0 rfl
    cases e
  | .s i0 :: r, .mu xs :: as, 0, i, ys, hn, h1, h2, _, _ => by
    simp at h1 h2
    subst h1
    subst h2
    show (setC (wrt ρ r as) i0 xs)[i0]? = _
    rw [setC_at, wrt_out r as (List.nodup_cons.mp hn).1]
  | .s i0 :: r, .mu xs :: as, k + 1, i, ys, hn, h1, h2, h3, h4 => by
    have h1' : r[k]? = some (.s i) := by simpa using h1
    have hm : i ∈ slotsOf r := by
      clear hn h2 h3 h4 h1
      induction r generalizing k with
      | nil => simp at h1'
      | cons a r ih =>
        cases k with
        | zero => simp at h1'; subst h1'; exact List.mem_cons_self ..
        | succ k =>
          have := ih (k := k) (by simpa using h1')
          cases a with
          | v d => exact this
          | s j => exact List.mem_cons_of_mem _ this
    have hne : i0 ≠ i := fun e => (List.nodup_cons.mp hn).1 (e ▸ hm)
    show (setC (wrt ρ r as) i0 xs)[i]? = _
    rw [setC_ne hne]
    exact wrt_in r as (k := k) (List.nodup_cons.mp hn).2 h1' (by simpa using h2) h3 fun l i h => h4 (l + 1) i (by simpa using h)
theorem toAr_len : ∀ {avs : List AV} {as : List Ar}, toAr ρ avs = some as → as.length = avs.length
  | [], as, h => by cases h; rfl
  | .v d :: r, as, h => by
    simp only [toAr] at h
    cases e : toAr ρ r with
    | none => rw [e] at h; cases h
    | some bs => rw [e] at h; cases h; simp [toAr_len e]
  | .s i :: r, as, h => by
    simp only [toAr] at h
    split at h
    · rename_i e; cases h; simp [toAr_len e]
    · cases h
theorem toAr_get : ∀ {avs : List AV} {as : List Ar} {k : Nat}, toAr ρ avs = some as → (∀ d, avs[k]? = some (.v d) → as[k]? = some (.val d)) ∧ (∀ i, avs[k]? = some (.s i) → ∃ xs, cont ρ i = some xs ∧ as[k]? = some (.mu xs))
  | [], as, k, h => ⟨fun d e => by simp at e, fun d e => by simp at e⟩
  | .v d :: r, as, k, h => by
    simp only [toAr] at h
    cases e : toAr ρ r with
    | none => rw [e] at h; cases h
    | some bs =>
      rw [e] at h
      cases h
      cases k with
      | zero => exact ⟨fun d' z => by simp at z; subst z; rfl, fun i z => by simp at z⟩
      | succ k =>
        obtain ⟨h1, h2⟩ := toAr_get (k := k) e
        exact ⟨fun d z => by simpa using h1 d (by simpa using z), fun i z => by simpa using h2 i (by simpa using z)⟩
  | .s i :: r, as, k, h => by
    simp only [toAr] at h
    split at h
    · rename_i xs bs e1 e
      cases h
      cases k with
      | zero => exact ⟨fun d' z => by simp at z, fun i z => by simp at z; subst z; exact ⟨xs, e1, rfl⟩⟩
      | succ k =>
        obtain ⟨h1, h2⟩ := toAr_get (k := k) e
        exact ⟨fun d z => by simpa using h1 d (by simpa using z), fun i z => by simpa using h2 i (by simpa using z)⟩
    · cases h
theorem fits_get : ∀ {as bs : List Ar} {k : Nat}, fits as bs = true → (∀ xs, as[k]? = some (.mu xs) → ∃ ys, bs[k]? = some (.mu ys)) ∧ (∀ d, as[k]? = some (.val d) → ∃ d', bs[k]? = some (.val d'))
  | [], [], k, _ => ⟨fun _ e => by simp at e, fun _ e => by simp at e⟩
  | [], _ :: _, k, h => by cases h
  | .val d :: r, [], k, h => by cases h
  | .mu d :: r, [], k, h => by cases h
  | .val d :: r, .mu _ :: _, k, h => by cases h
  | .mu d :: r, .val _ :: _, k, h => by cases h
  | .val d :: r, .val d' :: r', 0, h => ⟨fun _ e => by simp at e, fun _ e => ⟨d', rfl⟩⟩
  | .mu d :: r, .mu d' :: r', 0, h => ⟨fun _ e => ⟨d', rfl⟩, fun _ e => by simp at e⟩
  | .val d :: r, .val d' :: r', k + 1, h => by
    obtain ⟨h1, h2⟩ := fits_get (k := k) (as := r) (bs := r') h
    exact ⟨fun xs e => by simpa using h1 xs (by simpa using e), fun xs e => by simpa using h2 xs (by simpa using e)⟩
  | .mu d :: r, .mu d' :: r', k + 1, h => by
    obtain ⟨h1, h2⟩ := fits_get (k := k) (as := r) (bs := r') h
    exact ⟨fun xs e => by simpa using h1 xs (by simpa using e), fun xs e => by simpa using h2 xs (by simpa using e)⟩
theorem fits_self : ∀ {as bs : List Ar}, fits as bs = true → fits bs bs = true
  | [], [], _ => rfl
  | [], _ :: _, h => by cases h
  | .val d :: r, [], h => by cases h
  | .mu d :: r, [], h => by cases h
  | .val d :: r, .mu _ :: _, h => by cases h
  | .mu d :: r, .val _ :: _, h => by cases h
  | .val d :: r, .val d' :: r', h => fits_self (as := r) (bs := r') h
  | .mu d :: r, .mu d' :: r', h => fits_self (as := r) (bs := r') h
theorem Paired.at {α β : Type} {R : α → β → Prop} : ∀ {xs : List α} {ys : List β} {k : Nat} {x : α}, Paired R xs ys → xs[k]? = some x → ∃ y, ys[k]? = some y ∧ R x y
  | _, _, _, _, .nil, h => by simp at h
  | _, _, 0, _, .cons r t, h => by simp at h; subst h; exact ⟨_, rfl, r⟩
  | _, _, k + 1, _, .cons r t, h => by
    obtain ⟨y, h1, h2⟩ := Paired.at (k := k) t (by simpa using h)
    exact ⟨y, by simpa using h1, h2⟩
end
end Ly

set_option Elab.async false
set_option linter.all false
set_option maxRecDepth 100000
set_option maxHeartbeats 2000000
namespace Ly
open PySem L2
theorem slot_in {i : Nat} : ∀ {avs : List AV} {k : Nat}, avs[k]? = some (.s i) → i ∈ slotsOf avs
  | [], k, h => by simp at h
  | .v d :: r, 0, h => by simp at h
  | .s j :: r, 0, h => by simp at h; subst h; exact List.mem_cons_self ..
  | .v d :: r, k + 1, h => slot_in (avs := r) (k := k) (by simpa using h)
  | .s j :: r, k + 1, h => List.mem_cons_of_mem _ (slot_in (avs := r) (k := k) (by simpa using h))
theorem slots_inj : ∀ {avs : List AV} {k l i : Nat}, (slotsOf avs).Nodup → avs[k]? = some (.s i) → avs[l]? = some (.s i) → k = l
  | [], k, l, i, _, h, _ => by simp at h
  | .v d :: r, 0, l, i, _, h, _ => by simp at h
  | .v d :: r, k + 1, 0, i, _, _, h => by simp at h
  | .v d :: r, k + 1, l + 1, i, hn, h1, h2 => by rw [slots_inj (avs := r) (k := k) (l := l) hn (by simpa using h1) (by simpa using h2)]
  | .s j :: r, k, l, i, hn, h1, h2 => by
    obtain ⟨h3, h4⟩ := List.nodup_cons.mp hn
    cases k with
    | zero =>
      simp at h1
      subst h1
      cases l with
      | zero => rfl
      | succ l => exact absurd (slot_in (by simpa using h2)) h3
    | succ k =>
      cases l with
      | zero =>
        simp at h2
        subst h2
        exact absurd (slot_in (by simpa using h1)) h3
      | succ l => rw [slots_inj (avs := r) (k := k) (l := l) h4 (by simpa using h1) (by simpa using h2)]
theorem slots_mem {j : Nat} : ∀ {avs : List AV}, j ∈ slotsOf avs → ∃ k : Nat, avs[k]? = some (AV.s j)
  | [], h => by cases h
  | .v d :: r, h => by
    obtain ⟨k, e⟩ := slots_mem (avs := r) h
    exact ⟨k + 1, by simpa using e⟩
  | .s i :: r, h => by
    rcases List.mem_cons.mp h with e | e
    · subst e; exact ⟨0, rfl⟩
    · obtain ⟨k, e⟩ := slots_mem (avs := r) e
      exact ⟨k + 1, by simpa using e⟩
section
variable {K : PySem.W.Frag} {F F' H H' : Hp} {ρ : Env} {σ : L2.St} {vs : List V} {avs : List AV} {as as' : List Ar}
theorem sl_isOw {k : Nat} (h : isOw (as.map Ar.sl)[k]?) : ∃ xs, as[k]? = some (.mu xs) := by
  rw [List.getElem?_map] at h
  cases e : as[k]? with
  | none => rw [e] at h; exact h.elim
  | some a =>
    rw [e] at h
    cases a with
    | val d => exact h.elim
    | mu xs => exact ⟨xs, rfl⟩
theorem vs_at {k : Nat} {a : Addr} (h : (vs.map some)[k]? = some (some (V.ref a))) : vs[k]? = some (V.ref a) := by
  rw [List.getElem?_map] at h
  cases e : vs[k]? with
  | none => rw [e] at h; cases h
  | some v => rw [e] at h; cases h; rfl
theorem call_pre (S : StOk K F ρ σ H) (r : Paired (RelAV K σ F) vs avs) (ht : toAr ρ avs = some as) (hn : (slotsOf avs).Nodup) :
    StOk K F (as.map Ar.sl) (vs.map some) H ∧ ∀ (k : Nat) a, isOw (as.map Ar.sl)[k]? → vs[k]? = some (V.ref a) → ∃ i, avs[k]? = some (.s i) ∧ isOw ρ[i]? ∧ σ[i]? = some (some (V.ref a)) := by
  have hl := toAr_len ht
  have hr := Paired.length r
  have own : ∀ (k : Nat) a, isOw (as.map Ar.sl)[k]? → vs[k]? = some (V.ref a) → ∃ i, avs[k]? = some (.s i) ∧ isOw ρ[i]? ∧ σ[i]? = some (some (V.ref a)) := fun k a o e => by
    obtain ⟨xs, hx⟩ := sl_isOw o
    obtain ⟨av, e2, q⟩ := Paired.at r e
    cases av with
    | v d =>
      have := (toAr_get (k := k) ht).1 d e2
      rw [hx] at this
      cases this
    | s i =>
      obtain ⟨ys, c1, c2⟩ := (toAr_get (k := k) ht).2 i e2
      exact ⟨i, e2, cont_ow c1, q⟩
  refine ⟨⟨S.fh, by rw [List.length_map, List.length_map, hl, hr], fun k => ?_, fun k l a ok ol ek el => ?_⟩, own⟩
  · rw [List.getElem?_map, List.getElem?_map]
    cases ea : as[k]? with
    | none => trivial
    | some a =>
      have hk : k < vs.length := by
        have := (List.getElem?_eq_some_iff.mp ea).1
        omega
      obtain ⟨av, e2, q⟩ := Paired.at r (List.getElem?_eq_getElem hk)
      rw [List.getElem?_eq_getElem hk]
      cases av with
      | v d =>
        have := (toAr_get (k := k) ht).1 d e2
        rw [ea] at this
        cases this
        exact ⟨_, rfl, q⟩
      | s i =>
        obtain ⟨ys, c1, c2⟩ := (toAr_get (k := k) ht).2 i e2
        rw [ea] at c2
        cases c2
        obtain ⟨b, ws, e1, e3, e4, e5⟩ := S.cont c1
        have q' : σ[i]? = some (some vs[k]) := q
        rw [e1] at q'
        injection q' with q1
        injection q1 with q2
        exact ⟨b, ws, by rw [← q2]; rfl, e3, e4, e5⟩
  · obtain ⟨i, a1, o1, s1⟩ := own k a ok (vs_at ek)
    obtain ⟨j, a2, o2, s2⟩ := own l a ol (vs_at el)
    have := S.dis i j a o1 o2 s1 s2
    subst this
    exact slots_inj hn a1 a2
theorem call_post {O' : Addr → Prop} (S : StOk K F ρ σ H) (r : Paired (RelAV K σ F) vs avs) (ht : toAr ρ avs = some as) (hn : (slotsOf avs).Nodup) (hf : fits as as' = true)
    (st : Step (Own (as.map Ar.sl) (vs.map some)) O' F H F' H') (S' : StOk K F' (as'.map Ar.sl) (vs.map some) H') :
    StOk K F' (wrt ρ avs as') σ H' ∧ (∀ a, Own (wrt ρ avs as') σ a ↔ Own ρ σ a) ∧ (∀ a, Own (as.map Ar.sl) (vs.map some) a → Own ρ σ a) := by
  obtain ⟨_, own⟩ := call_pre S r ht hn
  have hO : ∀ a, Own (as.map Ar.sl) (vs.map some) a → Own ρ σ a := fun a ⟨k, o, e⟩ => by
    obtain ⟨i, _, o1, s1⟩ := own k a o (vs_at e)
    exact ⟨i, o1, s1⟩
  refine ⟨⟨S'.fh, by rw [wrt_len]; exact S.len, fun j => ?_, fun i j a oi oj => S.dis i j a ((wrt_isOw i avs as').mp oi) ((wrt_isOw j avs as').mp oj)⟩, fun a => ⟨fun ⟨i, o, e⟩ => ⟨i, (wrt_isOw i avs as').mp o, e⟩, fun ⟨i, o, e⟩ => ⟨i, (wrt_isOw i avs as').mpr o, e⟩⟩, hO⟩
  by_cases hj : j ∈ slotsOf avs
  · obtain ⟨k, hk⟩ := slots_mem hj
    obtain ⟨xs, c1, c2⟩ := (toAr_get (k := k) ht).2 j hk
    obtain ⟨ys, c3⟩ := (fits_get (k := k) hf).1 xs c2
    rw [wrt_in avs as' hn hk c3 (fits_self hf) (fun l i h => by
      obtain ⟨zs, _, z2⟩ := (toAr_get (k := l) ht).2 i h
      exact (fits_get (k := l) hf).1 zs z2)]
    have q := S'.sl k
    rw [List.getElem?_map, List.getElem?_map, c3] at q
    obtain ⟨a, ws, e1, e2, e3, e4⟩ := q
    have e0 : vs[k]? = some (V.ref a) := by
      cases z : vs[k]? with
      | none => rw [z] at e1; cases e1
      | some v => rw [z] at e1; cases e1; rfl
    obtain ⟨av, a1, a2⟩ := Paired.at r e0
    rw [hk] at a1
    cases a1
    have a3 : σ[j]? = some (some (V.ref a)) := a2
    have q2 := S.sl j
    unfold cont at c1
    split at c1
    · rename_i e
      rw [e]
      exact ⟨a, ws, a3, e2, e3, e4⟩
    · rename_i e
      rw [e] at q2 ⊢
      obtain ⟨_, b1, _⟩ := q2
      rw [a3] at b1
      cases b1
      exact ⟨ws, a3, e2, e3, e4⟩
    · cases c1
  · rw [wrt_out avs as' hj]
    refine (S.sl j).mv st.f fun a e o f => ?_
    have ha : H a ≠ none := by
      obtain ⟨_, ws, e'⟩ := S.own ⟨j, o, e⟩
      rw [e']; simp
    refine st.keep a ha (fun z => hj ?_) f
    obtain ⟨k, ok, ek⟩ := z
    obtain ⟨i, a1, o1, s1⟩ := own k a ok (vs_at ek)
    have := S.dis i j a o1 o s1 e
    subst this
    exact slot_in a1
end
/-- what a call does -/
def callR (g : FSem) (avs : List AV) (ρ : Env) : R Ret := match toAr ρ avs with
  | none => .stuck
  | some as => if (slotsOf avs).Nodup then match g as with
    | some (.ok r, as') => if fits as as' = true then .ok r (wrt ρ avs as') else .stuck
    | _ => .stuck
    else .stuck
def calD (g : FSem) (mr : M (List AV)) : M D := bnd mr fun avs ρ => match callR g avs ρ with
  | .ok (.fz d) ρ' => .ok d ρ'
  | .ok (.fr ds) ρ' => .ok (.lst ds) ρ'
  | _ => .stuck
def calO (g : FSem) (mr : M (List AV)) : M (List D) := bnd mr fun avs ρ => match callR g avs ρ with
  | .ok (.fr ds) ρ' => .ok ds ρ'
  | _ => .stuck
section
variable {ι : Type} {X : ι → Cx} {P : Program} {w : World} {K : PySem.W.Frag} {mg : Str → Option Value} {base : Heap} {E : EX} {e : Expr} {es : List Expr} {mr : M (List AV)} {x : Str} {p pos : Pos} {k j n : Nat} {g : FSem}
theorem callR_ok {avs : List AV} {ρ ρ' : Env} {r : Ret} (h : callR g avs ρ = .ok r ρ') : ∃ as as', toAr ρ avs = some as ∧ (slotsOf avs).Nodup ∧ g as = some (.ok r, as') ∧ fits as as' = true ∧ ρ' = wrt ρ avs as' := by
  unfold callR at h
  split at h
  · cases h
  · rename_i as ht
    split at h
    · rename_i hn
      split at h
      · rename_i r0 as' hg
        split at h
        · rename_i hf
          cases h
          exact ⟨as, as', ht, hn, hg, hf, rfl⟩
        · cases h
      · cases h
    · cases h
theorem call_fz {avs : List AV} {vs : List V} {ρ ρ' : Env} {σ : L2.St} {F H : Hp} {d : D} {n : Nat} (hl : avs.length = n) (S : StOk K F ρ σ H) (r : Paired (RelAV K σ F) vs avs) (h : callR g avs ρ = .ok (.fz d) ρ') (Q : VK)
    (q : ∀ v F' H', Step (Own ρ σ) (Own ρ' σ) F H F' H' → StOk K F' ρ' σ H' → Rp K F' v d → Q v H') : spF K n g vs H Q E0 := by
  obtain ⟨as, as', ht, hn, hg, hf, rfl⟩ := callR_ok h
  obtain ⟨S1, own⟩ := call_pre S r ht hn
  refine ⟨F, as, _, as', by rw [toAr_len ht, hl], S1, hg, fun v F' H' st S' rv => ?_⟩
  obtain ⟨S2, o1, o2⟩ := call_post S r ht hn hf st S'
  exact q v F' H' ⟨st.f, fun a h1 h2 h3 => st.keep a h1 (fun z => h2 (o2 a z)) h3, fun a z => .inl ((o1 a).mp z), st.dom⟩ S2 rv
theorem call_fr {avs : List AV} {vs : List V} {ρ ρ' : Env} {σ : L2.St} {F H : Hp} {ds : List D} {n : Nat} (hl : avs.length = n) (S : StOk K F ρ σ H) (r : Paired (RelAV K σ F) vs avs) (h : callR g avs ρ = .ok (.fr ds) ρ') (Q : VK)
    (q : ∀ p ws F' H', Step (Own ρ σ) (fun x => Own ρ' σ x ∨ x = p) F H F' H' → StOk K F' ρ' σ H' → ¬ Own ρ' σ p → F' p = none → H' p = some (.lst ws) → RpA K F' ws ds → Q (.ref p) H') : spF K n g vs H Q E0 := by
  obtain ⟨as, as', ht, hn, hg, hf, rfl⟩ := callR_ok h
  obtain ⟨S1, own⟩ := call_pre S r ht hn
  refine ⟨F, as, _, as', by rw [toAr_len ht, hl], S1, hg, fun p ws F' H' st S' fp np hp rv => ?_⟩
  obtain ⟨S2, o1, o2⟩ := call_post S r ht hn hf st S'
  have hnew : H p = none := (st.own p (.inr rfl)).elim (fun z => absurd z np) id
  refine q p ws F' H' ⟨st.f, fun a h1 h2 h3 => st.keep a h1 (fun z => h2 (o2 a z)) h3, fun a z => z.elim (fun z => .inl ((o1 a).mp z)) fun z => .inr (z ▸ hnew), st.dom⟩ S2 (fun z => ?_) fp hp rv
  obtain ⟨_, us, e⟩ := S.own ((o1 p).mp z)
  rw [hnew] at e
  cases e
theorem paired_len {α β : Type} {R : α → β → Prop} {xs : List α} {ys : List β} (h : Paired R xs ys) : ys.length = xs.length := (Paired.length h).symm
theorem pe_spF (c : Cal P w K mg base k x n g) {t : TA} (hr : ∀ i, Room j (X i).A) (hk : k ≤ j) (q : ∀ i, PA (X i) (e :: es) t) (hX : ∀ i, (X i).prog = P ∧ (X i).w = w ∧ (X i).K = K ∧ (X i).mg = mg ∧ (X i).base = base) (hg : ∀ i, Gl (X i) x)
    (hdb : (x == ("__debug__" : Str)) = false) (na : ∀ i, starEach (e :: es) (X i).env = (false, eval e (X i).env) :: starEach es (X i).env) (hpl : ∀ i, (backTo pos (starEach es (X i).env)).any (·.1) = false) (i : ι) : PE (X i) (.Call (.Name x p) (e :: es) [] pos) (tCall (spF K n g) [] E0 t) := by
  obtain ⟨h1, h2, h3, h4, h5⟩ := hX i
  subst h1 h2 h3 h4 h5
  obtain ⟨f, fd, ps, G, hm, kp, b⟩ := c.ex
  exact pe_call G ((hr i).mono hk) (hg i) hm kp b .nil pass0 (q i) hdb (na i) (hpl i)
theorem de_call (c : Cal P w K mg base k x n g) (ha : DR X K E (e :: es) mr) (hr : ∀ i, Room j (X i).A) (hk : k ≤ j := by decide) (hn : (e :: es).length = n := by rfl) (hX : ∀ i, (X i).prog = P ∧ (X i).w = w ∧ (X i).K = K ∧ (X i).mg = mg ∧ (X i).base = base := by intro _; exact ⟨rfl, rfl, rfl, rfl, rfl⟩) (hg : ∀ i, Gl (X i) x := by intro _; rfl)
    (hdb : (x == ("__debug__" : Str)) = false := by decide) (na : ∀ i, starEach (e :: es) (X i).env = (false, eval e (X i).env) :: starEach es (X i).env := by intro _; rfl) (hpl : ∀ i, (backTo pos (starEach es (X i).env)).any (·.1) = false := by intro _; rfl) : DE X K E (.Call (.Name x p) (e :: es) [] pos) (calD g mr) := by
  obtain ⟨t, q, s⟩ := ha.ex
  refine ⟨_, pe_spF c hr hk q hX hg hdb na hpl, fun σ => ?_⟩
  show Snd K E σ (fun H Q => t σ H fun vs H1 => spF K n g (vs ++ []) H1 Q E0) _ _ _
  unfold calD
  refine Snd.bind (T1 := t σ) (T2 := fun vs H1 Q => spF K n g (vs ++ []) H1 Q E0) (s σ) fun vs avs ρ F H r S => ?_
  simp only [List.append_nil]
  cases hc : callR g avs ρ with
  | stuck => trivial
  | ex c ρ' => trivial
  | ok r0 ρ' =>
    cases r0 with
    | fz d => exact fun Q k => call_fz (r.2.trans hn) S r.1 hc Q fun v F' H' st S r => k v F' H' st.addext S r
    | fr ds =>
      have : AtO K E σ (fun Q => spF K n g vs H Q E0) (.ok ds ρ') ρ F H := fun Q k => call_fr (r.2.trans hn) S r.1 hc Q k
      exact this.frz
end
end Ly

set_option Elab.async false
set_option linter.all false
set_option maxRecDepth 100000
set_option maxHeartbeats 2000000
namespace Ly
open PySem PyProof.Rows L2
/-! ### a def by its body -/
def enterA (ad : Nat → Addr) : Nat → List Ar → Env
  | _, [] => []
  | k, .val d :: r => some (.fz d) :: enterA ad (k + 1) r
  | k, .mu xs :: r => some (.pr (ad k) xs) :: enterA ad (k + 1) r
def leaveA (ad : Nat → Addr) (ρ : Env) : Nat → List Ar → Option (List Ar)
  | _, [] => some []
  | k, .val d :: r => (leaveA ad ρ (k + 1) r).map (.val d :: ·)
  | k, .mu _ :: r => match ρ[k]? with
    | some (some (.pr a xs)) => if a = ad k then (leaveA ad ρ (k + 1) r).map (.mu xs :: ·) else none
    | _ => none
def runF (nl : Nat) (m : M Fl) (ad : Nat → Addr) (as : List Ar) : Option (Except Xc Ret × List Ar) := match m (enterA ad 0 as ++ List.replicate (nl - as.length) none) with
  | .ok .nx ρ' => (leaveA ad ρ' 0 as).map fun as' => (.ok (.fz .non), as')
  | .ok (.rt r) ρ' => (leaveA ad ρ' 0 as).map fun as' => (.ok r, as')
  | _ => none
open Classical in
noncomputable def semF (nl : Nat) (m : M Fl) : FSem := fun as => if h : ∃ x, ∀ ad, runF nl m ad as = some x then some h.choose else none
theorem semF_eq {nl : Nat} {m : M Fl} {as : List Ar} {x : Except Xc Ret × List Ar} (h : ∀ ad, runF nl m ad as = some x) : semF nl m as = some x := by
  have h' : ∃ x, ∀ ad, runF nl m ad as = some x := ⟨x, h⟩
  unfold semF
  rw [dif_pos h']
  have := h'.choose_spec (fun _ => (0 : Nat))
  rw [h (fun _ => (0 : Nat))] at this
  exact this.symm
theorem semF_run {nl : Nat} {m : M Fl} {as : List Ar} {x : Except Xc Ret × List Ar} (h : semF nl m as = some x) (ad : Nat → Addr) : runF nl m ad as = some x := by
  unfold semF at h
  split at h
  · rename_i h'
    cases h
    exact h'.choose_spec ad
  · cases h
theorem enter_len {ad : Nat → Addr} : ∀ {as : List Ar} {k : Nat}, (enterA ad k as).length = as.length
  | [], _ => rfl
  | .val d :: r, k => congrArg Nat.succ (enter_len (as := r) (k := k + 1))
  | .mu d :: r, k => congrArg Nat.succ (enter_len (as := r) (k := k + 1))
theorem enter_get {ad : Nat → Addr} : ∀ {as : List Ar} {k j : Nat}, (enterA ad k as)[j]? = match as[j]? with
    | none => none
    | some (.val d) => some (some (.fz d))
    | some (.mu xs) => some (some (.pr (ad (k + j)) xs))
  | [], k, j => by unfold enterA; simp
  | .val d :: r, k, 0 => by unfold enterA; simp
  | .mu d :: r, k, 0 => by unfold enterA; simp
  | .val d :: r, k, j + 1 => by
    show (enterA ad (k + 1) r)[j]? = _
    rw [enter_get (as := r) (k := k + 1) (j := j), List.getElem?_cons_succ, show k + 1 + j = k + (j + 1) by omega]
  | .mu d :: r, k, j + 1 => by
    show (enterA ad (k + 1) r)[j]? = _
    rw [enter_get (as := r) (k := k + 1) (j := j), List.getElem?_cons_succ, show k + 1 + j = k + (j + 1) by omega]
theorem leave_get {ad : Nat → Addr} {ρ : Env} : ∀ {as as' : List Ar} {k j : Nat}, leaveA ad ρ k as = some as' → (∀ d, as[j]? = some (.val d) → as'[j]? = some (.val d)) ∧ (∀ xs, as[j]? = some (.mu xs) → ∃ ys, as'[j]? = some (.mu ys) ∧ ρ[k + j]? = some (some (.pr (ad (k + j)) ys))) ∧ (as[j]? = none → as'[j]? = none)
  | [], as', k, j, h => by cases h; simp
  | .val d :: r, as', k, j, h => by
    unfold leaveA at h
    cases e : leaveA ad ρ (k + 1) r with
    | none => rw [e] at h; cases h
    | some bs =>
      rw [e] at h
      cases h
      cases j with
      | zero => simp
      | succ j =>
        have := leave_get (as := r) (j := j) e
        rw [show k + 1 + j = k + (j + 1) by omega] at this
        simpa using this
  | .mu d :: r, as', k, j, h => by
    unfold leaveA at h
    split at h
    · rename_i a xs hk
      split at h
      · rename_i ha
        cases e : leaveA ad ρ (k + 1) r with
        | none => rw [e] at h; cases h
        | some bs =>
          rw [e] at h
          cases h
          cases j with
          | zero => simpa [ha] using hk
          | succ j =>
            have := leave_get (as := r) (j := j) e
            rw [show k + 1 + j = k + (j + 1) by omega] at this
            simpa using this
      · cases h
    · cases h
theorem start_at {N : List Str} {vs : List V} {j : Nat} (h : j < vs.length) : (L2.start N vs)[j]? = (vs.map some)[j]? := by
  unfold L2.start
  rw [List.getElem?_append_left (by simpa using h)]
section
variable {K : PySem.W.Frag} {F H : Hp} {as : List Ar} {vs : List V} {N : List Str}
/-- the addresses -/
def adOf (vs : List V) : Nat → Addr := fun k => match vs[k]? with
  | some (.ref a) => a
  | _ => 0
theorem map_some_at {k : Nat} {a : Addr} (h : (vs.map some)[k]? = some (some (V.ref a))) : adOf vs k = a := by
  have := vs_at h
  unfold adOf
  rw [this]
theorem body_pre (S : StOk K F (as.map Ar.sl) (vs.map some) H) (hN : vs.length ≤ N.length) :
    StOk K F (enterA (adOf vs) 0 as ++ List.replicate (N.length - as.length) none) (L2.start N vs) H ∧ ∀ a, Own (enterA (adOf vs) 0 as ++ List.replicate (N.length - as.length) none) (L2.start N vs) a ↔ Own (as.map Ar.sl) (vs.map some) a := by
  have hl : as.length = vs.length := by have := S.len; simpa using this
  have at_ : ∀ j, isOw (enterA (adOf vs) 0 as ++ List.replicate (N.length - as.length) none)[j]? ↔ isOw (as.map Ar.sl)[j]? := fun j => by
    by_cases hj : j < as.length
    · rw [List.getElem?_append_left (by rw [enter_len]; exact hj), enter_get, List.getElem?_map]
      cases e : as[j]? with
      | none => exact Iff.rfl
      | some x => cases x <;> exact Iff.rfl
    · rw [List.getElem?_append_right (by rw [enter_len]; omega), List.getElem?_replicate, List.getElem?_map, List.getElem?_eq_none (by omega)]
      split <;> exact Iff.rfl
  have lt : ∀ j, isOw (as.map Ar.sl)[j]? → j < vs.length := fun j h => by
    obtain ⟨xs, e⟩ := sl_isOw h
    have := (List.getElem?_eq_some_iff.mp e).1
    omega
  refine ⟨⟨S.fh, ?_, fun j => ?_, fun i j a oi oj hi hj => ?_⟩, fun a => ⟨fun ⟨j, o, e⟩ => ?_, fun ⟨j, o, e⟩ => ⟨j, (at_ j).mpr o, by rw [start_at (lt j o)]; exact e⟩⟩⟩
  · unfold L2.start
    simp [enter_len]
    omega
  · by_cases hj : j < as.length
    · rw [List.getElem?_append_left (by rw [enter_len]; exact hj), enter_get, start_at (by omega)]
      have q := S.sl j
      rw [List.getElem?_map] at q
      cases e : as[j]? with
      | none => trivial
      | some x =>
        rw [e] at q
        cases x with
        | val d => exact q
        | mu xs =>
          obtain ⟨a, ws, e1, e2⟩ := q
          refine ⟨ws, ?_, ?_⟩
          · rw [Nat.zero_add, map_some_at e1, e1]
          · rw [Nat.zero_add, map_some_at e1]
            exact e2
    · rw [List.getElem?_append_right (by rw [enter_len]; omega), List.getElem?_replicate]
      split <;> trivial
  · have oi' := (at_ i).mp oi
    have oj' := (at_ j).mp oj
    rw [start_at (lt i oi')] at hi
    rw [start_at (lt j oj')] at hj
    exact S.dis i j a oi' oj' hi hj
  · have o' := (at_ j).mp o
    rw [start_at (lt j o')] at e
    exact ⟨j, o', e⟩
theorem body_post {as' : List Ar} {ρ' : Env} {σ' : L2.St} {F' H' : Hp} {O : Addr → Prop} (S : StOk K F (as.map Ar.sl) (vs.map some) H) (st : Step O (Own ρ' σ') F H F' H') (S' : StOk K F' ρ' σ' H') (hv : leaveA (adOf vs) ρ' 0 as = some as') :
    StOk K F' (as'.map Ar.sl) (vs.map some) H' ∧ ∀ a, Own (as.map Ar.sl) (vs.map some) a → Own ρ' σ' a := by
  have hl : as.length = vs.length := by have := S.len; simpa using this
  have kd : ∀ j xs, as'[j]? = some (.mu xs) → ρ'[j]? = some (some (.pr (adOf vs j) xs)) ∧ isOw (as.map Ar.sl)[j]? ∧ vs[j]? = some (V.ref (adOf vs j)) := fun j xs e => by
    obtain ⟨h1, h2, h3⟩ := leave_get (j := j) hv
    rw [Nat.zero_add] at h2
    cases ea : as[j]? with
    | none => rw [h3 ea] at e; cases e
    | some x =>
      cases x with
      | val d => rw [h1 d ea] at e; cases e
      | mu zs =>
        obtain ⟨ys, e1, e2⟩ := h2 zs ea
        rw [e] at e1
        cases e1
        have q := S.sl j
        rw [List.getElem?_map, ea] at q
        obtain ⟨a, ws, q1, _⟩ := q
        exact ⟨e2, by rw [List.getElem?_map, ea]; trivial, by rw [map_some_at q1]; exact vs_at q1⟩
  have key : ∀ j xs, as'[j]? = some (.mu xs) → ∃ ws, σ'[j]? = some (some (V.ref (adOf vs j))) ∧ F' (adOf vs j) = none ∧ H' (adOf vs j) = some (.lst ws) ∧ RpA K F' ws xs := fun j xs e => by
    obtain ⟨e1, _, _⟩ := kd j xs e
    have q := S'.sl j
    rw [e1] at q
    exact q
  have own : ∀ j, isOw (as'.map Ar.sl)[j]? → ∃ xs, as'[j]? = some (Ar.mu xs) := fun j o => sl_isOw o
  refine ⟨⟨S'.fh, ?_, fun j => ?_, fun i j a oi oj hi hj => ?_⟩, fun a ⟨j, o, e⟩ => ?_⟩
  · have : as'.length = as.length := by
      apply Nat.le_antisymm
      · refine Nat.le_of_not_lt fun h => ?_
        have := (leave_get (j := as.length) hv).2.2 (by simp)
        rw [List.getElem?_eq_getElem h] at this
        cases this
      · refine Nat.le_of_not_lt fun h => ?_
        obtain ⟨h1, h2, _⟩ := leave_get (j := as'.length) hv
        cases e : as[as'.length] with
        | val d => have := h1 d (by rw [List.getElem?_eq_getElem h, e]); simp at this
        | mu xs => obtain ⟨_, this, _⟩ := h2 xs (by rw [List.getElem?_eq_getElem h, e]); simp at this
    simp [this, hl]
  · rw [List.getElem?_map]
    cases e : as'[j]? with
    | none => trivial
    | some x =>
      cases x with
      | val d =>
        obtain ⟨_, h2, h3⟩ := leave_get (j := j) hv
        cases ea : as[j]? with
        | none => rw [h3 ea] at e; cases e
        | some x =>
          cases x with
          | mu zs => obtain ⟨_, e1, _⟩ := h2 zs ea; rw [e] at e1; cases e1
          | val d' =>
            have := (leave_get (j := j) hv).1 d' ea
            rw [e] at this
            cases this
            have q := S.sl j
            rw [List.getElem?_map, ea] at q
            obtain ⟨v, q1, q2⟩ := q
            exact ⟨v, q1, q2.up st.f⟩
      | mu xs =>
        obtain ⟨ws, e1, e2, e3, e4⟩ := key j xs e
        obtain ⟨_, _, e5⟩ := kd j xs e
        exact ⟨adOf vs j, ws, by rw [List.getElem?_map, e5]; rfl, e2, e3, e4⟩
  · obtain ⟨xs, e1⟩ := own i oi
    obtain ⟨ys, e2⟩ := own j oj
    exact S.dis i j a (kd i xs e1).2.1 (kd j ys e2).2.1 hi hj
  · obtain ⟨zs, e0⟩ := sl_isOw o
    obtain ⟨xs, e1, _⟩ := (leave_get (j := j) hv).2.1 zs e0
    obtain ⟨ws, e2, _⟩ := key j xs e1
    obtain ⟨e3, _, _⟩ := kd j xs e1
    have : adOf vs j = a := map_some_at e
    subst this
    exact ⟨j, by rw [e3]; trivial, e2⟩
end
section
variable {P : Program} {w : World} {K : PySem.W.Frag} {mg : Str → Option Value} {base : Heap} {x qual : Str} {params : Arguments} {body : List Stmt} {scope : Scope} {dvs : List V} {kws : List (Str × V)} {f : Addr} {fd : FuncData} {N ps : List Str} {k : Nat} {m : M Fl} {E : XK}
theorem Step.congr {O O1 O' : Addr → Prop} {F H F' H' : Hp} (h : ∀ a, O a ↔ O1 a) (s : Step O O' F H F' H') : Step O1 O' F H F' H' := ⟨s.f, fun a h1 h2 h3 => s.keep a h1 (fun z => h2 ((h a).mp z)) h3, fun a z => (s.own a z).imp (h a).mp id, s.dom⟩
theorem fn_ly (D : FunD K x qual params body scope dvs kws f fd) (S : FnScope N ps scope)
    (hb : ∀ (cdv : Value) (A : Around) (outer : List PySem.Env) (s : Shared) (H : Hp) (E : XK), Room k (A.deeper (envOfC qual scope s.heap.objs.size f cdv)) → DSs (fun _ : Unit => (cxOf CX0 P w K mg base N qual scope f cdv A outer s H E).nox) K E0x body m) :
    FnOk P w K mg base CX0 (k + 1) f fd ps (spF K ps.length (semF N.length m)) := by
  refine D.ok S (fun vs H Q E h => spF_len h) fun cdv A outer s H vs Q E hr hsp => ?_
  obtain ⟨t, q, sn⟩ := (hb cdv A outer s H E hr).ex
  refine ⟨t, (q ()).nox, ?_⟩
  obtain ⟨F, as, r, as', hl, S0, hg, hf⟩ := hsp
  have hlv : as.length = vs.length := by have := S0.len; simpa using this
  have hpl : ps.length ≤ N.length := by have := congrArg List.length S.pre; rw [List.length_take] at this; omega
  obtain ⟨S1, ow⟩ := body_pre (N := N) S0 (by omega)
  have h := sn _ _ _ _ S1
  have hr := semF_run hg (adOf vs)
  unfold runF at hr
  generalize m (enterA (adOf vs) 0 as ++ List.replicate (N.length - as.length) none) = rr at h hr
  cases rr with
  | stuck => cases hr
  | ex c ρ' => cases hr
  | ok fl ρ' =>
    cases fl with
    | bk => cases hr
    | ct => cases hr
    | nx =>
      simp only at hr
      cases e : leaveA (adOf vs) ρ' 0 as with
      | none => rw [e] at hr; cases hr
      | some bs =>
        rw [e] at hr
        cases hr
        refine h _ fun F' σ' H' st S' => ?_
        obtain ⟨S2, o2⟩ := body_post S0 st S' e
        exact hf .non F' H' ⟨st.f, fun a h1 h2 h3 => st.keep a h1 (fun z => h2 ((ow a).mp z)) h3, fun a z => .inl z, st.dom⟩ S2 .non
    | rt r0 =>
      simp only at hr
      cases e : leaveA (adOf vs) ρ' 0 as with
      | none => rw [e] at hr; cases hr
      | some bs =>
        rw [e] at hr
        cases hr
        cases r0 with
        | fz d =>
          refine h _ fun v F' σ' H' st S' rv => ?_
          obtain ⟨S2, o2⟩ := body_post S0 st S' e
          exact hf v F' H' ⟨st.f, fun a h1 h2 h3 => st.keep a h1 (fun z => h2 ((ow a).mp z)) h3, fun a z => .inl z, st.dom⟩ S2 rv
        | fr ds =>
          refine h _ fun p us F' σ' H' st S' np fp hp rv => ?_
          obtain ⟨S2, o2⟩ := body_post (O := Own (as.map Ar.sl) (vs.map some)) S0 ⟨st.f, fun a h1 h2 h3 => st.keep a h1 (fun z => h2 ((ow a).mp z)) h3, fun a z => (st.own a (.inl z)).imp (ow a).mp id, st.dom⟩ S' e
          have np' : ¬ Own (as.map Ar.sl) (vs.map some) p := fun z => np (o2 p z)
          exact hf p us F' H' ⟨st.f, fun a h1 h2 h3 => st.keep a h1 (fun z => h2 ((ow a).mp z)) h3, fun a z => z.elim .inl fun z => (st.own a (.inr z)).imp (ow a).mp id, st.dom⟩ S2 fp np' hp rv
end
end Ly

set_option Elab.async false
set_option linter.all false
set_option maxRecDepth 100000
set_option maxHeartbeats 2000000
namespace Ly
open PySem PySem.Spec PyProof.Rows L2
/-! ### enumerate of a tuple -/
section
variable {P : Program} {w : World} {K : PySem.W.Frag} {A : Around} {E : Value → Shared → Prop} {s : Shared}
theorem tcell_begins (a : Addr) (xs : Array Value) : Meets (Builtin.«enumerate.__new__» ⟨[.type "enumerate", .ref a], []⟩) (fun _ R s1 => s1.heap.IsTuple a xs ∧
      R (.ok (.ret (.ref (s1.heap.push { cls := .type "tuple_iterator", data := .fields #[.ref a, .int 0 0] }).objs.size)))
        { s1 with heap := (s1.heap.push { cls := .type "tuple_iterator", data := .fields #[.ref a, .int 0 0] }).push { cls := .type "enumerate", data := .fields #[.none, .bool false, .ref s1.heap.objs.size, rawInt 0, .none, .none] } }) :=
  .of_wp fun prog w A R s1 hh => by
    obtain ⟨hq, gq, dq, kq, oq⟩ := s1
    obtain ⟨ht, hh⟩ := hh
    have su := sub_enumerate
    have it1 : ∀ {A1 : Around} {E1 : Value → Shared → Prop} {Q1 : Value → Shared → Prop}, Q1 (.ref hq.objs.size) ⟨hq.push { cls := .type "tuple_iterator", data := .fields #[.ref a, .int 0 0] }, gq, dq, kq, oq⟩ → wpAny (model prog w) A1 (pyIter (.ref a)) Q1 E1 ⟨hq, gq, dq, kq, oq⟩ :=
      fun q1 => wpAny_pyIter_tuple (s := ⟨hq, gq, dq, kq, oq⟩) ht q1
    wp_walk using it1
    refine wpAny_stack_any fun st1 => wpAny_pure ?_
    split
    · rename_i c1 _ _ _ _ _
      cases (c1 == Value.type "enumerate")
      · wp_walk using it1
        exact ⟨_, rfl, hh⟩
      · wp_walk using it1
        exact ⟨_, rfl, hh⟩
    · wp_walk using it1
      exact ⟨_, rfl, hh⟩
theorem call_enum_tup {a : Addr} {xs : Array Value} {Q : Value → Shared → Prop} (ht : s.heap.IsTuple a xs)
    (hh : ∀ h1, IsEnum h1 (s.heap.objs.size + 1) s.heap.objs.size 0 .none → h1.IsTupleIter s.heap.objs.size a 0 → (∀ b o, s.heap.get? b = some o → h1.get? b = some o) → Q (.ref (s.heap.objs.size + 1)) { s with heap := h1 }) :
    wpAny (model P w) A (call (.type "enumerate") [.ref a]) Q E s := by
  refine callType_new F.called_enumerate (by decide) (F.typeCall_enumerate_1 _) (F.newCall_enumerate_1 _) (fun ob => F.args_object_init_2 ob _) F.entry_enumerate_new (tcell_begins a xs) ⟨ht, ?_⟩
  have z1 : (s.heap.push { cls := .type "tuple_iterator", data := .fields #[.ref a, .int 0 0] }).objs.size = s.heap.objs.size + 1 := Heap.size_push ..
  show _ ∧ _
  rw [z1]
  have e1 : IsEnum ((s.heap.push { cls := .type "tuple_iterator", data := .fields #[.ref a, .int 0 0] }).push { cls := .type "enumerate", data := .fields #[.none, .bool false, .ref s.heap.objs.size, rawInt 0, .none, .none] }) (s.heap.objs.size + 1) s.heap.objs.size 0 .none := by
    have y := Heap.get?_push_size (s.heap.push { cls := .type "tuple_iterator", data := .fields #[.ref a, .int 0 0] }) (o := { cls := .type "enumerate", data := .fields #[.none, .bool false, .ref s.heap.objs.size, rawInt 0, .none, .none] }) rfl
    rw [z1] at y
    exact y
  exact ⟨⟨_, e1, rfl⟩, hh _ e1 ⟨_, Heap.get?_push_of_some _ (Heap.get?_push_size _ rfl), rfl, rfl⟩ fun b o y => Heap.get?_push_of_some _ (Heap.get?_push_of_some _ y)⟩
theorem enum_tup_end {e it a : Addr} {j : Int} {i : Nat} {xs : Array Value} {old : Value} {Q : Option Value → Shared → Prop} (hh : A.handled = none) (q1 : IsEnum s.heap e it j old) (q2 : s.heap.IsTupleIter it a i) (tp : s.heap.IsTuple a xs) (hx : xs[i]? = none)
    (k : ∀ h1, Heap.ExtBut it s.heap h1 → Q none { s with heap := h1 }) : wpAny (model P w) A (pyNext (.ref e)) Q E s := by
  have ty : s.TypeIs (.ref e) "enumerate" := ⟨_, q1, rfl⟩
  unfold pyNext
  refine wpAny_bind (wpAny_attempt (wpAny_callSpecial?_slot (name := Str.ofString "__next__") ty F.slot_enumerate_next (wpAny_call_entry F.slot_enumerate_next ty F.entry_enumerate_next ?_ (F.args_enumerate_next_1 _))))
  show wpAny _ _ (field (.ref e) 2 >>= _) _ _ _
  refine wpAny_bind (wpAny_field q1 rfl (x := .ref it) rfl (wpAny_bind (wpAny_nextOf_tuple_end hh q2 tp hx fun h1 x y1 y2 => ?_)))
  obtain ⟨o, z1, z2⟩ := y2
  exact wpAny_bind (wpAny_isInstance (T := "StopIteration") (b := true) ⟨o, z1, z2⟩ isSubtype_stop (wpAny_pure (k _ y1)))
/-- the tuple at a, each item in a new pair -/
def Iet (K : PySem.W.Frag) (a : Addr) : It :=
  ⟨fun i H => ∃ (xs : List V) (x : V), SqT K H a xs ∧ xs[i]? = some x, fun i H v H1 => ∃ T x, v = .ref T ∧ H T = none ∧ H1 = upd H T (.tup [.int (i : Nat), x]) ∧ ∀ xs, SqT K H a xs → xs[i]? = some x, fun i H => ∃ xs : List V, SqT K H a xs ∧ xs.length ≤ i⟩
theorem tup_ne {h : Heap} {a b : Addr} {xs : Array Value} {o : Obj} (ht : h.IsTuple a xs) (hb : h.get? b = some o) (hc : o.cls ≠ .type "tuple") : b ≠ a := fun z => by
  subst z
  obtain ⟨o1, h1, h2, _⟩ := ht
  rw [hb] at h1
  cases h1
  exact hc h2
theorem turn_enumT {elts : List Expr} {kk : Nat} {tpos : Pos} (a e it : Addr) :
    Turn P w K (.Tuple elts kk tpos) (Iet K a) [e, it] e (fun i h => (∃ old, IsEnum h e it ((i : Nat) : Int) old) ∧ h.IsTupleIter it a i ∧ e ≠ it) where
  mem := List.mem_cons_self ..
  obj := fun i h st b hb => by
    obtain ⟨⟨old, q1⟩, ⟨o, q2, q3, q4⟩, _⟩ := st
    rcases List.mem_cons.mp hb with z | hb
    · rw [z]; exact ⟨_, q1, fun v y => nomatch y⟩
    · rw [List.mem_singleton.mp hb]; exact ⟨o, q2, fun v y => by rw [q4] at y; cases y⟩
  keep := fun i h h1 st k => let ⟨⟨old, q1⟩, q2, q3⟩ := st; ⟨⟨old, k e (by simp) _ q1⟩, q2.at fun o y => k it (by simp) o y, q3⟩
  item := by
    intro X hP hw hK hc i pins s σ H E I hf st hg
    subst hP hw hK
    obtain ⟨⟨old, q1⟩, q2, q3⟩ := st
    obtain ⟨xs, x, hq, hx⟩ := hg
    obtain ⟨its, rv, p, hz⟩ := I.tuple hq
    obtain ⟨u, hu, ru⟩ := rv.get hx
    have tp : s.heap.IsTuple a its.toArray := p
    have l1 : e < s.heap.objs.size := Heap.lt_size q1
    have l2 : it < s.heap.objs.size := by obtain ⟨_, y, _⟩ := q2; exact Heap.lt_size y
    have n1 : a ≠ it := by
      obtain ⟨o, y1, y2, _⟩ := q2
      exact Ne.symm (tup_ne tp y1 (by rw [y2]; decide))
    have n2 : e ≠ a := tup_ne tp q1 (by show Value.type "enumerate" ≠ Value.type "tuple"; decide)
    have lu : i < its.toArray.size := by have := (List.getElem?_eq_some_iff.mp hu).1; simpa using this
    refine wpAny_pyNext_enum_itemD (Draws.tuple (A := X.A.in1) (I.ok.hd hc) it a n1 its.toArray) q1 ⟨q2, tp⟩ lu q3 (by simp [q3, n2]) fun u' h1 tk hu' ho st1 hT hsz hk => ?_
    have eu : u' = u := by
      have : its.toArray[i]? = some u := by simpa using hu
      rw [this] at hu'
      exact (Option.some.inj hu').symm
    subst eu
    refine ⟨_, rfl, wpAny_letOwnedTupleGo_enum (s := { s with heap := h1, toks := tk + 1 }) ho fun h2 y1 sb => ?_⟩
    have hT2 : h2.get? s.heap.objs.size = some { cls := .type "tuple", data := .seq #[.int i tk, u'] } := (sb.2 _ (Nat.ne_of_gt l1)).trans hT
    have nw : ObjOk X.prog X.w (upd H s.heap.objs.size (.tup [.int (i : Nat), x])) h2 s.heap.objs.size (.tup [.int (i : Nat), x]) :=
      ⟨by show 2 ≤ sizeLine; decide, [.int i tk, u'], .cons ⟨_, rfl⟩ (.cons ru .nil), ⟨_, hT2, rfl, _, rfl⟩⟩
    have J : Inv X pins σ (upd H s.heap.objs.size (.tup [.int (i : Nat), x])) { s with heap := h2, toks := tk + 1 } :=
      I.turnedNew (ch := [e, it]) (fun b ob hb y => (sb.2 b (fun z => hb (by simp [z]))).trans (hk b ob (fun z => hb (by simp [z])) (fun z => hb (by simp [z])) y)) hf (Nat.le_refl _) nw
    refine ⟨.ref s.heap.objs.size, _, J, rfl, ⟨_, x, rfl, I.hok.fresh (Nat.le_refl _), rfl, fun ys hy => by rw [I.tuple_inj hy hq]; exact hx⟩, ⟨⟨u', ?_⟩, st1.1.at fun o y => (sb.2 it (Ne.symm q3)).trans y, q3⟩, fun b hb => ?_⟩
    · rw [show ((i + 1 : Nat) : Int) = (i : Int) + 1 by omega]
      exact y1
    · have hb1 : b < s.heap.objs.size := by
        rcases List.mem_cons.mp hb with z | hb
        · rw [z]; exact l1
        · rw [List.mem_singleton.mp hb]; exact l2
      rw [upd_ne (Nat.ne_of_lt hb1)]
      exact (hf b hb).1
  done := by
    intro X hP hw hK hc i pins s σ H E I hf st hg
    subst hP hw hK
    obtain ⟨⟨old, q1⟩, q2, q3⟩ := st
    obtain ⟨xs, hq, hx⟩ := hg
    obtain ⟨its, rv, p, hz⟩ := I.tuple hq
    have tp : s.heap.IsTuple a its.toArray := p
    obtain ⟨f0, f1, f2, f3, f4, f5⟩ := hf it (by simp)
    have hl := rv.length
    exact enum_tup_end (I.ok.hd hc) q1 q2 tp (by simp; omega) fun h1 eb => ⟨rfl, I.turned (t' := s.toks) (fun b o hb y => eb b o hb y) f0 f1 f3 f4 f5⟩
  self := fun A i s Q E st h => let ⟨⟨_, q1⟩, _⟩ := st; wpAny_pyIter_enum q1 h
end
def iEnumT (K : PySem.W.Frag) (ta : TA) : TI := fun σ H R => ta σ H fun vs H1 => ∃ a xs, vs = [.ref a] ∧ SqT K H1 a xs ∧ R (Iet K a) H1
theorem pi_enumT {X : Cx} {e : Expr} {ta : TA} {p pos tpos : Pos} {elts : List Expr} {kk : Nat} (hg : Gl X "enumerate") (hm : X.mg "enumerate" = none) (ha : PA X [e] ta) (hs : starEach [e] X.env = [(false, eval e X.env)] := by rfl) :
    PI X (.Tuple elts kk tpos) (.Call (.Name "enumerate" p) [e] [] pos) (iEnumT X.K ta) := by
  refine ⟨fun pins s σ H R I h => Call_ (ld_blt I hg hm boot_enumerate (PyProof.Rows.callWith_type1 (thn (ha.run pos pins s σ H _ I h) fun us s1 ⟨vs, H1, J, r1, q1⟩ => ?_) hs rfl))⟩
  obtain ⟨a, xs, rfl, hq, q⟩ := q1
  obtain ⟨u, rfl, rr⟩ := vals1 r1
  cases rr
  obtain ⟨its, rv, tp, hz⟩ := J.tuple hq
  have tp : s1.heap.IsTuple a its.toArray := tp
  refine call_enum_tup tp fun h1 y1 y2 hk => wpAny_pyIter_enum y1 ?_
  refine ⟨s1.heap.objs.size + 1, [s1.heap.objs.size + 1, s1.heap.objs.size], _, _, H1, rfl, J.kept (t' := s1.toks) hk, turn_enumT a (s1.heap.objs.size + 1) s1.heap.objs.size, ⟨⟨.none, y1⟩, y2, Nat.succ_ne_self _⟩, fun b hb => ?_, q⟩
  have hle : s1.heap.objs.size ≤ b := by
    rcases List.mem_cons.mp hb with z | hb
    · rw [z]; exact Nat.le_succ _
    · rw [List.mem_singleton.mp hb]; exact Nat.le_refl _
  exact J.fpOk hle (J.hok.fresh hle)
section
variable {ι : Type} {X : ι → Cx} {K : PySem.W.Frag} {E : EX} {e : Expr} {ms : M (List D)} {p pos : Pos}
def tupX : D → Option (List D)
  | .tup xs => some xs
  | _ => none
def enumT (ms : M (List D)) : M (List D) := bnd ms fun ds => match ds with
  | [d] => bnd (lif (tupX d)) fun xs => pur (enumD xs)
  | _ => stk
theorem walk_enumT {a : Addr} {xs : List V} : Walk (Iet K a) xs.length (fun H => SqT K H a xs) (fun i H v H1 => ∃ T x, v = .ref T ∧ H T = none ∧ H1 = upd H T (.tup [.int (i : Nat), x]) ∧ xs[i]? = some x) :=
  ⟨fun i _ hi q => ⟨xs, xs[i], q, by simp [hi]⟩, fun _ q => ⟨xs, q, Nat.le_refl _⟩, fun i H v H1 hi q ⟨T, x, y1, y2, y3, y4⟩ => ⟨T, x, y1, y2, y3, y4 xs q⟩⟩
theorem di_enumT {elts : List Expr} {kk : Nat} {tpos : Pos} (hm : ∀ i, (X i).mg "enumerate" = none) (ha : DA X K E [e] ms) (hK : KOf X K := by intro _; rfl) (hg : ∀ i, Gl (X i) "enumerate" := by intro _; rfl) (hs : ∀ i, starEach [e] (X i).env = [(false, eval e (X i).env)] := by intro _; rfl) :
    DI X K E (.Tuple elts kk tpos) (.Call (.Name "enumerate" p) [e] [] pos) (enumT ms) := by
  obtain ⟨t, q, s⟩ := ha.ex
  refine ⟨iEnumT K t, fun i => by have := pi_enumT (p := p) (pos := pos) (elts := elts) (kk := kk) (tpos := tpos) (hg i) (hm i) (q i) (hs i); rw [hK i] at this; exact this, fun σ => ?_⟩
  refine Snd.bind (T1 := t σ) (T2 := fun vs H1 R => ∃ a xs, vs = [V.ref a] ∧ SqT K H1 a xs ∧ R (Iet K a) H1) (s σ) fun vs ds ρ F H r S => ?_
  split
  · rename_i d
    obtain ⟨v, rfl, r1⟩ := rpa1 r
    cases hl : tupX d with
    | none => trivial
    | some ys =>
      cases r1 with
      | tup h1 h2 =>
        cases hl
        rename_i a vs
        refine At.now S fun Q k => ⟨a, vs, rfl, sameT S.fh h1, k _ ⟨_, ?_, fun i H x H' F2 hi e1 e2 y => enum_item h2 e1 e2 y⟩⟩
        unfold enumD
        rw [List.length_mapIdx, ← h2.len]
        exact walk_enumT.mono (fun H e => sameT e h1) (fun _ _ _ _ _ _ y => y)
      | _ => cases hl
  · trivial
end
/-! ### a list got by a call -/
section
variable {ι : Type} {X : ι → Cx} {P : Program} {w : World} {K : PySem.W.Frag} {mg : Str → Option Value} {base : Heap} {E : EX} {e : Expr} {es : List Expr} {mr : M (List AV)} {x : Str} {p pos : Pos} {k j n : Nat} {g : FSem}
theorem do_call (c : Cal P w K mg base k x n g) (ha : DR X K E (e :: es) mr) (hr : ∀ i, Room j (X i).A) (hk : k ≤ j := by decide) (hn : (e :: es).length = n := by rfl) (hX : ∀ i, (X i).prog = P ∧ (X i).w = w ∧ (X i).K = K ∧ (X i).mg = mg ∧ (X i).base = base := by intro _; exact ⟨rfl, rfl, rfl, rfl, rfl⟩) (hg : ∀ i, Gl (X i) x := by intro _; rfl)
    (hdb : (x == ("__debug__" : Str)) = false := by decide) (na : ∀ i, starEach (e :: es) (X i).env = (false, eval e (X i).env) :: starEach es (X i).env := by intro _; rfl) (hpl : ∀ i, (backTo pos (starEach es (X i).env)).any (·.1) = false := by intro _; rfl) : DO X K E (.Call (.Name x p) (e :: es) [] pos) (calO g mr) := by
  obtain ⟨t, q, s⟩ := ha.ex
  refine ⟨_, pe_spF c hr hk q hX hg hdb na hpl, fun σ ρ F H S => ?_⟩
  refine AtO.bind (P1 := t σ H) (T2 := fun vs H1 Q => spF K n g (vs ++ []) H1 Q E0) (s σ ρ F H S) fun vs avs ρ1 F1 H1 st r S1 => ?_
  simp only [List.append_nil]
  cases hc : callR g avs ρ1 with
  | stuck => trivial
  | ex c ρ' => trivial
  | ok r0 ρ' =>
    cases r0 with
    | fz d => trivial
    | fr ds => exact fun Q k => call_fr (r.2.trans hn) S1 r.1 hc Q k
end
/-! ### the facts of a head -/
structure Gd (fa : List He.Fa) (fn : List He.DefD) (xb : PySem.W.Frag → Bool) (K : PySem.W.Frag) (mg : Str → Option Value) : Prop where
  ex : xb K = true
  says : He.SaysD fa fn K
  heap : ∃ h : Heap, K.In h ∧ h.Ns mainGlobals mg
section
variable {fa : List He.Fa} {fn : List He.DefD} {xb : PySem.W.Frag → Bool} {K : PySem.W.Frag} {mg : Str → Option Value}
theorem Gd.fre (g : Gd fa fn xb K mg) (i : Nat) {x : Str} (h : fa[i]? = some (.free x) := by rfl) : mg x = none := by
  obtain ⟨hp, X, G⟩ := g.heap
  exact He.free_ok X G (g.says.fact i h)
theorem Gd.int (g : Gd fa fn xb K mg) (i : Nat) {x : Str} {z : Int} (h : fa[i]? = some (.int x z) := by rfl) : Glo K mg x (.int z) := by
  obtain ⟨hp, X, G⟩ := g.heap
  obtain ⟨t, e⟩ := He.int_ok X G (g.says.fact i h)
  exact ⟨_, .int z, e, ⟨_, rfl⟩, fun F => .int z⟩
theorem Gd.str (g : Gd fa fn xb K mg) (i : Nat) {x z : Str} (h : fa[i]? = some (.str x z) := by rfl) : Glo K mg x (.str z) := by
  obtain ⟨hp, X, G⟩ := g.heap
  obtain ⟨t, e⟩ := He.str_ok X G (g.says.fact i h)
  exact ⟨_, .str z, e, ⟨_, rfl⟩, fun F => .str z⟩
theorem Gd.glo (g : Gd fa fn xb K mg) (i : Nat) {x : Str} (h : fa[i]? = some (.glo x) := by rfl) : mg x = some (.ref (He.ga K x)) := by
  obtain ⟨hp, X, G⟩ := g.heap
  exact He.glo_ok X G (g.says.fact i h)
/-- a global tuple of texts -/
theorem Gd.tup (g : Gd fa fn xb K mg) (i : Nat) {x : Str} (zs : List Str) (h1 : He.tupB K x (zs.map fun z => .str z) = true) (h : fa[i]? = some (.glo x) := by rfl) : Glo K mg x (.tup (zs.map .str)) := by
  refine ⟨_, .ref (He.ga K x), g.glo i h, rfl, fun F => .tup (He.tupB_ok h1 F) ?_⟩
  clear h1
  induction zs with
  | nil => exact .nil
  | cons z zs ih => exact .cons (.str z) ih
variable {P : Program} {w : World} {base : Heap} {d : He.DefD} {x : Str} {N ps : List Str} {k : Nat} {m : M Fl}
abbrev bodyX (P : Program) (w : World) (K : PySem.W.Frag) (mg : Str → Option Value) (base : Heap) (N : List Str) (d : He.DefD) (f : Addr) (cdv : Value) (A : Around) (outer : List PySem.Env) (s : Shared) (H : Hp) (E : XK) : Unit → Cx := fun _ => (cxOf CX0 P w K mg base N d.qual d.scope f cdv A outer s H E).nox
theorem Gd.cal (g : Gd fa fn xb K mg) (i j : Nat) (hd : fn[i]? = some d := by rfl) (hx : fa[j]? = some (.glo x) := by rfl) (ha : d.at_ = (x, none) := by rfl) (h1 : d.dvs K = [] := by rfl) (h2 : d.kws K = [] := by rfl) (S : FnScope N ps d.scope)
    (hb : ∀ (kV doc pm : Value) (an : Option Addr) (cdv ct : Value) (us : List Value), us.length = ps.length → bindArgs (PySem.W.fnOf d.name d.qual d.params d.body d.scope .none kV doc pm an cdv ct) ⟨us, []⟩ = pure (ps.zip us))
    (hm : ∀ (f : Addr) (cdv : Value) (A : Around) (outer : List PySem.Env) (s : Shared) (H : Hp) (E : XK), Room k (A.deeper (envOfC d.qual d.scope s.heap.objs.size f cdv)) → DSs (bodyX P w K mg base N d f cdv A outer s H E) K E0x d.body m) :
    Cal P w K mg base (k + 1) x ps.length (semF N.length m) := by
  obtain ⟨fd, D⟩ := g.says.def_ i hd
  rw [h1, h2] at D
  have ea : He.fAd K d.at_ = He.ga K x := by rw [ha]; rfl
  have kp : PySem.W.keepIn K (.ref (He.ga K x)) = true := by rw [← ea]; exact D.kp
  refine ⟨_, fd, ps, fn_ly D S fun cdv A outer s H E hr => hm _ cdv A outer s H E hr, by rw [ea]; exact g.glo j hx, by rw [ea]; exact kp, D.bindsN hb⟩
end
end Ly

set_option Elab.async false
set_option linter.all false
set_option maxRecDepth 100000
set_option maxHeartbeats 3200000
namespace Ly
open PySem PySem.Spec PyProof.Rows L2
/-! ### len(set(xs)): distinct texts in a list, distinct ints in a tuple -/
section
variable {prog : Program} {w : World} {A : Around} {R : Result → Shared → Prop} {I : Addr} {fp wr : List Addr} {G : Array GenState → Array GenState → Prop} {n : Nat} {P : Nat → Value → Prop} {St : Nat → Shared → Prop}
theorem loop_strs (W : WalksS prog w A.in1 I fp wr G n P St) (Z : Addr) (z1 : Z ∉ fp) (xs : List Str) (hl : xs.length = n) (nd : xs.Nodup) (few : n + 1 < scanBound) (val : ∀ i v, P i v → ∃ t, v = .str (xs.getD i Str.empty) t) :
    ∀ (d i : Nat) (s : Shared), n - i = d → i ≤ n → St i s → s.heap.SetOf (PySem.strKind prog w) Z (fun q => (xs.take i).any (· == q)) i →
      (∀ s1, Moved (Z :: wr) G s s1 → s1.heap.SetOf (PySem.strKind prog w) Z (fun q => (xs.take n).any (· == q)) n → R (.ok (.ret .none)) s1) → codeAny (model prog w) A (.builtin "set.update.loop" ⟨[.ref Z, .ref I], []⟩) R s := by
  have z2 : Z ∉ wr := fun y => z1 (W.sub _ y)
  have up : ∀ b ∈ wr, b ∈ Z :: wr := fun b y => List.mem_cons_of_mem _ y
  intro d
  induction d with
  | zero =>
    intro i s hd hi st hS hR
    obtain rfl : i = n := by omega
    refine codeAny_builtin PyProof.Rows.F.entry_set_update_loop ?_
    rw [Around.under_plainId PyProof.Rows.F.plain_set_update_loop _]
    show wpAny _ A.in1 (pyNext (.ref I) >>= _) _ _ s
    refine wpAny_bind (W.done s _ _ st fun s1 mv => ?_)
    show wpAny _ A.in1 (ret Value.none) _ _ s1
    obtain ⟨o, es, ep, tb, ho, rest⟩ := hS
    exact wpAny_pure (hR s1 (mv.mono up) ⟨o, es, ep, tb, mv.heap Z _ z2 ho, rest⟩)
  | succ d ih =>
    intro i s hd hi st hS hR
    have lt : i < n := by omega
    refine codeAny_builtin PyProof.Rows.F.entry_set_update_loop ?_
    rw [Around.under_plainId PyProof.Rows.F.plain_set_update_loop _]
    show wpAny _ A.in1 (pyNext (.ref I) >>= _) _ _ s
    refine wpAny_bind (W.item i s _ _ lt st fun v s1 hP st1 mv => ?_)
    obtain ⟨t, rfl⟩ := val i v hP
    obtain ⟨o, es, ep, tb, ho, rest⟩ := hS
    have hS1 : s1.heap.SetOf (PySem.strKind prog w) Z (fun q => (xs.take i).any (· == q)) i := ⟨o, es, ep, tb, mv.heap Z _ z2 ho, rest⟩
    show wpAny _ A.in1 (holding [Value.str (xs.getD i Str.empty) t] (setAdd Z (.str (xs.getD i Str.empty) t)) >>= _) _ _ s1
    refine wpAny_bind (wpAny_holding ?_)
    unfold setAdd
    refine wpAny_holding (wpAny_bind ((PySem.strKind prog w).pyHash (k := xs.getD i Str.empty) (strKind_is _ _ _ _) ?_))
    refine wpAny_setAddHashed_of (knd := PySem.strKind prog w) (s := { s1 with toks := s1.toks + 1 }) (strKind_is _ _ _ _) rfl hS1 (by omega) fun h1 sb hS2 => ?_
    have li : i < xs.length := by omega
    have eg : xs.getD i Str.empty = xs[i] := by rw [List.getD_eq_getElem?_getD, List.getElem?_eq_getElem li]; rfl
    have ni : (xs.take i).any (· == xs.getD i Str.empty) = false := by
      rw [List.any_eq_false]
      intro y hy e
      obtain ⟨j, hj, e2⟩ := List.getElem_of_mem hy
      have e3 : y = xs[i] := by rw [← eg]; exact beq_iff_eq.mp e
      rw [List.length_take] at hj
      rw [List.getElem_take] at e2
      exact absurd (e2.trans e3) (List.pairwise_iff_getElem.mp nd j i (by omega) li (by omega))
    have hSi : h1.SetOf (PySem.strKind prog w) Z (fun q => (xs.take (i + 1)).any (· == q)) (i + 1) := by
      refine SetOf_congr hS2 (fun q => ?_) (by rw [ni]; rfl)
      rw [List.take_succ, List.getElem?_eq_getElem li, List.any_append, eg]
      show (_ || decide (q = xs[i])) = (_ || [xs[i]].any (· == q))
      congr 1
      rw [List.any_cons, List.any_nil, Bool.or_false]
      by_cases e : q = xs[i]
      · rw [e, decide_eq_true rfl]; exact (beq_self_eq_true _).symm
      · rw [decide_eq_false e]; exact (beq_eq_false_iff_ne.mpr (Ne.symm e)).symm
    refine wpAny_pure ⟨plainId_quiet PyProof.Rows.F.plain_set_update_loop _, ih (i + 1) _ (by omega) lt (W.frame _ s1 _ _ st1 (Nat.le_succ _) fun b hb o y => ?_) hSi fun s2 mv2 hS3 => ?_⟩
    · rw [sb.2 b (fun y1 : b = Z => z1 (y1 ▸ hb))]
      exact y
    · refine hR s2 (Moved.trans W.gtrans ((mv.mono up).then_heap (Nat.le_succ _) fun b o hb y => ?_) mv2) hS3
      rw [sb.2 b (fun y1 : b = Z => hb (by rw [y1]; exact List.mem_cons_self))]
      exact y
end
section
variable {prog : Program} {w : World} {A : Around} {E : Value → Shared → Prop} {s : Shared}
theorem call_set_strs {l : Addr} {items : Array Value} {xs : List Str} {Q : Value → Shared → Prop} (hd : A.handled = none) (hl : s.heap.IsList l items) (hi : PyProof.Rows.StrsAre items.toList xs) (nd : xs.Nodup) (few : xs.length + 1 < scanBound)
    (k : ∀ (h1 : Heap) (tk : Nat), h1.SetOf (PySem.strKind prog w) s.heap.objs.size (fun q => (xs.take items.size).any (· == q)) items.size → (∀ b o, b < s.heap.objs.size → s.heap.get? b = some o → h1.get? b = some o) → Q (.ref s.heap.objs.size) { s with heap := h1, toks := tk }) :
    wpAny (model prog w) A (call (.type "set") [.ref l]) Q E s := by
  obtain ⟨c, tl, hmro⟩ := PySem.F.called_set.mro
  have y1 := PySem.F.called_set.made
  have y2 := PySem.F.called_set.sub
  refine wpAny_call (codeAny_of_tree ?_)
  show wpAny _ _ (callAny (.type "set") _) _ _ _
  refine wpAny_pure ⟨Code.quiet_builtin _ (by decide +kernel), codeAny_builtin PySem.F.entry_type_call ?_⟩
  rw [Around.under_plain (weight_type_call_type "set" [.ref l] []) rfl]
  have y3 := PySem.F.called_set.notType
  have y4 := PySem.F.called_set.canCreate
  have y5 := PySem.F.typeCall_set_1 (.ref l)
  repeat (any_goals (first | assumption | wp_step))
  refine codeAny_mono (code_set_new_1 (.ref l) (E := E) (Q₁ := fun ob s1 => ∃ led : Bool, ob = .ref s.heap.objs.size ∧ s1 = { s with heap := s.heap.push { cls := .type "set", dict := none, data := .set #[] 0 (.fresh 0 0 led) } }) fun led => ⟨led, rfl, rfl⟩) fun r s1 hr => ?_
  cases r with
  | error e => exact hr
  | ok fl =>
    cases fl with
    | ret ob =>
      obtain ⟨led, rfl, rfl⟩ := hr
      have o1 : (s.heap.push { cls := .type "set", dict := none, data := .set #[] 0 (.fresh 0 0 led) }).get? s.heap.objs.size = some { cls := .type "set", dict := none, data := .set #[] 0 (.fresh 0 0 led) } := Heap.get?_push_size _ rfl
      have o2 : Shared.TypeIs { s with heap := s.heap.push { cls := .type "set", dict := none, data := .set #[] 0 (.fresh 0 0 led) } } (.ref s.heap.objs.size) "set" := ⟨_, o1, rfl⟩
      have o3 := PySem.F.called_set.init.lookup
      have o4 := PySem.F.called_set.init.bind (.ref s.heap.objs.size)
      repeat (any_goals (first | assumption | wp_step))
      refine codeAny_mono (codeAny_call_builtin (R := wants (fun r s2 => r = .none ∧ ∃ h1 tk, s2 = { s with heap := h1, toks := tk } ∧ h1.SetOf (PySem.strKind prog w) s.heap.objs.size (fun q => (xs.take items.size).any (· == q)) items.size ∧
          ∀ b o, b < s.heap.objs.size → s.heap.get? b = some o → h1.get? b = some o) E) PySem.F.called_set.init.plain PySem.F.entry_set_init (check_set_init_1 o2 ?_)) fun r2 s2 hr2 => ?_
      · obtain ⟨ol, p1, p2, nl, p3⟩ := hl
        obtain ⟨ocls, odict, odata, oslots⟩ := ol
        simp only at p2 p3
        subst p2 p3
        have p4 : (s.heap.push { cls := .type "set", dict := none, data := .set #[] 0 (.fresh 0 0 led) }).get? l = some { cls := .type "list", dict := odict, data := .seq items nl, slots := oslots } := Heap.get?_push_of_some _ p1
        have p5 := PySem.F.sub_list_set
        have p6 := PySem.F.sub_list_frozenset
        have p7 : (Value.type "list" == Value.type "dict") = false := by decide
        have p8 : (s.heap.push { cls := .type "set", dict := none, data := .set #[] 0 (.fresh 0 0 led) }).IsList l items := ⟨_, p4, rfl, nl, rfl⟩
        unfold Builtin.«set.__init__» noKeywords Builtin.Frozenset.updateFrom
        generalize hPI : pyIter = PI
        wp_walk
        subst hPI
        refine wpAny_pyIter_list p8 (wpAny_bind (wpAny_runValue ?_))
        have l1 : l < s.heap.objs.size := Heap.lt_size p1
        have l2 : A.in1.in1.in1.handled = none := by simp [hd]
        have l3 : l ≠ (s.heap.push { cls := .type "set", dict := none, data := .set #[] 0 (.fresh 0 0 led) }).objs.size := by
          rw [Heap.size_push]
          exact Nat.ne_of_lt (Nat.lt_succ_of_lt l1)
        have l4 : s.heap.objs.size ∉ [(s.heap.push { cls := .type "set", dict := none, data := .set #[] 0 (.fresh 0 0 led) }).objs.size, l] := by
          rw [Heap.size_push]
          simp only [List.mem_cons, List.mem_singleton, List.not_mem_nil, or_false, not_or]
          exact ⟨Nat.ne_of_lt (Nat.lt_succ_self _), Nat.ne_of_gt l1⟩
        have l5 : xs.length = items.size := by rw [← StrsAre.len_eq hi, Array.length_toList]
        refine loop_strs ((Walks.list l2 _ l l3 items).toS) s.heap.objs.size l4 xs l5 nd (by omega) (fun i v hv => SS.strs_at hi i v (by rw [Array.getElem?_toList]; exact hv)) (items.size - 0) 0 _ (by omega) (Nat.zero_le _) ⟨⟨_, Heap.get?_push_size _ rfl, rfl, rfl⟩, (p8.push _)⟩ ?a0 ?aR
        case a0 =>
          have g1 : ((s.heap.push { cls := .type "set", dict := none, data := .set #[] 0 (.fresh 0 0 led) }).push { cls := .type "list_iterator", data := .fields #[.ref l, .int 0 0] }).get? s.heap.objs.size = some { cls := .type "set", dict := none, data := .set #[] 0 (.fresh 0 0 led) } := Heap.get?_push_of_some _ o1
          exact PyProof.Rows.SetOf_congr ((PyProof.Rows.setObjOf_fresh (knd := PySem.strKind prog w) led).setOf g1 (by unfold scanBound; omega)) (fun _ => rfl) rfl
        case aR =>
          intro s3 mv hS3
          obtain ⟨h1, g1, d1, tk1, os1⟩ := s3
          obtain rfl : g1 = s.gens := mv.gens
          obtain rfl : d1 = s.drawn := mv.drawn
          obtain rfl : os1 = s.os := mv.os
          show wpAny _ _ _ _ _ _
          refine wpAny_pure ?_
          show wpAny _ _ (ret Value.none) _ _ _
          refine wpAny_pure ⟨rfl, h1, tk1, rfl, hS3, fun b o hb y => ?_⟩
          have b1 : b ≠ s.heap.objs.size := Nat.ne_of_lt hb
          have b2 : b ≠ (s.heap.push { cls := .type "set", dict := none, data := .set #[] 0 (.fresh 0 0 led) }).objs.size := by
            rw [Heap.size_push]
            exact Nat.ne_of_lt (Nat.lt_succ_of_lt hb)
          exact mv.heap b o (by simp only [List.mem_cons, List.mem_singleton, List.not_mem_nil, or_false, not_or]; exact ⟨b1, b2⟩) (Heap.get?_push_of_some _ (Heap.get?_push_of_some _ y))
      · cases r2 with
        | error e => exact hr2
        | ok fl2 =>
          cases fl2 with
          | ret r =>
            obtain ⟨rfl, h1, tk, rfl, hS1, hk1⟩ := hr2
            repeat (any_goals (first | assumption | wp_step))
            exact k _ _ hS1 hk1
          | _ => exact hr2.elim
    | _ => exact hr.elim
end
section
variable {X : Cx}
/-- len(set(x)): x a list of distinct texts, or a tuple of distinct ints -/
def tLenD (K : PySem.W.Frag) (ta : TE) : TE := fun σ H Q => ta σ H fun x H1 => (∃ (l : Addr) (xs : List Str), x = .ref l ∧ SqL K H1 l (xs.map V.str) ∧ xs.Nodup ∧ xs.length ≤ 4000 ∧ Q (.int xs.length) H1) ∨
  ∃ (l : Addr) (ns : List Int), x = .ref l ∧ SqT K H1 l (ns.map V.int) ∧ ns.Nodup ∧ ns.length ≤ 4000 ∧ Q (.int ns.length) H1
theorem pe_lenD {a : Expr} {ta : TE} {p p2 q pos : Pos} (hc : X.calm = true) (hg : Gl X "len") (hm : X.mg "len" = none) (hg2 : Gl X "set") (hm2 : X.mg "set" = none) (ha : PE X a ta) (na : starEach [a] X.env = (false, eval a X.env) :: starEach [] X.env := by rfl) :
    PE X (.Call (.Name "len" p) [.Call (.Name "set" p2) [a] [] q] [] pos) (tLenD X.K ta) := by
  refine ⟨fun pins s σ H Q I h => Call_ (ld_blt I hg hm PySem.boot_len (PyProof.Rows.callWith_builtin1 (PyProof.Rows.args_cons ?_ rfl) rfl rfl))⟩
  refine Call_ (ld_blt I hg2 hm2 PyProof.Rows.boot_set (PyProof.Rows.callWith_type1 (PyProof.Rows.args_cons (thn (ha.run pins s σ H _ I h) fun v s1 ⟨x, H1, J, r1, q1⟩ => PyProof.Rows.args_nil ?_) na) na rfl))
  rcases q1 with ⟨l, xs, rfl, hq, nd, hz, q1⟩ | ⟨l, ns, rfl, hq, nd, hz, q1⟩
  · cases r1
    obtain ⟨its, r, pl, _⟩ := J.list hq
    have e1 : its.toArray.size = xs.length := by rw [List.size_toArray, ← r.length, List.length_map]
    refine call_set_strs (J.ok.hd hc) pl.isList (by simpa using strsAre_of r) nd (by unfold scanBound; omega) fun h1 tk hS hk => PyProof.Rows.args_nil ?_
    rw [e1] at hS
    obtain ⟨o, es, ep, t, ho, hex, hd, _, _, _, hf, hn⟩ := hS
    have J2 : Inv X pins σ H1 { s1 with heap := h1, toks := tk } := J.kept fun b o e => hk b o (Heap.lt_size e) e
    exact call_len_set ho hex hd hf (by rw [hn] <;> omega) ⟨.int xs.length, H1, J2.tok _, ⟨_, by rw [hn]⟩, q1⟩
  · cases r1
    obtain ⟨its, r, pl, _⟩ := J.tuple hq
    have hi : IntsAre its.toArray.toList ns := by simpa using RZ.intsAre_vals r
    refine call_set_tupI ns (J.ok.hd hc) (show s1.heap.IsTuple l its.toArray from pl) hi (by unfold scanBound; omega) fun h1 tk c hS hcn hk => PyProof.Rows.args_nil ?_
    obtain ⟨o, es, ep, t, ho, hex, hd, _, nd2, hm2, _, hf, hn, _⟩ := hS
    have ec : c = ns.length := by
      have pm : (es.toList.map keyOf).Perm ns := (List.perm_ext_iff_of_nodup nd2 nd).mpr fun k => by rw [← hm2 k, decide_eq_true_eq]
      have := pm.length_eq
      rw [List.length_map, Array.length_toList] at this
      omega
    have J2 : Inv X pins σ H1 { s1 with heap := h1, toks := tk } := J.kept fun b o e => hk b o e
    exact call_len_set ho hex hd hf (by rw [hn] <;> omega) ⟨.int ns.length, H1, J2.tok _, ⟨_, by rw [hn, ec]⟩, q1⟩
end
end Ly

set_option Elab.async false
set_option linter.all false
set_option maxRecDepth 100000
set_option maxHeartbeats 3200000
namespace Ly
open PySem PySem.Spec PyProof.Rows L2
section
def strsD : List D → Option (List Str)
  | [] => some []
  | .str x :: r => (strsD r).map (x :: ·)
  | _ => none
def lenDD : D → Option D
  | .lst ds => (strsD ds).bind fun xs => if xs.Nodup ∧ xs.length ≤ 4000 then some (.int xs.length) else none
  | .tup ds => (intsD ds).bind fun ns => if ns.Nodup ∧ ns.length ≤ 4000 then some (.int ns.length) else none
  | _ => none
theorem strsD_rp {K : PySem.W.Frag} {F : Hp} : ∀ {ds : List D} {vs : List V} {xs : List Str}, RpA K F vs ds → strsD ds = some xs → vs = xs.map V.str
  | [], _, _, r, h => by cases r; cases h; rfl
  | d :: ds, _, _, r, h => by
    cases r with
    | cons r1 r2 =>
      cases r1 with
      | str x =>
        unfold strsD at h
        cases e : strsD ds with
        | none => rw [e] at h; cases h
        | some ys =>
          rw [e] at h
          cases h
          rw [strsD_rp r2 e]
          rfl
      | _ => cases h
variable {ι : Type} {X : ι → Cx} {K : PySem.W.Frag} {E : EX} {a : Expr} {m : M D} {p p2 q pos : Pos}
theorem de_lenD (hm : ∀ i, (X i).mg "len" = none) (hm2 : ∀ i, (X i).mg "set" = none) (ha : DE X K E a m) (hK : KOf X K := by intro _; rfl) (hc : ∀ i, (X i).calm = true := by intro _; rfl) (hg : ∀ i, Gl (X i) "len" := by intro _; rfl) (hg2 : ∀ i, Gl (X i) "set" := by intro _; rfl)
    (na : ∀ i, starEach [a] (X i).env = (false, eval a (X i).env) :: starEach [] (X i).env := by intro _; rfl) : DE X K E (.Call (.Name "len" p) [.Call (.Name "set" p2) [a] [] q] [] pos) (bnd m fun d => lif (lenDD d)) := by
  obtain ⟨t, ps, s⟩ := ha.ex
  refine ⟨tLenD K t, fun i => by have := pe_lenD (p := p) (p2 := p2) (q := q) (pos := pos) (hc i) (hg i) (hm i) (hg2 i) (hm2 i) (ps i) (na i); rw [hK i] at this; exact this, fun σ => ?_⟩
  refine Snd.bind (T1 := t σ) (T2 := fun x H1 (Q : VK) => (∃ (l : Addr) (xs : List Str), x = .ref l ∧ SqL K H1 l (xs.map V.str) ∧ xs.Nodup ∧ xs.length ≤ 4000 ∧ Q (.int xs.length) H1) ∨ ∃ (l : Addr) (ns : List Int), x = .ref l ∧ SqT K H1 l (ns.map V.int) ∧ ns.Nodup ∧ ns.length ≤ 4000 ∧ Q (.int ns.length) H1) (s σ) fun v d ρ F H r S => ?_
  have r : Rp K F v d := r
  unfold lif
  cases hz : lenDD d with
  | none => exact trivial
  | some z =>
    cases d with
    | lst ds =>
      cases r with
      | lst h1 h2 =>
        cases e : strsD ds with
        | none => simp only [lenDD, e] at hz; cases hz
        | some xs =>
          simp only [lenDD, e, Option.bind_some] at hz
          split at hz
          · rename_i hn
            cases hz
            have := strsD_rp h2 e
            subst this
            exact At.now S fun Q k => .inl ⟨_, xs, rfl, .of (S.fh _ _ h1), hn.1, hn.2, k _ (.int _)⟩
          · cases hz
    | tup ds =>
      cases r with
      | tup h1 h2 =>
        cases e : intsD ds with
        | none => simp only [lenDD, e] at hz; cases hz
        | some ns =>
          simp only [lenDD, e, Option.bind_some] at hz
          split at hz
          · rename_i hn
            cases hz
            have := intsD_of h2 e
            subst this
            exact At.now S fun Q k => .inr ⟨_, ns, rfl, sameT S.fh h1, hn.1, hn.2, k _ (.int _)⟩
          · cases hz
    | _ => cases hz
end
end Ly

set_option Elab.async false
set_option linter.all false
set_option maxRecDepth 100000
set_option maxHeartbeats 2000000
namespace Ly
open PySem PySem.Spec PyProof.Rows L2
def blkB (N : List Str) (sc scope : Scope) (own : List (Str × Nat)) : Bool :=
  decide (scope.kind = .function) && decide (∀ y ∈ scope.names, scope.names.lookup y.1 = some y.2) && decide (∀ p ∈ own, N[p.2]? = some p.1) &&
  decide (∀ y ∈ scope.names, y.2 = .free → sc.names.lookup y.1 = some .cell ∨ sc.names.lookup y.1 = some .free) && decide (∀ y ∈ scope.names, y.2 = .local ∨ y.2 = .cell → y.1 ∈ own.map (·.1) ∨ y.1 ∉ N)
theorem blk_of {N N' : List Str} {sc sc' scope : Scope} {own : List (Str × Nat)} (h : blkB N sc scope own = true) (e1 : N' = N) (e2 : sc' = sc) : BlkOk N' sc' scope own := by
  subst e1 e2
  unfold blkB at h
  simp only [Bool.and_eq_true, decide_eq_true_eq] at h
  exact ⟨h.1.1.1.1, h.1.1.1.2, h.1.1.2, h.1.2, h.2⟩
def fscB (N ps : List Str) (sc : Scope) : Bool :=
  decide (sc.kind = .function) && !sc.isCoroutine && !sc.isGenerator && decide N.Nodup && decide (N.take ps.length = ps) && decide (∀ x ∈ ps, sc.names.lookup x = some .local ∨ sc.names.lookup x = some .cell) && decide (∀ y ∈ sc.names, y.2 ≠ .free)
theorem fsc_of {N ps : List Str} {sc : Scope} (h : fscB N ps sc = true) : FnScope N ps sc := by
  unfold fscB at h
  simp only [Bool.and_eq_true, decide_eq_true_eq, Bool.not_eq_true'] at h
  exact ⟨h.1.1.1.1.1.1, h.1.1.1.1.1.2, h.1.1.1.1.2, h.1.1.1.2, h.1.1.2, h.1.2, h.2⟩
theorem u65 {k : Nat} {A : Around} (r : Room k A) : A.units + 65 < cLine := by have := r.un; omega
theorem pown {M : Model} {A : Around} {env : PySem.Env} : PassesOwn M A env fun _ _ => False := fun _ _ h => h.elim
theorem Cal.mono {P : Program} {w : World} {K : PySem.W.Frag} {mg : Str → Option Value} {base : Heap} {j k : Nat} {x : Str} {n : Nat} {g : FSem} (c : Cal P w K mg base j x n g) (h : j ≤ k) : Cal P w K mg base k x n g := by
  obtain ⟨f, fd, ps, G, r⟩ := c.ex
  exact ⟨f, fd, ps, G.mono h, r⟩
/-- a def that is never called -/
theorem Gd.cal0 {fa : List He.Fa} {fn : List He.DefD} {xb : PySem.W.Frag → Bool} {P : Program} {w : World} {base : Heap} {d : He.DefD} {x : Str} {ps : List Str} {K : PySem.W.Frag} {mg : Str → Option Value} (g : Gd fa fn xb K mg) (i j : Nat) (hd : fn[i]? = some d := by rfl) (hx : fa[j]? = some (.glo x) := by rfl) (ha : d.at_ = (x, none) := by rfl) (h1 : d.dvs K = [] := by rfl) (h2 : d.kws K = [] := by rfl)
    (hb : ∀ (kV doc pm : Value) (an : Option Addr) (cdv ct : Value) (us : List Value), us.length = ps.length → bindArgs (PySem.W.fnOf d.name d.qual d.params d.body d.scope .none kV doc pm an cdv ct) ⟨us, []⟩ = pure (ps.zip us)) : Cal P w K mg base 0 x ps.length (fun _ => none) := by
  obtain ⟨fd, D⟩ := g.says.def_ i hd
  rw [h1, h2] at D
  have ea : He.fAd K d.at_ = He.ga K x := by rw [ha]; rfl
  have kp : PySem.W.keepIn K (.ref (He.ga K x)) = true := by rw [← ea]; exact D.kp
  have no : ∀ (vs : List V) (H : Hp) (Q : VK) (E : XK), ¬ spF K ps.length (fun _ => none) vs H Q E := fun vs H Q E ⟨_, _, _, _, _, _, z, _⟩ => nomatch z
  refine ⟨_, fd, ps, ⟨fun vs H Q E h => absurd h (no vs H Q E), fun A outer s H args us vs Q E _ _ _ _ h => absurd h (no vs H Q E)⟩, g.glo j hx, kp, D.bindsN hb⟩
end Ly

set_option Elab.async false
set_option linter.all false
set_option maxRecDepth 100000
set_option maxHeartbeats 2000000
namespace Ly
open PySem PySem.Spec PyProof.Rows L2
/-! ### a law's end -/
theorem rpA_ints {K : PySem.W.Frag} {F : Hp} : ∀ ns : List Int, RpA K F (ns.map V.int) (ns.map D.int)
  | [] => .nil
  | n :: ns => .cons (.int n) (rpA_ints ns)
theorem law_sp {K : PySem.W.Frag} {g : FSem} {H : Hp} {a : Addr} {ns : List Int} {as' : List Ar} (hg : g [.val (.lck (ns.map .int))] = some (.ok (.fz (.bl true)), as')) (hS : SqL K H a (ns.map V.int)) :
    spF K 1 g [.ref a] H (fun v _ => v = .bl true) fun _ _ _ => False := by
  refine ⟨H, [.val (.lck (ns.map .int))], _, as', rfl, ⟨Same.refl H, rfl, fun i => ?_, fun i j b oi => ?_⟩, hg, fun v F' H' _ _ r => blD r⟩
  · match i with
    | 0 => exact ⟨_, rfl, .lck hS (rpA_ints ns)⟩
    | i + 1 => trivial
  · match i with
    | 0 => exact oi.elim
    | i + 1 => exact oi.elim
theorem Gd.fnk {fa : List He.Fa} {fn : List He.DefD} {xb : PySem.W.Frag → Bool} {K : PySem.W.Frag} {mg : Str → Option Value} {d : He.DefD} {x : Str} {N ps : List Str} {k : Nat} {m : M Fl} (g : Gd fa fn xb K mg) (i j : Nat) (hd : fn[i]? = some d := by rfl) (hx : fa[j]? = some (.glo x) := by rfl) (ha : d.at_ = (x, none) := by rfl) (h1 : d.dvs K = [] := by rfl) (h2 : d.kws K = [] := by rfl) (S : FnScope N ps d.scope)
    (hb : ∀ (kV doc pm : Value) (an : Option Addr) (cdv ct : Value) (us : List Value), us.length = ps.length → bindArgs (PySem.W.fnOf d.name d.qual d.params d.body d.scope .none kV doc pm an cdv ct) ⟨us, []⟩ = pure (ps.zip us))
    (hm : ∀ (P : Program) (w : World) (base : Heap) (f : Addr) (cdv : Value) (A : Around) (outer : List PySem.Env) (s : Shared) (H : Hp) (E : XK), Room k (A.deeper (envOfC d.qual d.scope s.heap.objs.size f cdv)) → DSs (bodyX P w K mg base N d f cdv A outer s H E) K E0x d.body m) :
    ∃ fd : FuncData, (∀ (s : Shared) (us : List Value), us.length = ps.length → BindsTo s fd ⟨us, []⟩ (ps.zip us)) ∧ ∀ (P : Program) (w : World) (base : Heap), FnOk P w K mg base CX0 (k + 1) (He.ga K x) fd ps (spF K ps.length (semF N.length m)) := by
  obtain ⟨fd, D⟩ := g.says.def_ i hd
  rw [h1, h2] at D
  have ea : He.fAd K d.at_ = He.ga K x := by rw [ha]; rfl
  rw [ea] at D
  exact ⟨fd, D.bindsA hb, fun P w base => fn_ly D S fun cdv A outer s H E hr => hm P w base _ cdv A outer s H E hr⟩
end Ly

set_option Elab.async false
set_option linter.all false
set_option maxRecDepth 100000
set_option maxHeartbeats 2000000
/-! evaluating the combinators -/
namespace Ly
open PySem L2
section
variable {α β : Type} {m m1 m2 m3 : M D} {k : α → M β} {ρ ρ' : Env} {i n : Nat} {d e : D}
@[simp] theorem ev_bnd {m : M α} : bnd m k ρ = bndR (m ρ) k := Eq.trans rfl rfl
@[simp] theorem ev_ok {a : α} : bndR (.ok a ρ) k = k a ρ := Eq.trans rfl rfl
@[simp] theorem ev_st : bndR (.stuck : R α) k = .stuck := Eq.trans rfl rfl
@[simp] theorem ev_pur {a : α} : pur a ρ = .ok a ρ := Eq.trans rfl rfl
@[simp] theorem ev_stk : (stk : M α) ρ = .stuck := Eq.trans rfl rfl
@[simp] theorem ev_lif {a : α} : lif (some a) ρ = .ok a ρ := Eq.trans rfl rfl
@[simp] theorem ev_ite {b : Bool} {x y : M α} : iteM b x y ρ = if b = true then x ρ else y ρ := Eq.trans rfl rfl
def tstK : D → M Bool
  | .bl b => pur b
  | _ => stk
@[simp] theorem tstK_bl {b : Bool} : tstK (.bl b) = pur b := Eq.trans rfl rfl
@[simp] theorem ev_tst : tst m ρ = bndR (m ρ) tstK := by
  unfold tst
  rw [ev_bnd]
  rfl
@[simp] theorem ev_bin {f : D → D → Option D} : bin f m1 m2 ρ = bndR (m1 ρ) fun x => bnd m2 fun y => lif (f x y) := Eq.trans rfl rfl
@[simp] theorem ev_andV : andV m1 m2 ρ = bndR (bndR (m1 ρ) tstK) fun k => iteM k m2 (pur (.bl false)) := by unfold andV; rw [ev_bnd, ev_tst]
@[simp] theorem ev_orV : orV m1 m2 ρ = bndR (bndR (m1 ρ) tstK) fun k => iteM k (pur (.bl true)) m2 := by unfold orV; rw [ev_bnd, ev_tst]
@[simp] theorem ev_notV : notV m1 ρ = bndR (bndR (m1 ρ) tstK) fun k => pur (.bl (!k)) := by unfold notV; rw [ev_bnd, ev_tst]
@[simp] theorem ev_andT {a b : M Bool} : andT a b ρ = bndR (a ρ) fun k => iteM k b (pur false) := Eq.trans rfl rfl
@[simp] theorem ev_orT {a b : M Bool} : orT a b ρ = bndR (a ρ) fun k => iteM k (pur true) b := Eq.trans rfl rfl
@[simp] theorem ev_notT {a : M Bool} : notT a ρ = bndR (a ρ) fun k => pur (!k) := Eq.trans rfl rfl
@[simp] theorem ev_ifE {c : M Bool} : ifE c m1 m2 ρ = bndR (c ρ) fun k => iteM k m1 m2 := Eq.trans rfl rfl
@[simp] theorem ev_iteS {c : M Bool} {a b : M Fl} : iteS c a b ρ = bndR (c ρ) fun k => iteM k a b := Eq.trans rfl rfl
def seqK (b : M Fl) : Fl → M Fl
  | .nx => b
  | fl => pur fl
@[simp] theorem seqK_nx {b : M Fl} : seqK b .nx = b := Eq.trans rfl rfl
@[simp] theorem seqK_rt {b : M Fl} {r : Ret} : seqK b (.rt r) = pur (.rt r) := Eq.trans rfl rfl
@[simp] theorem seqK_bk {b : M Fl} : seqK b .bk = pur .bk := Eq.trans rfl rfl
@[simp] theorem seqK_ct {b : M Fl} : seqK b .ct = pur .ct := Eq.trans rfl rfl
@[simp] theorem ev_seq {a b : M Fl} : seqS a b ρ = bndR (a ρ) (seqK b) := by
  unfold seqS
  rw [ev_bnd]
  rfl
@[simp] theorem ev_ret : retM m ρ = bndR (m ρ) fun d => pur (.rt (.fz d)) := Eq.trans rfl rfl
@[simp] theorem ev_asg {g : D → M Unit} : asgM m g ρ = bndR (m ρ) fun d => bnd (g d) fun _ => pur .nx := Eq.trans rfl rfl
@[simp] theorem ev_cons {ms : M (List D)} : consM m ms ρ = bndR (m ρ) fun x => bnd ms fun xs => pur (x :: xs) := Eq.trans rfl rfl
@[simp] theorem ev_consV {ms : M (List AV)} : consV m ms ρ = bndR (m ρ) fun x => bnd ms fun xs => pur (.v x :: xs) := Eq.trans rfl rfl
@[simp] theorem ev_tup {ms : M (List D)} : tupM ms ρ = bndR (ms ρ) fun ds => iteM (szOk ds) (pur (.tup ds)) stk := Eq.trans rfl rfl
@[simp] theorem ev_lst {ms : M (List D)} : lstM ms ρ = bndR (ms ρ) fun ds => iteM (szOk ds) (pur (.lst ds)) stk := Eq.trans rfl rfl
@[simp] theorem ev_lstO {ms : M (List D)} : lstO ms ρ = bndR (ms ρ) fun ds => iteM (szOk ds) (pur ds) stk := Eq.trans rfl rfl
@[simp] theorem ev_frz {mo : M (List D)} : frzM mo ρ = bndR (mo ρ) fun ds => pur (.lst ds) := Eq.trans rfl rfl
@[simp] theorem ev_listO : listO m ρ = bndR (m ρ) fun d => lif (seqD d) := Eq.trans rfl rfl
@[simp] theorem ev_cal {f : List D → Option D} {ms : M (List D)} : calM f ms ρ = bndR (ms ρ) fun ds => lif (f ds) := Eq.trans rfl rfl
@[simp] theorem ev_isi {T : String} : isiM T m ρ = bndR (m ρ) fun d => lif ((kitB (tyD d) T).map .bl) := Eq.trans rfl rfl
@[simp] theorem ev_isiT {T : List String} : isiTM T m ρ = bndR (m ρ) fun d => lif ((isiTs (tyD d) T).map .bl) := Eq.trans rfl rfl
@[simp] theorem ev_sl {lo hi : M (Option Int)} : slM m lo hi ρ = bndR (m ρ) fun d => bnd lo fun l => bnd hi fun u => lif (sliceD d l u) := Eq.trans rfl rfl
def partK : D → M (Option Int)
  | .int i => pur (some i)
  | _ => stk
@[simp] theorem partK_int {z : Int} : partK (.int z) = pur (some z) := Eq.trans rfl rfl
@[simp] theorem ev_part : partM m ρ = bndR (m ρ) partK := by
  unfold partM
  rw [ev_bnd]
  rfl
def isPr : Option (Option Sl) → Bool
  | some (some (.pr _ _)) => true
  | _ => false
def isOB : Option (Option Sl) → Bool
  | some (some (.pr _ _)) => true
  | some (some (.ow _)) => true
  | _ => false
/-- a slot that is free or frozen -/
def slo (x : Option D) : Option Sl := x.map .fz
@[simp] theorem isPr_none : isPr none = false := Eq.trans rfl rfl
@[simp] theorem isPr_n : isPr (some none) = false := Eq.trans rfl rfl
@[simp] theorem isPr_fz : isPr (some (some (.fz d))) = false := Eq.trans rfl rfl
@[simp] theorem isPr_ow {xs : List D} : isPr (some (some (.ow xs))) = false := Eq.trans rfl rfl
@[simp] theorem isPr_slo {x : Option D} : isPr (some (slo x)) = false := by cases x <;> rfl
@[simp] theorem isOB_none : isOB none = false := Eq.trans rfl rfl
@[simp] theorem isOB_n : isOB (some none) = false := Eq.trans rfl rfl
@[simp] theorem isOB_fz : isOB (some (some (.fz d))) = false := Eq.trans rfl rfl
@[simp] theorem isOB_slo {x : Option D} : isOB (some (slo x)) = false := by cases x <;> rfl
@[simp] theorem isOB_ow {xs : List D} : isOB (some (some (.ow xs))) = true := Eq.trans rfl rfl
@[simp] theorem isOB_pr {a : Addr} {xs : List D} : isOB (some (some (.pr a xs))) = true := Eq.trans rfl rfl
theorem fz_slo : some (Sl.fz d) = slo (some d) := rfl
theorem no_slo : (none : Option Sl) = slo none := rfl
@[simp] theorem ev_put : putM i d ρ = if isPr ρ[i]? = true then .stuck else if i < ρ.length then .ok () (ρ.set i (some (.fz d))) else .stuck := by
  unfold putM
  split
  · rename_i h
    rw [h]
    rfl
  · rename_i s h1 h2
    have hl := (List.getElem?_eq_some_iff.mp h2).1
    have : isPr ρ[i]? = false := by
      rw [h2]
      cases s with
      | none => rfl
      | some s =>
        cases s with
        | pr a xs => exact absurd rfl (h1 a xs)
        | _ => rfl
    rw [this, if_neg Bool.false_ne_true, if_pos hl]
  · rename_i h
    rw [h]
    rw [List.getElem?_eq_none_iff] at h
    rw [if_neg (by simp), if_neg (by omega)]
@[simp] theorem ev_setO {mo : M (List D)} : setOM i mo ρ = bndR (mo ρ) fun ds ρ => if isPr ρ[i]? = true then .stuck else if i < ρ.length then .ok .nx (ρ.set i (some (.ow ds))) else .stuck := by
  unfold setOM
  rw [ev_bnd]
  congr 1
  funext ds ρ
  split
  · rename_i h
    rw [h]
    rfl
  · rename_i s h1 h2
    have hl := (List.getElem?_eq_some_iff.mp h2).1
    have : isPr ρ[i]? = false := by
      rw [h2]
      cases s with
      | none => rfl
      | some s =>
        cases s with
        | pr a xs => exact absurd rfl (h1 a xs)
        | _ => rfl
    rw [this, if_neg Bool.false_ne_true, if_pos hl]
  · rename_i h
    rw [h]
    rw [List.getElem?_eq_none_iff] at h
    rw [if_neg (by simp), if_neg (by omega)]
theorem noOw_eq {vs : List Nat} : noOw ρ vs = vs.all fun v => !isOB ρ[v]? := by
  unfold noOw
  congr 1
  funext v
  cases ρ[v]? with
  | none => rfl
  | some o =>
    cases o with
    | none => rfl
    | some s => cases s <;> rfl
def getK (i : Nat) (ρ : Env) : Option (Option Sl) → R D
  | some (some (.fz d)) => .ok d ρ
  | some (some (.ow xs)) => .ok (.lst xs) (ρ.set i (some (.fz (.lst xs))))
  | _ => .stuck
@[simp] theorem ev_get : getM i ρ = getK i ρ ρ[i]? := by
  unfold getM getK
  cases ρ[i]? with
  | none => rfl
  | some o =>
    cases o with
    | none => rfl
    | some s => cases s <;> rfl
@[simp] theorem getK_fz : getK i ρ (some (some (.fz d))) = .ok d ρ := Eq.trans rfl rfl
@[simp] theorem getK_ow {xs : List D} : getK i ρ (some (some (.ow xs))) = .ok (.lst xs) (ρ.set i (some (.fz (.lst xs)))) := Eq.trans rfl rfl
def hasK : Option (Option Sl) → Bool
  | some (some _) => true
  | _ => false
@[simp] theorem hasK_1 {s : Sl} : hasK (some (some s)) = true := Eq.trans rfl rfl
def ixK (d : D) : Option (Option Sl) → Option D
  | some (some (.fz c)) => ixD c d
  | some (some (.ow xs)) => ixD (.lst xs) d
  | some (some (.pr _ xs)) => ixD (.lst xs) d
  | _ => none
@[simp] theorem ixK_fz {c : D} : ixK d (some (some (.fz c))) = ixD c d := Eq.trans rfl rfl
@[simp] theorem ixK_ow {xs : List D} : ixK d (some (some (.ow xs))) = ixD (.lst xs) d := Eq.trans rfl rfl
@[simp] theorem ixK_pr {a : Addr} {xs : List D} : ixK d (some (some (.pr a xs))) = ixD (.lst xs) d := Eq.trans rfl rfl
@[simp] theorem ev_ix : ixM i m ρ = if hasK ρ[i]? = true then bndR (m ρ) (fun d ρ1 => lif (ixK d ρ1[i]?) ρ1) else .stuck := by
  unfold ixM
  cases h : ρ[i]? with
  | none => rfl
  | some o =>
    cases o with
    | none => rfl
    | some s =>
      simp only [hasK, if_true]
      show bnd m _ ρ = bndR (m ρ) _
      rw [ev_bnd]
      congr 1
@[simp] theorem ev_chn {f g : D → D → Option D} : chn f g m1 m2 m3 ρ = bndR (m1 ρ) fun x => bnd m2 fun y => bnd (bnd (lif (f x y)) tstK) fun b => iteM b (bnd m3 fun z => lif (g y z)) (pur (.bl false)) := by
  unfold chn
  rw [ev_bnd]
  congr 1
  funext x
  congr 1
  funext y ρ
  simp only [ev_bnd]
  cases h : (lif (f x y) : M D) ρ with
  | stuck => rfl
  | ex c ρ' => rfl
  | ok z ρ' =>
    cases z with
    | bl b => cases b <;> rfl
    | _ => rfl
end
/-! calls -/
section
variable {g : FSem} {ρ : Env} {r : Ret} {ds : List D} {mr : M (List AV)}
theorem toAr_vals : ∀ ds : List D, toAr ρ (ds.map .v) = some (ds.map .val)
  | [] => rfl
  | d :: ds => by show (toAr ρ (ds.map .v)).map _ = _; rw [toAr_vals ds]; rfl
theorem slots_vals : ∀ ds : List D, slotsOf (ds.map .v) = []
  | [] => rfl
  | d :: ds => slots_vals ds
theorem fits_vals : ∀ ds : List D, fits (ds.map .val) (ds.map .val) = true
  | [] => rfl
  | d :: ds => fits_vals ds
theorem wrt_vals : ∀ ds : List D, wrt ρ (ds.map .v) (ds.map .val) = ρ
  | [] => rfl
  | d :: ds => wrt_vals ds
theorem callR_vals (h : g (ds.map .val) = some (.ok r, ds.map .val)) : callR g (ds.map .v) ρ = .ok r ρ := by
  unfold callR
  rw [toAr_vals]
  simp only [slots_vals, List.nodup_nil, if_true, h, fits_vals, wrt_vals]
def calK : Ret → D
  | .fz d => d
  | .fr ds => .lst ds
def calDK : R Ret → R D
  | .ok r ρ' => .ok (calK r) ρ'
  | _ => .stuck
@[simp] theorem calDK_ok : calDK (.ok r ρ) = .ok (calK r) ρ := Eq.trans rfl rfl
@[simp] theorem calK_fz {d : D} : calK (.fz d) = d := Eq.trans rfl rfl
@[simp] theorem calK_fr {ds : List D} : calK (.fr ds) = .lst ds := Eq.trans rfl rfl
@[simp] theorem ev_calD : calD g mr ρ = bndR (mr ρ) fun avs ρ => calDK (callR g avs ρ) := by
  unfold calD
  rw [ev_bnd]
  congr 1
  funext avs ρ
  cases callR g avs ρ with
  | ok r ρ' => cases r <;> rfl
  | _ => rfl
theorem callR1 {a : D} (h : g [.val a] = some (.ok r, [.val a])) : callR g [.v a] ρ = .ok r ρ := callR_vals (ds := [a]) h
theorem callR2 {a b : D} (h : g [.val a, .val b] = some (.ok r, [.val a, .val b])) : callR g [.v a, .v b] ρ = .ok r ρ := callR_vals (ds := [a, b]) h
theorem callR3 {a b c : D} (h : g [.val a, .val b, .val c] = some (.ok r, [.val a, .val b, .val c])) : callR g [.v a, .v b, .v c] ρ = .ok r ρ := callR_vals (ds := [a, b, c]) h
theorem callR4 {a b c d : D} (h : g [.val a, .val b, .val c, .val d] = some (.ok r, [.val a, .val b, .val c, .val d])) : callR g [.v a, .v b, .v c, .v d] ρ = .ok r ρ := callR_vals (ds := [a, b, c, d]) h
theorem callR5 {a b c d e : D} (h : g [.val a, .val b, .val c, .val d, .val e] = some (.ok r, [.val a, .val b, .val c, .val d, .val e])) : callR g [.v a, .v b, .v c, .v d, .v e] ρ = .ok r ρ := callR_vals (ds := [a, b, c, d, e]) h
theorem callR6 {a b c d e f : D} (h : g [.val a, .val b, .val c, .val d, .val e, .val f] = some (.ok r, [.val a, .val b, .val c, .val d, .val e, .val f])) : callR g [.v a, .v b, .v c, .v d, .v e, .v f] ρ = .ok r ρ := callR_vals (ds := [a, b, c, d, e, f]) h
theorem enter_vals (ad : Nat → Addr) : ∀ (k : Nat) (ds : List D), enterA ad k (ds.map .val) = ds.map fun d => some (.fz d)
  | k, [] => rfl
  | k, d :: ds => by show _ :: enterA ad (k + 1) (ds.map .val) = _; rw [enter_vals ad (k + 1) ds]; rfl
theorem leave_vals (ad : Nat → Addr) (ρ : Env) : ∀ (k : Nat) (ds : List D), leaveA ad ρ k (ds.map .val) = some (ds.map .val)
  | k, [] => rfl
  | k, d :: ds => by show (leaveA ad ρ (k + 1) (ds.map .val)).map _ = _; rw [leave_vals ad ρ (k + 1) ds]; rfl
/-- what a def of values does, by its body -/
theorem sem_rt {nl : Nat} {m : M Fl} {ρ' : Env} (h : m (ds.map (fun d => some (.fz d)) ++ List.replicate (nl - ds.length) none) = .ok (.rt r) ρ') : semF nl m (ds.map .val) = some (.ok r, ds.map .val) :=
  semF_eq fun ad => by
    unfold runF
    rw [enter_vals, List.length_map, h]
    simp only [leave_vals, Option.map_some]
theorem sem_nx {nl : Nat} {m : M Fl} {ρ' : Env} (h : m (ds.map (fun d => some (.fz d)) ++ List.replicate (nl - ds.length) none) = .ok .nx ρ') : semF nl m (ds.map .val) = some (.ok (.fz .non), ds.map .val) :=
  semF_eq fun ad => by
    unfold runF
    rw [enter_vals, List.length_map, h]
    simp only [leave_vals, Option.map_some]
end
end Ly

set_option Elab.async false
set_option linter.all false
set_option maxRecDepth 100000
set_option maxHeartbeats 2000000
namespace Ly
open PySem L2
/-! ### slots that own -/
section
variable {ρ ρ' : Env} {i : Nat} {m mk : M D}
def contK : Option (Option Sl) → Option (List D)
  | some (some (.ow xs)) => some xs
  | some (some (.pr _ xs)) => some xs
  | _ => none
@[simp] theorem contK_ow {xs : List D} : contK (some (some (.ow xs))) = some xs := Eq.trans rfl rfl
@[simp] theorem contK_pr {a : Addr} {xs : List D} : contK (some (some (.pr a xs))) = some xs := Eq.trans rfl rfl
theorem cont_eq : cont ρ i = contK ρ[i]? := by
  unfold cont contK
  cases ρ[i]? with
  | none => rfl
  | some o =>
    cases o with
    | none => rfl
    | some s => cases s <;> rfl
def putK (xs : List D) : Option (Option Sl) → Option Sl
  | some (some (.pr a _)) => some (.pr a xs)
  | _ => some (.ow xs)
@[simp] theorem putK_ow {xs ys : List D} : putK xs (some (some (.ow ys))) = some (.ow xs) := Eq.trans rfl rfl
@[simp] theorem putK_pr {a : Addr} {xs ys : List D} : putK xs (some (some (.pr a ys))) = some (.pr a xs) := Eq.trans rfl rfl
theorem setC_eq {xs : List D} {c : List D} (h : contK ρ[i]? = some c) : setC ρ i xs = ρ.set i (putK xs ρ[i]?) := by
  unfold setC
  cases e : ρ[i]? with
  | none => rw [e] at h; cases h
  | some o =>
    cases o with
    | none => rw [e] at h; cases h
    | some s =>
      cases s with
      | fz d => rw [e] at h; cases h
      | _ => rfl
def setCK (xs : List D) (i : Nat) (ρ : Env) : Env := if (contK ρ[i]?).isSome = true then ρ.set i (putK xs ρ[i]?) else ρ
theorem setC_ck {xs : List D} : setC ρ i xs = setCK xs i ρ := by
  unfold setCK
  cases h : contK ρ[i]? with
  | some c => rw [setC_eq h]; rfl
  | none =>
    unfold setC
    split
    · rename_i e; rw [e] at h; cases h
    · rename_i e; rw [e] at h; cases h
    · rfl
@[simp] theorem ev_app : appM i m ρ = if (contK ρ[i]?).isSome = true then bndR (m ρ) (fun d ρ1 => match contK ρ1[i]? with
    | some xs => if xs.length < sizeLine then .ok .nx (setCK (xs ++ [d]) i ρ1) else .stuck
    | none => .stuck) else .stuck := by
  unfold appM
  rw [cont_eq]
  cases h : contK ρ[i]? with
  | none => rfl
  | some c =>
    show bnd m _ ρ = bndR (m ρ) _
    rw [ev_bnd]
    congr 1
    funext d ρ1
    rw [cont_eq]
    cases h1 : contK ρ1[i]? with
    | none => rfl
    | some xs => simp only [setC_ck]
@[simp] theorem ev_setI : setIM i m mk ρ = bndR (m ρ) fun d ρ => if (contK ρ[i]?).isSome = true then bndR (mk ρ) (fun n ρ1 => match n, contK ρ1[i]? with
    | .int n, some xs => match ixN xs.length n with
      | some j => .ok .nx (setCK (xs.set j d) i ρ1)
      | none => .stuck
    | _, _ => .stuck) else .stuck := by
  unfold setIM
  rw [ev_bnd]
  congr 1
  funext d ρ
  rw [cont_eq]
  cases h : contK ρ[i]? with
  | none => rfl
  | some c =>
    show bnd mk _ ρ = bndR (mk ρ) _
    rw [ev_bnd]
    congr 1
    funext n ρ1
    rw [cont_eq]
    cases n <;> try rfl
    cases h1 : contK ρ1[i]? with
    | none => rfl
    | some xs =>
      simp only
      cases ixN xs.length _ with
      | none => rfl
      | some j => simp only [setC_ck]
@[simp] theorem ev_own {f : List D → Option D} : ownC f i ρ = match (contK ρ[i]?).bind f with
    | some d => .ok d ρ
    | none => .stuck := by
  unfold ownC
  rw [cont_eq]
  cases h : contK ρ[i]? with
  | none => rfl
  | some c =>
    simp only [Option.bind_some]
    cases h2 : f c with
    | none => simp [lif, h2]
    | some d => simp [lif, h2]
@[simp] theorem ev_consS {b : M (List AV)} : consS i b ρ = if hasK ρ[i]? = true then bndR (b ρ) (fun xs => pur (.s i :: xs)) else .stuck := by
  unfold consS
  cases h : ρ[i]? with
  | none => rfl
  | some o =>
    cases o with
    | none => rfl
    | some s => rfl

end
section
variable {g : FSem} {ρ : Env} {r : Ret} {ds : List D} {i : Nat} {xs ys : List D}
theorem callRs (hc : contK ρ[i]? = some xs) (h : g (.mu xs :: ds.map .val) = some (.ok r, .mu ys :: ds.map .val)) : callR g (.s i :: ds.map .v) ρ = .ok r (setCK ys i ρ) := by
  unfold callR
  have e : toAr ρ (.s i :: ds.map .v) = some (.mu xs :: ds.map .val) := by
    unfold toAr
    rw [cont_eq, hc, toAr_vals]
  rw [e]
  have e2 : slotsOf (.s i :: ds.map .v) = [i] := congrArg (i :: ·) (slots_vals ds)
  rw [e2]
  simp only [List.nodup_cons, List.not_mem_nil, not_false_eq_true, List.nodup_nil, and_self, if_true, h]
  have e3 : fits (.mu xs :: ds.map .val) (.mu ys :: ds.map .val) = true := fits_vals ds
  rw [e3]
  have e4 : wrt ρ (.s i :: ds.map .v) (.mu ys :: ds.map .val) = setCK ys i ρ := by
    show setC (wrt ρ (ds.map .v) (ds.map .val)) i ys = _
    rw [wrt_vals, setC_ck]
  rw [e4]
  rfl
theorem callRs0 (hc : contK ρ[i]? = some xs) (h : g [.mu xs] = some (.ok r, [.mu ys])) : callR g [.s i] ρ = .ok r (setCK ys i ρ) := callRs (ds := []) hc h
theorem callRs1 {a : D} (hc : contK ρ[i]? = some xs) (h : g [.mu xs, .val a] = some (.ok r, [.mu ys, .val a])) : callR g [.s i, .v a] ρ = .ok r (setCK ys i ρ) := callRs (ds := [a]) hc h
theorem callRs3 {a b c : D} (hc : contK ρ[i]? = some xs) (h : g [.mu xs, .val a, .val b, .val c] = some (.ok r, [.mu ys, .val a, .val b, .val c])) : callR g [.s i, .v a, .v b, .v c] ρ = .ok r (setCK ys i ρ) := callRs (ds := [a, b, c]) hc h
/-- a def with one list lent to it (first), by its body -/
theorem sem_mu {nl : Nat} {m : M Fl} (h : ∀ a, ∃ ρ', m (some (.pr a xs) :: (ds.map (fun d => some (.fz d)) ++ List.replicate (nl - (ds.length + 1)) none)) = .ok (.rt r) ρ' ∧ ρ'[0]? = some (some (.pr a ys))) : semF nl m (.mu xs :: ds.map .val) = some (.ok r, .mu ys :: ds.map .val) :=
  semF_eq fun ad => by
    obtain ⟨ρ', h1, h2⟩ := h (ad 0)
    unfold runF
    have e : enterA ad 0 (.mu xs :: ds.map .val) ++ List.replicate (nl - (Ar.mu xs :: ds.map .val).length) none = some (.pr (ad 0) xs) :: (ds.map (fun d => some (.fz d)) ++ List.replicate (nl - (ds.length + 1)) none) := by
      show some (.pr (ad 0) xs) :: (enterA ad 1 (ds.map .val) ++ _) = _
      rw [enter_vals, List.length_cons, List.length_map]
    rw [e, h1]
    have e2 : leaveA ad ρ' 0 (.mu xs :: ds.map .val) = some (.mu ys :: ds.map .val) := by
      unfold leaveA
      rw [h2]
      simp only [if_true, leave_vals, Option.map_some]
    simp only [e2, Option.map_some]
end
/-! ### loops -/
section
variable {S : Type} {v : Nat} {el : M D} {ds : List D}
def mapS {α β : Type} (f : α → S → β × S) : List α → S → List β × S
  | [], s => ([], s)
  | d :: ds, s => ((f d s).1 :: (mapS f ds (f d s).2).1, (mapS f ds (f d s).2).2)
theorem mapS_len {α β : Type} (f : α → S → β × S) : ∀ (l : List α) (s : S), (mapS f l s).1.length = l.length
  | [], s => rfl
  | d :: ds, s => by show (mapS f ds _).1.length + 1 = _; rw [mapS_len f ds]; rfl
theorem mapS_map {α β γ : Type} (f : β → S → γ × S) (h : α → β) : ∀ (l : List α) (s : S), mapS f (l.map h) s = mapS (fun a s => f (h a) s) l s
  | [], s => rfl
  | d :: ds, s => by show (_, _) = (_, _); rw [mapS_map f h ds]
theorem mapS_enc {α β γ : Type} (f : α → S → β × S) (h : β → γ) : ∀ (l : List α) (s : S), mapS (fun a s => (h (f a s).1, (f a s).2)) l s = ((mapS f l s).1.map h, (mapS f l s).2)
  | [], s => rfl
  | d :: ds, s => by show (_, _) = (_, _); rw [mapS_enc f h ds]; rfl
theorem set_set' (ρ : Env) (v : Nat) (x y : Option Sl) : (ρ.set v x).set v y = ρ.set v y := List.set_set ..
theorem lcLoop_st (en : S → Env) (f : D → S → D × S) (hl : ∀ s, v < (en s).length) (ho : ∀ s, isPr (en s)[v]? = false)
    (hel : ∀ d ∈ ds, ∀ s, el ((en s).set v (some (.fz d))) = .ok (f d s).1 ((en (f d s).2).set v (some (.fz d)))) :
    ∀ (acc : List D) (s : S), acc.length + ds.length ≤ sizeLine → lcLoop (putM v) (pur true) el [v] ds acc ((en s).set v none) = some (acc ++ (mapS f ds s).1, (en (mapS f ds s).2).set v none) := by
  induction ds with
  | nil => intro acc s _; simp [lcLoop, mapS]
  | cons d ds ih =>
    intro acc s hz
    unfold lcLoop
    have e1 : putM v d ((en s).set v none) = .ok () ((en s).set v (some (.fz d))) := by
      rw [ev_put]
      simp [List.getElem?_set_self (hl s), hl s]
    simp only [e1, ev_pur, hel d (List.mem_cons_self ..) s]
    simp only [List.length_cons] at hz
    rw [if_pos (by omega)]
    have e2 : wipE ((en (f d s).2).set v (some (.fz d))) [v] = (en (f d s).2).set v none := set_set' ..
    rw [e2, ih (fun d hd => hel d (List.mem_cons_of_mem _ hd)) _ _ (by simp; omega)]
    simp [mapS]
/-- a comprehension over one name that passes a state on -/
theorem lc_st (en : S → Env) (f : D → S → D × S) {mi : M (List D)} {ρ : Env} {s : S} (hmi : mi ρ = .ok ds (en s)) (hl : ∀ s, v < (en s).length) (ho : ∀ s, isOB (en s)[v]? = false) (hc : ∀ s s', (en s)[v]? = (en s')[v]?)
    (hz : ds.length ≤ sizeLine) (hel : ∀ d ∈ ds, ∀ s, el ((en s).set v (some (.fz d))) = .ok (f d s).1 ((en (f d s).2).set v (some (.fz d)))) :
    lcO [v] mi (putM v) (pur true) el ρ = .ok (mapS f ds s).1 (en (mapS f ds s).2) := by
  unfold lcO
  rw [ev_bnd, hmi, ev_ok]
  have e1 : noOw (en s) [v] = true := by rw [noOw_eq]; simp [ho s]
  have ho' : ∀ s, isPr (en s)[v]? = false := fun s => by
    have := ho s
    revert this
    cases (en s)[v]? with
    | none => intro _; rfl
    | some o =>
      cases o with
      | none => intro _; rfl
      | some x => cases x <;> simp [isOB, isPr]
  have e2 : wipE (en s) [v] = (en s).set v none := rfl
  simp only [e1, e2, lcLoop_st en f hl ho' hel [] s (by simpa using hz), List.nil_append]
  congr 1
  show ((en (mapS f ds s).2).set v none).set v ((en s)[v]?.getD none) = _
  rw [set_set', hc s (mapS f ds s).2, List.getElem?_eq_getElem (hl _), Option.getD_some, List.set_getElem_self]
/-- without a state -/
theorem lc_map {mi : M (List D)} {ρ ρ1 : Env} (f : D → D) (hmi : mi ρ = .ok ds ρ1) (hl : v < ρ1.length) (ho : isOB ρ1[v]? = false) (hz : ds.length ≤ sizeLine) (hel : ∀ d ∈ ds, el (ρ1.set v (some (.fz d))) = .ok (f d) (ρ1.set v (some (.fz d)))) :
    lcO [v] mi (putM v) (pur true) el ρ = .ok (ds.map f) ρ1 := by
  have := lc_st (S := Unit) (fun _ => ρ1) (fun d _ => (f d, ())) (s := ()) hmi (fun _ => hl) (fun _ => ho) (fun _ _ => rfl) hz fun d hd _ => hel d hd
  rw [this]
  congr 1
  clear this hel hmi hz
  induction ds with
  | nil => rfl
  | cons d ds ih => show f d :: _ = f d :: _; rw [ih]
/-- with a test -/
theorem lcLoop_flt {ρ : Env} {c : M Bool} (f : D → Option D) (hl : v < ρ.length)
    (hel : ∀ d ∈ ds, match f d with
      | some y => c (ρ.set v (some (.fz d))) = .ok true (ρ.set v (some (.fz d))) ∧ el (ρ.set v (some (.fz d))) = .ok y (ρ.set v (some (.fz d)))
      | none => c (ρ.set v (some (.fz d))) = .ok false (ρ.set v (some (.fz d)))) :
    ∀ (acc : List D), acc.length + ds.length ≤ sizeLine → lcLoop (putM v) c el [v] ds acc (ρ.set v none) = some (acc ++ ds.filterMap f, ρ.set v none) := by
  induction ds with
  | nil => intro acc _; simp [lcLoop]
  | cons d ds ih =>
    intro acc hz
    unfold lcLoop
    have e1 : putM v d (ρ.set v none) = .ok () (ρ.set v (some (.fz d))) := by
      rw [ev_put]
      simp [List.getElem?_set_self hl, hl]
    simp only [List.length_cons] at hz
    have h := hel d (List.mem_cons_self ..)
    have e2 : wipE (ρ.set v (some (.fz d))) [v] = ρ.set v none := set_set' ..
    cases e : f d with
    | none =>
      rw [e] at h
      simp only [e1, h, e2]
      rw [ih (fun d hd => hel d (List.mem_cons_of_mem _ hd)) _ (by omega), List.filterMap_cons_none e]
    | some y =>
      rw [e] at h
      simp only [e1, h.1, h.2, e2]
      rw [if_pos (by omega), ih (fun d hd => hel d (List.mem_cons_of_mem _ hd)) _ (by simp; omega), List.filterMap_cons_some e]
      simp
theorem lc_flt {mi : M (List D)} {ρ ρ1 : Env} {c : M Bool} (f : D → Option D) (hmi : mi ρ = .ok ds ρ1) (hl : v < ρ1.length) (ho : isOB ρ1[v]? = false) (hz : ds.length ≤ sizeLine)
    (hel : ∀ d ∈ ds, match f d with
      | some y => c (ρ1.set v (some (.fz d))) = .ok true (ρ1.set v (some (.fz d))) ∧ el (ρ1.set v (some (.fz d))) = .ok y (ρ1.set v (some (.fz d)))
      | none => c (ρ1.set v (some (.fz d))) = .ok false (ρ1.set v (some (.fz d)))) : lcO [v] mi (putM v) c el ρ = .ok (ds.filterMap f) ρ1 := by
  unfold lcO
  rw [ev_bnd, hmi, ev_ok]
  have e1 : noOw ρ1 [v] = true := by rw [noOw_eq]; simp [ho]
  have e2 : wipE ρ1 [v] = ρ1.set v none := rfl
  simp only [e1, e2, lcLoop_flt f hl hel [] (by simpa using hz), List.nil_append]
  congr 1
  show (ρ1.set v none).set v (ρ1[v]?.getD none) = _
  rw [set_set', List.getElem?_eq_getElem hl, Option.getD_some, List.set_getElem_self]
variable {g : D → M Unit} {b : M Fl}
@[simp] theorem ev_for {mi : M (List D)} {ρ : Env} : Ly.forM mi g b ρ = bndR (mi ρ) (forL g b) := Eq.trans rfl rfl
theorem for_st (en : S → Env) (st : D → S → S) (h : ∀ d ∈ ds, ∀ s, bndR (g d (en s)) (fun _ => b) = .ok .nx (en (st d s))) : ∀ s : S, forL g b ds (en s) = .ok .nx (en (ds.foldl (fun s d => st d s) s)) := by
  induction ds with
  | nil => intro s; rfl
  | cons d ds ih =>
    intro s
    unfold forL
    rw [ev_bnd]
    have h1 := h d (List.mem_cons_self ..) s
    cases e : g d (en s) with
    | stuck => rw [e] at h1; cases h1
    | ex c ρ' => rw [e] at h1; cases h1
    | ok u ρ' =>
      rw [e, ev_ok] at h1
      rw [ev_ok, ev_bnd, h1, ev_ok]
      exact ih (fun d hd => h d (List.mem_cons_of_mem _ hd)) _
theorem for_inv (P : Env → Prop) (bad : D → Bool) (r : Ret) (h : ∀ d ∈ ds, ∀ ρ, P ρ → ∃ ρ', P ρ' ∧ bndR (g d ρ) (fun _ => b) = .ok (if bad d = true then .rt r else .nx) ρ') : ∀ ρ, P ρ → ∃ ρ', P ρ' ∧ forL g b ds ρ = .ok (if ds.any bad = true then .rt r else .nx) ρ' := by
  induction ds with
  | nil => intro ρ p; exact ⟨ρ, p, rfl⟩
  | cons d ds ih =>
    intro ρ p
    obtain ⟨ρ1, p1, h1⟩ := h d (List.mem_cons_self ..) ρ p
    unfold forL
    rw [ev_bnd]
    cases e : g d ρ with
    | stuck => rw [e] at h1; cases h1
    | ex c ρ' => rw [e] at h1; cases h1
    | ok u ρ' =>
      rw [e, ev_ok] at h1
      rw [ev_ok, ev_bnd, h1, ev_ok, List.any_cons]
      by_cases hb : bad d = true
      · rw [if_pos hb, hb]
        exact ⟨ρ1, p1, rfl⟩
      · rw [if_neg hb]
        have : bad d = false := by simpa using hb
        rw [this, Bool.false_or]
        exact ih (fun d hd => h d (List.mem_cons_of_mem _ hd)) ρ1 p1
end
end Ly

set_option Elab.async false
set_option linter.all false
set_option maxRecDepth 100000
set_option maxHeartbeats 2000000
namespace Ly
open PySem L2
section
variable {a b : Int} {xs : List D}
@[simp] theorem addD_int : addD (.int a) (.int b) = some (.int (a + b)) := Eq.trans rfl rfl
@[simp] theorem subD_int : subD (.int a) (.int b) = some (.int (a - b)) := Eq.trans rfl rfl
@[simp] theorem mulD_int : mulD (.int a) (.int b) = if cMul a b = true then some (.int (a * b)) else none := Eq.trans rfl rfl
@[simp] theorem fdivD_int : fdivD (.int a) (.int b) = if cDiv a b = true then some (.int (a / b)) else none := Eq.trans rfl rfl
@[simp] theorem modD_int : modD (.int a) (.int b) = if cMod a b = true then some (.int (a % b)) else none := Eq.trans rfl rfl
@[simp] theorem powD_int : powD (.int a) (.int b) = if decide (CPowX a b) = true then some (.int (a ^ b.toNat)) else none := Eq.trans rfl rfl
@[simp] theorem ltD_int : ltD (.int a) (.int b) = some (.bl (decide (a < b))) := Eq.trans rfl rfl
@[simp] theorem leD_int : leD (.int a) (.int b) = some (.bl (decide (a ≤ b))) := Eq.trans rfl rfl
@[simp] theorem gtD_int : gtD (.int a) (.int b) = some (.bl (decide (b < a))) := Eq.trans rfl rfl
@[simp] theorem geD_int : geD (.int a) (.int b) = some (.bl (decide (b ≤ a))) := Eq.trans rfl rfl
@[simp] theorem eqO_int : eqO (.int a) (.int b) = some (.bl (decide (a = b))) := Eq.trans rfl rfl
@[simp] theorem neO_int : neO (.int a) (.int b) = some (.bl (!decide (a = b))) := Eq.trans rfl rfl
theorem eqO_str {x y : Str} (hx : shD (.str x) = true) (hy : shD (.str y) = true) : eqO (.str x) (.str y) = some (.bl (x == y)) := by
  unfold eqO eqD
  rw [hx, hy]
  rfl
theorem neO_str {x y : Str} (hx : shD (.str x) = true) (hy : shD (.str y) = true) : neO (.str x) (.str y) = some (.bl (!(x == y))) := by
  unfold neO eqD
  rw [hx, hy]
  rfl
@[simp] theorem eqO_bl {x y : Bool} : eqO (.bl x) (.bl y) = some (.bl (x == y)) := Eq.trans rfl rfl
@[simp] theorem neO_bl {x y : Bool} : neO (.bl x) (.bl y) = some (.bl (!(x == y))) := Eq.trans rfl rfl
@[simp] theorem isO_non {d : D} : isO d .non = some (.bl (isNon d)) := by cases d <;> rfl
@[simp] theorem isnO_non {d : D} : isnO d .non = some (.bl (!isNon d)) := by cases d <;> rfl
@[simp] theorem isNon_non : isNon .non = true := Eq.trans rfl rfl
@[simp] theorem isNon_tup : isNon (.tup xs) = false := Eq.trans rfl rfl
@[simp] theorem isNon_int : isNon (.int a) = false := Eq.trans rfl rfl
@[simp] theorem isNon_bl {c : Bool} : isNon (.bl c) = false := Eq.trans rfl rfl
@[simp] theorem isNon_lst : isNon (.lst xs) = false := Eq.trans rfl rfl
@[simp] theorem isNon_str {z : Str} : isNon (.str z) = false := Eq.trans rfl rfl
@[simp] theorem lenC_tup : lenC [.tup xs] = some (.int xs.length) := Eq.trans rfl rfl
@[simp] theorem lenC_lst : lenC [.lst xs] = some (.int xs.length) := Eq.trans rfl rfl
@[simp] theorem lenC_lck : lenC [.lck xs] = some (.int xs.length) := Eq.trans rfl rfl
@[simp] theorem ixD_tup : ixD (.tup xs) (.int a) = atI xs a := Eq.trans rfl rfl
@[simp] theorem ixD_lst : ixD (.lst xs) (.int a) = atI xs a := Eq.trans rfl rfl
@[simp] theorem ixD_lck : ixD (.lck xs) (.int a) = atI xs a := Eq.trans rfl rfl
@[simp] theorem intC_int : intC [.int a] = some (.int a) := Eq.trans rfl rfl
@[simp] theorem intC_bl {c : Bool} : intC [.bl c] = some (.int (if c = true then 1 else 0)) := Eq.trans rfl rfl
@[simp] theorem absC_int : absC [.int a] = some (.int (if a < 0 then -a else a)) := Eq.trans rfl rfl
@[simp] theorem listC_tup : listC [.tup xs] = some (.lst xs) := Eq.trans rfl rfl
@[simp] theorem listC_lst : listC [.lst xs] = some (.lst xs) := Eq.trans rfl rfl
@[simp] theorem listC_lck : listC [.lck xs] = some (.lst xs) := Eq.trans rfl rfl
@[simp] theorem tupleC_lst : tupleC [.lst xs] = some (.tup xs) := Eq.trans rfl rfl
@[simp] theorem tupleC_tup : tupleC [.tup xs] = some (.tup xs) := Eq.trans rfl rfl
@[simp] theorem seqD_tup : seqD (.tup xs) = some xs := Eq.trans rfl rfl
@[simp] theorem seqD_lst : seqD (.lst xs) = some xs := Eq.trans rfl rfl
@[simp] theorem seqD_lck : seqD (.lck xs) = some xs := Eq.trans rfl rfl
@[simp] theorem min2C_int : min2C [.int a, .int b] = some (.int (if b < a then b else a)) := Eq.trans rfl rfl
@[simp] theorem max2C_int : max2C [.int a, .int b] = some (.int (if b > a then b else a)) := Eq.trans rfl rfl
@[simp] theorem isbO_bl {c d : Bool} : isbO (.bl c) (.bl d) = some (.bl (decide (c = d))) := Eq.trans rfl rfl
@[simp] theorem isnbO_bl {c d : Bool} : isnbO (.bl c) (.bl d) = some (.bl (!decide (c = d))) := Eq.trans rfl rfl
theorem intsD_map : ∀ l : List Int, intsD (l.map .int) = some l
  | [] => rfl
  | x :: l => by show (intsD (l.map .int)).map _ = _; rw [intsD_map l]; rfl
theorem blsD_map : ∀ l : List Bool, blsD (l.map .bl) = some l
  | [] => rfl
  | x :: l => by show (blsD (l.map .bl)).map _ = _; rw [blsD_map l]; rfl
theorem sumC_ints {l : List Int} : sumC [.lst (l.map .int)] = some (.int l.sum) := by unfold sumC onInts; simp [lstD, intsD_map]
theorem minC_ints {l : List Int} : minC [.lst (l.map .int)] = l.min?.map .int := by unfold minC onInts; simp [lstD, intsD_map]
theorem maxC_ints {l : List Int} : maxC [.lst (l.map .int)] = l.max?.map .int := by unfold maxC onInts; simp [lstD, intsD_map]
theorem allC_bls {l : List Bool} : allC [.lst (l.map .bl)] = some (.bl (l.all id)) := by unfold allC onBls; simp [blsD_map]
theorem anyC_bls {l : List Bool} : anyC [.lst (l.map .bl)] = some (.bl (l.any id)) := by unfold anyC onBls; simp [blsD_map]
@[simp] theorem atI_nat {α : Type} {l : List α} {k : Nat} : atI l (k : Int) = l[k]? := by
  unfold atI ixN
  rw [if_pos (Int.natCast_nonneg k)]
  by_cases h : k < l.length
  · rw [if_pos (by omega)]; simp
  · rw [if_neg (by omega), List.getElem?_eq_none (by omega)]; rfl
@[simp] theorem atI_0 {α : Type} {l : List α} : atI l 0 = l[0]? := atI_nat (k := 0)
@[simp] theorem atI_1 {α : Type} {l : List α} : atI l 1 = l[1]? := atI_nat (k := 1)
@[simp] theorem atI_2 {α : Type} {l : List α} : atI l 2 = l[2]? := atI_nat (k := 2)
theorem atI_m1 {α : Type} {l : List α} {x : α} : atI (l ++ [x]) (-1) = some x := by
  unfold atI ixN
  rw [if_neg (by omega), if_pos (by simp; omega)]
  simp only [List.length_append, List.length_singleton, Option.bind_some]
  rw [show (-1 + ((l.length + 1 : Nat) : Int)).toNat = l.length by omega]
  simp
theorem ixN_0 {n : Nat} (h : 0 < n) : ixN n 0 = some 0 := by unfold ixN; rw [if_pos (by omega), if_pos (by omega)]; rfl
@[simp] theorem ixN_nat {n k : Nat} : ixN n (k : Int) = if k < n then some k else none := by
  unfold ixN
  rw [if_pos (Int.natCast_nonneg k)]
  by_cases h : k < n
  · rw [if_pos (by omega), if_pos h]; simp
  · rw [if_neg (by omega), if_neg h]
@[simp] theorem ixN_1 {n : Nat} : ixN n 1 = if 1 < n then some 1 else none := ixN_nat (k := 1)
@[simp] theorem ixN_2 {n : Nat} : ixN n 2 = if 2 < n then some 2 else none := ixN_nat (k := 2)
theorem cMul_r (h : b.natAbs < 2 ^ 64) : cMul a b = true := decide_eq_true (IntMulOk.of_right (PyProof.Rows.intBits_le h))
theorem cMul_l (h : a.natAbs < 2 ^ 64) : cMul a b = true := decide_eq_true (IntMulOk.of_left (PyProof.Rows.intBits_le h))
theorem cMod_p (h : 0 < b) : cMod a b = true := decide_eq_true h
theorem cDiv_p (h : 0 < b) (h2 : b.natAbs < 2 ^ 8000) : cDiv a b = true := decide_eq_true ⟨h, by
  have : b.natAbs ≠ 0 := by omega
  have := (Nat.log2_lt this (k := 8000)).mpr h2
  omega⟩
theorem szOk_of {l : List D} (h : l.length ≤ 4000000) : szOk l = true := by
  unfold szOk
  refine decide_eq_true (Nat.le_trans h ?_)
  rw [sizeLine_eq]
  decide
theorem isi_int (d : D) : kitB (tyD d) "int" = some (match d with | .int _ => true | .bl _ => true | _ => false) := by cases d <;> kernel_rfl
theorem isi_bool (d : D) : kitB (tyD d) "bool" = some (match d with | .bl _ => true | _ => false) := by cases d <;> kernel_rfl
theorem isi_tuple (d : D) : kitB (tyD d) "tuple" = some (match d with | .tup _ => true | _ => false) := by cases d <;> kernel_rfl
theorem isi_str (d : D) : kitB (tyD d) "str" = some (match d with | .str _ => true | _ => false) := by cases d <;> kernel_rfl
end
end Ly

set_option Elab.async false
set_option linter.all false
set_option maxRecDepth 100000
set_option maxHeartbeats 2000000
namespace Ly
open PySem L2
def okD (n : Nat) (d : D) : Prop := (toP d).canLay0 = true ∧ (toP d).depth ≤ n
theorem toPs_map : ∀ xs : List D, toPs xs = xs.map toP
  | [] => rfl
  | x :: xs => by show toP x :: toPs xs = _; rw [toPs_map xs]; rfl
theorem okD_int {n : Nat} {i : Int} : okD n (.int i) := ⟨rfl, Nat.zero_le _⟩
theorem okD_bl {n : Nat} {i : Bool} : okD n (.bl i) := ⟨rfl, Nat.zero_le _⟩
theorem okD_non {n : Nat} : okD n .non := ⟨rfl, Nat.zero_le _⟩
theorem okD_mono {n m : Nat} {d : D} (h : okD n d) (hm : n ≤ m) : okD m d := ⟨h.1, Nat.le_trans h.2 hm⟩
theorem okD_all {n : Nat} : ∀ {xs : List D}, (∀ x ∈ xs, okD n x) → PyData.canLayAll0 (toPs xs) = true ∧ PyData.depthAll (toPs xs) ≤ n
  | [], _ => ⟨rfl, Nat.zero_le _⟩
  | x :: xs, h => by
    obtain ⟨h1, h2⟩ := okD_all (xs := xs) fun y hy => h y (List.mem_cons_of_mem _ hy)
    obtain ⟨h3, h4⟩ := h x (List.mem_cons_self ..)
    refine ⟨?_, ?_⟩
    · show (PyData.canLay0 (toP x) && PyData.canLayAll0 (toPs xs)) = true
      rw [h3, h1]; rfl
    · show max (toP x).depth (PyData.depthAll (toPs xs)) ≤ n
      omega
theorem okD_tup {n : Nat} {xs : List D} (h : ∀ x ∈ xs, okD n x) : okD (n + 1) (.tup xs) := ⟨(okD_all h).1, Nat.succ_le_succ (okD_all h).2⟩
theorem okD_lst {n : Nat} {xs : List D} (h : ∀ x ∈ xs, okD n x) : okD (n + 1) (.lst xs) := ⟨(okD_all h).1, Nat.succ_le_succ (okD_all h).2⟩
theorem shD_of {d : D} (h : okD 64 d) : shD d = true := by
  unfold shD SeqAt.shaped
  rw [h.1]
  exact decide_eq_true h.2
theorem inB_lst {d : D} {xs : List D} (h : okD 64 d) (hx : ∀ x ∈ xs, okD 63 x) (hd : ∀ z, d ≠ .str z) : inB d (.lst xs) = some (xs.any fun z => PyData.eqv (toP z) (toP d)) := by
  have e : inB d (.lst xs) = if shD d && shD (.lst xs) then some ((toPs xs).any fun z => PyData.eqv z (toP d)) else none := by
    cases d <;> first | rfl | exact absurd rfl (hd _)
  rw [e, shD_of h, shD_of (okD_lst hx), toPs_map, List.any_map]
  rfl
theorem inB_ints {w : Int} {ws : List Int} : inB (.int w) (.lst (ws.map .int)) = some (decide (w ∈ ws)) := by
  rw [inB_lst okD_int (fun x hx => by obtain ⟨z, _, rfl⟩ := List.mem_map.mp hx; exact okD_int) (fun z h => nomatch h), List.any_map]
  congr 1
  rw [Bool.eq_iff_iff, List.any_eq_true, decide_eq_true_eq]
  exact ⟨fun ⟨z, h1, h2⟩ => by have : z = w := beq_iff_eq.mp h2; exact this ▸ h1, fun h => ⟨w, h, beq_self_eq_true w⟩⟩
@[simp] theorem ev_inOM {neg : Bool} {m : M D} {i : Nat} {ρ : Env} : inOM neg m i ρ = bndR (m ρ) fun d ρ => match contK ρ[i]? with
    | some xs => lif ((inB d (.lst xs)).map fun b => .bl (if neg then !b else b)) ρ
    | none => .stuck := by
  unfold inOM
  rw [ev_bnd]
  congr 1
  try (funext d ρ)
  try (rw [cont_eq])
@[simp] theorem ev_tupO {i : Nat} {ρ : Env} : tupO i ρ = match contK ρ[i]? with
    | some xs => .ok (.tup xs) ρ
    | none => .stuck := by
  unfold tupO
  rw [ev_own]
  cases contK ρ[i]? <;> rfl
@[simp] theorem ev_lenO {i : Nat} {ρ : Env} : lenO i ρ = match contK ρ[i]? with
    | some xs => .ok (.int xs.length) ρ
    | none => .stuck := by
  unfold lenO
  rw [ev_own]
  cases contK ρ[i]? <;> rfl
theorem okR_of {i : Int} (h0 : 0 ≤ i) (h : i < 2 ^ 62) : okR i = true := by
  unfold okR
  simp only [Bool.and_eq_true, decide_eq_true_eq]
  omega
def rngK1 : List D → M (List D)
  | [.int j] => iteM (okR j) (pur (rangeD 0 j.toNat)) stk
  | _ => stk
@[simp] theorem rngK1_1 {j : Int} : rngK1 [.int j] = iteM (okR j) (pur (rangeD 0 j.toNat)) stk := Eq.trans rfl rfl
@[simp] theorem ev_rng1 {ms : M (List D)} {ρ : Env} : rng1 ms ρ = bndR (ms ρ) rngK1 := Eq.trans rfl rfl
def itTK : D → M (List D)
  | .tup xs => pur xs
  | _ => stk
@[simp] theorem itTK_tup {xs : List D} : itTK (.tup xs) = pur xs := Eq.trans rfl rfl
@[simp] theorem ev_itemsT {m : M D} {ρ : Env} : itemsT m ρ = bndR (m ρ) itTK := Eq.trans rfl rfl
@[simp] theorem ev_itemsL {m : M D} {ρ : Env} : itemsL m ρ = bndR (m ρ) fun d => lif (lstD d) := Eq.trans rfl rfl
@[simp] theorem lstD_lst {xs : List D} : lstD (.lst xs) = some xs := Eq.trans rfl rfl
@[simp] theorem lstD_lck {xs : List D} : lstD (.lck xs) = some xs := Eq.trans rfl rfl
def itSK : D → M (List D)
  | .str z => pur (z.cps.toList.map fun c => .str ⟨#[c]⟩)
  | _ => stk
@[simp] theorem itSK_str {z : Str} : itSK (.str z) = pur (z.cps.toList.map fun c => .str ⟨#[c]⟩) := Eq.trans rfl rfl
@[simp] theorem ev_itemsS {m : M D} {ρ : Env} : itemsS m ρ = bndR (m ρ) itSK := Eq.trans rfl rfl
def enK (f : D → Option (List D)) : List D → M (List D)
  | [d] => bnd (lif (f d)) fun xs => pur (enumD xs)
  | _ => stk
@[simp] theorem enK_1 {f : D → Option (List D)} {d : D} : enK f [d] = bnd (lif (f d)) fun xs => pur (enumD xs) := Eq.trans rfl rfl
@[simp] theorem ev_enumL {ms : M (List D)} {ρ : Env} : enumL ms ρ = bndR (ms ρ) (enK lstD) := Eq.trans rfl rfl
@[simp] theorem ev_enumT {ms : M (List D)} {ρ : Env} : enumT ms ρ = bndR (ms ρ) (enK tupX) := Eq.trans rfl rfl
@[simp] theorem tupX_tup {xs : List D} : tupX (.tup xs) = some xs := Eq.trans rfl rfl
def gtupK (n : Nat) (gs : List D → M Unit) : D → M Unit
  | .tup ds => iteM (ds.length == n) (gs ds) stk
  | _ => stk
@[simp] theorem ev_gtup {n : Nat} {gs : List D → M Unit} {ds : List D} : gtup n gs (.tup ds) = iteM (ds.length == n) (gs ds) stk := Eq.trans rfl rfl
@[simp] theorem ev_gcons {g : D → M Unit} {gs : List D → M Unit} {d : D} {ds : List D} : gcons g gs (d :: ds) = bnd (g d) fun _ => gs ds := Eq.trans rfl rfl
@[simp] theorem ev_gnil : gnil [] = pur () := Eq.trans rfl rfl
theorem rangeD_len {lo : Int} {n : Nat} : (rangeD lo n).length = n := by unfold rangeD; rw [List.length_map, List.length_range]
theorem rangeD_0 {n : Nat} : rangeD 0 n = (List.range n).map fun (k : Nat) => D.int (k : Nat) := by
  unfold rangeD
  refine List.map_congr_left fun k _ => ?_
  rw [Int.zero_add]
@[simp] theorem slo_some {d : D} : slo (some d) = some (.fz d) := Eq.trans rfl rfl
@[simp] theorem slo_none : slo none = none := Eq.trans rfl rfl
theorem szLine : (4000000 : Nat) ≤ sizeLine := by rw [sizeLine_eq]; decide
/-- a loop that passes a state on; I: what stands before the rest of the items -/
theorem for_sti {S : Type} {g : D → M Unit} {b : M Fl} (en : S → Ly.Env) (st : D → S → S) (I : List D → S → Prop) (h : ∀ d ds s, I (d :: ds) s → bndR (g d (en s)) (fun _ => b) = .ok .nx (en (st d s)) ∧ I ds (st d s)) :
    ∀ (ds : List D) (s : S), I ds s → forL g b ds (en s) = .ok .nx (en (ds.foldl (fun s d => st d s) s))
  | [], s, _ => rfl
  | d :: ds, s, hI => by
    obtain ⟨h1, h2⟩ := h d ds s hI
    unfold forL
    rw [ev_bnd]
    cases e : g d (en s) with
    | stuck => rw [e] at h1; cases h1
    | ex c ρ' => rw [e] at h1; cases h1
    | ok u ρ' =>
      rw [e, ev_ok] at h1
      rw [ev_ok, ev_bnd, h1, ev_ok]
      exact for_sti en st I h ds _ h2
@[simp] theorem szOk_0 : szOk [] = true := szOk_of (by simp)
@[simp] theorem szOk_1 {a0 : D} : szOk [a0] = true := szOk_of (by simp)
@[simp] theorem szOk_2 {a0 a1 : D} : szOk [a0, a1] = true := szOk_of (by simp)
@[simp] theorem szOk_3 {a0 a1 a2 : D} : szOk [a0, a1, a2] = true := szOk_of (by simp)
@[simp] theorem szOk_4 {a0 a1 a2 a3 : D} : szOk [a0, a1, a2, a3] = true := szOk_of (by simp)
@[simp] theorem szOk_5 {a0 a1 a2 a3 a4 : D} : szOk [a0, a1, a2, a3, a4] = true := szOk_of (by simp)
@[simp] theorem szOk_6 {a0 a1 a2 a3 a4 a5 : D} : szOk [a0, a1, a2, a3, a4, a5] = true := szOk_of (by simp)
@[simp] theorem szOk_7 {a0 a1 a2 a3 a4 a5 a6 : D} : szOk [a0, a1, a2, a3, a4, a5, a6] = true := szOk_of (by simp)
@[simp] theorem szOk_8 {a0 a1 a2 a3 a4 a5 a6 a7 : D} : szOk [a0, a1, a2, a3, a4, a5, a6, a7] = true := szOk_of (by simp)
@[simp] theorem szOk_9 {a0 a1 a2 a3 a4 a5 a6 a7 a8 : D} : szOk [a0, a1, a2, a3, a4, a5, a6, a7, a8] = true := szOk_of (by simp)
@[simp] theorem szOk_10 {a0 a1 a2 a3 a4 a5 a6 a7 a8 a9 : D} : szOk [a0, a1, a2, a3, a4, a5, a6, a7, a8, a9] = true := szOk_of (by simp)
@[simp] theorem szOk_11 {a0 a1 a2 a3 a4 a5 a6 a7 a8 a9 a10 : D} : szOk [a0, a1, a2, a3, a4, a5, a6, a7, a8, a9, a10] = true := szOk_of (by simp)
end Ly

set_option Elab.async false
set_option linter.all false
set_option maxRecDepth 100000
set_option maxHeartbeats 2000000
namespace Ly
open PySem L2
section
variable {T : Type} {g : D → M Unit} {b : M Fl} {v : Nat} {el : M D}
/-- a loop: I says what the environment is, by a plain state -/
theorem for_rel (I : List D → T → Ly.Env → Prop) (step : D → T → T) (h : ∀ d ds t ρ, I (d :: ds) t ρ → ∃ ρ', bndR (g d ρ) (fun _ => b) = .ok .nx ρ' ∧ I ds (step d t) ρ') :
    ∀ (ds : List D) (t : T) (ρ : Ly.Env), I ds t ρ → ∃ ρ', forL g b ds ρ = .ok .nx ρ' ∧ I [] (ds.foldl (fun t d => step d t) t) ρ'
  | [], t, ρ, hI => ⟨ρ, rfl, hI⟩
  | d :: ds, t, ρ, hI => by
    obtain ⟨ρ1, h1, h2⟩ := h d ds t ρ hI
    obtain ⟨ρ2, h3, h4⟩ := for_rel I step h ds _ ρ1 h2
    refine ⟨ρ2, ?_, h4⟩
    unfold forL
    rw [ev_bnd]
    cases e : g d ρ with
    | stuck => rw [e] at h1; cases h1
    | ex c ρ' => rw [e] at h1; cases h1
    | ok u ρ' =>
      rw [e, ev_ok] at h1
      rw [ev_ok, ev_bnd, h1, ev_ok]
      exact h3
theorem slo_of {ρ : Ly.Env} (h : isOB ρ[v]? = false) (hl : v < ρ.length) : ∃ x, ρ[v]? = some (slo x) := by
  rw [List.getElem?_eq_getElem hl] at h ⊢
  cases e : ρ[v] with
  | none => exact ⟨none, rfl⟩
  | some s =>
    rw [e] at h
    cases s with
    | fz d => exact ⟨some d, rfl⟩
    | ow xs => cases h
    | pr a xs => cases h
theorem lcLoop_rel (I : T → Ly.Env → Prop) (f : D → T → D × T) (hI : ∀ t ρ x, I t ρ → I t (ρ.set v (slo x))) (hl : ∀ t ρ, I t ρ → v < ρ.length) (ho : ∀ t ρ, I t ρ → isOB ρ[v]? = false) :
    ∀ (ds : List D), (∀ d ∈ ds, ∀ t ρ, I t ρ → ρ[v]? = some (some (.fz d)) → ∃ ρ', el ρ = .ok (f d t).1 ρ' ∧ I (f d t).2 ρ') → ∀ (acc : List D) (t : T) (ρ : Ly.Env), I t ρ → ρ[v]? = some none → acc.length + ds.length ≤ sizeLine →
      ∃ ρ', lcLoop (putM v) (pur true) el [v] ds acc ρ = some (acc ++ (mapS f ds t).1, ρ') ∧ I (mapS f ds t).2 ρ'
  | [], _, acc, t, ρ, hi, _, _ => ⟨ρ, by simp [lcLoop, mapS], hi⟩
  | d :: ds, hel, acc, t, ρ, hi, hv, hz => by
    have hlt := hl t ρ hi
    have e1 : putM v d ρ = .ok () (ρ.set v (some (.fz d))) := by
      rw [ev_put, hv]
      simp [hlt]
    obtain ⟨ρ1, h1, h2⟩ := hel d (List.mem_cons_self ..) t _ (hI t ρ (some d) hi) (List.getElem?_set_self hlt)
    have hlt1 := hl _ _ h2
    simp only [List.length_cons] at hz
    obtain ⟨ρ2, h3, h4⟩ := lcLoop_rel I f hI hl ho ds (fun d hd => hel d (List.mem_cons_of_mem _ hd)) (acc ++ [(f d t).1]) (f d t).2 (ρ1.set v none) (hI _ _ none h2) (List.getElem?_set_self hlt1) (by simp; omega)
    refine ⟨ρ2, ?_, h4⟩
    unfold lcLoop
    have h1' : el (ρ.set v (some (.fz d))) = .ok (f d t).1 ρ1 := h1
    simp only [e1, ev_pur, h1']
    rw [if_pos (by omega)]
    have e2 : wipE ρ1 [v] = ρ1.set v none := rfl
    rw [e2, h3]
    simp [mapS]
theorem lc_rel (I : T → Ly.Env → Prop) (f : D → T → D × T) {mi : M (List D)} {ρ ρ1 : Ly.Env} {ds : List D} {t : T} (hmi : mi ρ = .ok ds ρ1) (hi : I t ρ1) (hI : ∀ t ρ x, I t ρ → I t (ρ.set v (slo x))) (hl : ∀ t ρ, I t ρ → v < ρ.length) (ho : ∀ t ρ, I t ρ → isOB ρ[v]? = false) (hz : ds.length ≤ sizeLine)
    (hel : ∀ d ∈ ds, ∀ t ρ, I t ρ → ρ[v]? = some (some (.fz d)) → ∃ ρ', el ρ = .ok (f d t).1 ρ' ∧ I (f d t).2 ρ') : ∃ ρ', lcO [v] mi (putM v) (pur true) el ρ = .ok (mapS f ds t).1 ρ' ∧ I (mapS f ds t).2 ρ' := by
  have hlt := hl t ρ1 hi
  obtain ⟨ρ2, h3, h4⟩ := lcLoop_rel I f hI hl ho ds hel [] t (ρ1.set v none) (hI t ρ1 none hi) (List.getElem?_set_self hlt) (by simpa using hz)
  obtain ⟨x, hx⟩ := slo_of (ho t ρ1 hi) hlt
  refine ⟨ρ2.set v (slo x), ?_, hI _ _ x h4⟩
  unfold lcO
  rw [ev_bnd, hmi, ev_ok]
  have e1 : noOw ρ1 [v] = true := by rw [noOw_eq]; simp [ho t ρ1 hi]
  have e2 : wipE ρ1 [v] = ρ1.set v none := rfl
  simp only [e1, e2, h3, List.nil_append]
  congr 1
  show ρ2.set v (ρ1[v]?.getD none) = _
  rw [hx]
  rfl
end
end Ly

set_option Elab.async false
set_option linter.all false
set_option maxRecDepth 100000
set_option maxHeartbeats 2000000
namespace Ly
open PySem L2
section
variable {v v1 : Nat} {el : M D} {mi mi1 : M (List D)}
theorem lc2Loop_map {ρ : Ly.Env} (hv : v ≠ v1) (hl : v < ρ.length) (hl1 : v1 < ρ.length) (es : D → List D) (f : D → D → D) : ∀ (ds : List D) (acc : List D),
    (∀ d ∈ ds, mi1 ((ρ.set v1 none).set v (some (.fz d))) = .ok (es d) ((ρ.set v1 none).set v (some (.fz d)))) →
    (∀ d ∈ ds, ∀ e ∈ es d, el ((ρ.set v (some (.fz d))).set v1 (some (.fz e))) = .ok (f d e) ((ρ.set v (some (.fz d))).set v1 (some (.fz e)))) →
    acc.length + (ds.flatMap fun d => (es d).map (f d)).length ≤ sizeLine → lc2Loop (putM v) (pur true) mi1 (putM v1) (pur true) el [v, v1] [v1] ds acc ((ρ.set v1 none).set v none) = some (acc ++ ds.flatMap (fun d => (es d).map (f d)), (ρ.set v1 none).set v none)
  | [], acc, _, _, _ => by simp [lc2Loop]
  | d :: ds, acc, h1, h2, hz => by
    unfold lc2Loop
    have hl' : v < (ρ.set v1 none).length := by simpa using hl
    have e1 : putM v d ((ρ.set v1 none).set v none) = .ok () ((ρ.set v1 none).set v (some (.fz d))) := by
      rw [ev_put, List.getElem?_set_self hl']
      simp [hl]
    have e2 := h1 d (List.mem_cons_self ..)
    rw [List.flatMap_cons, List.length_append, List.length_map] at hz
    have e3 : (ρ.set v1 none).set v (some (.fz d)) = (ρ.set v (some (.fz d))).set v1 none := List.set_comm _ _ (Ne.symm hv)
    have hl1' : v1 < (ρ.set v (some (.fz d))).length := by simpa using hl1
    have e4 : noOw ((ρ.set v1 none).set v (some (.fz d))) [v1] = true := by
      rw [noOw_eq, e3]
      simp [List.getElem?_set_self hl1']
    have e5 : wipE ((ρ.set v1 none).set v (some (.fz d))) [v1] = (ρ.set v (some (.fz d))).set v1 none := by
      rw [e3]
      exact set_set' ..
    have e6 : lcLoop (putM v1) (pur true) el [v1] (es d) acc ((ρ.set v (some (.fz d))).set v1 none) = some (acc ++ (es d).map (f d), (ρ.set v (some (.fz d))).set v1 none) := by
      have := lcLoop_flt (v := v1) (ds := es d) (el := el) (c := pur true) (ρ := ρ.set v (some (.fz d))) (fun e => some (f d e)) hl1' (fun e he => ⟨rfl, h2 d (List.mem_cons_self ..) e he⟩) acc (by omega)
      rw [this]
      congr 3
      exact congrFun (List.filterMap_eq_map' (f := f d)) _
    have e7 : wipE (rstE ((ρ.set v1 none).set v (some (.fz d))) ((ρ.set v (some (.fz d))).set v1 none) [v1]) [v, v1] = (ρ.set v1 none).set v none := by
      show ((((ρ.set v (some (.fz d))).set v1 none).set v1 _).set v1 none).set v none = _
      rw [set_set', set_set', List.set_comm _ _ hv, set_set', List.set_comm _ _ (Ne.symm hv)]
    simp only [e1, ev_pur, e2, e4, e5, e6, e7]
    rw [lc2Loop_map hv hl hl1 es f ds _ (fun d hd => h1 d (List.mem_cons_of_mem _ hd)) (fun d hd => h2 d (List.mem_cons_of_mem _ hd)) (by rw [List.length_append, List.length_map]; omega)]
    simp
theorem lc2_map {ρ ρ1 : Ly.Env} {ds : List D} (hv : v ≠ v1) (es : D → List D) (f : D → D → D) (hmi : mi ρ = .ok ds ρ1) (hl : v < ρ1.length) (hl1 : v1 < ρ1.length) (ho : isOB ρ1[v]? = false) (ho1 : isOB ρ1[v1]? = false)
    (h1 : ∀ d ∈ ds, mi1 ((ρ1.set v1 none).set v (some (.fz d))) = .ok (es d) ((ρ1.set v1 none).set v (some (.fz d))))
    (h2 : ∀ d ∈ ds, ∀ e ∈ es d, el ((ρ1.set v (some (.fz d))).set v1 (some (.fz e))) = .ok (f d e) ((ρ1.set v (some (.fz d))).set v1 (some (.fz e))))
    (hz : (ds.flatMap fun d => (es d).map (f d)).length ≤ sizeLine) : lcO2 [v, v1] [v1] mi (putM v) (pur true) mi1 (putM v1) (pur true) el ρ = .ok (ds.flatMap fun d => (es d).map (f d)) ρ1 := by
  unfold lcO2
  rw [ev_bnd, hmi, ev_ok]
  have e1 : noOw ρ1 [v, v1] = true := by rw [noOw_eq]; simp [ho, ho1]
  have e2 : wipE ρ1 [v, v1] = (ρ1.set v1 none).set v none := rfl
  have e3 := lc2Loop_map hv hl hl1 es f ds [] h1 h2 (by simpa using hz)
  simp only [e1, e2, e3, List.nil_append]
  congr 1
  show ((((ρ1.set v1 none).set v none).set v1 (ρ1[v1]?.getD none)).set v (ρ1[v]?.getD none)) = _
  have e4 : ((ρ1.set v1 none).set v none).set v1 (ρ1[v1]?.getD none) = ((ρ1.set v1 none).set v1 (ρ1[v1]?.getD none)).set v none := List.set_comm _ _ hv
  rw [e4, set_set', set_set', List.getElem?_eq_getElem hl1, Option.getD_some, List.set_getElem_self, List.getElem?_eq_getElem hl, Option.getD_some, List.set_getElem_self]
end
end Ly

set_option Elab.async false
set_option linter.all false
set_option maxRecDepth 100000
set_option maxHeartbeats 0
namespace Hd
open PySem PySem.Spec PyProof.Rows L2
def top (i : Nat) : Stmt := PySem.Challenge.pw_callgames_k82_price_sheets_judged.main.body.getD i (.Pass ⟨0, 0, 0, 0⟩)
abbrev s_is_int : Stmt := top 11
abbrev s_within : Stmt := top 12
abbrev s_is_row : Stmt := top 13
abbrev s_is_low_name : Stmt := top 14
abbrev s_flat : Stmt := top 21
abbrev s_exits_at : Stmt := top 22
abbrev s_starts_of : Stmt := top 23
abbrev s_is_head : Stmt := top 24
abbrev s_are_heads : Stmt := top 25
abbrev s_are_places : Stmt := top 26
abbrev s_is_move : Stmt := top 27
abbrev s_is_call : Stmt := top 28
abbrev s_is_exit : Stmt := top 29
abbrev s_is_place : Stmt := top 30
abbrev s_is_program : Stmt := top 31
abbrev s_checked_program : Stmt := top 32
abbrev s_need_player : Stmt := top 34
abbrev s_need_prices : Stmt := top 37
abbrev s_used_by : Stmt := top 38
abbrev s_is_entry_form : Stmt := top 39
abbrev s_is_right_entry : Stmt := top 40
abbrev s_is_price_sheet : Stmt := top 41
abbrev s_law_jug : Stmt := top 43
abbrev s_law_take : Stmt := top 44
abbrev s_law_int : Stmt := top 45
abbrev s_law_same : Stmt := top 46
abbrev s_law_what : Stmt := top 47
abbrev s_law_program : Stmt := top 48
abbrev s_law_flat : Stmt := top 49
abbrev s_law_single : Stmt := top 50
abbrev s_law_prices : Stmt := top 51
abbrev s_law_price_at : Stmt := top 52
abbrev s_law_sheet : Stmt := top 53
abbrev s_law_rounded : Stmt := top 54
abbrev s_law_judged : Stmt := top 55
abbrev s_law_bent : Stmt := top 56
abbrev s_law : Stmt := top 57
abbrev s_ManyExits_init : Stmt := inClass (top 5) 0
def fnL : List He.DefD := [
  ⟨("is_int", none), "is_int", "is_int", defArgs s_is_int, defBody s_is_int, defScope s_is_int, [], []⟩,
  ⟨("within", none), "within", "within", defArgs s_within, defBody s_within, defScope s_within, [], []⟩,
  ⟨("is_row", none), "is_row", "is_row", defArgs s_is_row, defBody s_is_row, defScope s_is_row, [], []⟩,
  ⟨("is_low_name", none), "is_low_name", "is_low_name", defArgs s_is_low_name, defBody s_is_low_name, defScope s_is_low_name, [], []⟩,
  ⟨("flat", none), "flat", "flat", defArgs s_flat, defBody s_flat, defScope s_flat, [], []⟩,
  ⟨("exits_at", none), "exits_at", "exits_at", defArgs s_exits_at, defBody s_exits_at, defScope s_exits_at, [], []⟩,
  ⟨("starts_of", none), "starts_of", "starts_of", defArgs s_starts_of, defBody s_starts_of, defScope s_starts_of, [], []⟩,
  ⟨("is_head", none), "is_head", "is_head", defArgs s_is_head, defBody s_is_head, defScope s_is_head, [], []⟩,
  ⟨("are_heads", none), "are_heads", "are_heads", defArgs s_are_heads, defBody s_are_heads, defScope s_are_heads, [], []⟩,
  ⟨("are_places", none), "are_places", "are_places", defArgs s_are_places, defBody s_are_places, defScope s_are_places, [], []⟩,
  ⟨("is_move", none), "is_move", "is_move", defArgs s_is_move, defBody s_is_move, defScope s_is_move, [], []⟩,
  ⟨("is_call", none), "is_call", "is_call", defArgs s_is_call, defBody s_is_call, defScope s_is_call, [], []⟩,
  ⟨("is_exit", none), "is_exit", "is_exit", defArgs s_is_exit, defBody s_is_exit, defScope s_is_exit, [], []⟩,
  ⟨("is_place", none), "is_place", "is_place", defArgs s_is_place, defBody s_is_place, defScope s_is_place, [], []⟩,
  ⟨("is_program", none), "is_program", "is_program", defArgs s_is_program, defBody s_is_program, defScope s_is_program, [], []⟩,
  ⟨("checked_program", none), "checked_program", "checked_program", defArgs s_checked_program, defBody s_checked_program, defScope s_checked_program, [], []⟩,
  ⟨("need_player", none), "need_player", "need_player", defArgs s_need_player, defBody s_need_player, defScope s_need_player, [], []⟩,
  ⟨("need_prices", none), "need_prices", "need_prices", defArgs s_need_prices, defBody s_need_prices, defScope s_need_prices, [], []⟩,
  ⟨("used_by", none), "used_by", "used_by", defArgs s_used_by, defBody s_used_by, defScope s_used_by, [], []⟩,
  ⟨("is_entry_form", none), "is_entry_form", "is_entry_form", defArgs s_is_entry_form, defBody s_is_entry_form, defScope s_is_entry_form, [], []⟩,
  ⟨("is_right_entry", none), "is_right_entry", "is_right_entry", defArgs s_is_right_entry, defBody s_is_right_entry, defScope s_is_right_entry, [], []⟩,
  ⟨("is_price_sheet", none), "is_price_sheet", "is_price_sheet", defArgs s_is_price_sheet, defBody s_is_price_sheet, defScope s_is_price_sheet, [], []⟩,
  ⟨("_law_jug", none), "_law_jug", "_law_jug", defArgs s_law_jug, defBody s_law_jug, defScope s_law_jug, [], []⟩,
  ⟨("_law_take", none), "_law_take", "_law_take", defArgs s_law_take, defBody s_law_take, defScope s_law_take, [], []⟩,
  ⟨("_law_int", none), "_law_int", "_law_int", defArgs s_law_int, defBody s_law_int, defScope s_law_int, [], []⟩,
  ⟨("_law_same", none), "_law_same", "_law_same", defArgs s_law_same, defBody s_law_same, defScope s_law_same, [], []⟩,
  ⟨("_law_what", none), "_law_what", "_law_what", defArgs s_law_what, defBody s_law_what, defScope s_law_what, [], []⟩,
  ⟨("_law_program", none), "_law_program", "_law_program", defArgs s_law_program, defBody s_law_program, defScope s_law_program, [], []⟩,
  ⟨("_law_flat", none), "_law_flat", "_law_flat", defArgs s_law_flat, defBody s_law_flat, defScope s_law_flat, [], []⟩,
  ⟨("_law_single", none), "_law_single", "_law_single", defArgs s_law_single, defBody s_law_single, defScope s_law_single, [], []⟩,
  ⟨("_law_prices", none), "_law_prices", "_law_prices", defArgs s_law_prices, defBody s_law_prices, defScope s_law_prices, [], []⟩,
  ⟨("_law_price_at", none), "_law_price_at", "_law_price_at", defArgs s_law_price_at, defBody s_law_price_at, defScope s_law_price_at, [], []⟩,
  ⟨("_law_sheet", none), "_law_sheet", "_law_sheet", defArgs s_law_sheet, defBody s_law_sheet, defScope s_law_sheet, [], []⟩,
  ⟨("_law_rounded", none), "_law_rounded", "_law_rounded", defArgs s_law_rounded, defBody s_law_rounded, defScope s_law_rounded, [], []⟩,
  ⟨("_law_judged", none), "_law_judged", "_law_judged", defArgs s_law_judged, defBody s_law_judged, defScope s_law_judged, [], []⟩,
  ⟨("_law_bent", none), "_law_bent", "_law_bent", defArgs s_law_bent, defBody s_law_bent, defScope s_law_bent, [], []⟩,
  ⟨("law", none), "law", "law", defArgs s_law, defBody s_law, defScope s_law, [], []⟩]
def faL : List He.Fa := [
  .glo "is_int", .glo "within", .glo "is_row", .glo "is_low_name", .glo "flat", .glo "exits_at", .glo "starts_of", .glo "is_head", .glo "are_heads", .glo "are_places", .glo "is_move", .glo "is_call", .glo "is_exit", .glo "is_place", .glo "is_program", .glo "checked_program", .glo "need_player", .glo "need_prices", .glo "used_by", .glo "is_entry_form", .glo "is_right_entry", .glo "is_price_sheet", .glo "_law_jug", .glo "_law_take", .glo "_law_int", .glo "_law_same", .glo "_law_what", .glo "_law_program", .glo "_law_flat", .glo "_law_single", .glo "_law_prices", .glo "_law_price_at", .glo "_law_sheet", .glo "_law_rounded", .glo "_law_judged", .glo "_law_bent", .glo "law", .free "ValueError", .free "abs", .free "all", .free "any", .free "bool", .free "enumerate", .free "int", .free "isinstance", .free "len", .free "list", .free "max", .free "min", .free "range", .free "set", .free "str", .free "sum", .free "super", .free "tuple", .str "SMALL" "abcdefghijklmnopqrstuvwxyz", .str "DIGITS" "0123456789", .glo "WORDS", .int "MOST_NAME" 10, .int "MOST_PROCEDURES" 60, .int "MOST_EXITS" 24, .int "MOST_PLACES" 4000, .int "MOST_NEXTS" 8, .int "MOST_MARK" 9, .int "MOST_PRICE" 1000000000000]
def exB (K : PySem.W.Frag) : Bool := He.tupB K "WORDS" [.str "call", .str "exit", .str "move", .str "proc"]
def loose0 : List PySem.Str := ["GameError", "BadProgram", "BadPlayer", "BadPrices", "ManyExits", "SMALL", "DIGITS", "WORDS", "MOST_NAME", "is_int", "within", "is_row", "is_low_name", "MOST_PROCEDURES", "MOST_EXITS", "MOST_PLACES", "MOST_NEXTS", "MOST_MARK", "flat", "exits_at", "starts_of", "is_head", "are_heads", "are_places", "is_move", "is_call", "is_exit", "is_place", "is_program", "checked_program"]
def loose1 : List PySem.Str := ["need_player", "MOST_PRICE", "need_prices", "used_by", "is_entry_form", "is_right_entry", "is_price_sheet", "_law_jug", "_law_take", "_law_int", "_law_same", "_law_what", "_law_program", "_law_flat", "_law_single", "_law_prices", "_law_price_at", "_law_sheet", "_law_rounded", "_law_judged", "_law_bent"]
def looseL : List PySem.Str := loose0 ++ loose1
abbrev R : PySem.W.OpenRow := PySem.W.OpenLaw.row PySem.Challenge.rw_callgames_k82_price_sheets_judged
abbrev hk : PySem.W.Hook := He.hookX 4 faL fnL [] [] exB
def ob (s : PySem.W.SharedT) : He.AlX := He.obsX 4 faL fnL [] [] exB (HandSHeadRun.getT s)
theorem ob_eq (s : PySem.W.SharedT) : ob s = hk.obs s.abs := He.obsX_eq (HandSHeadRun.getT_eq s)
theorem run (w : World) : HandSHeadRun.RunEq R (PySem.W.view R.prog [57]) hk ob 3000 looseL w := by
  intro os
  kernel_rfl
end Hd

set_option Elab.async false
set_option linter.all false
set_option maxRecDepth 100000
set_option maxHeartbeats 4000000
namespace Wk
open PySem PySem.Spec PyProof.Rows L2 Ly
theorem gt_WORDS {K : PySem.W.Frag} {mg : Str → Option Value} (g : Gd Hd.faL Hd.fnL Hd.exB K mg) : Glo K mg "WORDS" (.tup ((["call", "exit", "move", "proc"] : List Str).map D.str)) := g.tup 57 ["call", "exit", "move", "proc"] g.ex
def N_is_int : List Str := ["thing"]
theorem nd_is_int : N_is_int.Nodup := by decide +kernel
def P_is_int : List Str := ["thing"]
theorem sc_is_int : FnScope N_is_int P_is_int (defScope Hd.s_is_int) := fsc_of (by decide +kernel)
abbrev dd_is_int : He.DefD := ⟨("is_int", none), "is_int", "is_int", defArgs Hd.s_is_int, defBody Hd.s_is_int, defScope Hd.s_is_int, [], []⟩
noncomputable def m_is_int : M Fl := seqS (retM (andV (isiM "int" (getM 0)) (notV (isiM "bool" (getM 0))))) (pur .nx)
noncomputable def g_is_int : FSem := semF N_is_int.length m_is_int
theorem c_is_int {P : Program} {w : World} {base : Heap} {K : PySem.W.Frag} {mg : Str → Option Value} (g : Gd Hd.faL Hd.fnL Hd.exB K mg) : Cal P w K mg base 1 "is_int" 1 g_is_int :=
  g.cal (d := dd_is_int) (ps := P_is_int) (N := N_is_int) 0 0 (S := sc_is_int) (hb := (fun _ _ _ _ _ _ us hl => match us, hl with | [_], _ => rfl)) (hm := fun f cdv A outer s H E hr => (dss_cons (ds_ret (de_and (de_isi (fun _ => g.fre 44) (fun _ => g.fre 43) boot_int (de_var 0)) (de_one (de_not (de_isi (fun _ => g.fre 44) (fun _ => g.fre 41) boot_bool (de_var 0)))))) (dss_nil) : DSs (bodyX P w K mg base N_is_int dd_is_int f cdv A outer s H E) K E0x (dd_is_int).body m_is_int))
def N_is_row : List Str := ["thing", "low", "high"]
theorem nd_is_row : N_is_row.Nodup := by decide +kernel
def P_is_row : List Str := ["thing", "low", "high"]
theorem sc_is_row : FnScope N_is_row P_is_row (defScope Hd.s_is_row) := fsc_of (by decide +kernel)
abbrev dd_is_row : He.DefD := ⟨("is_row", none), "is_row", "is_row", defArgs Hd.s_is_row, defBody Hd.s_is_row, defScope Hd.s_is_row, [], []⟩
noncomputable def m_is_row : M Fl := seqS (retM (andV (isiM "tuple" (getM 0)) (chn leD leD (getM 1) (calM lenC (consM (getM 0) (pur []))) (getM 2)))) (pur .nx)
noncomputable def g_is_row : FSem := semF N_is_row.length m_is_row
theorem c_is_row {P : Program} {w : World} {base : Heap} {K : PySem.W.Frag} {mg : Str → Option Value} (g : Gd Hd.faL Hd.fnL Hd.exB K mg) : Cal P w K mg base 1 "is_row" 3 g_is_row :=
  g.cal (d := dd_is_row) (ps := P_is_row) (N := N_is_row) 2 2 (S := sc_is_row) (hb := (fun _ _ _ _ _ _ us hl => match us, hl with | [_, _, _], _ => rfl)) (hm := fun f cdv A outer s H E hr => (dss_cons (ds_ret (de_and (de_isi (fun _ => g.fre 44) (fun _ => g.fre 54) boot_tuple (de_var 0)) (de_one (de_chnLL (de_var 1) (de_len (fun _ => g.fre 45) (da_cons (de_var 0) (da_nil))) (de_var 2))))) (dss_nil) : DSs (bodyX P w K mg base N_is_row dd_is_row f cdv A outer s H E) K E0x (dd_is_row).body m_is_row))
def N_is_low_name : List Str := ["thing", "sign"]
theorem nd_is_low_name : N_is_low_name.Nodup := by decide +kernel
def P_is_low_name : List Str := ["thing"]
theorem sc_is_low_name : FnScope N_is_low_name P_is_low_name (defScope Hd.s_is_low_name) := fsc_of (by decide +kernel)
abbrev dd_is_low_name : He.DefD := ⟨("is_low_name", none), "is_low_name", "is_low_name", defArgs Hd.s_is_low_name, defBody Hd.s_is_low_name, defScope Hd.s_is_low_name, [], []⟩
noncomputable def m_is_low_name : M Fl := seqS (iteS (orT (notT (tst (isiM "str" (getM 0)))) (orT (notT (tst (chn leD leD (pur (.int 1)) (calM lenC (consM (getM 0) (pur []))) (pur (.int 10))))) (tst (bin inO (getM 0) (pur (.tup ((["call", "exit", "move", "proc"] : List Str).map D.str))))))) (seqS (retM (pur (.bl false))) (pur .nx)) (pur .nx)) (seqS (retM (andV (bin inO (ixM 0 (pur (.int 0))) (pur (.str "abcdefghijklmnopqrstuvwxyz"))) (calM allC (consM (frzM (lcO [1] (itemsS (getM 0)) (putM 1) (pur true) (orV (bin inO (getM 1) (pur (.str "abcdefghijklmnopqrstuvwxyz"))) (bin inO (getM 1) (pur (.str "0123456789")))))) (pur []))))) (pur .nx))
noncomputable def g_is_low_name : FSem := semF N_is_low_name.length m_is_low_name
theorem c_is_low_name {P : Program} {w : World} {base : Heap} {K : PySem.W.Frag} {mg : Str → Option Value} (g : Gd Hd.faL Hd.fnL Hd.exB K mg) : Cal P w K mg base 1 "is_low_name" 1 g_is_low_name :=
  g.cal (d := dd_is_low_name) (ps := P_is_low_name) (N := N_is_low_name) 3 3 (S := sc_is_low_name) (hb := (fun _ _ _ _ _ _ us hl => match us, hl with | [_], _ => rfl)) (hm := fun f cdv A outer s H E hr => (dss_cons (ds_if (dt_w (dw_or (dt_not (dt_val (de_isi (fun _ => g.fre 44) (fun _ => g.fre 51) boot_str (de_var 0)))) (dw_or (dt_not (dt_chnLL (de_int) (de_len (fun _ => g.fre 45) (da_cons (de_var 0) (da_nil))) (de_glob (g.int 58)))) (dw_or1 (dt_in (fun _ => u65 hr) (de_var 0) (de_glob (gt_WORDS g))))))) (dss_cons (ds_ret (de_bl)) (dss_nil)) (dss_nil)) (dss_cons (ds_ret (de_and (de_in (fun _ => u65 hr) (de_ixN 0 (de_int)) (de_glob (g.str 55))) (de_one (de_all (fun _ => g.fre 39) (da_cons (de_dl (dl_lc (own := [("sign", 1)]) (di_str (de_var 0)) (dg_name 1 (fun _ => nd_is_low_name)) (dts_nil) (de_or (de_in (fun _ => u65 hr) (de_var 1) (de_glob (g.str 55))) (de_one (de_in (fun _ => u65 hr) (de_var 1) (de_glob (g.str 56))))) (by simp) (fun _ => blk_of (N := N_is_low_name) (sc := defScope Hd.s_is_low_name) (by decide +kernel) rfl rfl) (fun _ => nd_is_low_name))) (da_nil)))))) (dss_nil)) : DSs (bodyX P w K mg base N_is_low_name dd_is_low_name f cdv A outer s H E) K E0x (dd_is_low_name).body m_is_low_name))
def N_flat : List Str := ["program", "entry", "place"]
theorem nd_flat : N_flat.Nodup := by decide +kernel
def P_flat : List Str := ["program"]
theorem sc_flat : FnScope N_flat P_flat (defScope Hd.s_flat) := fsc_of (by decide +kernel)
abbrev dd_flat : He.DefD := ⟨("flat", none), "flat", "flat", defArgs Hd.s_flat, defBody Hd.s_flat, defScope Hd.s_flat, [], []⟩
noncomputable def m_flat : M Fl := seqS (retM (frzM (lcO2 [1, 2] [2] (itemsT (getM 0)) (putM 1) (pur true) (itemsT (ixM 1 (pur (.int 2)))) (putM 2) (pur true) (getM 2)))) (pur .nx)
noncomputable def g_flat : FSem := semF N_flat.length m_flat
theorem c_flat {P : Program} {w : World} {base : Heap} {K : PySem.W.Frag} {mg : Str → Option Value} (g : Gd Hd.faL Hd.fnL Hd.exB K mg) : Cal P w K mg base 1 "flat" 1 g_flat :=
  g.cal (d := dd_flat) (ps := P_flat) (N := N_flat) 4 4 (S := sc_flat) (hb := (fun _ _ _ _ _ _ us hl => match us, hl with | [_], _ => rfl)) (hm := fun f cdv A outer s H E hr => (dss_cons (ds_ret (de_dl (dl_lc2 (own := [("entry", 1), ("place", 2)]) (vs1 := [2]) (di_tup (de_var 0)) (dg_name 1 (fun _ => nd_flat)) (dts_nil) (di_tup (de_ixN 1 (de_int))) (dg_name 2 (fun _ => nd_flat)) (dts_nil) (de_var 2) (by simp) (by simp) (by simp) (fun _ => blk_of (N := N_flat) (sc := defScope Hd.s_flat) (by decide +kernel) rfl rfl) (fun _ => nd_flat)))) (dss_nil) : DSs (bodyX P w K mg base N_flat dd_flat f cdv A outer s H E) K E0x (dd_flat).body m_flat))
def N_exits_at : List Str := ["program", "entry"]
theorem nd_exits_at : N_exits_at.Nodup := by decide +kernel
def P_exits_at : List Str := ["program"]
theorem sc_exits_at : FnScope N_exits_at P_exits_at (defScope Hd.s_exits_at) := fsc_of (by decide +kernel)
abbrev dd_exits_at : He.DefD := ⟨("exits_at", none), "exits_at", "exits_at", defArgs Hd.s_exits_at, defBody Hd.s_exits_at, defScope Hd.s_exits_at, [], []⟩
noncomputable def m_exits_at : M Fl := seqS (retM (frzM (lcO [1] (itemsT (getM 0)) (putM 1) (pur true) (ixM 1 (pur (.int 1)))))) (pur .nx)
noncomputable def g_exits_at : FSem := semF N_exits_at.length m_exits_at
theorem c_exits_at {P : Program} {w : World} {base : Heap} {K : PySem.W.Frag} {mg : Str → Option Value} (g : Gd Hd.faL Hd.fnL Hd.exB K mg) : Cal P w K mg base 1 "exits_at" 1 g_exits_at :=
  g.cal (d := dd_exits_at) (ps := P_exits_at) (N := N_exits_at) 5 5 (S := sc_exits_at) (hb := (fun _ _ _ _ _ _ us hl => match us, hl with | [_], _ => rfl)) (hm := fun f cdv A outer s H E hr => (dss_cons (ds_ret (de_dl (dl_lc (own := [("entry", 1)]) (di_tup (de_var 0)) (dg_name 1 (fun _ => nd_exits_at)) (dts_nil) (de_ixN 1 (de_int)) (by simp) (fun _ => blk_of (N := N_exits_at) (sc := defScope Hd.s_exits_at) (by decide +kernel) rfl rfl) (fun _ => nd_exits_at)))) (dss_nil) : DSs (bodyX P w K mg base N_exits_at dd_exits_at f cdv A outer s H E) K E0x (dd_exits_at).body m_exits_at))
def N_starts_of : List Str := ["program", "found", "entry"]
theorem nd_starts_of : N_starts_of.Nodup := by decide +kernel
def P_starts_of : List Str := ["program"]
theorem sc_starts_of : FnScope N_starts_of P_starts_of (defScope Hd.s_starts_of) := fsc_of (by decide +kernel)
abbrev dd_starts_of : He.DefD := ⟨("starts_of", none), "starts_of", "starts_of", defArgs Hd.s_starts_of, defBody Hd.s_starts_of, defScope Hd.s_starts_of, [], []⟩
noncomputable def m_starts_of : M Fl := seqS (setOM 1 (lstO (consM (pur (.int 0)) (pur [])))) (seqS (Ly.forM (itemsT (getM 0)) (putM 2) (seqS (appM 1 (bin addD (ixM 1 (pur (.int (-1)))) (calM lenC (consM (ixM 2 (pur (.int 2))) (pur []))))) (pur .nx))) (seqS (retN 1) (pur .nx)))
noncomputable def g_starts_of : FSem := semF N_starts_of.length m_starts_of
theorem c_starts_of {P : Program} {w : World} {base : Heap} {K : PySem.W.Frag} {mg : Str → Option Value} (g : Gd Hd.faL Hd.fnL Hd.exB K mg) : Cal P w K mg base 1 "starts_of" 1 g_starts_of :=
  g.cal (d := dd_starts_of) (ps := P_starts_of) (N := N_starts_of) 6 6 (S := sc_starts_of) (hb := (fun _ _ _ _ _ _ us hl => match us, hl with | [_], _ => rfl)) (hm := fun f cdv A outer s H E hr => (dss_cons (ds_setO 1 (do_lst (da_cons (de_int) (da_nil))) (fun _ => nd_starts_of)) (dss_cons (ds_for (di_tup (de_var 0)) (dg_name 2 (fun _ => nd_starts_of)) (dss_cons (ds_app 1 (de_add (de_ixN 1 (de_neg)) (de_len (fun _ => g.fre 45) (da_cons (de_ixN 2 (de_int)) (da_nil))))) (dss_nil)) (fun _ => pown)) (dss_cons (ds_retO 1) (dss_nil))) : DSs (bodyX P w K mg base N_starts_of dd_starts_of f cdv A outer s H E) K E0x (dd_starts_of).body m_starts_of))
def N_used_by : List Str := ["what"]
theorem nd_used_by : N_used_by.Nodup := by decide +kernel
def P_used_by : List Str := ["what"]
theorem sc_used_by : FnScope N_used_by P_used_by (defScope Hd.s_used_by) := fsc_of (by decide +kernel)
abbrev dd_used_by : He.DefD := ⟨("used_by", none), "used_by", "used_by", defArgs Hd.s_used_by, defBody Hd.s_used_by, defScope Hd.s_used_by, [], []⟩
noncomputable def m_used_by : M Fl := seqS (iteS (tst (bin eqO (ixM 0 (pur (.int 0))) (pur (.str "move")))) (seqS (retM (ixM 0 (pur (.int 2)))) (pur .nx)) (pur .nx)) (seqS (iteS (tst (bin eqO (ixM 0 (pur (.int 0))) (pur (.str "call")))) (seqS (retM (tupM (consM (ixM 0 (pur (.int 1))) (consM (bin ixD (ixM 0 (pur (.int 2))) (pur (.int 0))) (pur []))))) (pur .nx)) (pur .nx)) (seqS (retM (tupM (pur []))) (pur .nx)))
noncomputable def g_used_by : FSem := semF N_used_by.length m_used_by
theorem c_used_by {P : Program} {w : World} {base : Heap} {K : PySem.W.Frag} {mg : Str → Option Value} (g : Gd Hd.faL Hd.fnL Hd.exB K mg) : Cal P w K mg base 1 "used_by" 1 g_used_by :=
  g.cal (d := dd_used_by) (ps := P_used_by) (N := N_used_by) 18 18 (S := sc_used_by) (hb := (fun _ _ _ _ _ _ us hl => match us, hl with | [_], _ => rfl)) (hm := fun f cdv A outer s H E hr => (dss_cons (ds_if (dt_eq (fun _ => u65 hr) (de_ixN 0 (de_int)) (de_str)) (dss_cons (ds_ret (de_ixN 0 (de_int))) (dss_nil)) (dss_nil)) (dss_cons (ds_if (dt_eq (fun _ => u65 hr) (de_ixN 0 (de_int)) (de_str)) (dss_cons (ds_ret (de_tup (da_cons (de_ixN 0 (de_int)) (da_cons (de_ix (de_ixN 0 (de_int)) (de_int)) (da_nil))))) (dss_nil)) (dss_nil)) (dss_cons (ds_ret (de_tup (da_nil))) (dss_nil))) : DSs (bodyX P w K mg base N_used_by dd_used_by f cdv A outer s H E) K E0x (dd_used_by).body m_used_by))
def N_is_right_entry : List Str := ["what", "player", "price", "entry", "used", "known", "lowest", "rest", "one"]
theorem nd_is_right_entry : N_is_right_entry.Nodup := by decide +kernel
def P_is_right_entry : List Str := ["what", "player", "price", "entry", "used"]
theorem sc_is_right_entry : FnScope N_is_right_entry P_is_right_entry (defScope Hd.s_is_right_entry) := fsc_of (by decide +kernel)
abbrev dd_is_right_entry : He.DefD := ⟨("is_right_entry", none), "is_right_entry", "is_right_entry", defArgs Hd.s_is_right_entry, defBody Hd.s_is_right_entry, defScope Hd.s_is_right_entry, [], []⟩
noncomputable def m_is_right_entry : M Fl := seqS (asgM (frzM (lcO [8] (itemsL (getM 4)) (putM 8) (tst (bin isnO (getM 8) (pur .non))) (getM 8))) (putM 5)) (seqS (iteS (andT (tst (bin eqO (ixM 0 (pur (.int 0))) (pur (.str "move")))) (tst (bin eqO (ixM 0 (pur (.int 1))) (getM 1)))) (seqS (iteS (orT (tst (bin isO (getM 3) (pur .non))) (tst (bin eqO (getM 5) (lstM (pur []))))) (seqS (retM (andV (bin isO (getM 3) (pur .non)) (bin eqO (getM 5) (lstM (pur []))))) (pur .nx)) (pur .nx)) (seqS (asgM (calM minC (consM (frzM (lcO [8] (itemsL (getM 5)) (putM 8) (pur true) (ixM 8 (pur (.int 0))))) (pur []))) (putM 6)) (seqS (retM (andV (bin eqO (ixM 3 (pur (.int 0))) (bin addD (getM 2) (getM 6))) (calM anyC (consM (frzM (lcO [8] (itemsL (getM 5)) (putM 8) (pur true) (andV (bin eqO (ixM 8 (pur (.int 0))) (getM 6)) (bin ltD (ixM 8 (pur (.int 1))) (ixM 3 (pur (.int 1))))))) (pur []))))) (pur .nx)))) (pur .nx)) (seqS (iteS (orT (tst (bin isO (getM 3) (pur .non))) (tst (bin ltD (calM lenC (consM (getM 5) (pur []))) (calM lenC (consM (getM 4) (pur [])))))) (seqS (retM (andV (bin isO (getM 3) (pur .non)) (bin ltD (calM lenC (consM (getM 5) (pur []))) (calM lenC (consM (getM 4) (pur [])))))) (pur .nx)) (pur .nx)) (seqS (iteS (notT (tst (calM allC (consM (frzM (lcO [8] (itemsL (getM 4)) (putM 8) (pur true) (bin ltD (ixM 8 (pur (.int 1))) (ixM 3 (pur (.int 1)))))) (pur []))))) (seqS (retM (pur (.bl false))) (pur .nx)) (pur .nx)) (seqS (iteS (tst (bin eqO (ixM 0 (pur (.int 0))) (pur (.str "exit")))) (seqS (retM (bin eqO (ixM 3 (pur (.int 0))) (getM 2))) (pur .nx)) (pur .nx)) (seqS (asgM (frzM (lcO [8] (itemsL (getM 4)) (putM 8) (pur true) (ixM 8 (pur (.int 0))))) (putM 7)) (seqS (retM (bin eqO (ixM 3 (pur (.int 0))) (bin addD (getM 2) (ifE (tst (bin eqO (ixM 0 (pur (.int 0))) (pur (.str "move")))) (calM maxC (consM (getM 7) (pur []))) (calM sumC (consM (getM 7) (pur []))))))) (pur .nx)))))))
noncomputable def g_is_right_entry : FSem := semF N_is_right_entry.length m_is_right_entry
theorem c_is_right_entry {P : Program} {w : World} {base : Heap} {K : PySem.W.Frag} {mg : Str → Option Value} (g : Gd Hd.faL Hd.fnL Hd.exB K mg) : Cal P w K mg base 1 "is_right_entry" 5 g_is_right_entry :=
  g.cal (d := dd_is_right_entry) (ps := P_is_right_entry) (N := N_is_right_entry) 20 20 (S := sc_is_right_entry) (hb := (fun _ _ _ _ _ _ us hl => match us, hl with | [_, _, _, _, _], _ => rfl)) (hm := fun f cdv A outer s H E hr => (dss_cons (ds_setL 5 (dl_lc (own := [("one", 8)]) (di_list (de_var 4)) (dg_name 8 (fun _ => nd_is_right_entry)) (dts_one (dt_isn (de_var 8) (de_non))) (de_var 8) (by simp) (fun _ => blk_of (N := N_is_right_entry) (sc := defScope Hd.s_is_right_entry) (by decide +kernel) rfl rfl) (fun _ => nd_is_right_entry))) (dss_cons (ds_if (dt_w (dw_and (dt_eq (fun _ => u65 hr) (de_ixN 0 (de_int)) (de_str)) (dw_and1 (dt_eq (fun _ => u65 hr) (de_ixN 0 (de_int)) (de_var 1))))) (dss_cons (ds_if (dt_w (dw_or (dt_is (de_var 3) (de_non)) (dw_or1 (dt_eq (fun _ => u65 hr) (de_var 5) (de_lst (da_nil)))))) (dss_cons (ds_ret (de_and (de_is (de_var 3) (de_non)) (de_one (de_eq (fun _ => u65 hr) (de_var 5) (de_lst (da_nil)))))) (dss_nil)) (dss_nil)) (dss_cons (ds_set 6 (de_min (fun _ => g.fre 48) (da_cons (de_dl (dl_lc (own := [("one", 8)]) (di_list (de_var 5)) (dg_name 8 (fun _ => nd_is_right_entry)) (dts_nil) (de_ixN 8 (de_int)) (by simp) (fun _ => blk_of (N := N_is_right_entry) (sc := defScope Hd.s_is_right_entry) (by decide +kernel) rfl rfl) (fun _ => nd_is_right_entry))) (da_nil))) (fun _ => nd_is_right_entry)) (dss_cons (ds_ret (de_and (de_eq (fun _ => u65 hr) (de_ixN 3 (de_int)) (de_add (de_var 2) (de_var 6))) (de_one (de_any (fun _ => g.fre 40) (da_cons (de_dl (dl_lc (own := [("one", 8)]) (di_list (de_var 5)) (dg_name 8 (fun _ => nd_is_right_entry)) (dts_nil) (de_and (de_eq (fun _ => u65 hr) (de_ixN 8 (de_int)) (de_var 6)) (de_one (de_lt (de_ixN 8 (de_int)) (de_ixN 3 (de_int))))) (by simp) (fun _ => blk_of (N := N_is_right_entry) (sc := defScope Hd.s_is_right_entry) (by decide +kernel) rfl rfl) (fun _ => nd_is_right_entry))) (da_nil)))))) (dss_nil)))) (dss_nil)) (dss_cons (ds_if (dt_w (dw_or (dt_is (de_var 3) (de_non)) (dw_or1 (dt_lt (de_len (fun _ => g.fre 45) (da_cons (de_var 5) (da_nil))) (de_len (fun _ => g.fre 45) (da_cons (de_var 4) (da_nil))))))) (dss_cons (ds_ret (de_and (de_is (de_var 3) (de_non)) (de_one (de_lt (de_len (fun _ => g.fre 45) (da_cons (de_var 5) (da_nil))) (de_len (fun _ => g.fre 45) (da_cons (de_var 4) (da_nil))))))) (dss_nil)) (dss_nil)) (dss_cons (ds_if (dt_not (dt_val (de_all (fun _ => g.fre 39) (da_cons (de_dl (dl_lc (own := [("one", 8)]) (di_list (de_var 4)) (dg_name 8 (fun _ => nd_is_right_entry)) (dts_nil) (de_lt (de_ixN 8 (de_int)) (de_ixN 3 (de_int))) (by simp) (fun _ => blk_of (N := N_is_right_entry) (sc := defScope Hd.s_is_right_entry) (by decide +kernel) rfl rfl) (fun _ => nd_is_right_entry))) (da_nil))))) (dss_cons (ds_ret (de_bl)) (dss_nil)) (dss_nil)) (dss_cons (ds_if (dt_eq (fun _ => u65 hr) (de_ixN 0 (de_int)) (de_str)) (dss_cons (ds_ret (de_eq (fun _ => u65 hr) (de_ixN 3 (de_int)) (de_var 2))) (dss_nil)) (dss_nil)) (dss_cons (ds_setL 7 (dl_lc (own := [("one", 8)]) (di_list (de_var 4)) (dg_name 8 (fun _ => nd_is_right_entry)) (dts_nil) (de_ixN 8 (de_int)) (by simp) (fun _ => blk_of (N := N_is_right_entry) (sc := defScope Hd.s_is_right_entry) (by decide +kernel) rfl rfl) (fun _ => nd_is_right_entry))) (dss_cons (ds_ret (de_eq (fun _ => u65 hr) (de_ixN 3 (de_int)) (de_add (de_var 2) (de_if (dt_eq (fun _ => u65 hr) (de_ixN 0 (de_int)) (de_str)) (de_max (fun _ => g.fre 47) (da_cons (de_var 7) (da_nil))) (de_sum (fun _ => g.fre 52) (da_cons (de_var 7) (da_nil))))))) (dss_nil))))))) : DSs (bodyX P w K mg base N_is_right_entry dd_is_right_entry f cdv A outer s H E) K E0x (dd_is_right_entry).body m_is_right_entry))
def N_law_jug : List Str := ["script"]
theorem nd_law_jug : N_law_jug.Nodup := by decide +kernel
def P_law_jug : List Str := ["script"]
theorem sc_law_jug : FnScope N_law_jug P_law_jug (defScope Hd.s_law_jug) := fsc_of (by decide +kernel)
abbrev dd_law_jug : He.DefD := ⟨("_law_jug", none), "_law_jug", "_law_jug", defArgs Hd.s_law_jug, defBody Hd.s_law_jug, defScope Hd.s_law_jug, [], []⟩
noncomputable def m_law_jug : M Fl := seqS (retOM (lstO (consM (calM listC (consM (getM 0) (pur []))) (consM (pur (.int 0)) (consM (pur (.int 0)) (pur [])))))) (pur .nx)
noncomputable def g_law_jug : FSem := semF N_law_jug.length m_law_jug
theorem c_law_jug {P : Program} {w : World} {base : Heap} {K : PySem.W.Frag} {mg : Str → Option Value} (g : Gd Hd.faL Hd.fnL Hd.exB K mg) : Cal P w K mg base 1 "_law_jug" 1 g_law_jug :=
  g.cal (d := dd_law_jug) (ps := P_law_jug) (N := N_law_jug) 22 22 (S := sc_law_jug) (hb := (fun _ _ _ _ _ _ us hl => match us, hl with | [_], _ => rfl)) (hm := fun f cdv A outer s H E hr => (dss_cons (ds_retF (do_lst (da_cons (de_list (fun _ => g.fre 46) (da_cons (de_var 0) (da_nil))) (da_cons (de_int) (da_cons (de_int) (da_nil)))))) (dss_nil) : DSs (bodyX P w K mg base N_law_jug dd_law_jug f cdv A outer s H E) K E0x (dd_law_jug).body m_law_jug))
def N_law_take : List Str := ["jug", "many", "at", "cell", "got"]
theorem nd_law_take : N_law_take.Nodup := by decide +kernel
def P_law_take : List Str := ["jug", "many"]
theorem sc_law_take : FnScope N_law_take P_law_take (defScope Hd.s_law_take) := fsc_of (by decide +kernel)
abbrev dd_law_take : He.DefD := ⟨("_law_take", none), "_law_take", "_law_take", defArgs Hd.s_law_take, defBody Hd.s_law_take, defScope Hd.s_law_take, [], []⟩
noncomputable def m_law_take : M Fl := seqS (iteS (tst (bin eqO (ixM 0 (pur (.int 2))) (pur (.int 0)))) (seqS (asgM (ixM 0 (pur (.int 1))) (putM 2)) (seqS (asgM (bin addD (bin mulD (pur (.int 3)) (getM 2)) (pur (.int 5))) (putM 3)) (seqS (iteS (tst (bin ltD (getM 2) (calM lenC (consM (ixM 0 (pur (.int 0))) (pur []))))) (seqS (asgM (bin addD (bin mulD (pur (.int 2)) (calM absC (consM (bin ixD (ixM 0 (pur (.int 0))) (getM 2)) (pur [])))) (calM intC (consM (bin ltD (bin ixD (ixM 0 (pur (.int 0))) (getM 2)) (pur (.int 0))) (pur [])))) (putM 3)) (pur .nx)) (pur .nx)) (seqS (iteS (tst (bin ltD (getM 3) (bin powD (pur (.int 10)) (pur (.int 18))))) (seqS (asgM (bin modD (calM intC (consM (bin powD (bin addD (bin addD (bin mulD (getM 3) (pur (.int 2654435761))) (bin mulD (getM 2) (pur (.int 40503)))) (pur (.int 977))) (pur (.int 3))) (pur []))) (pur (.int 618970019642690137449562111))) (putM 3)) (pur .nx)) (pur .nx)) (seqS (setIM 0 (bin addD (getM 2) (pur (.int 1))) (pur (.int 1))) (seqS (setIM 0 (getM 3) (pur (.int 2))) (pur .nx))))))) (pur .nx)) (seqS (asgM (bin modD (calM intC (consM (ixM 0 (pur (.int 2))) (pur []))) (getM 1)) (putM 4)) (seqS (setIM 0 (bin fdivD (ixM 0 (pur (.int 2))) (getM 1)) (pur (.int 2))) (seqS (retM (getM 4)) (pur .nx))))
noncomputable def g_law_take : FSem := semF N_law_take.length m_law_take
theorem c_law_take {P : Program} {w : World} {base : Heap} {K : PySem.W.Frag} {mg : Str → Option Value} (g : Gd Hd.faL Hd.fnL Hd.exB K mg) : Cal P w K mg base 1 "_law_take" 2 g_law_take :=
  g.cal (d := dd_law_take) (ps := P_law_take) (N := N_law_take) 23 23 (S := sc_law_take) (hb := (fun _ _ _ _ _ _ us hl => match us, hl with | [_, _], _ => rfl)) (hm := fun f cdv A outer s H E hr => (dss_cons (ds_if (dt_eq (fun _ => u65 hr) (de_ixN 0 (de_int)) (de_int)) (dss_cons (ds_set 2 (de_ixN 0 (de_int)) (fun _ => nd_law_take)) (dss_cons (ds_set 3 (de_add (de_mul (de_int) (de_var 2)) (de_int)) (fun _ => nd_law_take)) (dss_cons (ds_if (dt_lt (de_var 2) (de_len (fun _ => g.fre 45) (da_cons (de_ixN 0 (de_int)) (da_nil)))) (dss_cons (ds_set 3 (de_add (de_mul (de_int) (de_abs (fun _ => g.fre 38) (da_cons (de_ix (de_ixN 0 (de_int)) (de_var 2)) (da_nil)))) (de_int1 (fun _ => g.fre 43) (da_cons (de_lt (de_ix (de_ixN 0 (de_int)) (de_var 2)) (de_int)) (da_nil)))) (fun _ => nd_law_take)) (dss_nil)) (dss_nil)) (dss_cons (ds_if (dt_lt (de_var 3) (de_pow (de_int) (de_int))) (dss_cons (ds_set 3 (de_mod (de_int1 (fun _ => g.fre 43) (da_cons (de_pow (de_add (de_add (de_mul (de_var 3) (de_int)) (de_mul (de_var 2) (de_int))) (de_int)) (de_int)) (da_nil))) (de_int)) (fun _ => nd_law_take)) (dss_nil)) (dss_nil)) (dss_cons (ds_setI 0 (de_add (de_var 2) (de_int)) (de_int)) (dss_cons (ds_setI 0 (de_var 3) (de_int)) (dss_nil))))))) (dss_nil)) (dss_cons (ds_set 4 (de_mod (de_int1 (fun _ => g.fre 43) (da_cons (de_ixN 0 (de_int)) (da_nil))) (de_var 1)) (fun _ => nd_law_take)) (dss_cons (ds_setI 0 (de_fdiv (de_ixN 0 (de_int)) (de_var 1)) (de_int)) (dss_cons (ds_ret (de_var 4)) (dss_nil)))) : DSs (bodyX P w K mg base N_law_take dd_law_take f cdv A outer s H E) K E0x (dd_law_take).body m_law_take))
def N_law_int : List Str := ["found"]
theorem nd_law_int : N_law_int.Nodup := by decide +kernel
def P_law_int : List Str := ["found"]
theorem sc_law_int : FnScope N_law_int P_law_int (defScope Hd.s_law_int) := fsc_of (by decide +kernel)
abbrev dd_law_int : He.DefD := ⟨("_law_int", none), "_law_int", "_law_int", defArgs Hd.s_law_int, defBody Hd.s_law_int, defScope Hd.s_law_int, [], []⟩
noncomputable def m_law_int : M Fl := seqS (retM (andV (isiM "int" (getM 0)) (notV (isiM "bool" (getM 0))))) (pur .nx)
noncomputable def g_law_int : FSem := semF N_law_int.length m_law_int
theorem c_law_int {P : Program} {w : World} {base : Heap} {K : PySem.W.Frag} {mg : Str → Option Value} (g : Gd Hd.faL Hd.fnL Hd.exB K mg) : Cal P w K mg base 1 "_law_int" 1 g_law_int :=
  g.cal (d := dd_law_int) (ps := P_law_int) (N := N_law_int) 24 24 (S := sc_law_int) (hb := (fun _ _ _ _ _ _ us hl => match us, hl with | [_], _ => rfl)) (hm := fun f cdv A outer s H E hr => (dss_cons (ds_ret (de_and (de_isi (fun _ => g.fre 44) (fun _ => g.fre 43) boot_int (de_var 0)) (de_one (de_not (de_isi (fun _ => g.fre 44) (fun _ => g.fre 41) boot_bool (de_var 0)))))) (dss_nil) : DSs (bodyX P w K mg base N_law_int dd_law_int f cdv A outer s H E) K E0x (dd_law_int).body m_law_int))
def N_law_same : List Str := ["found", "due", "k"]
theorem nd_law_same : N_law_same.Nodup := by decide +kernel
def P_law_same : List Str := ["found", "due"]
theorem sc_law_same : FnScope N_law_same P_law_same (defScope Hd.s_law_same) := fsc_of (by decide +kernel)
abbrev dd_law_same : He.DefD := ⟨("_law_same", none), "_law_same", "_law_same", defArgs Hd.s_law_same, defBody Hd.s_law_same, defScope Hd.s_law_same, [], []⟩
noncomputable def m_law_same (gr : FSem) : M Fl := seqS (iteS (orT (tst (bin isO (getM 1) (pur .non))) (tst (bin isO (getM 0) (pur .non)))) (seqS (retM (andV (bin isO (getM 0) (pur .non)) (bin isO (getM 1) (pur .non)))) (pur .nx)) (pur .nx)) (seqS (iteS (tst (isiM "tuple" (getM 1))) (seqS (iteS (orT (notT (tst (isiM "tuple" (getM 0)))) (tst (bin neO (calM lenC (consM (getM 0) (pur []))) (calM lenC (consM (getM 1) (pur [])))))) (seqS (retM (pur (.bl false))) (pur .nx)) (pur .nx)) (seqS (retM (bin eqO (frzM (lcO [2] (rng1 (consM (calM lenC (consM (getM 1) (pur []))) (pur []))) (putM 2) (notT (tst (calD gr (consV (ixM 0 (getM 2)) (consV (ixM 1 (getM 2)) (pur [])))))) (getM 2))) (lstM (pur [])))) (pur .nx))) (pur .nx)) (seqS (iteS (orT (tst (bin neO (isiM "bool" (getM 0)) (isiM "bool" (getM 1)))) (tst (bin neO (isiM "str" (getM 0)) (isiM "str" (getM 1))))) (seqS (retM (pur (.bl false))) (pur .nx)) (pur .nx)) (seqS (retM (andV (isiTM ["int", "str"] (getM 0)) (bin eqO (getM 0) (getM 1)))) (pur .nx))))
noncomputable def g_law_same : Nat → FSem
  | 0 => fun _ => none
  | k + 1 => semF N_law_same.length (m_law_same (g_law_same k))
theorem c_law_same {P : Program} {w : World} {base : Heap} {K : PySem.W.Frag} {mg : Str → Option Value} (g : Gd Hd.faL Hd.fnL Hd.exB K mg) : ∀ k : Nat, Cal P w K mg base (k + 0) "_law_same" 2 (g_law_same k)
  | 0 => (g.cal0 (d := dd_law_same) (ps := P_law_same) 25 25 (hb := (fun _ _ _ _ _ _ us hl => match us, hl with | [_, _], _ => rfl))).mono (Nat.zero_le _)
  | k + 1 => by
    have cr := c_law_same (P := P) (w := w) (base := base) g k
    exact g.cal (d := dd_law_same) (ps := P_law_same) (N := N_law_same) 25 25 (S := sc_law_same) (hb := (fun _ _ _ _ _ _ us hl => match us, hl with | [_, _], _ => rfl)) (hm := fun f cdv A outer s H E hr => (dss_cons (ds_if (dt_w (dw_or (dt_is (de_var 1) (de_non)) (dw_or1 (dt_is (de_var 0) (de_non))))) (dss_cons (ds_ret (de_and (de_is (de_var 0) (de_non)) (de_one (de_is (de_var 1) (de_non))))) (dss_nil)) (dss_nil)) (dss_cons (ds_if (dt_val (de_isi (fun _ => g.fre 44) (fun _ => g.fre 54) boot_tuple (de_var 1))) (dss_cons (ds_if (dt_w (dw_or (dt_not (dt_val (de_isi (fun _ => g.fre 44) (fun _ => g.fre 54) boot_tuple (de_var 0)))) (dw_or1 (dt_ne (fun _ => u65 hr) (de_len (fun _ => g.fre 45) (da_cons (de_var 0) (da_nil))) (de_len (fun _ => g.fre 45) (da_cons (de_var 1) (da_nil))))))) (dss_cons (ds_ret (de_bl)) (dss_nil)) (dss_nil)) (dss_cons (ds_ret (de_eq (fun _ => u65 hr) (de_dl (dl_lc (own := [("k", 2)]) (di_range1 (fun _ => g.fre 49) (da_cons (de_len (fun _ => g.fre 45) (da_cons (de_var 1) (da_nil))) (da_nil))) (dg_name 2 (fun _ => nd_law_same)) (dts_one (dt_not (dt_val (de_call cr (dr_val (de_ixN 0 (de_var 2)) (dr_val (de_ixN 1 (de_var 2)) (dr_nil))) (fun _ => hr) (Nat.le_refl _))))) (de_var 2) (by simp) (fun _ => blk_of (N := N_law_same) (sc := defScope Hd.s_law_same) (by decide +kernel) rfl rfl) (fun _ => nd_law_same))) (de_lst (da_nil)))) (dss_nil))) (dss_nil)) (dss_cons (ds_if (dt_w (dw_or (dt_ne (fun _ => u65 hr) (de_isi (fun _ => g.fre 44) (fun _ => g.fre 41) boot_bool (de_var 0)) (de_isi (fun _ => g.fre 44) (fun _ => g.fre 41) boot_bool (de_var 1))) (dw_or1 (dt_ne (fun _ => u65 hr) (de_isi (fun _ => g.fre 44) (fun _ => g.fre 51) boot_str (de_var 0)) (de_isi (fun _ => g.fre 44) (fun _ => g.fre 51) boot_str (de_var 1)))))) (dss_cons (ds_ret (de_bl)) (dss_nil)) (dss_nil)) (dss_cons (ds_ret (de_and (de_isi2 (fun _ => g.fre 44) (fun _ => g.fre 43) boot_int (fun _ => g.fre 51) boot_str (de_var 0)) (de_one (de_eq (fun _ => u65 hr) (de_var 0) (de_var 1))))) (dss_nil)))) : DSs (bodyX P w K mg base N_law_same dd_law_same f cdv A outer s H E) K E0x (dd_law_same).body (m_law_same (g_law_same k))))
def N_law_flat : List Str := ["program", "found", "name", "exits", "places"]
theorem nd_law_flat : N_law_flat.Nodup := by decide +kernel
def P_law_flat : List Str := ["program"]
theorem sc_law_flat : FnScope N_law_flat P_law_flat (defScope Hd.s_law_flat) := fsc_of (by decide +kernel)
abbrev dd_law_flat : He.DefD := ⟨("_law_flat", none), "_law_flat", "_law_flat", defArgs Hd.s_law_flat, defBody Hd.s_law_flat, defScope Hd.s_law_flat, [], []⟩
noncomputable def m_law_flat : M Fl := seqS (asgM (lstM (pur [])) (putM 1)) (seqS (Ly.forM (itemsT (getM 0)) (gtup 3 (gcons (putM 2) (gcons (putM 3) (gcons (putM 4) (gnil))))) (seqS (asgM (bin addD (getM 1) (calM listC (consM (getM 4) (pur [])))) (putM 1)) (pur .nx))) (seqS (retM (getM 1)) (pur .nx)))
noncomputable def g_law_flat : FSem := semF N_law_flat.length m_law_flat
theorem c_law_flat {P : Program} {w : World} {base : Heap} {K : PySem.W.Frag} {mg : Str → Option Value} (g : Gd Hd.faL Hd.fnL Hd.exB K mg) : Cal P w K mg base 1 "_law_flat" 1 g_law_flat :=
  g.cal (d := dd_law_flat) (ps := P_law_flat) (N := N_law_flat) 28 28 (S := sc_law_flat) (hb := (fun _ _ _ _ _ _ us hl => match us, hl with | [_], _ => rfl)) (hm := fun f cdv A outer s H E hr => (dss_cons (ds_set 1 (de_lst (da_nil)) (fun _ => nd_law_flat)) (dss_cons (ds_for (di_tup (de_var 0)) (dg_tup (dgs_cons (dg_name 2 (fun _ => nd_law_flat)) (dgs_cons (dg_name 3 (fun _ => nd_law_flat)) (dgs_cons (dg_name 4 (fun _ => nd_law_flat)) (dgs_nil))))) (dss_cons (ds_set 1 (de_add (de_var 1) (de_list (fun _ => g.fre 46) (da_cons (de_var 4) (da_nil)))) (fun _ => nd_law_flat)) (dss_nil)) (fun _ => pown)) (dss_cons (ds_ret (de_var 1)) (dss_nil))) : DSs (bodyX P w K mg base N_law_flat dd_law_flat f cdv A outer s H E) K E0x (dd_law_flat).body m_law_flat))
def N_law_price_at : List Str := ["places", "player", "prices", "sheet", "v", "what", "told", "least", "w", "one"]
theorem nd_law_price_at : N_law_price_at.Nodup := by decide +kernel
def P_law_price_at : List Str := ["places", "player", "prices", "sheet", "v"]
theorem sc_law_price_at : FnScope N_law_price_at P_law_price_at (defScope Hd.s_law_price_at) := fsc_of (by decide +kernel)
abbrev dd_law_price_at : He.DefD := ⟨("_law_price_at", none), "_law_price_at", "_law_price_at", defArgs Hd.s_law_price_at, defBody Hd.s_law_price_at, defScope Hd.s_law_price_at, [], []⟩
noncomputable def m_law_price_at : M Fl := seqS (asgM (bin ixD (ixM 0 (getM 4)) (pur (.int 1))) (putM 5)) (seqS (iteS (tst (bin eqO (ixM 5 (pur (.int 0))) (pur (.str "exit")))) (seqS (retM (tupM (consM (ixM 2 (getM 4)) (consM (lstM (pur [])) (pur []))))) (pur .nx)) (pur .nx)) (seqS (iteS (tst (bin eqO (ixM 5 (pur (.int 0))) (pur (.str "call")))) (seqS (asgM (lstM (consM (ixM 3 (ixM 5 (pur (.int 1)))) (consM (ixM 3 (bin ixD (ixM 5 (pur (.int 2))) (pur (.int 0)))) (pur [])))) (putM 6)) (seqS (iteS (tst (bin inO (pur .non) (getM 6))) (seqS (retM (pur .non)) (pur .nx)) (pur .nx)) (seqS (retM (tupM (consM (bin addD (bin addD (ixM 2 (getM 4)) (bin ixD (ixM 6 (pur (.int 0))) (pur (.int 0)))) (bin ixD (ixM 6 (pur (.int 1))) (pur (.int 0)))) (consM (lstM (consM (bin ixD (ixM 6 (pur (.int 0))) (pur (.int 1))) (consM (bin ixD (ixM 6 (pur (.int 1))) (pur (.int 1))) (pur [])))) (pur []))))) (pur .nx)))) (pur .nx)) (seqS (asgM (frzM (lcO [8] (itemsT (ixM 5 (pur (.int 2)))) (putM 8) (pur true) (ixM 3 (getM 8)))) (putM 6)) (seqS (iteS (tst (bin neO (ixM 5 (pur (.int 1))) (getM 1))) (seqS (iteS (tst (bin inO (pur .non) (getM 6))) (seqS (retM (pur .non)) (pur .nx)) (pur .nx)) (seqS (retM (tupM (consM (bin addD (ixM 2 (getM 4)) (calM maxC (consM (frzM (lcO [9] (itemsL (getM 6)) (putM 9) (pur true) (ixM 9 (pur (.int 0))))) (pur [])))) (consM (frzM (lcO [9] (itemsL (getM 6)) (putM 9) (pur true) (ixM 9 (pur (.int 1))))) (pur []))))) (pur .nx))) (pur .nx)) (seqS (asgM (frzM (lcO [9] (itemsL (getM 6)) (putM 9) (tst (bin isnO (getM 9) (pur .non))) (getM 9))) (putM 6)) (seqS (iteS (tst (bin eqO (getM 6) (lstM (pur [])))) (seqS (retM (pur .non)) (pur .nx)) (pur .nx)) (seqS (asgM (calM minC (consM (frzM (lcO [9] (itemsL (getM 6)) (putM 9) (pur true) (ixM 9 (pur (.int 0))))) (pur []))) (putM 7)) (seqS (retM (tupM (consM (bin addD (ixM 2 (getM 4)) (getM 7)) (consM (lstM (consM (calM minC (consM (frzM (lcO [9] (itemsL (getM 6)) (putM 9) (tst (bin eqO (ixM 9 (pur (.int 0))) (getM 7))) (ixM 9 (pur (.int 1))))) (pur []))) (pur []))) (pur []))))) (pur .nx)))))))))
noncomputable def g_law_price_at : FSem := semF N_law_price_at.length m_law_price_at
theorem c_law_price_at {P : Program} {w : World} {base : Heap} {K : PySem.W.Frag} {mg : Str → Option Value} (g : Gd Hd.faL Hd.fnL Hd.exB K mg) : Cal P w K mg base 1 "_law_price_at" 5 g_law_price_at :=
  g.cal (d := dd_law_price_at) (ps := P_law_price_at) (N := N_law_price_at) 31 31 (S := sc_law_price_at) (hb := (fun _ _ _ _ _ _ us hl => match us, hl with | [_, _, _, _, _], _ => rfl)) (hm := fun f cdv A outer s H E hr => (dss_cons (ds_set 5 (de_ix (de_ixN 0 (de_var 4)) (de_int)) (fun _ => nd_law_price_at)) (dss_cons (ds_if (dt_eq (fun _ => u65 hr) (de_ixN 5 (de_int)) (de_str)) (dss_cons (ds_ret (de_tup (da_cons (de_ixN 2 (de_var 4)) (da_cons (de_lst (da_nil)) (da_nil))))) (dss_nil)) (dss_nil)) (dss_cons (ds_if (dt_eq (fun _ => u65 hr) (de_ixN 5 (de_int)) (de_str)) (dss_cons (ds_set 6 (de_lst (da_cons (de_ixN 3 (de_ixN 5 (de_int))) (da_cons (de_ixN 3 (de_ix (de_ixN 5 (de_int)) (de_int))) (da_nil)))) (fun _ => nd_law_price_at)) (dss_cons (ds_if (dt_in (fun _ => u65 hr) (de_non) (de_var 6)) (dss_cons (ds_ret (de_non)) (dss_nil)) (dss_nil)) (dss_cons (ds_ret (de_tup (da_cons (de_add (de_add (de_ixN 2 (de_var 4)) (de_ix (de_ixN 6 (de_int)) (de_int))) (de_ix (de_ixN 6 (de_int)) (de_int))) (da_cons (de_lst (da_cons (de_ix (de_ixN 6 (de_int)) (de_int)) (da_cons (de_ix (de_ixN 6 (de_int)) (de_int)) (da_nil)))) (da_nil))))) (dss_nil)))) (dss_nil)) (dss_cons (ds_setL 6 (dl_lc (own := [("w", 8)]) (di_tup (de_ixN 5 (de_int))) (dg_name 8 (fun _ => nd_law_price_at)) (dts_nil) (de_ixN 3 (de_var 8)) (by simp) (fun _ => blk_of (N := N_law_price_at) (sc := defScope Hd.s_law_price_at) (by decide +kernel) rfl rfl) (fun _ => nd_law_price_at))) (dss_cons (ds_if (dt_ne (fun _ => u65 hr) (de_ixN 5 (de_int)) (de_var 1)) (dss_cons (ds_if (dt_in (fun _ => u65 hr) (de_non) (de_var 6)) (dss_cons (ds_ret (de_non)) (dss_nil)) (dss_nil)) (dss_cons (ds_ret (de_tup (da_cons (de_add (de_ixN 2 (de_var 4)) (de_max (fun _ => g.fre 47) (da_cons (de_dl (dl_lc (own := [("one", 9)]) (di_list (de_var 6)) (dg_name 9 (fun _ => nd_law_price_at)) (dts_nil) (de_ixN 9 (de_int)) (by simp) (fun _ => blk_of (N := N_law_price_at) (sc := defScope Hd.s_law_price_at) (by decide +kernel) rfl rfl) (fun _ => nd_law_price_at))) (da_nil)))) (da_cons (de_dl (dl_lc (own := [("one", 9)]) (di_list (de_var 6)) (dg_name 9 (fun _ => nd_law_price_at)) (dts_nil) (de_ixN 9 (de_int)) (by simp) (fun _ => blk_of (N := N_law_price_at) (sc := defScope Hd.s_law_price_at) (by decide +kernel) rfl rfl) (fun _ => nd_law_price_at))) (da_nil))))) (dss_nil))) (dss_nil)) (dss_cons (ds_setL 6 (dl_lc (own := [("one", 9)]) (di_list (de_var 6)) (dg_name 9 (fun _ => nd_law_price_at)) (dts_one (dt_isn (de_var 9) (de_non))) (de_var 9) (by simp) (fun _ => blk_of (N := N_law_price_at) (sc := defScope Hd.s_law_price_at) (by decide +kernel) rfl rfl) (fun _ => nd_law_price_at))) (dss_cons (ds_if (dt_eq (fun _ => u65 hr) (de_var 6) (de_lst (da_nil))) (dss_cons (ds_ret (de_non)) (dss_nil)) (dss_nil)) (dss_cons (ds_set 7 (de_min (fun _ => g.fre 48) (da_cons (de_dl (dl_lc (own := [("one", 9)]) (di_list (de_var 6)) (dg_name 9 (fun _ => nd_law_price_at)) (dts_nil) (de_ixN 9 (de_int)) (by simp) (fun _ => blk_of (N := N_law_price_at) (sc := defScope Hd.s_law_price_at) (by decide +kernel) rfl rfl) (fun _ => nd_law_price_at))) (da_nil))) (fun _ => nd_law_price_at)) (dss_cons (ds_ret (de_tup (da_cons (de_add (de_ixN 2 (de_var 4)) (de_var 7)) (da_cons (de_lst (da_cons (de_min (fun _ => g.fre 48) (da_cons (de_dl (dl_lc (own := [("one", 9)]) (di_list (de_var 6)) (dg_name 9 (fun _ => nd_law_price_at)) (dts_one (dt_eq (fun _ => u65 hr) (de_ixN 9 (de_int)) (de_var 7))) (de_ixN 9 (de_int)) (by simp) (fun _ => blk_of (N := N_law_price_at) (sc := defScope Hd.s_law_price_at) (by decide +kernel) rfl rfl) (fun _ => nd_law_price_at))) (da_nil))) (da_nil))) (da_nil))))) (dss_nil))))))))) : DSs (bodyX P w K mg base N_law_price_at dd_law_price_at f cdv A outer s H E) K E0x (dd_law_price_at).body m_law_price_at))
def N_law_rounded : List Str := ["places", "player", "prices", "costs", "sheet", "v", "what", "told", "used", "w", "one"]
theorem nd_law_rounded : N_law_rounded.Nodup := by decide +kernel
def P_law_rounded : List Str := ["places", "player", "prices", "costs", "sheet", "v"]
theorem sc_law_rounded : FnScope N_law_rounded P_law_rounded (defScope Hd.s_law_rounded) := fsc_of (by decide +kernel)
abbrev dd_law_rounded : He.DefD := ⟨("_law_rounded", none), "_law_rounded", "_law_rounded", defArgs Hd.s_law_rounded, defBody Hd.s_law_rounded, defScope Hd.s_law_rounded, [], []⟩
noncomputable def m_law_rounded : M Fl := seqS (asgM (bin ixD (ixM 0 (getM 5)) (pur (.int 1))) (putM 6)) (seqS (iteS (tst (bin eqO (ixM 6 (pur (.int 0))) (pur (.str "exit")))) (seqS (retM (tupM (consM (ixM 3 (getM 5)) (consM (pur (.int 0)) (pur []))))) (pur .nx)) (pur .nx)) (seqS (iteS (andT (tst (bin eqO (ixM 6 (pur (.int 0))) (pur (.str "move")))) (tst (bin eqO (ixM 6 (pur (.int 1))) (getM 1)))) (seqS (asgM (frzM (lcO [9] (itemsT (ixM 6 (pur (.int 2)))) (putM 9) (andT (tst (bin isnO (ixM 3 (getM 9)) (pur .non))) (tst (bin eqO (bin addD (ixM 2 (getM 5)) (ixM 3 (getM 9))) (ixM 3 (getM 5))))) (ixM 4 (getM 9)))) (putM 7)) (seqS (asgM (frzM (lcO [10] (itemsL (getM 7)) (putM 10) (tst (bin isnO (getM 10) (pur .non))) (ixM 10 (pur (.int 1))))) (putM 7)) (seqS (retM (ifE (tst (bin eqO (getM 7) (lstM (pur [])))) (pur .non) (tupM (consM (ixM 3 (getM 5)) (consM (bin addD (pur (.int 1)) (calM minC (consM (getM 7) (pur [])))) (pur [])))))) (pur .nx)))) (pur .nx)) (seqS (setOM 8 (listO (ixM 6 (pur (.int 2))))) (seqS (iteS (tst (bin eqO (ixM 6 (pur (.int 0))) (pur (.str "call")))) (seqS (appM 8 (ixM 6 (pur (.int 1)))) (pur .nx)) (pur .nx)) (seqS (asgM (frzM (lcO [9] (itemsL (getM 8)) (putM 9) (pur true) (ixM 4 (getM 9)))) (putM 7)) (seqS (retM (ifE (tst (bin inO (pur .non) (getM 7))) (pur .non) (tupM (consM (ixM 3 (getM 5)) (consM (bin addD (pur (.int 1)) (calM maxC (consM (frzM (lcO [10] (itemsL (getM 7)) (putM 10) (pur true) (ixM 10 (pur (.int 1))))) (pur [])))) (pur [])))))) (pur .nx)))))))
noncomputable def g_law_rounded : FSem := semF N_law_rounded.length m_law_rounded
theorem c_law_rounded {P : Program} {w : World} {base : Heap} {K : PySem.W.Frag} {mg : Str → Option Value} (g : Gd Hd.faL Hd.fnL Hd.exB K mg) : Cal P w K mg base 1 "_law_rounded" 6 g_law_rounded :=
  g.cal (d := dd_law_rounded) (ps := P_law_rounded) (N := N_law_rounded) 33 33 (S := sc_law_rounded) (hb := (fun _ _ _ _ _ _ us hl => match us, hl with | [_, _, _, _, _, _], _ => rfl)) (hm := fun f cdv A outer s H E hr => (dss_cons (ds_set 6 (de_ix (de_ixN 0 (de_var 5)) (de_int)) (fun _ => nd_law_rounded)) (dss_cons (ds_if (dt_eq (fun _ => u65 hr) (de_ixN 6 (de_int)) (de_str)) (dss_cons (ds_ret (de_tup (da_cons (de_ixN 3 (de_var 5)) (da_cons (de_int) (da_nil))))) (dss_nil)) (dss_nil)) (dss_cons (ds_if (dt_w (dw_and (dt_eq (fun _ => u65 hr) (de_ixN 6 (de_int)) (de_str)) (dw_and1 (dt_eq (fun _ => u65 hr) (de_ixN 6 (de_int)) (de_var 1))))) (dss_cons (ds_setL 7 (dl_lc (own := [("w", 9)]) (di_tup (de_ixN 6 (de_int))) (dg_name 9 (fun _ => nd_law_rounded)) (dts_one (dt_w (dw_and (dt_isn (de_ixN 3 (de_var 9)) (de_non)) (dw_and1 (dt_eq (fun _ => u65 hr) (de_add (de_ixN 2 (de_var 5)) (de_ixN 3 (de_var 9))) (de_ixN 3 (de_var 5))))))) (de_ixN 4 (de_var 9)) (by simp) (fun _ => blk_of (N := N_law_rounded) (sc := defScope Hd.s_law_rounded) (by decide +kernel) rfl rfl) (fun _ => nd_law_rounded))) (dss_cons (ds_setL 7 (dl_lc (own := [("one", 10)]) (di_list (de_var 7)) (dg_name 10 (fun _ => nd_law_rounded)) (dts_one (dt_isn (de_var 10) (de_non))) (de_ixN 10 (de_int)) (by simp) (fun _ => blk_of (N := N_law_rounded) (sc := defScope Hd.s_law_rounded) (by decide +kernel) rfl rfl) (fun _ => nd_law_rounded))) (dss_cons (ds_ret (de_if (dt_eq (fun _ => u65 hr) (de_var 7) (de_lst (da_nil))) (de_non) (de_tup (da_cons (de_ixN 3 (de_var 5)) (da_cons (de_add (de_int) (de_min (fun _ => g.fre 48) (da_cons (de_var 7) (da_nil)))) (da_nil)))))) (dss_nil)))) (dss_nil)) (dss_cons (ds_setO 8 (do_list (fun _ => g.fre 46) (de_ixN 6 (de_int))) (fun _ => nd_law_rounded)) (dss_cons (ds_if (dt_eq (fun _ => u65 hr) (de_ixN 6 (de_int)) (de_str)) (dss_cons (ds_app 8 (de_ixN 6 (de_int))) (dss_nil)) (dss_nil)) (dss_cons (ds_setL 7 (dl_lc (own := [("w", 9)]) (di_list (de_var 8)) (dg_name 9 (fun _ => nd_law_rounded)) (dts_nil) (de_ixN 4 (de_var 9)) (by simp) (fun _ => blk_of (N := N_law_rounded) (sc := defScope Hd.s_law_rounded) (by decide +kernel) rfl rfl) (fun _ => nd_law_rounded))) (dss_cons (ds_ret (de_if (dt_in (fun _ => u65 hr) (de_non) (de_var 7)) (de_non) (de_tup (da_cons (de_ixN 3 (de_var 5)) (da_cons (de_add (de_int) (de_max (fun _ => g.fre 47) (da_cons (de_dl (dl_lc (own := [("one", 10)]) (di_list (de_var 7)) (dg_name 10 (fun _ => nd_law_rounded)) (dts_nil) (de_ixN 10 (de_int)) (by simp) (fun _ => blk_of (N := N_law_rounded) (sc := defScope Hd.s_law_rounded) (by decide +kernel) rfl rfl) (fun _ => nd_law_rounded))) (da_nil)))) (da_nil)))))) (dss_nil))))))) : DSs (bodyX P w K mg base N_law_rounded dd_law_rounded f cdv A outer s H E) K E0x (dd_law_rounded).body m_law_rounded))
def N_within : List Str := ["thing", "low", "high"]
theorem nd_within : N_within.Nodup := by decide +kernel
def P_within : List Str := ["thing", "low", "high"]
theorem sc_within : FnScope N_within P_within (defScope Hd.s_within) := fsc_of (by decide +kernel)
abbrev dd_within : He.DefD := ⟨("within", none), "within", "within", defArgs Hd.s_within, defBody Hd.s_within, defScope Hd.s_within, [], []⟩
noncomputable def m_within : M Fl := seqS (retM (andV (calD g_is_int (consV (getM 0) (pur []))) (chn leD leD (getM 1) (getM 0) (getM 2)))) (pur .nx)
noncomputable def g_within : FSem := semF N_within.length m_within
theorem c_within {P : Program} {w : World} {base : Heap} {K : PySem.W.Frag} {mg : Str → Option Value} (g : Gd Hd.faL Hd.fnL Hd.exB K mg) : Cal P w K mg base 2 "within" 3 g_within :=
  g.cal (d := dd_within) (ps := P_within) (N := N_within) 1 1 (S := sc_within) (hb := (fun _ _ _ _ _ _ us hl => match us, hl with | [_, _, _], _ => rfl)) (hm := fun f cdv A outer s H E hr => (dss_cons (ds_ret (de_and (de_call (c_is_int g) (dr_val (de_var 0) (dr_nil)) (fun _ => hr)) (de_one (de_chnLL (de_var 1) (de_var 0) (de_var 2))))) (dss_nil) : DSs (bodyX P w K mg base N_within dd_within f cdv A outer s H E) K E0x (dd_within).body m_within))
def N_is_entry_form : List Str := ["thing", "number"]
theorem nd_is_entry_form : N_is_entry_form.Nodup := by decide +kernel
def P_is_entry_form : List Str := ["thing"]
theorem sc_is_entry_form : FnScope N_is_entry_form P_is_entry_form (defScope Hd.s_is_entry_form) := fsc_of (by decide +kernel)
abbrev dd_is_entry_form : He.DefD := ⟨("is_entry_form", none), "is_entry_form", "is_entry_form", defArgs Hd.s_is_entry_form, defBody Hd.s_is_entry_form, defScope Hd.s_is_entry_form, [], []⟩
noncomputable def m_is_entry_form : M Fl := seqS (iteS (tst (bin isO (getM 0) (pur .non))) (seqS (retM (pur (.bl true))) (pur .nx)) (pur .nx)) (seqS (retM (andV (calD g_is_row (consV (getM 0) (consV (pur (.int 2)) (consV (pur (.int 2)) (pur []))))) (calM allC (consM (frzM (lcO [1] (itemsT (getM 0)) (putM 1) (pur true) (andV (calD g_is_int (consV (getM 1) (pur []))) (bin geD (getM 1) (pur (.int 0)))))) (pur []))))) (pur .nx))
noncomputable def g_is_entry_form : FSem := semF N_is_entry_form.length m_is_entry_form
theorem c_is_entry_form {P : Program} {w : World} {base : Heap} {K : PySem.W.Frag} {mg : Str → Option Value} (g : Gd Hd.faL Hd.fnL Hd.exB K mg) : Cal P w K mg base 2 "is_entry_form" 1 g_is_entry_form :=
  g.cal (d := dd_is_entry_form) (ps := P_is_entry_form) (N := N_is_entry_form) 19 19 (S := sc_is_entry_form) (hb := (fun _ _ _ _ _ _ us hl => match us, hl with | [_], _ => rfl)) (hm := fun f cdv A outer s H E hr => (dss_cons (ds_if (dt_is (de_var 0) (de_non)) (dss_cons (ds_ret (de_bl)) (dss_nil)) (dss_nil)) (dss_cons (ds_ret (de_and (de_call (c_is_row g) (dr_val (de_var 0) (dr_val (de_int) (dr_val (de_int) (dr_nil)))) (fun _ => hr)) (de_one (de_all (fun _ => g.fre 39) (da_cons (de_dl (dl_lc (own := [("number", 1)]) (di_tup (de_var 0)) (dg_name 1 (fun _ => nd_is_entry_form)) (dts_nil) (de_and (de_call (c_is_int g) (dr_val (de_var 1) (dr_nil)) (fun _ => hr)) (de_one (de_ge (de_var 1) (de_int)))) (by simp) (fun _ => blk_of (N := N_is_entry_form) (sc := defScope Hd.s_is_entry_form) (by decide +kernel) rfl rfl) (fun _ => nd_is_entry_form))) (da_nil)))))) (dss_nil)) : DSs (bodyX P w K mg base N_is_entry_form dd_is_entry_form f cdv A outer s H E) K E0x (dd_is_entry_form).body m_is_entry_form))
def N_law_what : List Str := ["jug", "counts", "starts", "p", "size", "shape", "nexts", "k", "w", "place", "q", "e"]
theorem nd_law_what : N_law_what.Nodup := by decide +kernel
def P_law_what : List Str := ["jug", "counts", "starts", "p"]
theorem sc_law_what : FnScope N_law_what P_law_what (defScope Hd.s_law_what) := fsc_of (by decide +kernel)
abbrev dd_law_what : He.DefD := ⟨("_law_what", none), "_law_what", "_law_what", defArgs Hd.s_law_what, defBody Hd.s_law_what, defScope Hd.s_law_what, [], []⟩
noncomputable def m_law_what : M Fl := seqS (asgM (bin subD (ixM 2 (bin addD (getM 3) (pur (.int 1)))) (ixM 2 (getM 3))) (putM 4)) (seqS (asgM (calD g_law_take (consS 0 (consV (pur (.int 7)) (pur [])))) (putM 5)) (seqS (iteS (tst (bin ltD (getM 5) (pur (.int 4)))) (seqS (setOM 6 (lstO (pur []))) (seqS (Ly.forM (rng1 (consM (bin addD (pur (.int 1)) (calD g_law_take (consS 0 (consV (pur (.int 3)) (pur []))))) (pur []))) (putM 7) (seqS (asgM (bin addD (ixM 2 (getM 3)) (calD g_law_take (consS 0 (consV (getM 4) (pur []))))) (putM 8)) (seqS (iteS (tst (inOM true (getM 8) 6)) (seqS (appM 6 (getM 8)) (pur .nx)) (pur .nx)) (pur .nx)))) (seqS (retM (tupM (consM (pur (.str "move")) (consM (calD g_law_take (consS 0 (consV (pur (.int 2)) (pur [])))) (consM (tupO 6) (pur [])))))) (pur .nx)))) (pur .nx)) (seqS (iteS (tst (bin ltD (getM 5) (pur (.int 6)))) (seqS (asgM (calD g_law_take (consS 0 (consV (ixM 2 (pur (.int (-1)))) (pur [])))) (putM 9)) (seqS (asgM (calM maxC (consM (frzM (lcO [7] (rng1 (consM (calM lenC (consM (getM 1) (pur []))) (pur []))) (putM 7) (tst (bin leD (ixM 2 (getM 7)) (getM 9))) (getM 7))) (pur []))) (putM 10)) (seqS (retM (tupM (consM (pur (.str "call")) (consM (getM 9) (consM (calM tupleC (consM (frzM (lcO [11] (rng1 (consM (ixM 1 (getM 10)) (pur []))) (putM 11) (pur true) (bin addD (ixM 2 (getM 3)) (calD g_law_take (consS 0 (consV (getM 4) (pur []))))))) (pur []))) (pur [])))))) (pur .nx)))) (pur .nx)) (seqS (retM (tupM (consM (pur (.str "exit")) (consM (calD g_law_take (consS 0 (consV (ixM 1 (getM 3)) (pur [])))) (pur []))))) (pur .nx)))))
noncomputable def g_law_what : FSem := semF N_law_what.length m_law_what
theorem c_law_what {P : Program} {w : World} {base : Heap} {K : PySem.W.Frag} {mg : Str → Option Value} (g : Gd Hd.faL Hd.fnL Hd.exB K mg) : Cal P w K mg base 2 "_law_what" 4 g_law_what :=
  g.cal (d := dd_law_what) (ps := P_law_what) (N := N_law_what) 26 26 (S := sc_law_what) (hb := (fun _ _ _ _ _ _ us hl => match us, hl with | [_, _, _, _], _ => rfl)) (hm := fun f cdv A outer s H E hr => (dss_cons (ds_set 4 (de_sub (de_ixN 2 (de_add (de_var 3) (de_int))) (de_ixN 2 (de_var 3))) (fun _ => nd_law_what)) (dss_cons (ds_set 5 (de_call (c_law_take g) (dr_ref 0 (dr_val (de_int) (dr_nil))) (fun _ => hr)) (fun _ => nd_law_what)) (dss_cons (ds_if (dt_lt (de_var 5) (de_int)) (dss_cons (ds_setO 6 (do_lst (da_nil)) (fun _ => nd_law_what)) (dss_cons (ds_for (di_range1 (fun _ => g.fre 49) (da_cons (de_add (de_int) (de_call (c_law_take g) (dr_ref 0 (dr_val (de_int) (dr_nil))) (fun _ => hr))) (da_nil))) (dg_name 7 (fun _ => nd_law_what)) (dss_cons (ds_set 8 (de_add (de_ixN 2 (de_var 3)) (de_call (c_law_take g) (dr_ref 0 (dr_val (de_var 4) (dr_nil))) (fun _ => hr))) (fun _ => nd_law_what)) (dss_cons (ds_if (dt_ninO 6 (fun _ => u65 hr) (de_var 8)) (dss_cons (ds_app 6 (de_var 8)) (dss_nil)) (dss_nil)) (dss_nil))) (fun _ => pown)) (dss_cons (ds_ret (de_tup (da_cons (de_str) (da_cons (de_call (c_law_take g) (dr_ref 0 (dr_val (de_int) (dr_nil))) (fun _ => hr)) (da_cons (de_tupO 6 (fun _ => g.fre 54)) (da_nil)))))) (dss_nil)))) (dss_nil)) (dss_cons (ds_if (dt_lt (de_var 5) (de_int)) (dss_cons (ds_set 9 (de_call (c_law_take g) (dr_ref 0 (dr_val (de_ixN 2 (de_neg)) (dr_nil))) (fun _ => hr)) (fun _ => nd_law_what)) (dss_cons (ds_set 10 (de_max (fun _ => g.fre 47) (da_cons (de_dl (dl_lc (own := [("k", 7)]) (di_range1 (fun _ => g.fre 49) (da_cons (de_len (fun _ => g.fre 45) (da_cons (de_var 1) (da_nil))) (da_nil))) (dg_name 7 (fun _ => nd_law_what)) (dts_one (dt_le (de_ixN 2 (de_var 7)) (de_var 9))) (de_var 7) (by simp) (fun _ => blk_of (N := N_law_what) (sc := defScope Hd.s_law_what) (by decide +kernel) rfl rfl) (fun _ => nd_law_what))) (da_nil))) (fun _ => nd_law_what)) (dss_cons (ds_ret (de_tup (da_cons (de_str) (da_cons (de_var 9) (da_cons (de_tuple (fun _ => g.fre 54) (da_cons (de_dl (dl_lc (own := [("e", 11)]) (di_range1 (fun _ => g.fre 49) (da_cons (de_ixN 1 (de_var 10)) (da_nil))) (dg_name 11 (fun _ => nd_law_what)) (dts_nil) (de_add (de_ixN 2 (de_var 3)) (de_call (c_law_take g) (dr_ref 0 (dr_val (de_var 4) (dr_nil))) (fun _ => hr))) (by simp) (fun _ => blk_of (N := N_law_what) (sc := defScope Hd.s_law_what) (by decide +kernel) rfl rfl) (fun _ => nd_law_what))) (da_nil))) (da_nil)))))) (dss_nil)))) (dss_nil)) (dss_cons (ds_ret (de_tup (da_cons (de_str) (da_cons (de_call (c_law_take g) (dr_ref 0 (dr_val (de_ixN 1 (de_var 3)) (dr_nil))) (fun _ => hr)) (da_nil))))) (dss_nil))))) : DSs (bodyX P w K mg base N_law_what dd_law_what f cdv A outer s H E) K E0x (dd_law_what).body m_law_what))
def N_law_prices : List Str := ["jug", "many", "shape", "found", "k", "price"]
theorem nd_law_prices : N_law_prices.Nodup := by decide +kernel
def P_law_prices : List Str := ["jug", "many"]
theorem sc_law_prices : FnScope N_law_prices P_law_prices (defScope Hd.s_law_prices) := fsc_of (by decide +kernel)
abbrev dd_law_prices : He.DefD := ⟨("_law_prices", none), "_law_prices", "_law_prices", defArgs Hd.s_law_prices, defBody Hd.s_law_prices, defScope Hd.s_law_prices, [], []⟩
noncomputable def m_law_prices : M Fl := seqS (asgM (calD g_law_take (consS 0 (consV (pur (.int 4)) (pur [])))) (putM 2)) (seqS (setOM 3 (lstO (pur []))) (seqS (Ly.forM (rng1 (consM (getM 1) (pur []))) (putM 4) (seqS (asgM (bin ixD (lstM (consM (pur (.int 1)) (consM (calD g_law_take (consS 0 (consV (pur (.int 4)) (pur [])))) (consM (calD g_law_take (consS 0 (consV (bin addD (bin powD (pur (.int 10)) (pur (.int 12))) (pur (.int 1))) (pur [])))) (consM (bin ixD (lstM (consM (pur (.int 0)) (consM (pur (.int 0)) (consM (pur (.int 1)) (consM (bin powD (pur (.int 10)) (pur (.int 12))) (pur [])))))) (calD g_law_take (consS 0 (consV (pur (.int 4)) (pur []))))) (pur [])))))) (getM 2)) (putM 5)) (seqS (appM 3 (getM 5)) (pur .nx)))) (seqS (retM (tupO 3)) (pur .nx))))
noncomputable def g_law_prices : FSem := semF N_law_prices.length m_law_prices
theorem c_law_prices {P : Program} {w : World} {base : Heap} {K : PySem.W.Frag} {mg : Str → Option Value} (g : Gd Hd.faL Hd.fnL Hd.exB K mg) : Cal P w K mg base 2 "_law_prices" 2 g_law_prices :=
  g.cal (d := dd_law_prices) (ps := P_law_prices) (N := N_law_prices) 30 30 (S := sc_law_prices) (hb := (fun _ _ _ _ _ _ us hl => match us, hl with | [_, _], _ => rfl)) (hm := fun f cdv A outer s H E hr => (dss_cons (ds_set 2 (de_call (c_law_take g) (dr_ref 0 (dr_val (de_int) (dr_nil))) (fun _ => hr)) (fun _ => nd_law_prices)) (dss_cons (ds_setO 3 (do_lst (da_nil)) (fun _ => nd_law_prices)) (dss_cons (ds_for (di_range1 (fun _ => g.fre 49) (da_cons (de_var 1) (da_nil))) (dg_name 4 (fun _ => nd_law_prices)) (dss_cons (ds_set 5 (de_ix (de_lst (da_cons (de_int) (da_cons (de_call (c_law_take g) (dr_ref 0 (dr_val (de_int) (dr_nil))) (fun _ => hr)) (da_cons (de_call (c_law_take g) (dr_ref 0 (dr_val (de_add (de_pow (de_int) (de_int)) (de_int)) (dr_nil))) (fun _ => hr)) (da_cons (de_ix (de_lst (da_cons (de_int) (da_cons (de_int) (da_cons (de_int) (da_cons (de_pow (de_int) (de_int)) (da_nil)))))) (de_call (c_law_take g) (dr_ref 0 (dr_val (de_int) (dr_nil))) (fun _ => hr))) (da_nil)))))) (de_var 2)) (fun _ => nd_law_prices)) (dss_cons (ds_app 3 (de_var 5)) (dss_nil))) (fun _ => pown)) (dss_cons (ds_ret (de_tupO 3 (fun _ => g.fre 54))) (dss_nil)))) : DSs (bodyX P w K mg base N_law_prices dd_law_prices f cdv A outer s H E) K E0x (dd_law_prices).body m_law_prices))
def N_law_sheet : List Str := ["places", "player", "prices", "many", "costs", "turn", "told", "found", "sheet", "later", "v", "entry", "place", "cost", "one"]
theorem nd_law_sheet : N_law_sheet.Nodup := by decide +kernel
def P_law_sheet : List Str := ["places", "player", "prices"]
theorem sc_law_sheet : FnScope N_law_sheet P_law_sheet (defScope Hd.s_law_sheet) := fsc_of (by decide +kernel)
abbrev dd_law_sheet : He.DefD := ⟨("_law_sheet", none), "_law_sheet", "_law_sheet", defArgs Hd.s_law_sheet, defBody Hd.s_law_sheet, defScope Hd.s_law_sheet, [], []⟩
noncomputable def m_law_sheet : M Fl := seqS (asgM (calM lenC (consM (getM 0) (pur []))) (putM 3)) (seqS (asgM (frzM (lcO [12] (itemsL (getM 0)) (putM 12) (pur true) (pur .non))) (putM 4)) (seqS (Ly.forM (rng1 (consM (bin addD (getM 3) (pur (.int 1))) (pur []))) (putM 5) (seqS (asgM (frzM (lcO [13] (itemsL (getM 4)) (putM 13) (pur true) (ifE (tst (bin isO (getM 13) (pur .non))) (pur .non) (tupM (consM (getM 13) (consM (pur (.int 0)) (pur []))))))) (putM 6)) (seqS (asgM (frzM (lcO [10] (rng1 (consM (getM 3) (pur []))) (putM 10) (pur true) (calD g_law_price_at (consV (getM 0) (consV (getM 1) (consV (getM 2) (consV (getM 6) (consV (getM 10) (pur []))))))))) (putM 7)) (seqS (asgM (frzM (lcO [14] (itemsL (getM 7)) (putM 14) (pur true) (ifE (tst (bin isO (getM 14) (pur .non))) (pur .non) (ixM 14 (pur (.int 0)))))) (putM 4)) (pur .nx))))) (seqS (asgM (frzM (lcO [12] (itemsL (getM 0)) (putM 12) (pur true) (pur .non))) (putM 8)) (seqS (Ly.forM (rng1 (consM (bin addD (getM 3) (pur (.int 1))) (pur []))) (putM 5) (seqS (setOM 9 (lstO (pur []))) (seqS (Ly.forM (rng1 (consM (getM 3) (pur []))) (putM 10) (seqS (asgM (pur .non) (putM 11)) (seqS (iteS (tst (bin isnO (ixM 4 (getM 10)) (pur .non))) (seqS (asgM (calD g_law_rounded (consV (getM 0) (consV (getM 1) (consV (getM 2) (consV (getM 4) (consV (getM 8) (consV (getM 10) (pur [])))))))) (putM 11)) (pur .nx)) (pur .nx)) (seqS (appM 9 (getM 11)) (pur .nx))))) (seqS (asgM (getM 9) (putM 8)) (pur .nx))))) (seqS (retM (calM tupleC (consM (getM 8) (pur [])))) (pur .nx))))))
noncomputable def g_law_sheet : FSem := semF N_law_sheet.length m_law_sheet
theorem c_law_sheet {P : Program} {w : World} {base : Heap} {K : PySem.W.Frag} {mg : Str → Option Value} (g : Gd Hd.faL Hd.fnL Hd.exB K mg) : Cal P w K mg base 2 "_law_sheet" 3 g_law_sheet :=
  g.cal (d := dd_law_sheet) (ps := P_law_sheet) (N := N_law_sheet) 32 32 (S := sc_law_sheet) (hb := (fun _ _ _ _ _ _ us hl => match us, hl with | [_, _, _], _ => rfl)) (hm := fun f cdv A outer s H E hr => (dss_cons (ds_set 3 (de_len (fun _ => g.fre 45) (da_cons (de_var 0) (da_nil))) (fun _ => nd_law_sheet)) (dss_cons (ds_setL 4 (dl_lc (own := [("place", 12)]) (di_list (de_var 0)) (dg_name 12 (fun _ => nd_law_sheet)) (dts_nil) (de_non) (by simp) (fun _ => blk_of (N := N_law_sheet) (sc := defScope Hd.s_law_sheet) (by decide +kernel) rfl rfl) (fun _ => nd_law_sheet))) (dss_cons (ds_for (di_range1 (fun _ => g.fre 49) (da_cons (de_add (de_var 3) (de_int)) (da_nil))) (dg_name 5 (fun _ => nd_law_sheet)) (dss_cons (ds_set 6 (de_dl (dl_lc (own := [("cost", 13)]) (di_list (de_var 4)) (dg_name 13 (fun _ => nd_law_sheet)) (dts_nil) (de_if (dt_is (de_var 13) (de_non)) (de_non) (de_tup (da_cons (de_var 13) (da_cons (de_int) (da_nil))))) (by simp) (fun _ => blk_of (N := N_law_sheet) (sc := defScope Hd.s_law_sheet) (by decide +kernel) rfl rfl) (fun _ => nd_law_sheet))) (fun _ => nd_law_sheet)) (dss_cons (ds_setL 7 (dl_lc (own := [("v", 10)]) (di_range1 (fun _ => g.fre 49) (da_cons (de_var 3) (da_nil))) (dg_name 10 (fun _ => nd_law_sheet)) (dts_nil) (de_call (c_law_price_at g) (dr_val (de_var 0) (dr_val (de_var 1) (dr_val (de_var 2) (dr_val (de_var 6) (dr_val (de_var 10) (dr_nil)))))) (fun _ => hr)) (by simp) (fun _ => blk_of (N := N_law_sheet) (sc := defScope Hd.s_law_sheet) (by decide +kernel) rfl rfl) (fun _ => nd_law_sheet))) (dss_cons (ds_setL 4 (dl_lc (own := [("one", 14)]) (di_list (de_var 7)) (dg_name 14 (fun _ => nd_law_sheet)) (dts_nil) (de_if (dt_is (de_var 14) (de_non)) (de_non) (de_ixN 14 (de_int))) (by simp) (fun _ => blk_of (N := N_law_sheet) (sc := defScope Hd.s_law_sheet) (by decide +kernel) rfl rfl) (fun _ => nd_law_sheet))) (dss_nil)))) (fun _ => pown)) (dss_cons (ds_setL 8 (dl_lc (own := [("place", 12)]) (di_list (de_var 0)) (dg_name 12 (fun _ => nd_law_sheet)) (dts_nil) (de_non) (by simp) (fun _ => blk_of (N := N_law_sheet) (sc := defScope Hd.s_law_sheet) (by decide +kernel) rfl rfl) (fun _ => nd_law_sheet))) (dss_cons (ds_for (di_range1 (fun _ => g.fre 49) (da_cons (de_add (de_var 3) (de_int)) (da_nil))) (dg_name 5 (fun _ => nd_law_sheet)) (dss_cons (ds_setO 9 (do_lst (da_nil)) (fun _ => nd_law_sheet)) (dss_cons (ds_for (di_range1 (fun _ => g.fre 49) (da_cons (de_var 3) (da_nil))) (dg_name 10 (fun _ => nd_law_sheet)) (dss_cons (ds_set 11 (de_non) (fun _ => nd_law_sheet)) (dss_cons (ds_if (dt_isn (de_ixN 4 (de_var 10)) (de_non)) (dss_cons (ds_set 11 (de_call (c_law_rounded g) (dr_val (de_var 0) (dr_val (de_var 1) (dr_val (de_var 2) (dr_val (de_var 4) (dr_val (de_var 8) (dr_val (de_var 10) (dr_nil))))))) (fun _ => hr)) (fun _ => nd_law_sheet)) (dss_nil)) (dss_nil)) (dss_cons (ds_app 9 (de_var 11)) (dss_nil)))) (fun _ => pown)) (dss_cons (ds_set 8 (de_var 9) (fun _ => nd_law_sheet)) (dss_nil)))) (fun _ => pown)) (dss_cons (ds_ret (de_tuple (fun _ => g.fre 54) (da_cons (de_var 8) (da_nil)))) (dss_nil)))))) : DSs (bodyX P w K mg base N_law_sheet dd_law_sheet f cdv A outer s H E) K E0x (dd_law_sheet).body m_law_sheet))
def N_law_judged : List Str := ["places", "player", "prices", "sheet", "entry", "v", "due", "one"]
theorem nd_law_judged : N_law_judged.Nodup := by decide +kernel
def P_law_judged : List Str := ["places", "player", "prices", "sheet"]
theorem sc_law_judged : FnScope N_law_judged P_law_judged (defScope Hd.s_law_judged) := fsc_of (by decide +kernel)
abbrev dd_law_judged : He.DefD := ⟨("_law_judged", none), "_law_judged", "_law_judged", defArgs Hd.s_law_judged, defBody Hd.s_law_judged, defScope Hd.s_law_judged, [], []⟩
noncomputable def m_law_judged : M Fl := seqS (iteS (orT (notT (tst (isiM "tuple" (getM 3)))) (tst (bin neO (calM lenC (consM (getM 3) (pur []))) (calM lenC (consM (getM 0) (pur [])))))) (seqS (retM (pur (.bl false))) (pur .nx)) (pur .nx)) (seqS (Ly.forM (itemsT (getM 3)) (putM 4) (seqS (iteS (tst (bin isnO (getM 4) (pur .non))) (seqS (iteS (orT (notT (tst (isiM "tuple" (getM 4)))) (orT (tst (bin neO (calM lenC (consM (getM 4) (pur []))) (pur (.int 2)))) (orT (notT (tst (calD g_law_int (consV (ixM 4 (pur (.int 0))) (pur []))))) (notT (tst (calD g_law_int (consV (ixM 4 (pur (.int 1))) (pur [])))))))) (seqS (retM (pur (.bl false))) (pur .nx)) (pur .nx)) (seqS (iteS (orT (tst (bin ltD (ixM 4 (pur (.int 0))) (pur (.int 0)))) (tst (bin ltD (ixM 4 (pur (.int 1))) (pur (.int 0))))) (seqS (retM (pur (.bl false))) (pur .nx)) (pur .nx)) (pur .nx))) (pur .nx)) (pur .nx))) (seqS (Ly.forM (rng1 (consM (calM lenC (consM (getM 0) (pur []))) (pur []))) (putM 5) (seqS (asgM (calD g_law_price_at (consV (getM 0) (consV (getM 1) (consV (getM 2) (consV (getM 3) (consV (getM 5) (pur []))))))) (putM 6)) (seqS (iteS (orT (tst (bin isO (getM 6) (pur .non))) (tst (bin isO (ixM 3 (getM 5)) (pur .non)))) (seqS (iteS (orT (tst (bin isnO (getM 6) (pur .non))) (tst (bin isnO (ixM 3 (getM 5)) (pur .non)))) (seqS (retM (pur (.bl false))) (pur .nx)) (pur .nx)) (pur .nx)) (seqS (iteS (orT (tst (bin neO (bin ixD (ixM 3 (getM 5)) (pur (.int 0))) (ixM 6 (pur (.int 0))))) (notT (tst (calM allC (consM (frzM (lcO [7] (itemsL (ixM 6 (pur (.int 1)))) (putM 7) (pur true) (bin ltD (getM 7) (bin ixD (ixM 3 (getM 5)) (pur (.int 1)))))) (pur [])))))) (seqS (retM (pur (.bl false))) (pur .nx)) (pur .nx)) (pur .nx))) (pur .nx)))) (seqS (retM (pur (.bl true))) (pur .nx))))
noncomputable def g_law_judged : FSem := semF N_law_judged.length m_law_judged
theorem c_law_judged {P : Program} {w : World} {base : Heap} {K : PySem.W.Frag} {mg : Str → Option Value} (g : Gd Hd.faL Hd.fnL Hd.exB K mg) : Cal P w K mg base 2 "_law_judged" 4 g_law_judged :=
  g.cal (d := dd_law_judged) (ps := P_law_judged) (N := N_law_judged) 34 34 (S := sc_law_judged) (hb := (fun _ _ _ _ _ _ us hl => match us, hl with | [_, _, _, _], _ => rfl)) (hm := fun f cdv A outer s H E hr => (dss_cons (ds_if (dt_w (dw_or (dt_not (dt_val (de_isi (fun _ => g.fre 44) (fun _ => g.fre 54) boot_tuple (de_var 3)))) (dw_or1 (dt_ne (fun _ => u65 hr) (de_len (fun _ => g.fre 45) (da_cons (de_var 3) (da_nil))) (de_len (fun _ => g.fre 45) (da_cons (de_var 0) (da_nil))))))) (dss_cons (ds_ret (de_bl)) (dss_nil)) (dss_nil)) (dss_cons (ds_for (di_tup (de_var 3)) (dg_name 4 (fun _ => nd_law_judged)) (dss_cons (ds_if (dt_isn (de_var 4) (de_non)) (dss_cons (ds_if (dt_w (dw_or (dt_not (dt_val (de_isi (fun _ => g.fre 44) (fun _ => g.fre 54) boot_tuple (de_var 4)))) (dw_or (dt_ne (fun _ => u65 hr) (de_len (fun _ => g.fre 45) (da_cons (de_var 4) (da_nil))) (de_int)) (dw_or (dt_not (dt_val (de_call (c_law_int g) (dr_val (de_ixN 4 (de_int)) (dr_nil)) (fun _ => hr)))) (dw_or1 (dt_not (dt_val (de_call (c_law_int g) (dr_val (de_ixN 4 (de_int)) (dr_nil)) (fun _ => hr))))))))) (dss_cons (ds_ret (de_bl)) (dss_nil)) (dss_nil)) (dss_cons (ds_if (dt_w (dw_or (dt_lt (de_ixN 4 (de_int)) (de_int)) (dw_or1 (dt_lt (de_ixN 4 (de_int)) (de_int))))) (dss_cons (ds_ret (de_bl)) (dss_nil)) (dss_nil)) (dss_nil))) (dss_nil)) (dss_nil)) (fun _ => pown)) (dss_cons (ds_for (di_range1 (fun _ => g.fre 49) (da_cons (de_len (fun _ => g.fre 45) (da_cons (de_var 0) (da_nil))) (da_nil))) (dg_name 5 (fun _ => nd_law_judged)) (dss_cons (ds_set 6 (de_call (c_law_price_at g) (dr_val (de_var 0) (dr_val (de_var 1) (dr_val (de_var 2) (dr_val (de_var 3) (dr_val (de_var 5) (dr_nil)))))) (fun _ => hr)) (fun _ => nd_law_judged)) (dss_cons (ds_if (dt_w (dw_or (dt_is (de_var 6) (de_non)) (dw_or1 (dt_is (de_ixN 3 (de_var 5)) (de_non))))) (dss_cons (ds_if (dt_w (dw_or (dt_isn (de_var 6) (de_non)) (dw_or1 (dt_isn (de_ixN 3 (de_var 5)) (de_non))))) (dss_cons (ds_ret (de_bl)) (dss_nil)) (dss_nil)) (dss_nil)) (dss_cons (ds_if (dt_w (dw_or (dt_ne (fun _ => u65 hr) (de_ix (de_ixN 3 (de_var 5)) (de_int)) (de_ixN 6 (de_int))) (dw_or1 (dt_not (dt_val (de_all (fun _ => g.fre 39) (da_cons (de_dl (dl_lc (own := [("one", 7)]) (di_list (de_ixN 6 (de_int))) (dg_name 7 (fun _ => nd_law_judged)) (dts_nil) (de_lt (de_var 7) (de_ix (de_ixN 3 (de_var 5)) (de_int))) (by simp) (fun _ => blk_of (N := N_law_judged) (sc := defScope Hd.s_law_judged) (by decide +kernel) rfl rfl) (fun _ => nd_law_judged))) (da_nil)))))))) (dss_cons (ds_ret (de_bl)) (dss_nil)) (dss_nil)) (dss_nil))) (dss_nil))) (fun _ => pown)) (dss_cons (ds_ret (de_bl)) (dss_nil)))) : DSs (bodyX P w K mg base N_law_judged dd_law_judged f cdv A outer s H E) K E0x (dd_law_judged).body m_law_judged))
def N_law_bent : List Str := ["jug", "sheet", "v", "entry", "price", "number", "step", "ways"]
theorem nd_law_bent : N_law_bent.Nodup := by decide +kernel
def P_law_bent : List Str := ["jug", "sheet"]
theorem sc_law_bent : FnScope N_law_bent P_law_bent (defScope Hd.s_law_bent) := fsc_of (by decide +kernel)
abbrev dd_law_bent : He.DefD := ⟨("_law_bent", none), "_law_bent", "_law_bent", defArgs Hd.s_law_bent, defBody Hd.s_law_bent, defScope Hd.s_law_bent, [], []⟩
noncomputable def m_law_bent : M Fl := seqS (asgM (calD g_law_take (consS 0 (consV (calM lenC (consM (getM 1) (pur []))) (pur [])))) (putM 2)) (seqS (asgM (ixM 1 (getM 2)) (putM 3)) (seqS (iteS (tst (bin isO (getM 3) (pur .non))) (seqS (asgM (tupM (consM (calD g_law_take (consS 0 (consV (pur (.int 5)) (pur [])))) (consM (calD g_law_take (consS 0 (consV (pur (.int 5)) (pur [])))) (pur [])))) (putM 3)) (seqS (retM (bin addD (bin addD (slM (getM 1) (pur none) (partM (getM 2))) (tupM (consM (getM 3) (pur [])))) (slM (getM 1) (partM (bin addD (getM 2) (pur (.int 1)))) (pur none)))) (pur .nx))) (pur .nx)) (seqS (asgM (getM 3) (gtup 2 (gcons (putM 4) (gcons (putM 5) (gnil))))) (seqS (asgM (bin ixD (lstM (consM (pur (.int 1)) (consM (pur (.int (-1))) (consM (pur (.int (-2))) (consM (bin powD (pur (.int 10)) (pur (.int 12))) (pur [])))))) (calD g_law_take (consS 0 (consV (pur (.int 4)) (pur []))))) (putM 6)) (seqS (asgM (lstM (consM (pur .non) (consM (tupM (consM (bin addD (getM 4) (getM 6)) (consM (getM 5) (pur [])))) (consM (tupM (consM (getM 4) (consM (bin addD (getM 5) (getM 6)) (pur [])))) (consM (tupM (consM (getM 4) (consM (pur (.int 0)) (pur [])))) (consM (tupM (consM (getM 4) (consM (calD g_law_take (consS 0 (consV (pur (.int 6)) (pur [])))) (pur [])))) (consM (tupM (consM (getM 4) (pur []))) (consM (calM listC (consM (getM 3) (pur []))) (pur []))))))))) (putM 7)) (seqS (asgM (bin addD (getM 7) (lstM (consM (tupM (consM (getM 4) (consM (pur (.bl true)) (pur [])))) (consM (tupM (consM (getM 4) (consM (pur .non) (pur [])))) (consM (tupM (consM (getM 5) (consM (getM 4) (pur [])))) (consM (getM 4) (pur []))))))) (putM 7)) (seqS (retM (bin addD (bin addD (slM (getM 1) (pur none) (partM (getM 2))) (tupM (consM (ixM 7 (calD g_law_take (consS 0 (consV (calM lenC (consM (getM 7) (pur []))) (pur []))))) (pur [])))) (slM (getM 1) (partM (bin addD (getM 2) (pur (.int 1)))) (pur none)))) (pur .nx))))))))
noncomputable def g_law_bent : FSem := semF N_law_bent.length m_law_bent
theorem c_law_bent {P : Program} {w : World} {base : Heap} {K : PySem.W.Frag} {mg : Str → Option Value} (g : Gd Hd.faL Hd.fnL Hd.exB K mg) : Cal P w K mg base 2 "_law_bent" 2 g_law_bent :=
  g.cal (d := dd_law_bent) (ps := P_law_bent) (N := N_law_bent) 35 35 (S := sc_law_bent) (hb := (fun _ _ _ _ _ _ us hl => match us, hl with | [_, _], _ => rfl)) (hm := fun f cdv A outer s H E hr => (dss_cons (ds_set 2 (de_call (c_law_take g) (dr_ref 0 (dr_val (de_len (fun _ => g.fre 45) (da_cons (de_var 1) (da_nil))) (dr_nil))) (fun _ => hr)) (fun _ => nd_law_bent)) (dss_cons (ds_set 3 (de_ixN 1 (de_var 2)) (fun _ => nd_law_bent)) (dss_cons (ds_if (dt_is (de_var 3) (de_non)) (dss_cons (ds_set 3 (de_tup (da_cons (de_call (c_law_take g) (dr_ref 0 (dr_val (de_int) (dr_nil))) (fun _ => hr)) (da_cons (de_call (c_law_take g) (dr_ref 0 (dr_val (de_int) (dr_nil))) (fun _ => hr)) (da_nil)))) (fun _ => nd_law_bent)) (dss_cons (ds_ret (de_add (de_add (de_slice (de_var 1) (dp_none) (dp_some (de_var 2))) (de_tup (da_cons (de_var 3) (da_nil)))) (de_slice (de_var 1) (dp_some (de_add (de_var 2) (de_int))) (dp_none)))) (dss_nil))) (dss_nil)) (dss_cons (ds_asg (de_var 3) (dg_tup (dgs_cons (dg_name 4 (fun _ => nd_law_bent)) (dgs_cons (dg_name 5 (fun _ => nd_law_bent)) (dgs_nil))))) (dss_cons (ds_set 6 (de_ix (de_lst (da_cons (de_int) (da_cons (de_neg) (da_cons (de_neg) (da_cons (de_pow (de_int) (de_int)) (da_nil)))))) (de_call (c_law_take g) (dr_ref 0 (dr_val (de_int) (dr_nil))) (fun _ => hr))) (fun _ => nd_law_bent)) (dss_cons (ds_set 7 (de_lst (da_cons (de_non) (da_cons (de_tup (da_cons (de_add (de_var 4) (de_var 6)) (da_cons (de_var 5) (da_nil)))) (da_cons (de_tup (da_cons (de_var 4) (da_cons (de_add (de_var 5) (de_var 6)) (da_nil)))) (da_cons (de_tup (da_cons (de_var 4) (da_cons (de_int) (da_nil)))) (da_cons (de_tup (da_cons (de_var 4) (da_cons (de_call (c_law_take g) (dr_ref 0 (dr_val (de_int) (dr_nil))) (fun _ => hr)) (da_nil)))) (da_cons (de_tup (da_cons (de_var 4) (da_nil))) (da_cons (de_list (fun _ => g.fre 46) (da_cons (de_var 3) (da_nil))) (da_nil))))))))) (fun _ => nd_law_bent)) (dss_cons (ds_set 7 (de_add (de_var 7) (de_lst (da_cons (de_tup (da_cons (de_var 4) (da_cons (de_bl) (da_nil)))) (da_cons (de_tup (da_cons (de_var 4) (da_cons (de_non) (da_nil)))) (da_cons (de_tup (da_cons (de_var 5) (da_cons (de_var 4) (da_nil)))) (da_cons (de_var 4) (da_nil))))))) (fun _ => nd_law_bent)) (dss_cons (ds_ret (de_add (de_add (de_slice (de_var 1) (dp_none) (dp_some (de_var 2))) (de_tup (da_cons (de_ixN 7 (de_call (c_law_take g) (dr_ref 0 (dr_val (de_len (fun _ => g.fre 45) (da_cons (de_var 7) (da_nil))) (dr_nil))) (fun _ => hr))) (da_nil)))) (de_slice (de_var 1) (dp_some (de_add (de_var 2) (de_int))) (dp_none)))) (dss_nil)))))))) : DSs (bodyX P w K mg base N_law_bent dd_law_bent f cdv A outer s H E) K E0x (dd_law_bent).body m_law_bent))
def N_is_head : List Str := ["thing"]
theorem nd_is_head : N_is_head.Nodup := by decide +kernel
def P_is_head : List Str := ["thing"]
theorem sc_is_head : FnScope N_is_head P_is_head (defScope Hd.s_is_head) := fsc_of (by decide +kernel)
abbrev dd_is_head : He.DefD := ⟨("is_head", none), "is_head", "is_head", defArgs Hd.s_is_head, defBody Hd.s_is_head, defScope Hd.s_is_head, [], []⟩
noncomputable def m_is_head : M Fl := seqS (iteS (orT (notT (tst (calD g_is_row (consV (getM 0) (consV (pur (.int 3)) (consV (pur (.int 3)) (pur []))))))) (notT (tst (calD g_is_low_name (consV (ixM 0 (pur (.int 0))) (pur [])))))) (seqS (retM (pur (.bl false))) (pur .nx)) (pur .nx)) (seqS (retM (andV (calD g_within (consV (ixM 0 (pur (.int 1))) (consV (pur (.int 1)) (consV (pur (.int 24)) (pur []))))) (calD g_is_row (consV (ixM 0 (pur (.int 2))) (consV (pur (.int 1)) (consV (pur (.int 4000)) (pur []))))))) (pur .nx))
noncomputable def g_is_head : FSem := semF N_is_head.length m_is_head
theorem c_is_head {P : Program} {w : World} {base : Heap} {K : PySem.W.Frag} {mg : Str → Option Value} (g : Gd Hd.faL Hd.fnL Hd.exB K mg) : Cal P w K mg base 3 "is_head" 1 g_is_head :=
  g.cal (d := dd_is_head) (ps := P_is_head) (N := N_is_head) 7 7 (S := sc_is_head) (hb := (fun _ _ _ _ _ _ us hl => match us, hl with | [_], _ => rfl)) (hm := fun f cdv A outer s H E hr => (dss_cons (ds_if (dt_w (dw_or (dt_not (dt_val (de_call (c_is_row g) (dr_val (de_var 0) (dr_val (de_int) (dr_val (de_int) (dr_nil)))) (fun _ => hr)))) (dw_or1 (dt_not (dt_val (de_call (c_is_low_name g) (dr_val (de_ixN 0 (de_int)) (dr_nil)) (fun _ => hr))))))) (dss_cons (ds_ret (de_bl)) (dss_nil)) (dss_nil)) (dss_cons (ds_ret (de_and (de_call (c_within g) (dr_val (de_ixN 0 (de_int)) (dr_val (de_int) (dr_val (de_glob (g.int 60)) (dr_nil)))) (fun _ => hr)) (de_one (de_call (c_is_row g) (dr_val (de_ixN 0 (de_int)) (dr_val (de_int) (dr_val (de_glob (g.int 61)) (dr_nil)))) (fun _ => hr))))) (dss_nil)) : DSs (bodyX P w K mg base N_is_head dd_is_head f cdv A outer s H E) K E0x (dd_is_head).body m_is_head))
def N_are_places : List Str := ["thing", "first", "behind", "entry"]
theorem nd_are_places : N_are_places.Nodup := by decide +kernel
def P_are_places : List Str := ["thing", "first", "behind"]
theorem sc_are_places : FnScope N_are_places P_are_places (defScope Hd.s_are_places) := fsc_of (by decide +kernel)
abbrev dd_are_places : He.DefD := ⟨("are_places", none), "are_places", "are_places", defArgs Hd.s_are_places, defBody Hd.s_are_places, defScope Hd.s_are_places, [], []⟩
noncomputable def m_are_places : M Fl := seqS (retM (calM allC (consM (frzM (lcO [3] (itemsT (getM 0)) (putM 3) (pur true) (calD g_within (consV (getM 3) (consV (getM 1) (consV (bin subD (getM 2) (pur (.int 1))) (pur []))))))) (pur [])))) (pur .nx)
noncomputable def g_are_places : FSem := semF N_are_places.length m_are_places
theorem c_are_places {P : Program} {w : World} {base : Heap} {K : PySem.W.Frag} {mg : Str → Option Value} (g : Gd Hd.faL Hd.fnL Hd.exB K mg) : Cal P w K mg base 3 "are_places" 3 g_are_places :=
  g.cal (d := dd_are_places) (ps := P_are_places) (N := N_are_places) 9 9 (S := sc_are_places) (hb := (fun _ _ _ _ _ _ us hl => match us, hl with | [_, _, _], _ => rfl)) (hm := fun f cdv A outer s H E hr => (dss_cons (ds_ret (de_all (fun _ => g.fre 39) (da_cons (de_dl (dl_lc (own := [("entry", 3)]) (di_tup (de_var 0)) (dg_name 3 (fun _ => nd_are_places)) (dts_nil) (de_call (c_within g) (dr_val (de_var 3) (dr_val (de_var 1) (dr_val (de_sub (de_var 2) (de_int)) (dr_nil)))) (fun _ => hr)) (by simp) (fun _ => blk_of (N := N_are_places) (sc := defScope Hd.s_are_places) (by decide +kernel) rfl rfl) (fun _ => nd_are_places))) (da_nil)))) (dss_nil) : DSs (bodyX P w K mg base N_are_places dd_are_places f cdv A outer s H E) K E0x (dd_are_places).body m_are_places))
def N_is_exit : List Str := ["thing", "many"]
theorem nd_is_exit : N_is_exit.Nodup := by decide +kernel
def P_is_exit : List Str := ["thing", "many"]
theorem sc_is_exit : FnScope N_is_exit P_is_exit (defScope Hd.s_is_exit) := fsc_of (by decide +kernel)
abbrev dd_is_exit : He.DefD := ⟨("is_exit", none), "is_exit", "is_exit", defArgs Hd.s_is_exit, defBody Hd.s_is_exit, defScope Hd.s_is_exit, [], []⟩
noncomputable def m_is_exit : M Fl := seqS (retM (andV (calD g_is_row (consV (getM 0) (consV (pur (.int 2)) (consV (pur (.int 2)) (pur []))))) (andV (bin eqO (ixM 0 (pur (.int 0))) (pur (.str "exit"))) (calD g_within (consV (ixM 0 (pur (.int 1))) (consV (pur (.int 0)) (consV (bin subD (getM 1) (pur (.int 1))) (pur [])))))))) (pur .nx)
noncomputable def g_is_exit : FSem := semF N_is_exit.length m_is_exit
theorem c_is_exit {P : Program} {w : World} {base : Heap} {K : PySem.W.Frag} {mg : Str → Option Value} (g : Gd Hd.faL Hd.fnL Hd.exB K mg) : Cal P w K mg base 3 "is_exit" 2 g_is_exit :=
  g.cal (d := dd_is_exit) (ps := P_is_exit) (N := N_is_exit) 12 12 (S := sc_is_exit) (hb := (fun _ _ _ _ _ _ us hl => match us, hl with | [_, _], _ => rfl)) (hm := fun f cdv A outer s H E hr => (dss_cons (ds_ret (de_and (de_call (c_is_row g) (dr_val (de_var 0) (dr_val (de_int) (dr_val (de_int) (dr_nil)))) (fun _ => hr)) (de_and (de_eq (fun _ => u65 hr) (de_ixN 0 (de_int)) (de_str)) (de_one (de_call (c_within g) (dr_val (de_ixN 0 (de_int)) (dr_val (de_int) (dr_val (de_sub (de_var 1) (de_int)) (dr_nil)))) (fun _ => hr)))))) (dss_nil) : DSs (bodyX P w K mg base N_is_exit dd_is_exit f cdv A outer s H E) K E0x (dd_is_exit).body m_is_exit))
def N_need_player : List Str := ["player"]
theorem nd_need_player : N_need_player.Nodup := by decide +kernel
def P_need_player : List Str := ["player"]
theorem sc_need_player : FnScope N_need_player P_need_player (defScope Hd.s_need_player) := fsc_of (by decide +kernel)
abbrev dd_need_player : He.DefD := ⟨("need_player", none), "need_player", "need_player", defArgs Hd.s_need_player, defBody Hd.s_need_player, defScope Hd.s_need_player, [], []⟩
noncomputable def m_need_player : M Fl := seqS (iteS (notT (tst (calD g_within (consV (getM 0) (consV (pur (.int 0)) (consV (pur (.int 1)) (pur []))))))) (seqS (stk) (pur .nx)) (pur .nx)) (pur .nx)
noncomputable def g_need_player : FSem := semF N_need_player.length m_need_player
theorem c_need_player {P : Program} {w : World} {base : Heap} {K : PySem.W.Frag} {mg : Str → Option Value} (g : Gd Hd.faL Hd.fnL Hd.exB K mg) : Cal P w K mg base 3 "need_player" 1 g_need_player :=
  g.cal (d := dd_need_player) (ps := P_need_player) (N := N_need_player) 16 16 (S := sc_need_player) (hb := (fun _ _ _ _ _ _ us hl => match us, hl with | [_], _ => rfl)) (hm := fun f cdv A outer s H E hr => (dss_cons (ds_if (dt_not (dt_val (de_call (c_within g) (dr_val (de_var 0) (dr_val (de_int) (dr_val (de_int) (dr_nil)))) (fun _ => hr)))) (dss_cons (ds_never) (dss_nil)) (dss_nil)) (dss_nil) : DSs (bodyX P w K mg base N_need_player dd_need_player f cdv A outer s H E) K E0x (dd_need_player).body m_need_player))
def N_law_program : List Str := ["jug", "counts", "sizes", "marks", "starts", "size", "found", "p", "places", "name", "k"]
theorem nd_law_program : N_law_program.Nodup := by decide +kernel
def P_law_program : List Str := ["jug", "counts", "sizes", "marks"]
theorem sc_law_program : FnScope N_law_program P_law_program (defScope Hd.s_law_program) := fsc_of (by decide +kernel)
abbrev dd_law_program : He.DefD := ⟨("_law_program", none), "_law_program", "_law_program", defArgs Hd.s_law_program, defBody Hd.s_law_program, defScope Hd.s_law_program, [], []⟩
noncomputable def m_law_program : M Fl := seqS (setOM 4 (lstO (consM (pur (.int 0)) (pur [])))) (seqS (Ly.forM (itemsL (getM 2)) (putM 5) (seqS (appM 4 (bin addD (ixM 4 (pur (.int (-1)))) (getM 5))) (pur .nx))) (seqS (setOM 6 (lstO (pur []))) (seqS (Ly.forM (rng1 (consM (calM lenC (consM (getM 2) (pur []))) (pur []))) (putM 7) (seqS (asgM (frzM (lcO [10] (rng1 (consM (ixM 2 (getM 7)) (pur []))) (putM 10) (pur true) (tupM (consM (ixM 3 (calD g_law_take (consS 0 (consV (calM lenC (consM (getM 3) (pur []))) (pur []))))) (consM (calD g_law_what (consS 0 (consV (getM 1) (consV (getM 4) (consV (getM 7) (pur [])))))) (pur [])))))) (putM 8)) (seqS (asgM (bin addD (bin ixD (pur (.str "abcdefghijklmnopqrstuvwxyz")) (calD g_law_take (consS 0 (consV (pur (.int 26)) (pur []))))) (calM strC (consM (getM 7) (pur [])))) (putM 9)) (seqS (appM 6 (tupM (consM (getM 9) (consM (ixM 1 (getM 7)) (consM (calM tupleC (consM (getM 8) (pur []))) (pur [])))))) (pur .nx))))) (seqS (retM (tupO 6)) (pur .nx)))))
noncomputable def g_law_program : FSem := semF N_law_program.length m_law_program
theorem c_law_program {P : Program} {w : World} {base : Heap} {K : PySem.W.Frag} {mg : Str → Option Value} (g : Gd Hd.faL Hd.fnL Hd.exB K mg) : Cal P w K mg base 3 "_law_program" 4 g_law_program :=
  g.cal (d := dd_law_program) (ps := P_law_program) (N := N_law_program) 27 27 (S := sc_law_program) (hb := (fun _ _ _ _ _ _ us hl => match us, hl with | [_, _, _, _], _ => rfl)) (hm := fun f cdv A outer s H E hr => (dss_cons (ds_setO 4 (do_lst (da_cons (de_int) (da_nil))) (fun _ => nd_law_program)) (dss_cons (ds_for (di_list (de_var 2)) (dg_name 5 (fun _ => nd_law_program)) (dss_cons (ds_app 4 (de_add (de_ixN 4 (de_neg)) (de_var 5))) (dss_nil)) (fun _ => pown)) (dss_cons (ds_setO 6 (do_lst (da_nil)) (fun _ => nd_law_program)) (dss_cons (ds_for (di_range1 (fun _ => g.fre 49) (da_cons (de_len (fun _ => g.fre 45) (da_cons (de_var 2) (da_nil))) (da_nil))) (dg_name 7 (fun _ => nd_law_program)) (dss_cons (ds_setL 8 (dl_lc (own := [("k", 10)]) (di_range1 (fun _ => g.fre 49) (da_cons (de_ixN 2 (de_var 7)) (da_nil))) (dg_name 10 (fun _ => nd_law_program)) (dts_nil) (de_tup (da_cons (de_ixN 3 (de_call (c_law_take g) (dr_ref 0 (dr_val (de_len (fun _ => g.fre 45) (da_cons (de_var 3) (da_nil))) (dr_nil))) (fun _ => hr))) (da_cons (de_call (c_law_what g) (dr_ref 0 (dr_val (de_var 1) (dr_val (de_var 4) (dr_val (de_var 7) (dr_nil))))) (fun _ => hr)) (da_nil)))) (by simp) (fun _ => blk_of (N := N_law_program) (sc := defScope Hd.s_law_program) (by decide +kernel) rfl rfl) (fun _ => nd_law_program))) (dss_cons (ds_set 9 (de_add (de_ix (de_str) (de_call (c_law_take g) (dr_ref 0 (dr_val (de_int) (dr_nil))) (fun _ => hr))) (de_str1 (fun _ => g.fre 51) (da_cons (de_var 7) (da_nil)))) (fun _ => nd_law_program)) (dss_cons (ds_app 6 (de_tup (da_cons (de_var 9) (da_cons (de_ixN 1 (de_var 7)) (da_cons (de_tuple (fun _ => g.fre 54) (da_cons (de_var 8) (da_nil))) (da_nil)))))) (dss_nil)))) (fun _ => pown)) (dss_cons (ds_ret (de_tupO 6 (fun _ => g.fre 54))) (dss_nil))))) : DSs (bodyX P w K mg base N_law_program dd_law_program f cdv A outer s H E) K E0x (dd_law_program).body m_law_program))
def N_are_heads : List Str := ["thing", "entry"]
theorem nd_are_heads : N_are_heads.Nodup := by decide +kernel
def P_are_heads : List Str := ["thing"]
theorem sc_are_heads : FnScope N_are_heads P_are_heads (defScope Hd.s_are_heads) := fsc_of (by decide +kernel)
abbrev dd_are_heads : He.DefD := ⟨("are_heads", none), "are_heads", "are_heads", defArgs Hd.s_are_heads, defBody Hd.s_are_heads, defScope Hd.s_are_heads, [], []⟩
noncomputable def m_are_heads : M Fl := seqS (iteS (orT (notT (tst (calD g_is_row (consV (getM 0) (consV (pur (.int 1)) (consV (pur (.int 60)) (pur []))))))) (notT (tst (calM allC (consM (frzM (lcO [1] (itemsT (getM 0)) (putM 1) (pur true) (calD g_is_head (consV (getM 1) (pur []))))) (pur [])))))) (seqS (retM (pur (.bl false))) (pur .nx)) (pur .nx)) (seqS (iteS (tst (bin ltD (bnd (frzM (lcO [1] (itemsT (getM 0)) (putM 1) (pur true) (ixM 1 (pur (.int 0))))) fun d => lif (lenDD d)) (calM lenC (consM (getM 0) (pur []))))) (seqS (retM (pur (.bl false))) (pur .nx)) (pur .nx)) (seqS (retM (bin leD (calM sumC (consM (frzM (lcO [1] (itemsT (getM 0)) (putM 1) (pur true) (calM lenC (consM (ixM 1 (pur (.int 2))) (pur []))))) (pur []))) (pur (.int 4000)))) (pur .nx)))
noncomputable def g_are_heads : FSem := semF N_are_heads.length m_are_heads
theorem c_are_heads {P : Program} {w : World} {base : Heap} {K : PySem.W.Frag} {mg : Str → Option Value} (g : Gd Hd.faL Hd.fnL Hd.exB K mg) : Cal P w K mg base 4 "are_heads" 1 g_are_heads :=
  g.cal (d := dd_are_heads) (ps := P_are_heads) (N := N_are_heads) 8 8 (S := sc_are_heads) (hb := (fun _ _ _ _ _ _ us hl => match us, hl with | [_], _ => rfl)) (hm := fun f cdv A outer s H E hr => (dss_cons (ds_if (dt_w (dw_or (dt_not (dt_val (de_call (c_is_row g) (dr_val (de_var 0) (dr_val (de_int) (dr_val (de_glob (g.int 59)) (dr_nil)))) (fun _ => hr)))) (dw_or1 (dt_not (dt_val (de_all (fun _ => g.fre 39) (da_cons (de_dl (dl_lc (own := [("entry", 1)]) (di_tup (de_var 0)) (dg_name 1 (fun _ => nd_are_heads)) (dts_nil) (de_call (c_is_head g) (dr_val (de_var 1) (dr_nil)) (fun _ => hr)) (by simp) (fun _ => blk_of (N := N_are_heads) (sc := defScope Hd.s_are_heads) (by decide +kernel) rfl rfl) (fun _ => nd_are_heads))) (da_nil)))))))) (dss_cons (ds_ret (de_bl)) (dss_nil)) (dss_nil)) (dss_cons (ds_if (dt_lt (de_lenD (fun _ => g.fre 45) (fun _ => g.fre 50) (de_dl (dl_lc (own := [("entry", 1)]) (di_tup (de_var 0)) (dg_name 1 (fun _ => nd_are_heads)) (dts_nil) (de_ixN 1 (de_int)) (by simp) (fun _ => blk_of (N := N_are_heads) (sc := defScope Hd.s_are_heads) (by decide +kernel) rfl rfl) (fun _ => nd_are_heads)))) (de_len (fun _ => g.fre 45) (da_cons (de_var 0) (da_nil)))) (dss_cons (ds_ret (de_bl)) (dss_nil)) (dss_nil)) (dss_cons (ds_ret (de_le (de_sum (fun _ => g.fre 52) (da_cons (de_dl (dl_lc (own := [("entry", 1)]) (di_tup (de_var 0)) (dg_name 1 (fun _ => nd_are_heads)) (dts_nil) (de_len (fun _ => g.fre 45) (da_cons (de_ixN 1 (de_int)) (da_nil))) (by simp) (fun _ => blk_of (N := N_are_heads) (sc := defScope Hd.s_are_heads) (by decide +kernel) rfl rfl) (fun _ => nd_are_heads))) (da_nil))) (de_glob (g.int 61)))) (dss_nil))) : DSs (bodyX P w K mg base N_are_heads dd_are_heads f cdv A outer s H E) K E0x (dd_are_heads).body m_are_heads))
def N_is_move : List Str := ["thing", "first", "behind"]
theorem nd_is_move : N_is_move.Nodup := by decide +kernel
def P_is_move : List Str := ["thing", "first", "behind"]
theorem sc_is_move : FnScope N_is_move P_is_move (defScope Hd.s_is_move) := fsc_of (by decide +kernel)
abbrev dd_is_move : He.DefD := ⟨("is_move", none), "is_move", "is_move", defArgs Hd.s_is_move, defBody Hd.s_is_move, defScope Hd.s_is_move, [], []⟩
noncomputable def m_is_move : M Fl := seqS (iteS (orT (notT (tst (calD g_is_row (consV (getM 0) (consV (pur (.int 3)) (consV (pur (.int 3)) (pur []))))))) (orT (tst (bin neO (ixM 0 (pur (.int 0))) (pur (.str "move")))) (notT (tst (calD g_within (consV (ixM 0 (pur (.int 1))) (consV (pur (.int 0)) (consV (pur (.int 1)) (pur []))))))))) (seqS (retM (pur (.bl false))) (pur .nx)) (pur .nx)) (seqS (iteS (orT (notT (tst (calD g_is_row (consV (ixM 0 (pur (.int 2))) (consV (pur (.int 1)) (consV (pur (.int 8)) (pur []))))))) (notT (tst (calD g_are_places (consV (ixM 0 (pur (.int 2))) (consV (getM 1) (consV (getM 2) (pur [])))))))) (seqS (retM (pur (.bl false))) (pur .nx)) (pur .nx)) (seqS (retM (bin eqO (bnd (ixM 0 (pur (.int 2))) fun d => lif (lenDD d)) (calM lenC (consM (ixM 0 (pur (.int 2))) (pur []))))) (pur .nx)))
noncomputable def g_is_move : FSem := semF N_is_move.length m_is_move
theorem c_is_move {P : Program} {w : World} {base : Heap} {K : PySem.W.Frag} {mg : Str → Option Value} (g : Gd Hd.faL Hd.fnL Hd.exB K mg) : Cal P w K mg base 4 "is_move" 3 g_is_move :=
  g.cal (d := dd_is_move) (ps := P_is_move) (N := N_is_move) 10 10 (S := sc_is_move) (hb := (fun _ _ _ _ _ _ us hl => match us, hl with | [_, _, _], _ => rfl)) (hm := fun f cdv A outer s H E hr => (dss_cons (ds_if (dt_w (dw_or (dt_not (dt_val (de_call (c_is_row g) (dr_val (de_var 0) (dr_val (de_int) (dr_val (de_int) (dr_nil)))) (fun _ => hr)))) (dw_or (dt_ne (fun _ => u65 hr) (de_ixN 0 (de_int)) (de_str)) (dw_or1 (dt_not (dt_val (de_call (c_within g) (dr_val (de_ixN 0 (de_int)) (dr_val (de_int) (dr_val (de_int) (dr_nil)))) (fun _ => hr)))))))) (dss_cons (ds_ret (de_bl)) (dss_nil)) (dss_nil)) (dss_cons (ds_if (dt_w (dw_or (dt_not (dt_val (de_call (c_is_row g) (dr_val (de_ixN 0 (de_int)) (dr_val (de_int) (dr_val (de_glob (g.int 62)) (dr_nil)))) (fun _ => hr)))) (dw_or1 (dt_not (dt_val (de_call (c_are_places g) (dr_val (de_ixN 0 (de_int)) (dr_val (de_var 1) (dr_val (de_var 2) (dr_nil)))) (fun _ => hr))))))) (dss_cons (ds_ret (de_bl)) (dss_nil)) (dss_nil)) (dss_cons (ds_ret (de_eq (fun _ => u65 hr) (de_lenD (fun _ => g.fre 45) (fun _ => g.fre 50) (de_ixN 0 (de_int))) (de_len (fun _ => g.fre 45) (da_cons (de_ixN 0 (de_int)) (da_nil))))) (dss_nil))) : DSs (bodyX P w K mg base N_is_move dd_is_move f cdv A outer s H E) K E0x (dd_is_move).body m_is_move))
def N_is_call : List Str := ["thing", "first", "behind", "exits"]
theorem nd_is_call : N_is_call.Nodup := by decide +kernel
def P_is_call : List Str := ["thing", "first", "behind", "exits"]
theorem sc_is_call : FnScope N_is_call P_is_call (defScope Hd.s_is_call) := fsc_of (by decide +kernel)
abbrev dd_is_call : He.DefD := ⟨("is_call", none), "is_call", "is_call", defArgs Hd.s_is_call, defBody Hd.s_is_call, defScope Hd.s_is_call, [], []⟩
noncomputable def m_is_call : M Fl := seqS (iteS (orT (notT (tst (calD g_is_row (consV (getM 0) (consV (pur (.int 3)) (consV (pur (.int 3)) (pur []))))))) (orT (tst (bin neO (ixM 0 (pur (.int 0))) (pur (.str "call")))) (notT (tst (calD g_within (consV (ixM 0 (pur (.int 1))) (consV (pur (.int 0)) (consV (bin subD (calM lenC (consM (getM 3) (pur []))) (pur (.int 1))) (pur []))))))))) (seqS (retM (pur (.bl false))) (pur .nx)) (pur .nx)) (seqS (retM (andV (calD g_is_row (consV (ixM 0 (pur (.int 2))) (consV (ixM 3 (ixM 0 (pur (.int 1)))) (consV (ixM 3 (ixM 0 (pur (.int 1)))) (pur []))))) (calD g_are_places (consV (ixM 0 (pur (.int 2))) (consV (getM 1) (consV (getM 2) (pur []))))))) (pur .nx))
noncomputable def g_is_call : FSem := semF N_is_call.length m_is_call
theorem c_is_call {P : Program} {w : World} {base : Heap} {K : PySem.W.Frag} {mg : Str → Option Value} (g : Gd Hd.faL Hd.fnL Hd.exB K mg) : Cal P w K mg base 4 "is_call" 4 g_is_call :=
  g.cal (d := dd_is_call) (ps := P_is_call) (N := N_is_call) 11 11 (S := sc_is_call) (hb := (fun _ _ _ _ _ _ us hl => match us, hl with | [_, _, _, _], _ => rfl)) (hm := fun f cdv A outer s H E hr => (dss_cons (ds_if (dt_w (dw_or (dt_not (dt_val (de_call (c_is_row g) (dr_val (de_var 0) (dr_val (de_int) (dr_val (de_int) (dr_nil)))) (fun _ => hr)))) (dw_or (dt_ne (fun _ => u65 hr) (de_ixN 0 (de_int)) (de_str)) (dw_or1 (dt_not (dt_val (de_call (c_within g) (dr_val (de_ixN 0 (de_int)) (dr_val (de_int) (dr_val (de_sub (de_len (fun _ => g.fre 45) (da_cons (de_var 3) (da_nil))) (de_int)) (dr_nil)))) (fun _ => hr)))))))) (dss_cons (ds_ret (de_bl)) (dss_nil)) (dss_nil)) (dss_cons (ds_ret (de_and (de_call (c_is_row g) (dr_val (de_ixN 0 (de_int)) (dr_val (de_ixN 3 (de_ixN 0 (de_int))) (dr_val (de_ixN 3 (de_ixN 0 (de_int))) (dr_nil)))) (fun _ => hr)) (de_one (de_call (c_are_places g) (dr_val (de_ixN 0 (de_int)) (dr_val (de_var 1) (dr_val (de_var 2) (dr_nil)))) (fun _ => hr))))) (dss_nil)) : DSs (bodyX P w K mg base N_is_call dd_is_call f cdv A outer s H E) K E0x (dd_is_call).body m_is_call))
def N_law_single : List Str := ["jug", "most", "sizes", "p", "size"]
theorem nd_law_single : N_law_single.Nodup := by decide +kernel
def P_law_single : List Str := ["jug", "most"]
theorem sc_law_single : FnScope N_law_single P_law_single (defScope Hd.s_law_single) := fsc_of (by decide +kernel)
abbrev dd_law_single : He.DefD := ⟨("_law_single", none), "_law_single", "_law_single", defArgs Hd.s_law_single, defBody Hd.s_law_single, defScope Hd.s_law_single, [], []⟩
noncomputable def m_law_single : M Fl := seqS (asgM (frzM (lcO [3] (rng1 (consM (bin addD (pur (.int 1)) (calD g_law_take (consS 0 (consV (pur (.int 3)) (pur []))))) (pur []))) (putM 3) (pur true) (bin addD (pur (.int 1)) (calD g_law_take (consS 0 (consV (getM 1) (pur []))))))) (putM 2)) (seqS (retM (calD g_law_program (consS 0 (consV (frzM (lcO [4] (itemsL (getM 2)) (putM 4) (pur true) (pur (.int 1)))) (consV (getM 2) (consV (lstM (consM (calD g_law_take (consS 0 (consV (pur (.int 10)) (pur [])))) (consM (calD g_law_take (consS 0 (consV (pur (.int 10)) (pur [])))) (pur [])))) (pur []))))))) (pur .nx))
noncomputable def g_law_single : FSem := semF N_law_single.length m_law_single
theorem c_law_single {P : Program} {w : World} {base : Heap} {K : PySem.W.Frag} {mg : Str → Option Value} (g : Gd Hd.faL Hd.fnL Hd.exB K mg) : Cal P w K mg base 4 "_law_single" 2 g_law_single :=
  g.cal (d := dd_law_single) (ps := P_law_single) (N := N_law_single) 29 29 (S := sc_law_single) (hb := (fun _ _ _ _ _ _ us hl => match us, hl with | [_, _], _ => rfl)) (hm := fun f cdv A outer s H E hr => (dss_cons (ds_setL 2 (dl_lc (own := [("p", 3)]) (di_range1 (fun _ => g.fre 49) (da_cons (de_add (de_int) (de_call (c_law_take g) (dr_ref 0 (dr_val (de_int) (dr_nil))) (fun _ => hr))) (da_nil))) (dg_name 3 (fun _ => nd_law_single)) (dts_nil) (de_add (de_int) (de_call (c_law_take g) (dr_ref 0 (dr_val (de_var 1) (dr_nil))) (fun _ => hr))) (by simp) (fun _ => blk_of (N := N_law_single) (sc := defScope Hd.s_law_single) (by decide +kernel) rfl rfl) (fun _ => nd_law_single))) (dss_cons (ds_ret (de_call (c_law_program g) (dr_ref 0 (dr_val (de_dl (dl_lc (own := [("size", 4)]) (di_list (de_var 2)) (dg_name 4 (fun _ => nd_law_single)) (dts_nil) (de_int) (by simp) (fun _ => blk_of (N := N_law_single) (sc := defScope Hd.s_law_single) (by decide +kernel) rfl rfl) (fun _ => nd_law_single))) (dr_val (de_var 2) (dr_val (de_lst (da_cons (de_call (c_law_take g) (dr_ref 0 (dr_val (de_int) (dr_nil))) (fun _ => hr)) (da_cons (de_call (c_law_take g) (dr_ref 0 (dr_val (de_int) (dr_nil))) (fun _ => hr)) (da_nil)))) (dr_nil))))) (fun _ => hr))) (dss_nil)) : DSs (bodyX P w K mg base N_law_single dd_law_single f cdv A outer s H E) K E0x (dd_law_single).body m_law_single))
def N_is_place : List Str := ["thing", "first", "behind", "exits", "what"]
theorem nd_is_place : N_is_place.Nodup := by decide +kernel
def P_is_place : List Str := ["thing", "first", "behind", "exits"]
theorem sc_is_place : FnScope N_is_place P_is_place (defScope Hd.s_is_place) := fsc_of (by decide +kernel)
abbrev dd_is_place : He.DefD := ⟨("is_place", none), "is_place", "is_place", defArgs Hd.s_is_place, defBody Hd.s_is_place, defScope Hd.s_is_place, [], []⟩
noncomputable def m_is_place : M Fl := seqS (iteS (orT (notT (tst (calD g_is_row (consV (getM 0) (consV (pur (.int 2)) (consV (pur (.int 2)) (pur []))))))) (notT (tst (calD g_within (consV (ixM 0 (pur (.int 0))) (consV (pur (.int 0)) (consV (pur (.int 9)) (pur [])))))))) (seqS (retM (pur (.bl false))) (pur .nx)) (pur .nx)) (seqS (asgM (ixM 0 (pur (.int 1))) (putM 4)) (seqS (retM (orV (calD g_is_move (consV (getM 4) (consV (getM 1) (consV (getM 2) (pur []))))) (orV (calD g_is_call (consV (getM 4) (consV (getM 1) (consV (getM 2) (consV (getM 3) (pur [])))))) (calD g_is_exit (consV (getM 4) (consV (ixM 3 (getM 1)) (pur []))))))) (pur .nx)))
noncomputable def g_is_place : FSem := semF N_is_place.length m_is_place
theorem c_is_place {P : Program} {w : World} {base : Heap} {K : PySem.W.Frag} {mg : Str → Option Value} (g : Gd Hd.faL Hd.fnL Hd.exB K mg) : Cal P w K mg base 5 "is_place" 4 g_is_place :=
  g.cal (d := dd_is_place) (ps := P_is_place) (N := N_is_place) 13 13 (S := sc_is_place) (hb := (fun _ _ _ _ _ _ us hl => match us, hl with | [_, _, _, _], _ => rfl)) (hm := fun f cdv A outer s H E hr => (dss_cons (ds_if (dt_w (dw_or (dt_not (dt_val (de_call (c_is_row g) (dr_val (de_var 0) (dr_val (de_int) (dr_val (de_int) (dr_nil)))) (fun _ => hr)))) (dw_or1 (dt_not (dt_val (de_call (c_within g) (dr_val (de_ixN 0 (de_int)) (dr_val (de_int) (dr_val (de_glob (g.int 63)) (dr_nil)))) (fun _ => hr))))))) (dss_cons (ds_ret (de_bl)) (dss_nil)) (dss_nil)) (dss_cons (ds_set 4 (de_ixN 0 (de_int)) (fun _ => nd_is_place)) (dss_cons (ds_ret (de_or (de_call (c_is_move g) (dr_val (de_var 4) (dr_val (de_var 1) (dr_val (de_var 2) (dr_nil)))) (fun _ => hr)) (de_or (de_call (c_is_call g) (dr_val (de_var 4) (dr_val (de_var 1) (dr_val (de_var 2) (dr_val (de_var 3) (dr_nil))))) (fun _ => hr)) (de_one (de_call (c_is_exit g) (dr_val (de_var 4) (dr_val (de_ixN 3 (de_var 1)) (dr_nil))) (fun _ => hr)))))) (dss_nil))) : DSs (bodyX P w K mg base N_is_place dd_is_place f cdv A outer s H E) K E0x (dd_is_place).body m_is_place))
def N_is_program : List Str := ["thing", "exits", "starts", "index", "entry", "place"]
theorem nd_is_program : N_is_program.Nodup := by decide +kernel
def P_is_program : List Str := ["thing"]
theorem sc_is_program : FnScope N_is_program P_is_program (defScope Hd.s_is_program) := fsc_of (by decide +kernel)
abbrev dd_is_program : He.DefD := ⟨("is_program", none), "is_program", "is_program", defArgs Hd.s_is_program, defBody Hd.s_is_program, defScope Hd.s_is_program, [], []⟩
noncomputable def m_is_program : M Fl := seqS (iteS (notT (tst (calD g_are_heads (consV (getM 0) (pur []))))) (seqS (retM (pur (.bl false))) (pur .nx)) (pur .nx)) (seqS (asgM (frzM (lcO2 [4, 5] [5] (itemsT (getM 0)) (putM 4) (pur true) (itemsT (ixM 4 (pur (.int 2)))) (putM 5) (pur true) (ixM 4 (pur (.int 1))))) (putM 1)) (seqS (asgM (calD g_starts_of (consV (getM 0) (pur []))) (putM 2)) (seqS (Ly.forM (enumT (consM (getM 0) (pur []))) (gtup 2 (gcons (putM 3) (gcons (putM 4) (gnil)))) (seqS (Ly.forM (itemsT (ixM 4 (pur (.int 2)))) (putM 5) (seqS (iteS (notT (tst (calD g_is_place (consV (getM 5) (consV (ixM 2 (getM 3)) (consV (ixM 2 (bin addD (getM 3) (pur (.int 1)))) (consV (getM 1) (pur [])))))))) (seqS (retM (pur (.bl false))) (pur .nx)) (pur .nx)) (pur .nx))) (pur .nx))) (seqS (retM (pur (.bl true))) (pur .nx)))))
noncomputable def g_is_program : FSem := semF N_is_program.length m_is_program
theorem c_is_program {P : Program} {w : World} {base : Heap} {K : PySem.W.Frag} {mg : Str → Option Value} (g : Gd Hd.faL Hd.fnL Hd.exB K mg) : Cal P w K mg base 6 "is_program" 1 g_is_program :=
  g.cal (d := dd_is_program) (ps := P_is_program) (N := N_is_program) 14 14 (S := sc_is_program) (hb := (fun _ _ _ _ _ _ us hl => match us, hl with | [_], _ => rfl)) (hm := fun f cdv A outer s H E hr => (dss_cons (ds_if (dt_not (dt_val (de_call (c_are_heads g) (dr_val (de_var 0) (dr_nil)) (fun _ => hr)))) (dss_cons (ds_ret (de_bl)) (dss_nil)) (dss_nil)) (dss_cons (ds_setL 1 (dl_lc2 (own := [("entry", 4), ("place", 5)]) (vs1 := [5]) (di_tup (de_var 0)) (dg_name 4 (fun _ => nd_is_program)) (dts_nil) (di_tup (de_ixN 4 (de_int))) (dg_name 5 (fun _ => nd_is_program)) (dts_nil) (de_ixN 4 (de_int)) (by simp) (by simp) (by simp) (fun _ => blk_of (N := N_is_program) (sc := defScope Hd.s_is_program) (by decide +kernel) rfl rfl) (fun _ => nd_is_program))) (dss_cons (ds_set 2 (de_call (c_starts_of g) (dr_val (de_var 0) (dr_nil)) (fun _ => hr)) (fun _ => nd_is_program)) (dss_cons (ds_for (di_enumT (fun _ => g.fre 42) (da_cons (de_var 0) (da_nil))) (dg_tup (dgs_cons (dg_name 3 (fun _ => nd_is_program)) (dgs_cons (dg_name 4 (fun _ => nd_is_program)) (dgs_nil)))) (dss_cons (ds_for (di_tup (de_ixN 4 (de_int))) (dg_name 5 (fun _ => nd_is_program)) (dss_cons (ds_if (dt_not (dt_val (de_call (c_is_place g) (dr_val (de_var 5) (dr_val (de_ixN 2 (de_var 3)) (dr_val (de_ixN 2 (de_add (de_var 3) (de_int))) (dr_val (de_var 1) (dr_nil))))) (fun _ => hr)))) (dss_cons (ds_ret (de_bl)) (dss_nil)) (dss_nil)) (dss_nil)) (fun _ => pown)) (dss_nil)) (fun _ => pown)) (dss_cons (ds_ret (de_bl)) (dss_nil))))) : DSs (bodyX P w K mg base N_is_program dd_is_program f cdv A outer s H E) K E0x (dd_is_program).body m_is_program))
def N_checked_program : List Str := ["program"]
theorem nd_checked_program : N_checked_program.Nodup := by decide +kernel
def P_checked_program : List Str := ["program"]
theorem sc_checked_program : FnScope N_checked_program P_checked_program (defScope Hd.s_checked_program) := fsc_of (by decide +kernel)
abbrev dd_checked_program : He.DefD := ⟨("checked_program", none), "checked_program", "checked_program", defArgs Hd.s_checked_program, defBody Hd.s_checked_program, defScope Hd.s_checked_program, [], []⟩
noncomputable def m_checked_program : M Fl := seqS (iteS (notT (tst (calD g_is_program (consV (getM 0) (pur []))))) (seqS (stk) (pur .nx)) (pur .nx)) (pur .nx)
noncomputable def g_checked_program : FSem := semF N_checked_program.length m_checked_program
theorem c_checked_program {P : Program} {w : World} {base : Heap} {K : PySem.W.Frag} {mg : Str → Option Value} (g : Gd Hd.faL Hd.fnL Hd.exB K mg) : Cal P w K mg base 7 "checked_program" 1 g_checked_program :=
  g.cal (d := dd_checked_program) (ps := P_checked_program) (N := N_checked_program) 15 15 (S := sc_checked_program) (hb := (fun _ _ _ _ _ _ us hl => match us, hl with | [_], _ => rfl)) (hm := fun f cdv A outer s H E hr => (dss_cons (ds_if (dt_not (dt_val (de_call (c_is_program g) (dr_val (de_var 0) (dr_nil)) (fun _ => hr)))) (dss_cons (ds_never) (dss_nil)) (dss_nil)) (dss_nil) : DSs (bodyX P w K mg base N_checked_program dd_checked_program f cdv A outer s H E) K E0x (dd_checked_program).body m_checked_program))
def N_need_prices : List Str := ["program", "player", "prices", "procedure", "many", "count", "price"]
theorem nd_need_prices : N_need_prices.Nodup := by decide +kernel
def P_need_prices : List Str := ["program", "player", "prices"]
theorem sc_need_prices : FnScope N_need_prices P_need_prices (defScope Hd.s_need_prices) := fsc_of (by decide +kernel)
abbrev dd_need_prices : He.DefD := ⟨("need_prices", none), "need_prices", "need_prices", defArgs Hd.s_need_prices, defBody Hd.s_need_prices, defScope Hd.s_need_prices, [], []⟩
noncomputable def m_need_prices : M Fl := seqS (bnd (calD g_checked_program (consV (getM 0) (pur []))) fun _ => pur .nx) (seqS (Ly.forM (enumL (consM (calD g_exits_at (consV (getM 0) (pur []))) (pur []))) (gtup 2 (gcons (putM 3) (gcons (putM 4) (gnil)))) (seqS (iteS (tst (bin gtD (getM 4) (pur (.int 1)))) (seqS (stk) (pur .nx)) (pur .nx)) (pur .nx))) (seqS (bnd (calD g_need_player (consV (getM 1) (pur []))) fun _ => pur .nx) (seqS (asgM (calM lenC (consM (calD g_flat (consV (getM 0) (pur []))) (pur []))) (putM 5)) (seqS (iteS (orT (notT (tst (calD g_is_row (consV (getM 2) (consV (getM 5) (consV (getM 5) (pur []))))))) (notT (tst (calM allC (consM (frzM (lcO [6] (itemsT (getM 2)) (putM 6) (pur true) (calD g_within (consV (getM 6) (consV (pur (.int 0)) (consV (pur (.int 1000000000000)) (pur []))))))) (pur [])))))) (seqS (stk) (pur .nx)) (pur .nx)) (pur .nx)))))
noncomputable def g_need_prices : FSem := semF N_need_prices.length m_need_prices
theorem c_need_prices {P : Program} {w : World} {base : Heap} {K : PySem.W.Frag} {mg : Str → Option Value} (g : Gd Hd.faL Hd.fnL Hd.exB K mg) : Cal P w K mg base 8 "need_prices" 3 g_need_prices :=
  g.cal (d := dd_need_prices) (ps := P_need_prices) (N := N_need_prices) 17 17 (S := sc_need_prices) (hb := (fun _ _ _ _ _ _ us hl => match us, hl with | [_, _, _], _ => rfl)) (hm := fun f cdv A outer s H E hr => (dss_cons (ds_expr (de_call (c_checked_program g) (dr_val (de_var 0) (dr_nil)) (fun _ => hr))) (dss_cons (ds_for (di_enumL (fun _ => g.fre 42) (da_cons (de_call (c_exits_at g) (dr_val (de_var 0) (dr_nil)) (fun _ => hr)) (da_nil))) (dg_tup (dgs_cons (dg_name 3 (fun _ => nd_need_prices)) (dgs_cons (dg_name 4 (fun _ => nd_need_prices)) (dgs_nil)))) (dss_cons (ds_if (dt_gt (de_var 4) (de_int)) (dss_cons (ds_never) (dss_nil)) (dss_nil)) (dss_nil)) (fun _ => pown)) (dss_cons (ds_expr (de_call (c_need_player g) (dr_val (de_var 1) (dr_nil)) (fun _ => hr))) (dss_cons (ds_set 5 (de_len (fun _ => g.fre 45) (da_cons (de_call (c_flat g) (dr_val (de_var 0) (dr_nil)) (fun _ => hr)) (da_nil))) (fun _ => nd_need_prices)) (dss_cons (ds_if (dt_w (dw_or (dt_not (dt_val (de_call (c_is_row g) (dr_val (de_var 2) (dr_val (de_var 5) (dr_val (de_var 5) (dr_nil)))) (fun _ => hr)))) (dw_or1 (dt_not (dt_val (de_all (fun _ => g.fre 39) (da_cons (de_dl (dl_lc (own := [("price", 6)]) (di_tup (de_var 2)) (dg_name 6 (fun _ => nd_need_prices)) (dts_nil) (de_call (c_within g) (dr_val (de_var 6) (dr_val (de_int) (dr_val (de_glob (g.int 64)) (dr_nil)))) (fun _ => hr)) (by simp) (fun _ => blk_of (N := N_need_prices) (sc := defScope Hd.s_need_prices) (by decide +kernel) rfl rfl) (fun _ => nd_need_prices))) (da_nil)))))))) (dss_cons (ds_never) (dss_nil)) (dss_nil)) (dss_nil))))) : DSs (bodyX P w K mg base N_need_prices dd_need_prices f cdv A outer s H E) K E0x (dd_need_prices).body m_need_prices))
def N_is_price_sheet : List Str := ["program", "player", "prices", "thing", "places", "v", "mark", "what", "entry", "w"]
theorem nd_is_price_sheet : N_is_price_sheet.Nodup := by decide +kernel
def P_is_price_sheet : List Str := ["program", "player", "prices", "thing"]
theorem sc_is_price_sheet : FnScope N_is_price_sheet P_is_price_sheet (defScope Hd.s_is_price_sheet) := fsc_of (by decide +kernel)
abbrev dd_is_price_sheet : He.DefD := ⟨("is_price_sheet", none), "is_price_sheet", "is_price_sheet", defArgs Hd.s_is_price_sheet, defBody Hd.s_is_price_sheet, defScope Hd.s_is_price_sheet, [], []⟩
noncomputable def m_is_price_sheet : M Fl := seqS (bnd (calD g_need_prices (consV (getM 0) (consV (getM 1) (consV (getM 2) (pur []))))) fun _ => pur .nx) (seqS (asgM (calD g_flat (consV (getM 0) (pur []))) (putM 4)) (seqS (iteS (orT (notT (tst (calD g_is_row (consV (getM 3) (consV (calM lenC (consM (getM 4) (pur []))) (consV (calM lenC (consM (getM 4) (pur []))) (pur []))))))) (notT (tst (calM allC (consM (frzM (lcO [8] (itemsT (getM 3)) (putM 8) (pur true) (calD g_is_entry_form (consV (getM 8) (pur []))))) (pur [])))))) (seqS (retM (pur (.bl false))) (pur .nx)) (pur .nx)) (seqS (Ly.forM (enumL (consM (getM 4) (pur []))) (gtup 2 (gcons (putM 5) (gcons (gtup 2 (gcons (putM 6) (gcons (putM 7) (gnil)))) (gnil)))) (seqS (iteS (notT (tst (calD g_is_right_entry (consV (getM 7) (consV (getM 1) (consV (ixM 2 (getM 5)) (consV (ixM 3 (getM 5)) (consV (frzM (lcO [9] (itemsT (calD g_used_by (consV (getM 7) (pur [])))) (putM 9) (pur true) (ixM 3 (getM 9)))) (pur []))))))))) (seqS (retM (pur (.bl false))) (pur .nx)) (pur .nx)) (pur .nx))) (seqS (retM (pur (.bl true))) (pur .nx)))))
noncomputable def g_is_price_sheet : FSem := semF N_is_price_sheet.length m_is_price_sheet
theorem c_is_price_sheet {P : Program} {w : World} {base : Heap} {K : PySem.W.Frag} {mg : Str → Option Value} (g : Gd Hd.faL Hd.fnL Hd.exB K mg) : Cal P w K mg base 9 "is_price_sheet" 4 g_is_price_sheet :=
  g.cal (d := dd_is_price_sheet) (ps := P_is_price_sheet) (N := N_is_price_sheet) 21 21 (S := sc_is_price_sheet) (hb := (fun _ _ _ _ _ _ us hl => match us, hl with | [_, _, _, _], _ => rfl)) (hm := fun f cdv A outer s H E hr => (dss_cons (ds_expr (de_call (c_need_prices g) (dr_val (de_var 0) (dr_val (de_var 1) (dr_val (de_var 2) (dr_nil)))) (fun _ => hr))) (dss_cons (ds_set 4 (de_call (c_flat g) (dr_val (de_var 0) (dr_nil)) (fun _ => hr)) (fun _ => nd_is_price_sheet)) (dss_cons (ds_if (dt_w (dw_or (dt_not (dt_val (de_call (c_is_row g) (dr_val (de_var 3) (dr_val (de_len (fun _ => g.fre 45) (da_cons (de_var 4) (da_nil))) (dr_val (de_len (fun _ => g.fre 45) (da_cons (de_var 4) (da_nil))) (dr_nil)))) (fun _ => hr)))) (dw_or1 (dt_not (dt_val (de_all (fun _ => g.fre 39) (da_cons (de_dl (dl_lc (own := [("entry", 8)]) (di_tup (de_var 3)) (dg_name 8 (fun _ => nd_is_price_sheet)) (dts_nil) (de_call (c_is_entry_form g) (dr_val (de_var 8) (dr_nil)) (fun _ => hr)) (by simp) (fun _ => blk_of (N := N_is_price_sheet) (sc := defScope Hd.s_is_price_sheet) (by decide +kernel) rfl rfl) (fun _ => nd_is_price_sheet))) (da_nil)))))))) (dss_cons (ds_ret (de_bl)) (dss_nil)) (dss_nil)) (dss_cons (ds_for (di_enumL (fun _ => g.fre 42) (da_cons (de_var 4) (da_nil))) (dg_tup (dgs_cons (dg_name 5 (fun _ => nd_is_price_sheet)) (dgs_cons (dg_tup (dgs_cons (dg_name 6 (fun _ => nd_is_price_sheet)) (dgs_cons (dg_name 7 (fun _ => nd_is_price_sheet)) (dgs_nil)))) (dgs_nil)))) (dss_cons (ds_if (dt_not (dt_val (de_call (c_is_right_entry g) (dr_val (de_var 7) (dr_val (de_var 1) (dr_val (de_ixN 2 (de_var 5)) (dr_val (de_ixN 3 (de_var 5)) (dr_val (de_dl (dl_lc (own := [("w", 9)]) (di_tup (de_call (c_used_by g) (dr_val (de_var 7) (dr_nil)) (fun _ => hr))) (dg_name 9 (fun _ => nd_is_price_sheet)) (dts_nil) (de_ixN 3 (de_var 9)) (by simp) (fun _ => blk_of (N := N_is_price_sheet) (sc := defScope Hd.s_is_price_sheet) (by decide +kernel) rfl rfl) (fun _ => nd_is_price_sheet))) (dr_nil)))))) (fun _ => hr)))) (dss_cons (ds_ret (de_bl)) (dss_nil)) (dss_nil)) (dss_nil)) (fun _ => pown)) (dss_cons (ds_ret (de_bl)) (dss_nil))))) : DSs (bodyX P w K mg base N_is_price_sheet dd_is_price_sheet f cdv A outer s H E) K E0x (dd_is_price_sheet).body m_is_price_sheet))
def N_law : List Str := ["script", "jug", "turn", "program", "places", "player", "prices", "times", "shift", "sheet", "more", "bent", "due", "odd", "one"]
theorem nd_law : N_law.Nodup := by decide +kernel
def P_law : List Str := ["script"]
theorem sc_law : FnScope N_law P_law (defScope Hd.s_law) := fsc_of (by decide +kernel)
abbrev dd_law : He.DefD := ⟨("law", none), "law", "law", defArgs Hd.s_law, defBody Hd.s_law, defScope Hd.s_law, [], []⟩
noncomputable def m_law : M Fl := seqS (setOM 1 (calO g_law_jug (consV (getM 0) (pur [])))) (seqS (Ly.forM (rng1 (consM (bin addD (pur (.int 1)) (calM min2C (consM (calM lenC (consM (getM 0) (pur []))) (consM (pur (.int 7)) (pur []))))) (pur []))) (putM 2) (seqS (asgM (calD g_law_single (consS 1 (consV (pur (.int 6)) (pur [])))) (putM 3)) (seqS (asgM (calD g_law_flat (consV (getM 3) (pur []))) (putM 4)) (seqS (asgM (calD g_law_take (consS 1 (consV (pur (.int 2)) (pur [])))) (putM 5)) (seqS (asgM (calD g_law_prices (consS 1 (consV (calM lenC (consM (getM 4) (pur []))) (pur [])))) (putM 6)) (seqS (asgM (bin addD (pur (.int 1)) (calD g_law_take (consS 1 (consV (pur (.int 4)) (pur []))))) (putM 7)) (seqS (asgM (calD g_law_take (consS 1 (consV (pur (.int 3)) (pur [])))) (putM 8)) (seqS (asgM (calD g_law_sheet (consV (getM 4) (consV (getM 5) (consV (getM 6) (pur []))))) (putM 9)) (seqS (asgM (calM tupleC (consM (frzM (lcO [14] (itemsT (getM 9)) (putM 14) (pur true) (ifE (tst (bin isO (getM 14) (pur .non))) (pur .non) (tupM (consM (ixM 14 (pur (.int 0))) (consM (bin addD (bin mulD (getM 7) (ixM 14 (pur (.int 1)))) (getM 8)) (pur []))))))) (pur []))) (putM 9)) (seqS (iteS (tst (bin isnbO (calD g_is_price_sheet (consV (getM 3) (consV (getM 5) (consV (getM 6) (consV (getM 9) (pur [])))))) (pur (.bl true)))) (seqS (retM (pur (.bl false))) (pur .nx)) (pur .nx)) (seqS (Ly.forM (rng1 (consM (pur (.int 6)) (pur []))) (putM 10) (seqS (asgM (calD g_law_bent (consS 1 (consV (getM 9) (pur [])))) (putM 11)) (seqS (asgM (calD g_law_judged (consV (getM 4) (consV (getM 5) (consV (getM 6) (consV (getM 11) (pur [])))))) (putM 12)) (seqS (iteS (notT (tst (calD (g_law_same 1) (consV (calD g_is_price_sheet (consV (getM 3) (consV (getM 5) (consV (getM 6) (consV (getM 11) (pur [])))))) (consV (getM 12) (pur [])))))) (seqS (retM (pur (.bl false))) (pur .nx)) (pur .nx)) (pur .nx))))) (seqS (Ly.forM (itemsT (tupM (consM (calM listC (consM (getM 9) (pur []))) (consM (bin addD (getM 9) (tupM (consM (pur .non) (pur [])))) (consM (slM (getM 9) (partM (pur (.int 1))) (pur none)) (consM (pur .non) (consM (pur (.int 0)) (pur [])))))))) (putM 13) (seqS (iteS (tst (bin isnbO (calD g_is_price_sheet (consV (getM 3) (consV (getM 5) (consV (getM 6) (consV (getM 13) (pur [])))))) (pur (.bl false)))) (seqS (retM (pur (.bl false))) (pur .nx)) (pur .nx)) (pur .nx))) (pur .nx))))))))))))) (seqS (retM (pur (.bl true))) (pur .nx)))
noncomputable def g_law : FSem := semF N_law.length m_law
theorem k_law {K : PySem.W.Frag} {mg : Str → Option Value} (g : Gd Hd.faL Hd.fnL Hd.exB K mg) : ∃ fd : FuncData, (∀ (s : Shared) (us : List Value), us.length = 1 → BindsTo s fd ⟨us, []⟩ (P_law.zip us)) ∧ ∀ (P : Program) (w : World) (base : Heap), FnOk P w K mg base CX0 10 (He.ga K "law") fd P_law (spF K 1 g_law) :=
  g.fnk (d := dd_law) (ps := P_law) (N := N_law) 36 36 (S := sc_law) (hb := (fun _ _ _ _ _ _ us hl => match us, hl with | [_], _ => rfl)) (hm := fun P w base f cdv A outer s H E hr => (dss_cons (ds_setO 1 (do_call (c_law_jug g) (dr_val (de_var 0) (dr_nil)) (fun _ => hr)) (fun _ => nd_law)) (dss_cons (ds_for (di_range1 (fun _ => g.fre 49) (da_cons (de_add (de_int) (de_min2 (fun _ => g.fre 48) (da_cons (de_len (fun _ => g.fre 45) (da_cons (de_var 0) (da_nil))) (da_cons (de_int) (da_nil))))) (da_nil))) (dg_name 2 (fun _ => nd_law)) (dss_cons (ds_set 3 (de_call (c_law_single g) (dr_ref 1 (dr_val (de_int) (dr_nil))) (fun _ => hr)) (fun _ => nd_law)) (dss_cons (ds_set 4 (de_call (c_law_flat g) (dr_val (de_var 3) (dr_nil)) (fun _ => hr)) (fun _ => nd_law)) (dss_cons (ds_set 5 (de_call (c_law_take g) (dr_ref 1 (dr_val (de_int) (dr_nil))) (fun _ => hr)) (fun _ => nd_law)) (dss_cons (ds_set 6 (de_call (c_law_prices g) (dr_ref 1 (dr_val (de_len (fun _ => g.fre 45) (da_cons (de_var 4) (da_nil))) (dr_nil))) (fun _ => hr)) (fun _ => nd_law)) (dss_cons (ds_set 7 (de_add (de_int) (de_call (c_law_take g) (dr_ref 1 (dr_val (de_int) (dr_nil))) (fun _ => hr))) (fun _ => nd_law)) (dss_cons (ds_set 8 (de_call (c_law_take g) (dr_ref 1 (dr_val (de_int) (dr_nil))) (fun _ => hr)) (fun _ => nd_law)) (dss_cons (ds_set 9 (de_call (c_law_sheet g) (dr_val (de_var 4) (dr_val (de_var 5) (dr_val (de_var 6) (dr_nil)))) (fun _ => hr)) (fun _ => nd_law)) (dss_cons (ds_set 9 (de_tuple (fun _ => g.fre 54) (da_cons (de_dl (dl_lc (own := [("one", 14)]) (di_tup (de_var 9)) (dg_name 14 (fun _ => nd_law)) (dts_nil) (de_if (dt_is (de_var 14) (de_non)) (de_non) (de_tup (da_cons (de_ixN 14 (de_int)) (da_cons (de_add (de_mul (de_var 7) (de_ixN 14 (de_int))) (de_var 8)) (da_nil))))) (by simp) (fun _ => blk_of (N := N_law) (sc := defScope Hd.s_law) (by decide +kernel) rfl rfl) (fun _ => nd_law))) (da_nil))) (fun _ => nd_law)) (dss_cons (ds_if (dt_isnb (de_call (c_is_price_sheet g) (dr_val (de_var 3) (dr_val (de_var 5) (dr_val (de_var 6) (dr_val (de_var 9) (dr_nil))))) (fun _ => hr)) (de_bl)) (dss_cons (ds_ret (de_bl)) (dss_nil)) (dss_nil)) (dss_cons (ds_for (di_range1 (fun _ => g.fre 49) (da_cons (de_int) (da_nil))) (dg_name 10 (fun _ => nd_law)) (dss_cons (ds_set 11 (de_call (c_law_bent g) (dr_ref 1 (dr_val (de_var 9) (dr_nil))) (fun _ => hr)) (fun _ => nd_law)) (dss_cons (ds_set 12 (de_call (c_law_judged g) (dr_val (de_var 4) (dr_val (de_var 5) (dr_val (de_var 6) (dr_val (de_var 11) (dr_nil))))) (fun _ => hr)) (fun _ => nd_law)) (dss_cons (ds_if (dt_not (dt_val (de_call (c_law_same g 1) (dr_val (de_call (c_is_price_sheet g) (dr_val (de_var 3) (dr_val (de_var 5) (dr_val (de_var 6) (dr_val (de_var 11) (dr_nil))))) (fun _ => hr)) (dr_val (de_var 12) (dr_nil))) (fun _ => hr)))) (dss_cons (ds_ret (de_bl)) (dss_nil)) (dss_nil)) (dss_nil)))) (fun _ => pown)) (dss_cons (ds_for (di_tup (de_tup (da_cons (de_list (fun _ => g.fre 46) (da_cons (de_var 9) (da_nil))) (da_cons (de_add (de_var 9) (de_tup (da_cons (de_non) (da_nil)))) (da_cons (de_slice (de_var 9) (dp_some (de_int)) (dp_none)) (da_cons (de_non) (da_cons (de_int) (da_nil)))))))) (dg_name 13 (fun _ => nd_law)) (dss_cons (ds_if (dt_isnb (de_call (c_is_price_sheet g) (dr_val (de_var 3) (dr_val (de_var 5) (dr_val (de_var 6) (dr_val (de_var 13) (dr_nil))))) (fun _ => hr)) (de_bl)) (dss_cons (ds_ret (de_bl)) (dss_nil)) (dss_nil)) (dss_nil)) (fun _ => pown)) (dss_nil)))))))))))) (fun _ => pown)) (dss_cons (ds_ret (de_bl)) (dss_nil))) : DSs (bodyX P w K mg base N_law dd_law f cdv A outer s H E) K E0x (dd_law).body m_law))
end Wk

set_option Elab.async false
set_option linter.all false
set_option maxRecDepth 100000
set_option maxHeartbeats 2000000
namespace Wk
open PySem L2 Ly
/-! ### the jug -/
abbrev Js : Type := Nat × Nat
def jD (ns : List Int) (s : Js) : List D := [.lst (ns.map .int), .int (s.1 : Nat), .int (s.2 : Nat)]
def cell0 (ns : List Int) (k : Nat) : Nat := match ns[k]? with
  | some z => 2 * z.natAbs + (if z < 0 then 1 else 0)
  | none => 3 * k + 5
def stir (c k : Nat) : Nat := if c < 10 ^ 18 then (c * 2654435761 + k * 40503 + 977) ^ 3 % 618970019642690137449562111 else c
def tk (ns : List Int) (many : Nat) (s : Js) : Nat × Js := if s.2 = 0 then (stir (cell0 ns s.1) s.1 % many, (s.1 + 1, stir (cell0 ns s.1) s.1 / many)) else (s.2 % many, (s.1, s.2 / many))
theorem tk_lt {ns : List Int} {many : Nat} (h : 0 < many) (s : Js) : (tk ns many s).1 < many := by
  unfold tk
  split <;> exact Nat.mod_lt _ h
theorem big8 {b : Nat} (h : b ≤ 2 ^ 60) : ((b : Nat) : Int).natAbs < 2 ^ 8000 := by
  rw [Int.natAbs_natCast]
  exact Nat.lt_of_le_of_lt h (Nat.pow_lt_pow_right (by decide) (by decide))
theorem take1 (a : Addr) (ns : List Int) (s : Js) (many : Nat) (hm : 0 < many) (hm2 : many ≤ 2 ^ 60) (h0 : s.2 ≠ 0) : ∃ ρ', m_law_take [some (.pr a (jD ns s)), some (.fz (.int many)), none, none, none] = .ok (.rt (.fz (.int ((tk ns many s).1 : Nat)))) ρ' ∧ ρ'[0]? = some (some (.pr a (jD ns (tk ns many s).2))) := by
  have e1 : cMod (s.2 : Nat) (many : Nat) = true := cMod_p (by omega)
  have e2 : cDiv (s.2 : Nat) (many : Nat) = true := cDiv_p (by omega) (big8 hm2)
  unfold m_law_take
  simp [jD, tk, h0, e1, e2, setCK]
def mFill (A B C N : Int) (pl : M D) : M Fl := seqS (asgM (ixM 0 (pur (.int 1))) (putM 2)) (seqS (asgM (Ly.bin addD (Ly.bin mulD (pur (.int 3)) (getM 2)) (pur (.int 5))) (putM 3)) (seqS (iteS (tst (Ly.bin ltD (getM 2) (calM lenC (consM (ixM 0 (pur (.int 0))) (pur []))))) (seqS (asgM (Ly.bin addD (Ly.bin mulD (pur (.int 2)) (calM absC (consM (Ly.bin ixD (ixM 0 (pur (.int 0))) (getM 2)) (pur [])))) (calM intC (consM (Ly.bin ltD (Ly.bin ixD (ixM 0 (pur (.int 0))) (getM 2)) (pur (.int 0))) (pur [])))) (putM 3)) (pur .nx)) (pur .nx)) (seqS (iteS (tst (Ly.bin ltD (getM 3) pl)) (seqS (asgM (Ly.bin modD (calM intC (consM (Ly.bin powD (Ly.bin addD (Ly.bin addD (Ly.bin mulD (getM 3) (pur (.int A))) (Ly.bin mulD (getM 2) (pur (.int B)))) (pur (.int C))) (pur (.int 3))) (pur []))) (pur (.int N))) (putM 3)) (pur .nx)) (pur .nx)) (seqS (setIM 0 (Ly.bin addD (getM 2) (pur (.int 1))) (pur (.int 1))) (seqS (setIM 0 (getM 3) (pur (.int 2))) (pur .nx))))))
theorem pow18 : decide (CPowX 10 18) = true := by decide +kernel
def stirG (A B C N L c k : Nat) : Nat := if c < L then (c * A + k * B + C) ^ 3 % N else c
theorem fill_gen {A B C N L : Nat} {pl : M D} (hpl : ∀ ρ, pl ρ = .ok (.int (L : Nat)) ρ) (m3 : ∀ z : Int, cMul z (A : Nat) = true) (m4 : ∀ z : Int, cMul z (B : Nat) = true) (m5 : ∀ z : Int, cMod z (N : Nat) = true) (hL : 63 ≤ L) (hp : ∀ c k : Nat, c < L → k < L → decide (CPowX ((c : Nat) * (A : Nat) + (k : Nat) * (B : Nat) + (C : Nat)) 3) = true)
    (a : Addr) (ns : List Int) (h63 : ns.length ≤ 63) (s : Js) (many : Nat) : mFill (A : Nat) (B : Nat) (C : Nat) (N : Nat) pl [some (.pr a (jD ns s)), some (.fz (.int many)), none, none, none] = .ok .nx [some (.pr a (jD ns (s.1 + 1, stirG A B C N L (cell0 ns s.1) s.1))), some (.fz (.int many)), some (.fz (.int (s.1 : Nat))), some (.fz (.int (stirG A B C N L (cell0 ns s.1) s.1 : Nat))), none] := by
  have m1 : cMul 3 (s.1 : Nat) = true := cMul_l (by decide)
  have m2 : ∀ z : Int, cMul 2 z = true := fun z => cMul_l (by decide)
  unfold mFill
  by_cases hk : s.1 < ns.length
  · have ez : ns[s.1]? = some ns[s.1] := List.getElem?_eq_getElem hk
    have ec : cell0 ns s.1 = 2 * ns[s.1].natAbs + (if ns[s.1] < 0 then 1 else 0) := by unfold cell0; rw [ez]
    have ei : (2 * (if ns[s.1] < 0 then -ns[s.1] else ns[s.1]) + (if ns[s.1] < 0 then 1 else 0) : Int) = ((cell0 ns s.1 : Nat) : Int) := by
      rw [ec]
      split <;> omega
    generalize cell0 ns s.1 = c at ei ⊢
    by_cases hc : c < L
    · have hs := hp c s.1 hc (by omega)
      have es : stirG A B C N L c s.1 = (c * A + s.1 * B + C) ^ 3 % N := by unfold stirG; rw [if_pos hc]
      rw [es]
      simp [jD, m1, m2, m3, m4, m5, hpl, ez, hk, ei, hc, hs, setCK]
    · have es : stirG A B C N L c s.1 = c := by unfold stirG; rw [if_neg hc]
      rw [es]
      simp [jD, m1, m2, m3, m4, m5, hpl, ez, hk, ei, hc, setCK]
  · have ec : cell0 ns s.1 = 3 * s.1 + 5 := by unfold cell0; rw [List.getElem?_eq_none (by omega)]
    have ei : (3 * (s.1 : Nat) + 5 : Int) = ((cell0 ns s.1 : Nat) : Int) := by rw [ec]; omega
    have hle : s.1 ≤ cell0 ns s.1 := by omega
    generalize cell0 ns s.1 = c at ei hle ⊢
    by_cases hc : c < L
    · have hs := hp c s.1 hc (by omega)
      have es : stirG A B C N L c s.1 = (c * A + s.1 * B + C) ^ 3 % N := by unfold stirG; rw [if_pos hc]
      rw [es]
      simp [jD, m1, m2, m3, m4, m5, hpl, hk, ei, hc, hs, setCK]
    · have es : stirG A B C N L c s.1 = c := by unfold stirG; rw [if_neg hc]
      rw [es]
      simp [jD, m1, m2, m3, m4, m5, hpl, hk, ei, hc, setCK]
theorem stir_pow {c k : Nat} (h : c < 1000000000000000000) (hk : k < 1000000000000000000) : decide (CPowX (((c : Nat) : Int) * ((2654435761 : Nat) : Int) + ((k : Nat) : Int) * ((40503 : Nat) : Int) + ((977 : Nat) : Int)) 3) = true := by
  refine decide_eq_true ⟨by decide, ?_⟩
  have : (((c : Nat) : Int) * ((2654435761 : Nat) : Int) + ((k : Nat) : Int) * ((40503 : Nat) : Int) + ((977 : Nat) : Int)).natAbs < 2 ^ 200 := by
    have : (2 : Nat) ^ 200 > 10 ^ 40 := by decide
    omega
  have := PyProof.Rows.intBits_le this
  omega
theorem stir_eq (c k : Nat) : stir c k = stirG 2654435761 40503 977 618970019642690137449562111 1000000000000000000 c k := rfl
theorem fill_ok (a : Addr) (ns : List Int) (h63 : ns.length ≤ 63) (s : Js) (many : Nat) : mFill 2654435761 40503 977 618970019642690137449562111 (Ly.bin powD (pur (.int 10)) (pur (.int 18))) [some (.pr a (jD ns s)), some (.fz (.int many)), none, none, none] = .ok .nx [some (.pr a (jD ns (s.1 + 1, stir (cell0 ns s.1) s.1))), some (.fz (.int many)), some (.fz (.int (s.1 : Nat))), some (.fz (.int (stir (cell0 ns s.1) s.1 : Nat))), none] := by
  rw [stir_eq]
  exact fill_gen (A := 2654435761) (B := 40503) (C := 977) (N := 618970019642690137449562111) (L := 1000000000000000000) (fun ρ => by simp [pow18]) (fun z => cMul_r (by decide)) (fun z => cMul_r (by decide)) (fun z => cMod_p (by decide)) (by decide) (fun c k h1 h2 => stir_pow h1 h2) a ns h63 s many
theorem take0 (a : Addr) (ns : List Int) (h63 : ns.length ≤ 63) (s : Js) (many : Nat) (hm : 0 < many) (hm2 : many ≤ 2 ^ 60) (h0 : s.2 = 0) : ∃ ρ', m_law_take [some (.pr a (jD ns s)), some (.fz (.int many)), none, none, none] = .ok (.rt (.fz (.int ((tk ns many s).1 : Nat)))) ρ' ∧ ρ'[0]? = some (some (.pr a (jD ns (tk ns many s).2))) := by
  have ef := fill_ok a ns h63 s many
  have et : tk ns many s = (stir (cell0 ns s.1) s.1 % many, (s.1 + 1, stir (cell0 ns s.1) s.1 / many)) := by unfold tk; rw [if_pos h0]
  rw [et]
  generalize stir (cell0 ns s.1) s.1 = c at ef
  have e1 : cMod (c : Nat) (many : Nat) = true := cMod_p (by omega)
  have e2 : cDiv (c : Nat) (many : Nat) = true := cDiv_p (by omega) (big8 hm2)
  show ∃ ρ', seqS (iteS (tst (Ly.bin eqO (ixM 0 (pur (.int 2))) (pur (.int 0)))) (mFill 2654435761 40503 977 618970019642690137449562111 (Ly.bin powD (pur (.int 10)) (pur (.int 18)))) (pur .nx)) _ _ = _ ∧ _
  have e3 : iteS (tst (Ly.bin eqO (ixM 0 (pur (.int 2))) (pur (.int 0)))) (mFill 2654435761 40503 977 618970019642690137449562111 (Ly.bin powD (pur (.int 10)) (pur (.int 18)))) (pur .nx) [some (.pr a (jD ns s)), some (.fz (.int many)), none, none, none] = .ok .nx [some (.pr a (jD ns (s.1 + 1, c))), some (.fz (.int many)), some (.fz (.int (s.1 : Nat))), some (.fz (.int (c : Nat))), none] := by
    rw [ev_iteS]
    generalize mFill 2654435761 40503 977 618970019642690137449562111 (Ly.bin powD (pur (.int 10)) (pur (.int 18))) = mf at ef ⊢
    have : tst (Ly.bin eqO (ixM 0 (pur (.int 2))) (pur (.int 0))) [some (.pr a (jD ns s)), some (.fz (.int many)), none, none, none] = .ok true [some (.pr a (jD ns s)), some (.fz (.int many)), none, none, none] := by simp [jD, h0]
    rw [this, ev_ok, ev_ite, if_pos rfl, ef]
  rw [ev_seq, e3]
  simp [jD, e1, e2, setCK]
theorem p_take {ns : List Int} (h63 : ns.length ≤ 63) (s : Js) {many : Nat} (hm : 0 < many) (hm2 : many ≤ 2 ^ 60) : g_law_take [.mu (jD ns s), .val (.int many)] = some (.ok (.fz (.int ((tk ns many s).1 : Nat))), [.mu (jD ns (tk ns many s).2), .val (.int many)]) := by
  refine sem_mu (ds := [.int many]) fun a => ?_
  by_cases h0 : s.2 = 0
  · exact take0 a ns h63 s many hm hm2 h0
  · exact take1 a ns s many hm hm2 h0
theorem p_jug (ns : List Int) : g_law_jug [.val (.lck (ns.map .int))] = some (.ok (.fr (jD ns (0, 0))), [.val (.lck (ns.map .int))]) := by
  refine sem_rt (ds := [.lck (ns.map .int)]) (ρ' := [some (.fz (.lck (ns.map .int)))]) ?_
  show m_law_jug [some (.fz (.lck (ns.map .int)))] = _
  unfold m_law_jug
  have hz : szOk [D.lst (ns.map D.int), D.int 0, D.int 0] = true := szOk_of (by simp)
  simp [retOM, hz, jD]
end Wk

set_option Elab.async false
set_option linter.all false
set_option maxRecDepth 100000
set_option maxHeartbeats 2000000
namespace Wk
open PySem L2 Ly
inductive Wh where
  | mv (who : Nat) (ws : List Nat) | cl (w : Nat) (es : List Nat) | ex (e : Nat)
def iD (l : List Nat) : List D := l.map fun (k : Nat) => D.int (k : Nat)
theorem iD_len {l : List Nat} : (iD l).length = l.length := List.length_map ..
@[simp] theorem iD_nil : iD [] = [] := rfl
@[simp] theorem iD_get {l : List Nat} {k : Nat} : (iD l)[k]? = l[k]?.map fun (k : Nat) => D.int (k : Nat) := List.getElem?_map ..
theorem iD_in {w : Nat} {l : List Nat} : inB (.int w) (.lst (iD l)) = some (decide (w ∈ l)) := by
  have e : iD l = (l.map fun (k : Nat) => (k : Int)).map D.int := by unfold iD; rw [List.map_map]; rfl
  rw [e, inB_ints]
  congr 1
  rw [Bool.eq_iff_iff, decide_eq_true_eq, decide_eq_true_eq, List.mem_map]
  exact ⟨fun ⟨a, h, e⟩ => by have : a = w := by omega
                             exact this ▸ h, fun h => ⟨w, h, rfl⟩⟩
def whD : Wh → D
  | .mv who ws => .tup [.str "move", .int who, .tup (iD ws)]
  | .cl w es => .tup [.str "call", .int w, .tup (iD es)]
  | .ex e => .tup [.str "exit", .int e]
def enN (ns : List Int) (a : Addr) (cs st : List D) (p : D) (size shape : D) (s : Js × List Nat × Option D × Option D) : Ly.Env := [some (.pr a (jD ns s.1)), some (.fz (.lst cs)), some (.fz (.lst st)), some (.fz p), some (.fz size), some (.fz shape), some (.ow (iD s.2.1)), slo s.2.2.1, slo s.2.2.2, none, none, none]
section
variable (ns : List Int)
def stepN (lo size : Nat) (acc : List Nat) (s : Js) : List Nat × Js := (if lo + (tk ns size s).1 ∈ acc then acc else acc ++ [lo + (tk ns size s).1], (tk ns size s).2)
def nextsJ (lo size : Nat) : Nat → List Nat → Js → List Nat × Js
  | 0, acc, s => (acc, s)
  | n + 1, acc, s => nextsJ lo size n (stepN ns lo size acc s).1 (stepN ns lo size acc s).2
/-- the state of that loop -/
abbrev Ns : Type := Js × List Nat × Option D × Option D
def stN (lo size : Nat) (d : D) (s : Ns) : Ns := ((stepN ns lo size s.2.1 s.1).2, (stepN ns lo size s.2.1 s.1).1, some d, some (.int (lo + (tk ns size s.1).1 : Nat)))
theorem foldN (lo size : Nat) : ∀ (n : Nat) (f : Nat → D) (s : Ns), ∃ x y, ((List.range n).map f).foldl (fun s d => stN ns lo size d s) s = ((nextsJ ns lo size n s.2.1 s.1).2, (nextsJ ns lo size n s.2.1 s.1).1, x, y)
  | 0, f, s => ⟨_, _, rfl⟩
  | n + 1, f, s => by
    rw [List.range_succ_eq_map, List.map_cons, List.foldl_cons, List.map_map]
    obtain ⟨x, y, e⟩ := foldN lo size n (f ∘ Nat.succ) (stN ns lo size (f 0) s)
    rw [e]
    exact ⟨x, y, rfl⟩
end
theorem loopN {ns : List Int} (h63 : ns.length ≤ 63) (a : Addr) (cs : List D) (st : List Nat) (p lo size : Nat) (shape : D) (hst : st[p]? = some lo) (hs : 0 < size) (hs2 : size ≤ 2 ^ 60) (d : D) (s : Ns) (hz : s.2.1.length ≤ 100) :
    bndR (putM 7 d (enN ns a cs (iD st) (.int p) (.int size) shape s)) (fun _ => seqS (asgM (Ly.bin addD (ixM 2 (getM 3)) (calD g_law_take (consS 0 (consV (getM 4) (pur []))))) (putM 8)) (seqS (iteS (tst (inOM true (getM 8) 6)) (seqS (appM 6 (getM 8)) (pur .nx)) (pur .nx)) (pur .nx))) = .ok .nx (enN ns a cs (iD st) (.int p) (.int size) shape (stN ns lo size d s)) := by
  obtain ⟨s, acc, x, y⟩ := s
  have ht := p_take h63 s hs hs2
  simp only at hz
  have hsz : acc.length < sizeLine := by have := szLine; omega
  have e1 : ∀ ρ : Ly.Env, ρ[0]? = some (some (.pr a (jD ns s))) → callR g_law_take [.s 0, .v (.int size)] ρ = .ok (.fz (.int ((tk ns size s).1 : Nat))) (setCK (jD ns (tk ns size s).2) 0 ρ) := fun ρ h => callRs1 (xs := jD ns s) (by rw [h]; rfl) ht
  have ei : ∀ w : Nat, inB (.int (lo + w)) (.lst (iD acc)) = some (decide (lo + w ∈ acc)) := fun w => by
    have := iD_in (w := lo + w) (l := acc)
    simpa using this
  by_cases hm : lo + (tk ns size s).1 ∈ acc
  · simp [enN, stN, stepN, hst, e1, setCK, ei, hm]
  · simp [enN, stN, stepN, hst, e1, setCK, ei, hm, iD_len, hsz]
    simp [iD]
theorem max_cast : ∀ l : List Nat, (l.map fun (k : Nat) => (k : Int)).max? = l.max?.map fun (k : Nat) => (k : Int)
  | [] => rfl
  | a :: l => by
    show some _ = some _
    congr 1
    induction l generalizing a with
    | nil => rfl
    | cons b l ih =>
      simp only [List.map_cons, List.foldl_cons]
      have e := ih (max a b)
      simp only at e
      rw [← e]
      congr 1
      omega
theorem min_cast : ∀ l : List Nat, (l.map fun (k : Nat) => (k : Int)).min? = l.min?.map fun (k : Nat) => (k : Int)
  | [] => rfl
  | a :: l => by
    show some _ = some _
    congr 1
    induction l generalizing a with
    | nil => rfl
    | cons b l ih =>
      simp only [List.map_cons, List.foldl_cons]
      have e := ih (min a b)
      simp only at e
      rw [← e]
      congr 1
      omega
theorem iD_ints (l : List Nat) : iD l = (l.map fun (k : Nat) => (k : Int)).map D.int := by unfold iD; rw [List.map_map]; rfl
theorem maxC_iD {l : List Nat} : maxC [.lst (iD l)] = l.max?.map fun (k : Nat) => D.int (k : Nat) := by
  rw [iD_ints, maxC_ints, max_cast, Option.map_map]
  rfl
def qOf (cs st : List Nat) (pl : Nat) : Nat := (((List.range cs.length).filter fun k => decide (st.getD k 0 ≤ pl)).max?).getD 0
def whatJ (ns : List Int) (cs st : List Nat) (p : Nat) (s : Js) : Wh × Js :=
  let lo := st.getD p 0
  let size := st.getD (p + 1) 0 - lo
  let s1 := (tk ns 7 s).2
  if (tk ns 7 s).1 < 4 then
    let s2 := (tk ns 3 s1).2
    let nx := nextsJ ns lo size (1 + (tk ns 3 s1).1) [] s2
    (.mv (tk ns 2 nx.2).1 nx.1, (tk ns 2 nx.2).2)
  else if (tk ns 7 s).1 < 6 then
    let pl := tk ns (st.getLastD 0) s1
    let es := mapS (fun (_ : Nat) s => (lo + (tk ns size s).1, (tk ns size s).2)) (List.range (cs.getD (qOf cs st pl.1) 0)) pl.2
    (.cl pl.1 es.1, es.2)
  else (.ex (tk ns (cs.getD p 0) s1).1, (tk ns (cs.getD p 0) s1).2)
/-- what stands of the starts and the counts -/
structure Lay (cs st : List Nat) : Prop where
  len : st.length = cs.length + 1
  few : cs.length ≤ 60
  zero : st[0]? = some 0
  lt : ∀ p lo hi : Nat, st[p]? = some lo → st[p + 1]? = some hi → lo < hi
  big : ∀ p lo : Nat, st[p]? = some lo → lo ≤ 4000
  pos : ∀ p c : Nat, cs[p]? = some c → 0 < c ∧ c ≤ 24
  one : 0 < cs.length
theorem Lay.last {cs st : List Nat} (L : Lay cs st) : ∃ l x, st = l ++ [x] ∧ 0 < x ∧ x ≤ 4000 ∧ st.getLastD 0 = x := by
  have h0 := L.len
  have h1 := L.one
  have hne : st ≠ [] := fun e => by rw [e] at h0; simp at h0
  refine ⟨st.dropLast, st.getLast hne, (List.dropLast_concat_getLast hne).symm, ?_, ?_, ?_⟩
  · have e : st[cs.length - 1 + 1]? = some (st.getLast hne) := by
      rw [← List.getLast?_eq_getLast hne, List.getLast?_eq_getElem?]
      congr 1
      omega
    have hl : cs.length - 1 < st.length := by omega
    have := L.lt (cs.length - 1) _ _ (List.getElem?_eq_getElem hl) e
    omega
  · exact L.big (st.length - 1) _ (by rw [← List.getLast?_eq_getLast hne, List.getLast?_eq_getElem?])
  · rw [List.getLastD_eq_getLast?, List.getLast?_eq_getLast hne]; rfl
def enC (ns : List Int) (a : Addr) (cs st : List D) (p size sh pl : Nat) (q : Option D) (s : Js) : Ly.Env := [some (.pr a (jD ns s)), some (.fz (.lst cs)), some (.fz (.lst st)), some (.fz (.int p)), some (.fz (.int size)), some (.fz (.int sh)), none, none, none, some (.fz (.int pl)), slo q, none]
def fltC (st : List Nat) (pl : Nat) : D → Option D
  | .int z => if st.getD z.toNat 0 ≤ pl then some (.int z) else none
  | _ => none
theorem flt_iD (st : List Nat) (pl : Nat) : ∀ l : List Nat, (l.map fun (k : Nat) => D.int (k : Nat)).filterMap (fltC st pl) = iD (l.filter fun k => decide (st.getD k 0 ≤ pl))
  | [] => rfl
  | k :: l => by
    have e : fltC st pl (.int (k : Nat)) = if st.getD k 0 ≤ pl then some (.int (k : Nat)) else none := by unfold fltC; simp only [Int.toNat_natCast]
    rw [List.map_cons]
    by_cases h : st.getD k 0 ≤ pl
    · rw [if_pos h] at e
      rw [List.filterMap_cons_some e, List.filter_cons_of_pos (by simpa using h), flt_iD st pl l]
      rfl
    · rw [if_neg h] at e
      rw [List.filterMap_cons_none e, List.filter_cons_of_neg (by simpa using h), flt_iD st pl l]
theorem elc_ok (ns : List Int) (a : Addr) {cs st : List Nat} (hL0 : st.length = cs.length + 1) (hfew : cs.length ≤ 60) (p size sh pl : Nat) (s2 : Js) (cd : List D) (hcd : cd.length = cs.length) :
    lcO [7] (rng1 (consM (calM lenC (consM (getM 1) (pur []))) (pur []))) (putM 7) (tst (Ly.bin leD (ixM 2 (getM 7)) (getM 9))) (getM 7) (enC ns a cd (iD st) p size sh pl none s2) =
      .ok (iD ((List.range cs.length).filter fun k => decide (st.getD k 0 ≤ pl))) (enC ns a cd (iD st) p size sh pl none s2) := by
  have okn : okR (cs.length : Nat) = true := okR_of (by omega) (by omega)
  have e0 : (rangeD 0 cs.length).filterMap (fltC st pl) = iD ((List.range cs.length).filter fun k => decide (st.getD k 0 ≤ pl)) := by
    rw [rangeD_0]
    exact flt_iD st pl _
  rw [← e0]
  have hsz : (rangeD 0 cs.length).length ≤ sizeLine := by rw [rangeD_len]; exact Nat.le_trans (by omega) szLine
  refine lc_flt (v := 7) (fltC st pl) (by simp [enC, okn, hcd]) (by simp [enC]) (by simp [enC]) hsz fun d hd => ?_
  rw [rangeD_0] at hd
  obtain ⟨k, hk, rfl⟩ := List.mem_map.mp hd
  have hk := List.mem_range.mp hk
  obtain ⟨x, hx⟩ : ∃ x, st[k]? = some x := ⟨_, List.getElem?_eq_getElem (by omega)⟩
  have ex : st.getD k 0 = x := by rw [List.getD_eq_getElem?_getD, hx]; rfl
  have ef : fltC st pl (.int (k : Nat)) = if x ≤ pl then some (.int (k : Nat)) else none := by
    unfold fltC
    simp only [Int.toNat_natCast, ex]
  rw [ef]
  by_cases hle : x ≤ pl
  · rw [if_pos hle]
    simp [enC, hx, hle]
  · rw [if_neg hle]
    simp [enC, hx, hle]
theorem elc2_ok {ns : List Int} (h63 : ns.length ≤ 63) (a : Addr) {cs st : List Nat} {p lo size q cq : Nat} (hlo : st[p]? = some lo) (hs : 0 < size) (hs2 : size ≤ 5000) (hcq : cs[q]? = some cq) (hc24 : cq ≤ 24) (sh pl : Nat) (s2 : Js) (sd : List D) (hsd : sd = iD st) :
    lcO [11] (rng1 (consM (ixM 1 (getM 10)) (pur []))) (putM 11) (pur true) (Ly.bin addD (ixM 2 (getM 3)) (calD g_law_take (consS 0 (consV (getM 4) (pur []))))) (enC ns a (iD cs) sd p size sh pl (some (.int (q : Nat))) s2) =
      .ok (mapS (fun (_ : D) s => (D.int (lo + (tk ns size s).1 : Nat), (tk ns size s).2)) (rangeD 0 cq) s2).1 (enC ns a (iD cs) sd p size sh pl (some (.int (q : Nat))) (mapS (fun (_ : D) s => (D.int (lo + (tk ns size s).1 : Nat), (tk ns size s).2)) (rangeD 0 cq) s2).2) := by
  have okc : okR (cq : Nat) = true := okR_of (by omega) (by omega)
  have hsz : (rangeD 0 cq).length ≤ sizeLine := by rw [rangeD_len]; exact Nat.le_trans (by omega) szLine
  subst hsd
  refine lc_st (v := 11) (fun s => enC ns a (iD cs) (iD st) p size sh pl (some (.int (q : Nat))) s) (fun (_ : D) s => (D.int (lo + (tk ns size s).1 : Nat), (tk ns size s).2)) (by simp [enC, hcq, okc]) (fun s => by simp [enC]) (fun s => by simp [enC]) (fun s s' => by simp [enC]) hsz fun d hd s => ?_
  have es : ∀ ρ : Ly.Env, ρ[0]? = some (some (.pr a (jD ns s))) → callR g_law_take [.s 0, .v (.int size)] ρ = .ok (.fz (.int ((tk ns size s).1 : Nat))) (setCK (jD ns (tk ns size s).2) 0 ρ) := fun ρ h => callRs1 (xs := jD ns s) (by rw [h]; rfl) (p_take h63 s hs (by omega))
  simp [enC, hlo, es, setCK]
theorem p_what {ns : List Int} (h63 : ns.length ≤ 63) {cs st : List Nat} (L : Lay cs st) {p : Nat} (hp : p < cs.length) (s : Js) :
    g_law_what [.mu (jD ns s), .val (.lst (iD cs)), .val (.lst (iD st)), .val (.int p)] = some (.ok (.fz (whD (whatJ ns cs st p s).1)), [.mu (jD ns (whatJ ns cs st p s).2), .val (.lst (iD cs)), .val (.lst (iD st)), .val (.int p)]) := by
  refine sem_mu (ds := [.lst (iD cs), .lst (iD st), .int p]) fun a => ?_
  obtain ⟨lo, hlo⟩ : ∃ lo, st[p]? = some lo := ⟨_, List.getElem?_eq_getElem (by have := L.len; omega)⟩
  obtain ⟨hi, hhi⟩ : ∃ hi, st[p + 1]? = some hi := ⟨_, List.getElem?_eq_getElem (by have := L.len; omega)⟩
  obtain ⟨c, hc⟩ : ∃ c, cs[p]? = some c := ⟨_, List.getElem?_eq_getElem hp⟩
  have h1 := L.lt p lo hi hlo hhi
  have h2 := L.big _ _ hhi
  have elo : st.getD p 0 = lo := by rw [List.getD_eq_getElem?_getD, hlo]; rfl
  have ehi : st.getD (p + 1) 0 = hi := by rw [List.getD_eq_getElem?_getD, hhi]; rfl
  have ec : cs.getD p 0 = c := by rw [List.getD_eq_getElem?_getD, hc]; rfl
  have esz : ((hi : Int) - (lo : Int)) = ((hi - lo : Nat) : Int) := by omega
  have tkc : ∀ (many : Nat) (s : Js) (ρ : Ly.Env), 0 < many → many ≤ 5000 → ρ[0]? = some (some (.pr a (jD ns s))) → callR g_law_take [.s 0, .v (.int many)] ρ = .ok (.fz (.int ((tk ns many s).1 : Nat))) (setCK (jD ns (tk ns many s).2) 0 ρ) := fun many s ρ q1 q2 h => callRs1 (xs := jD ns s) (by rw [h]; rfl) (p_take h63 s q1 (by omega))
  show ∃ ρ', m_law_what [some (.pr a (jD ns s)), some (.fz (.lst (iD cs))), some (.fz (.lst (iD st))), some (.fz (.int p)), none, none, none, none, none, none, none, none] = _ ∧ _
  unfold whatJ
  simp only [elo, ehi, ec]
  unfold m_law_what
  have t7 := fun s ρ => tkc 7 s ρ (by decide) (by decide)
  have t3 := fun s ρ => tkc 3 s ρ (by decide) (by decide)
  have t2 := fun s ρ => tkc 2 s ρ (by decide) (by decide)
  have ep1 : atI (iD st) ((p : Int) + 1) = some (.int hi) := by
    have : ((p : Int) + 1) = ((p + 1 : Nat) : Int) := by omega
    rw [this, Ly.atI_nat, iD_get, hhi]; rfl
  generalize hsh : tk ns 7 s = r7 at *
  obtain ⟨sh, s1⟩ := r7
  have e7 : ∀ ρ : Ly.Env, ρ[0]? = some (some (.pr a (jD ns s))) → callR g_law_take [.s 0, .v (.int 7)] ρ = .ok (.fz (.int (sh : Nat))) (setCK (jD ns s1) 0 ρ) := fun ρ h => by have := t7 s ρ h; rw [hsh] at this; exact this
  by_cases h4 : sh < 4
  · simp only [h4, if_true]
    generalize hr3 : tk ns 3 s1 = r3 at *
    obtain ⟨n3, s2⟩ := r3
    have e3 : ∀ ρ : Ly.Env, ρ[0]? = some (some (.pr a (jD ns s1))) → callR g_law_take [.s 0, .v (.int 3)] ρ = .ok (.fz (.int (n3 : Nat))) (setCK (jD ns s2) 0 ρ) := fun ρ h => by have := t3 s1 ρ h; rw [hr3] at this; exact this
    have n3l : n3 < 3 := by have := tk_lt (ns := ns) (many := 3) (by decide) s1; rw [hr3] at this; exact this
    have ok1 : okR (1 + (n3 : Int)) = true := okR_of (by omega) (by omega)
    have en1 : (1 + (n3 : Int)).toNat = 1 + n3 := by omega
    have eL := for_sti (g := putM 7) (enN ns a (iD cs) (iD st) (.int p) (.int (hi - lo : Nat)) (.int (sh : Nat))) (stN ns lo (hi - lo)) (fun ds s => s.2.1.length + ds.length ≤ 100) (fun d ds s hI => ⟨loopN h63 a (iD cs) st p lo (hi - lo) (.int (sh : Nat)) hlo (by omega) (by omega) d s (by simp at hI; omega), by
      simp only [stN, stepN, List.length_cons] at hI ⊢
      split
      · omega
      · rw [List.length_append, List.length_singleton]; omega⟩) (rangeD 0 (1 + n3)) (s2, [], none, none) (by rw [rangeD_len]; simp; omega)
    obtain ⟨x, y, ef⟩ := foldN ns lo (hi - lo) (1 + n3) (fun (k : Nat) => D.int (k : Nat)) (s2, [], none, none)
    rw [rangeD_0, ef, ← rangeD_0] at eL
    simp only at eL
    generalize hN : nextsJ ns lo (hi - lo) (1 + n3) [] s2 = rN at *
    obtain ⟨nx, s3⟩ := rN
    have e2 := t2 s3
    have h4' : ((sh : Nat) : Int) < 4 := by omega
    simp [enN] at eL
    simp at e2
    simp [hlo, ep1, esz, e7, h4', e3, ok1, en1, setCK, eL, e2, whD]
  · simp only [h4, if_false]
    have h4' : ¬ ((sh : Nat) : Int) < 4 := by omega
    by_cases h6 : sh < 6
    · simp only [h6, if_true]
      have h6' : ((sh : Nat) : Int) < 6 := by omega
      obtain ⟨l, tot, el, ht0, ht1, elast⟩ := L.last
      rw [elast]
      have em1 : atI (iD st) (-1) = some (.int (tot : Nat)) := by
        have : iD st = iD l ++ [.int (tot : Nat)] := by rw [el]; unfold iD; rw [List.map_append]; rfl
        rw [this, atI_m1]
      have e4 := tkc tot s1
      have hpl := tk_lt (ns := ns) (many := tot) (by omega) s1
      generalize hr4 : tk ns tot s1 = r4 at *
      obtain ⟨pl, s2⟩ := r4
      have okn : okR (cs.length : Nat) = true := okR_of (by omega) (by have := L.few; omega)
      have hL0 := L.len
      have hfew := L.few
      have hone := L.one
      have h0 := L.zero
      have elc := elc_ok ns a hL0 hfew p (hi - lo) sh pl s2 (iD cs) iD_len
      have hmem : 0 ∈ (List.range cs.length).filter fun k => decide (st.getD k 0 ≤ pl) := by
        rw [List.mem_filter]
        refine ⟨List.mem_range.mpr hone, ?_⟩
        rw [List.getD_eq_getElem?_getD, h0]
        simp
      have hq : ((List.range cs.length).filter fun k => decide (st.getD k 0 ≤ pl)).max? = some (qOf cs st pl) ∧ qOf cs st pl < cs.length := by
        unfold qOf
        cases hm : ((List.range cs.length).filter fun k => decide (st.getD k 0 ≤ pl)).max? with
        | none => rw [List.max?_eq_none_iff] at hm; rw [hm] at hmem; cases hmem
        | some q =>
          refine ⟨rfl, ?_⟩
          have := List.max?_mem hm
          exact List.mem_range.mp (List.mem_filter.mp this).1
      obtain ⟨hq1, hq2⟩ := hq
      obtain ⟨cq, hcq⟩ : ∃ cq, cs[qOf cs st pl]? = some cq := ⟨_, List.getElem?_eq_getElem hq2⟩
      have ecq : cs.getD (qOf cs st pl) 0 = cq := by rw [List.getD_eq_getElem?_getD, hcq]; rfl
      have hcp := L.pos _ _ hcq
      have okc : okR (cq : Nat) = true := okR_of (by omega) (by omega)
      simp only [ecq]
      have esz2 := fun s ρ => tkc (hi - lo) s ρ (by omega) (by omega)
      have elc2 := elc2_ok h63 a hlo (show 0 < hi - lo by omega) (show hi - lo ≤ 5000 by omega) hcq hcp.2 sh pl s2 (iD st) rfl
      have em : (mapS (fun (_ : D) s => (D.int (lo + (tk ns (hi - lo) s).1 : Nat), (tk ns (hi - lo) s).2)) (rangeD 0 cq) s2) = (iD (mapS (fun (_ : Nat) s => (lo + (tk ns (hi - lo) s).1, (tk ns (hi - lo) s).2)) (List.range cq) s2).1, (mapS (fun (_ : Nat) s => (lo + (tk ns (hi - lo) s).1, (tk ns (hi - lo) s).2)) (List.range cq) s2).2) := by
        rw [rangeD_0, mapS_map]
        exact mapS_enc (fun (_ : Nat) s => (lo + (tk ns (hi - lo) s).1, (tk ns (hi - lo) s).2)) (fun (k : Nat) => D.int (k : Nat)) (List.range cq) s2
      rw [em] at elc2
      generalize mapS (fun (_ : Nat) s => (lo + (tk ns (hi - lo) s).1, (tk ns (hi - lo) s).2)) (List.range cq) s2 = rE at *
      obtain ⟨es, s3⟩ := rE
      have e4' := fun ρ => e4 ρ (by omega) (by omega)
      have emx := maxC_iD (l := (List.range cs.length).filter fun k => decide (st.getD k 0 ≤ pl))
      rw [hq1] at emx
      generalize iD ((List.range cs.length).filter fun k => decide (st.getD k 0 ≤ pl)) = fl at *
      simp only [enC, slo_none, slo_some] at elc elc2
      simp [hlo, ep1, esz, e7, h4', h6', setCK, em1, e4', elc, emx, elc2, whD]
    · simp only [h6, if_false]
      have h6' : ¬ ((sh : Nat) : Int) < 6 := by omega
      have hcp := L.pos p c hc
      have e4 := fun ρ => tkc c s1 ρ (by omega) (by omega)
      simp [hlo, ep1, esz, e7, h4', h6', setCK, hc, e4, whD]
end Wk

set_option Elab.async false
set_option linter.all false
set_option maxRecDepth 100000
set_option maxHeartbeats 2000000
namespace Wk
open PySem L2 Ly
abbrev Pl : Type := Nat × Wh
def plD (x : Pl) : D := .tup [.int x.1, whD x.2]
abbrev En : Type := Str × Nat × List Pl
def enD (e : En) : D := .tup [.str e.1, .int e.2.1, .tup (e.2.2.map plD)]
def prD (P : List En) : D := .tup (P.map enD)
def nmD (r p : Nat) : Str := (⟨#[97 + r]⟩ : Str) ++ (Str.ofString (toString ((p : Nat) : Int)))
section
variable (ns : List Int) (cs st szs mks : List Nat)
def placeJ (p : Nat) (s : Js) : Pl × Js := ((mks.getD (tk ns mks.length s).1 0, (whatJ ns cs st p (tk ns mks.length s).2).1), (whatJ ns cs st p (tk ns mks.length s).2).2)
def procJ (p : Nat) (s : Js) : En × Js :=
  let pl := mapS (fun (_ : Nat) s => placeJ ns cs st mks p s) (List.range (szs.getD p 0)) s
  ((nmD (tk ns 26 pl.2).1 p, cs.getD p 0, pl.1), (tk ns 26 pl.2).2)
end
def startsOf (szs : List Nat) : List Nat := szs.foldl (fun acc z => acc ++ [acc.getLastD 0 + z]) [0]
def progJ (ns : List Int) (cs szs mks : List Nat) (s : Js) : List En × Js := mapS (fun p s => procJ ns cs (startsOf szs) szs mks p s) (List.range szs.length) s
theorem getM_lst {ρ : Ly.Env} {i : Nat} {d : D} (h : ρ[i]? = some (some (.fz d))) : getM i ρ = .ok d ρ := by rw [ev_get, h]; rfl
/-- the environment of _law_program in its second loop -/
def IP (ns : List Int) (a : Addr) (cs szs mks st : List Nat) (s : Js) (found : List D) (sl4 : Sl) (x5 x7 x8 x9 x10 : Option D) : Ly.Env := [some (.pr a (jD ns s)), some (.fz (.lst (iD cs))), some (.fz (.lst (iD szs))), some (.fz (.lst (iD mks))), some sl4, slo x5, some (.ow found), slo x7, slo x8, slo x9, slo x10]
theorem place_ok {ns : List Int} (h63 : ns.length ≤ 63) {cs st : List Nat} (L : Lay cs st) {mks : List Nat} (hm : 0 < mks.length) (hm2 : mks.length ≤ 10) {p : Nat} (hp : p < cs.length) (a : Addr) (szs : List Nat) (s : Js) (found : List D) (sl4 : Sl) (h4 : sl4 = .fz (.lst (iD st)) ∨ sl4 = .ow (iD st)) (x5 x8 x9 x10 : Option D) :
    ∃ sl4', tupM (consM (ixM 3 (calD g_law_take (consS 0 (consV (calM lenC (consM (getM 3) (pur []))) (pur []))))) (consM (calD g_law_what (consS 0 (consV (getM 1) (consV (getM 4) (consV (getM 7) (pur [])))))) (pur []))) (IP ns a cs szs mks st s found sl4 x5 (some (.int (p : Nat))) x8 x9 x10) =
      .ok (plD (placeJ ns cs st mks p s).1) (IP ns a cs szs mks st (placeJ ns cs st mks p s).2 found sl4' x5 (some (.int (p : Nat))) x8 x9 x10) ∧ (sl4' = .fz (.lst (iD st)) ∨ sl4' = .ow (iD st)) := by
  refine ⟨.fz (.lst (iD st)), ?_, .inl rfl⟩
  have e1 : ∀ ρ : Ly.Env, ρ[0]? = some (some (.pr a (jD ns s))) → callR g_law_take [.s 0, .v (.int mks.length)] ρ = .ok (.fz (.int ((tk ns mks.length s).1 : Nat))) (setCK (jD ns (tk ns mks.length s).2) 0 ρ) := fun ρ h => callRs1 (xs := jD ns s) (by rw [h]; rfl) (p_take h63 s hm (by omega))
  have hlt := tk_lt (ns := ns) hm s
  unfold placeJ
  generalize tk ns mks.length s = r at *
  obtain ⟨k, s1⟩ := r
  have e2 : ∀ ρ : Ly.Env, ρ[0]? = some (some (.pr a (jD ns s1))) → callR g_law_what [.s 0, .v (.lst (iD cs)), .v (.lst (iD st)), .v (.int p)] ρ = .ok (.fz (whD (whatJ ns cs st p s1).1)) (setCK (jD ns (whatJ ns cs st p s1).2) 0 ρ) := fun ρ h => callRs3 (xs := jD ns s1) (by rw [h]; rfl) (p_what h63 L hp s1)
  obtain ⟨m, hmk⟩ : ∃ m, mks[k]? = some m := ⟨_, List.getElem?_eq_getElem hlt⟩
  have em : mks.getD k 0 = m := by rw [List.getD_eq_getElem?_getD, hmk]; rfl
  rcases h4 with rfl | rfl
  · simp [IP, iD_len, e1, setCK, hmk, e2, em, plD]
  · simp [IP, iD_len, e1, setCK, hmk, e2, em, plD]
theorem places_ok {ns : List Int} (h63 : ns.length ≤ 63) {cs st : List Nat} (L : Lay cs st) {mks : List Nat} (hm : 0 < mks.length) (hm2 : mks.length ≤ 10) {p : Nat} (hp : p < cs.length) (a : Addr) {szs : List Nat} {sz : Nat} (hsz : szs[p]? = some sz) (hsz2 : sz ≤ 4000) (s : Js) (found : List D) (sl4 : Sl) (h4 : sl4 = .fz (.lst (iD st)) ∨ sl4 = .ow (iD st)) (x5 x8 x9 x10 : Option D) :
    ∃ sl4' x10', lcO [10] (rng1 (consM (ixM 2 (getM 7)) (pur []))) (putM 10) (pur true) (tupM (consM (ixM 3 (calD g_law_take (consS 0 (consV (calM lenC (consM (getM 3) (pur []))) (pur []))))) (consM (calD g_law_what (consS 0 (consV (getM 1) (consV (getM 4) (consV (getM 7) (pur [])))))) (pur [])))) (IP ns a cs szs mks st s found sl4 x5 (some (.int (p : Nat))) x8 x9 x10) =
      .ok ((mapS (fun (_ : Nat) s => placeJ ns cs st mks p s) (List.range sz) s).1.map plD) (IP ns a cs szs mks st (mapS (fun (_ : Nat) s => placeJ ns cs st mks p s) (List.range sz) s).2 found sl4' x5 (some (.int (p : Nat))) x8 x9 x10') ∧ (sl4' = .fz (.lst (iD st)) ∨ sl4' = .ow (iD st)) := by
  have okz : okR (sz : Nat) = true := okR_of (by omega) (by omega)
  have hz : (rangeD 0 sz).length ≤ sizeLine := by rw [rangeD_len]; exact Nat.le_trans (by omega) szLine
  obtain ⟨ρ', h1, sl4', x10', h2, h3⟩ := lc_rel (v := 10) (ds := rangeD 0 sz) (t := s) (el := tupM (consM (ixM 3 (calD g_law_take (consS 0 (consV (calM lenC (consM (getM 3) (pur []))) (pur []))))) (consM (calD g_law_what (consS 0 (consV (getM 1) (consV (getM 4) (consV (getM 7) (pur [])))))) (pur []))))
    (fun s ρ => ∃ sl4' x10', (sl4' = Sl.fz (D.lst (iD st)) ∨ sl4' = Sl.ow (iD st)) ∧ ρ = IP ns a cs szs mks st s found sl4' x5 (some (.int (p : Nat))) x8 x9 x10') (fun (_ : D) s => (plD (placeJ ns cs st mks p s).1, (placeJ ns cs st mks p s).2)) (mi := rng1 (consM (ixM 2 (getM 7)) (pur []))) (ρ := IP ns a cs szs mks st s found sl4 x5 (some (.int (p : Nat))) x8 x9 x10) (ρ1 := IP ns a cs szs mks st s found sl4 x5 (some (.int (p : Nat))) x8 x9 x10)
    (by simp [IP, hsz, okz]) ⟨sl4, x10, h4, rfl⟩ (fun t ρ x ⟨q, y, h, e⟩ => ⟨q, x, h, by rw [e]; simp [IP]⟩) (fun t ρ ⟨q, y, h, e⟩ => by rw [e]; simp [IP]) (fun t ρ ⟨q, y, h, e⟩ => by rw [e]; simp [IP]) hz (fun d hd t ρ ⟨q, y, h, e⟩ hv => by
      subst e
      obtain ⟨q', h1, h2⟩ := place_ok h63 L hm hm2 hp a szs t found q h x5 x8 x9 y
      exact ⟨_, h1, q', y, h2, rfl⟩)
  subst h3
  refine ⟨sl4', x10', ?_, h2⟩
  rw [h1]
  rw [rangeD_0, mapS_map, mapS_enc]
def stP (ns : List Int) (cs st szs mks : List Nat) (d : D) (t : Js × List En) : Js × List En := match d with
  | .int z => ((procJ ns cs st szs mks z.toNat t.1).2, t.2 ++ [(procJ ns cs st szs mks z.toNat t.1).1])
  | _ => t
theorem letter {k : Nat} (h : k < 26) : ixD (.str "abcdefghijklmnopqrstuvwxyz") (.int (k : Nat)) = some (.str ⟨#[97 + k]⟩) := by
  have e : ∀ k : Fin 26, ("abcdefghijklmnopqrstuvwxyz" : Str).cps.toList[k.val]? = some (97 + k.val) := by decide +kernel
  have hz : ("abcdefghijklmnopqrstuvwxyz" : Str).length ≤ sizeLine := Nat.le_trans (by decide +kernel) szLine
  show (if ("abcdefghijklmnopqrstuvwxyz" : Str).length ≤ sizeLine then (atI ("abcdefghijklmnopqrstuvwxyz" : Str).cps.toList ((k : Nat) : Int)).map (fun c => D.str ⟨#[c]⟩) else none) = _
  rw [if_pos hz, Ly.atI_nat, e ⟨k, h⟩]
  rfl
theorem proc_ok {ns : List Int} (h63 : ns.length ≤ 63) {cs st : List Nat} (L : Lay cs st) {mks : List Nat} (hm : 0 < mks.length) (hm2 : mks.length ≤ 10) {szs : List Nat} (hszs : ∀ p sz : Nat, szs[p]? = some sz → sz ≤ 4000) (hsl : szs.length = cs.length) (a : Addr) (p : Nat) (hp : p < cs.length) (hstr : ∀ r, r < 26 → addD (.str ⟨#[97 + r]⟩) (.str (Str.ofString (toString ((p : Nat) : Int)))) = some (.str (nmD r p)))
    (hs1 : strC [.int (p : Nat)] = some (.str (Str.ofString (toString ((p : Nat) : Int))))) (s : Js) (found : List D) (hf : found.length ≤ 100) (sl4 : Sl) (h4 : sl4 = .fz (.lst (iD st)) ∨ sl4 = .ow (iD st)) (x5 x7 x8 x9 x10 : Option D) :
    ∃ sl4' x8' x9' x10', bndR (putM 7 (.int (p : Nat)) (IP ns a cs szs mks st s found sl4 x5 x7 x8 x9 x10)) (fun _ => (seqS (asgM (frzM (lcO [10] (rng1 (consM (ixM 2 (getM 7)) (pur []))) (putM 10) (pur true) (tupM (consM (ixM 3 (calD g_law_take (consS 0 (consV (calM lenC (consM (getM 3) (pur []))) (pur []))))) (consM (calD g_law_what (consS 0 (consV (getM 1) (consV (getM 4) (consV (getM 7) (pur [])))))) (pur [])))))) (putM 8)) (seqS (asgM (Ly.bin addD (Ly.bin ixD (pur (.str "abcdefghijklmnopqrstuvwxyz")) (calD g_law_take (consS 0 (consV (pur (.int 26)) (pur []))))) (calM strC (consM (getM 7) (pur [])))) (putM 9)) (seqS (appM 6 (tupM (consM (getM 9) (consM (ixM 1 (getM 7)) (consM (calM tupleC (consM (getM 8) (pur []))) (pur [])))))) (pur .nx))))) =
      .ok .nx (IP ns a cs szs mks st (procJ ns cs st szs mks p s).2 (found ++ [enD (procJ ns cs st szs mks p s).1]) sl4' x5 (some (.int (p : Nat))) x8' x9' x10') ∧ (sl4' = .fz (.lst (iD st)) ∨ sl4' = .ow (iD st)) := by
  obtain ⟨sz, hsz⟩ : ∃ sz, szs[p]? = some sz := ⟨_, List.getElem?_eq_getElem (by omega)⟩
  obtain ⟨c, hc⟩ : ∃ c, cs[p]? = some c := ⟨_, List.getElem?_eq_getElem hp⟩
  have esz : szs.getD p 0 = sz := by rw [List.getD_eq_getElem?_getD, hsz]; rfl
  have ec : cs.getD p 0 = c := by rw [List.getD_eq_getElem?_getD, hc]; rfl
  obtain ⟨sl4', x10', h1, h2⟩ := places_ok h63 L hm hm2 hp a hsz (hszs p sz hsz) s found sl4 h4 x5 x8 x9 x10
  unfold procJ
  simp only [esz, ec]
  generalize hpl : mapS (fun (_ : Nat) s => placeJ ns cs st mks p s) (List.range sz) s = pl at *
  obtain ⟨pls, s1⟩ := pl
  have e1 : ∀ ρ : Ly.Env, ρ[0]? = some (some (.pr a (jD ns s1))) → callR g_law_take [.s 0, .v (.int 26)] ρ = .ok (.fz (.int ((tk ns 26 s1).1 : Nat))) (setCK (jD ns (tk ns 26 s1).2) 0 ρ) := fun ρ h => callRs1 (xs := jD ns s1) (by rw [h]; rfl) (p_take (many := 26) h63 s1 (by decide) (by decide))
  have hr := tk_lt (ns := ns) (many := 26) (by decide) s1
  generalize tk ns 26 s1 = r at *
  obtain ⟨k, s2⟩ := r
  have hl := letter hr
  have ha := hstr k hr
  have hfl : found.length < sizeLine := by have := szLine; omega
  refine ⟨sl4', some (.lst (pls.map plD)), some (.str (nmD k p)), x10', ?_, h2⟩
  simp only [IP, slo_some] at h1
  have e0 : putM 7 (.int (p : Nat)) (IP ns a cs szs mks st s found sl4 x5 x7 x8 x9 x10) = .ok () [some (.pr a (jD ns s)), some (.fz (.lst (iD cs))), some (.fz (.lst (iD szs))), some (.fz (.lst (iD mks))), some sl4, slo x5, some (.ow found), some (.fz (.int (p : Nat))), slo x8, slo x9, slo x10] := by simp [IP]
  rw [e0]
  simp only at hl ha
  clear hstr
  generalize Str.ofString (toString ((p : Nat) : Int)) = tp at hs1 ha
  rcases h2 with rfl | rfl
  · simp [h1, e1, setCK, hl, hs1, ha, hc, hfl, IP, enD]
  · simp [h1, e1, setCK, hl, hs1, ha, hc, hfl, IP, enD]
theorem fold_map {α β S : Type} (f : α → S → β × S) : ∀ (l : List α) (s : S) (acc : List β), l.foldl (fun (t : S × List β) d => ((f d t.1).2, t.2 ++ [(f d t.1).1])) (s, acc) = ((mapS f l s).2, acc ++ (mapS f l s).1)
  | [], s, acc => by simp [mapS]
  | d :: l, s, acc => by
    rw [List.foldl_cons, fold_map f l]
    simp [mapS]
theorem starts_len : ∀ (szs acc : List Nat), (szs.foldl (fun acc z => acc ++ [acc.getLastD 0 + z]) acc).length = acc.length + szs.length
  | [], acc => rfl
  | z :: szs, acc => by rw [List.foldl_cons, starts_len szs]; simp; omega
def bodyS : M Fl := seqS (appM 4 (Ly.bin addD (ixM 4 (pur (.int (-1)))) (getM 5))) (pur .nx)
noncomputable def bodyP : M Fl := (seqS (asgM (frzM (lcO [10] (rng1 (consM (ixM 2 (getM 7)) (pur []))) (putM 10) (pur true) (tupM (consM (ixM 3 (calD g_law_take (consS 0 (consV (calM lenC (consM (getM 3) (pur []))) (pur []))))) (consM (calD g_law_what (consS 0 (consV (getM 1) (consV (getM 4) (consV (getM 7) (pur [])))))) (pur [])))))) (putM 8)) (seqS (asgM (Ly.bin addD (Ly.bin ixD (pur (.str "abcdefghijklmnopqrstuvwxyz")) (calD g_law_take (consS 0 (consV (pur (.int 26)) (pur []))))) (calM strC (consM (getM 7) (pur [])))) (putM 9)) (seqS (appM 6 (tupM (consM (getM 9) (consM (ixM 1 (getM 7)) (consM (calM tupleC (consM (getM 8) (pur []))) (pur [])))))) (pur .nx))))
theorem starts_ok (a : Addr) (jd cd zd kd : List D) : ∀ (szs acc : List Nat) (x5 : Option D), acc ≠ [] → acc.length + szs.length ≤ 1000 → ∃ x5', forL (putM 5) bodyS (iD szs) [some (.pr a jd), some (.fz (.lst cd)), some (.fz (.lst zd)), some (.fz (.lst kd)), some (.ow (iD acc)), slo x5, none, none, none, none, none] =
    .ok .nx [some (.pr a jd), some (.fz (.lst cd)), some (.fz (.lst zd)), some (.fz (.lst kd)), some (.ow (iD (szs.foldl (fun acc z => acc ++ [acc.getLastD 0 + z]) acc))), slo x5', none, none, none, none, none]
  | [], acc, x5, _, _ => ⟨x5, rfl⟩
  | z :: szs, acc, x5, hne, hl => by
    obtain ⟨x, h⟩ := starts_ok a jd cd zd kd szs (acc ++ [acc.getLastD 0 + z]) (some (.int (z : Nat))) (by simp) (by simp at hl ⊢; omega)
    refine ⟨x, ?_⟩
    have em : atI (iD acc) (-1) = some (.int (acc.getLastD 0 : Nat)) := by
      have : iD acc = iD acc.dropLast ++ [.int (acc.getLastD 0 : Nat)] := by
        have e : acc = acc.dropLast ++ [acc.getLast hne] := (List.dropLast_concat_getLast hne).symm
        have e2 : acc.getLastD 0 = acc.getLast hne := by rw [List.getLastD_eq_getLast?, List.getLast?_eq_getLast hne]; rfl
        rw [e2]
        conv => lhs; rw [e]
        unfold iD
        rw [List.map_append]
        rfl
      rw [this, atI_m1]
    have hsz : (iD acc).length < sizeLine := by have := szLine; rw [iD_len]; simp at hl; omega
    have e2 : iD (acc ++ [acc.getLastD 0 + z]) = iD acc ++ [.int ((acc.getLastD 0 : Nat) + (z : Nat) : Int)] := by unfold iD; rw [List.map_append]; rfl
    rw [e2] at h
    rw [List.foldl_cons]
    show forL (putM 5) bodyS (.int (z : Nat) :: iD szs) _ = _
    unfold forL
    generalize acc.getLastD 0 = la at *
    have hb : bodyS [some (.pr a jd), some (.fz (.lst cd)), some (.fz (.lst zd)), some (.fz (.lst kd)), some (.ow (iD acc)), some (.fz (.int (z : Nat))), none, none, none, none, none] = .ok .nx [some (.pr a jd), some (.fz (.lst cd)), some (.fz (.lst zd)), some (.fz (.lst kd)), some (.ow (iD acc ++ [.int ((la : Nat) + (z : Nat) : Int)])), some (.fz (.int (z : Nat))), none, none, none, none, none] := by
      unfold bodyS
      simp [em, hsz, setCK]
    rw [ev_bnd]
    have hp : putM 5 (.int (z : Nat)) [some (.pr a jd), some (.fz (.lst cd)), some (.fz (.lst zd)), some (.fz (.lst kd)), some (.ow (iD acc)), slo x5, none, none, none, none, none] = .ok () [some (.pr a jd), some (.fz (.lst cd)), some (.fz (.lst zd)), some (.fz (.lst kd)), some (.ow (iD acc)), some (.fz (.int (z : Nat))), none, none, none, none, none] := by simp
    rw [hp, ev_ok, ev_bnd, hb, ev_ok]
    exact h
theorem p_program {ns : List Int} (h63 : ns.length ≤ 63) {cs szs mks : List Nat} (L : Lay cs (startsOf szs)) (hm : 0 < mks.length) (hm2 : mks.length ≤ 10) (hszs : ∀ p sz : Nat, szs[p]? = some sz → sz ≤ 4000) (hsl : szs.length = cs.length) (hstr : ∀ p r : Nat, p < cs.length → r < 26 → addD (.str ⟨#[97 + r]⟩) (.str (Str.ofString (toString ((p : Nat) : Int)))) = some (.str (nmD r p)))
    (hs1 : ∀ p : Nat, p < cs.length → strC [.int (p : Nat)] = some (.str (Str.ofString (toString ((p : Nat) : Int))))) (s : Js) :
    g_law_program [.mu (jD ns s), .val (.lst (iD cs)), .val (.lst (iD szs)), .val (.lst (iD mks))] = some (.ok (.fz (prD (progJ ns cs szs mks s).1)), [.mu (jD ns (progJ ns cs szs mks s).2), .val (.lst (iD cs)), .val (.lst (iD szs)), .val (.lst (iD mks))]) := by
  refine sem_mu (ds := [.lst (iD cs), .lst (iD szs), .lst (iD mks)]) fun a => ?_
  show ∃ ρ', m_law_program [some (.pr a (jD ns s)), some (.fz (.lst (iD cs))), some (.fz (.lst (iD szs))), some (.fz (.lst (iD mks))), none, none, none, none, none, none, none] = _ ∧ _
  have hfew := L.few
  obtain ⟨x5, h1⟩ := starts_ok a (jD ns s) (iD cs) (iD szs) (iD mks) szs [0] none (by simp) (by simp; omega)
  have h1 : forL (putM 5) bodyS (iD szs) [some (.pr a (jD ns s)), some (.fz (.lst (iD cs))), some (.fz (.lst (iD szs))), some (.fz (.lst (iD mks))), some (.ow (iD [0])), none, none, none, none, none, none] = .ok .nx [some (.pr a (jD ns s)), some (.fz (.lst (iD cs))), some (.fz (.lst (iD szs))), some (.fz (.lst (iD mks))), some (.ow (iD (startsOf szs))), slo x5, none, none, none, none, none] := h1
  have hin : ∀ d ∈ rangeD 0 szs.length, ∃ p : Nat, d = .int (p : Nat) ∧ p < cs.length := fun d hd => by
    rw [rangeD_0] at hd
    obtain ⟨k, hk, rfl⟩ := List.mem_map.mp hd
    exact ⟨k, rfl, by have := List.mem_range.mp hk; omega⟩
  have okn : okR (szs.length : Nat) = true := okR_of (by omega) (by omega)
  obtain ⟨ρ2, h2, sl4, y7, y8, y9, y10, h3, h4, h5⟩ := for_rel (g := putM 7) (b := bodyP) (fun ds (t : Js × List En) ρ => ∃ sl4 x7 x8 x9 x10, (sl4 = Sl.fz (D.lst (iD (startsOf szs))) ∨ sl4 = Sl.ow (iD (startsOf szs))) ∧ (t.2.length + ds.length ≤ 60 ∧ ∀ d ∈ ds, d ∈ rangeD 0 szs.length) ∧ ρ = IP ns a cs szs mks (startsOf szs) t.1 (t.2.map enD) sl4 x5 x7 x8 x9 x10)
    (stP ns cs (startsOf szs) szs mks) (fun d ds t ρ ⟨sl4, x7, x8, x9, x10, q1, q2, q3⟩ => by
      subst q3
      obtain ⟨p, rfl, hp⟩ := hin d (q2.2 d (List.mem_cons_self ..))
      have q21 := q2.1
      rw [List.length_cons] at q21
      obtain ⟨sl4', y8, y9, y10, e1, e2⟩ := proc_ok h63 L hm hm2 hszs hsl a p hp (hstr p · hp) (hs1 p hp) t.1 (t.2.map enD) (by rw [List.length_map]; omega) sl4 q1 x5 x7 x8 x9 x10
      refine ⟨_, e1, sl4', some (.int (p : Nat)), y8, y9, y10, e2, ⟨?_, fun d hd => q2.2 d (List.mem_cons_of_mem _ hd)⟩, ?_⟩
      · show (t.2 ++ [_]).length + ds.length ≤ 60
        rw [List.length_append, List.length_singleton]
        omega
      · show _ = IP ns a cs szs mks (startsOf szs) (procJ ns cs (startsOf szs) szs mks ((p : Nat) : Int).toNat t.1).2 ((t.2 ++ [(procJ ns cs (startsOf szs) szs mks ((p : Nat) : Int).toNat t.1).1]).map enD) _ _ _ _ _ _
        rw [List.map_append, Int.toNat_natCast]
        rfl) (rangeD 0 szs.length) (s, []) (IP ns a cs szs mks (startsOf szs) s [] (.ow (iD (startsOf szs))) x5 none none none none) ⟨_, none, none, none, none, .inr rfl, ⟨by rw [rangeD_len]; simp; omega, fun _ h => h⟩, rfl⟩
  subst h5
  have ef : (rangeD 0 szs.length).foldl (fun t d => stP ns cs (startsOf szs) szs mks d t) (s, []) = ((progJ ns cs szs mks s).2, (progJ ns cs szs mks s).1) := by
    rw [rangeD_0, List.foldl_map]
    have := fold_map (fun p s => procJ ns cs (startsOf szs) szs mks p s) (List.range szs.length) s []
    rw [List.nil_append] at this
    exact this
  rw [ef] at h2
  simp only at h2
  unfold m_law_program
  simp only [IP, slo_none, List.map_nil] at h2
  have e0 : iD [0] = [.int 0] := rfl
  rw [e0] at h1
  generalize progJ ns cs szs mks s = pj at *
  unfold bodyS at h1
  unfold bodyP at h2
  simp [h1, iD_len, okn, h2, prD]
end Wk

set_option Elab.async false
set_option linter.all false
set_option maxRecDepth 100000
set_option maxHeartbeats 2000000
namespace Wk
open PySem L2 Ly
/-! ### single, flat, prices -/
theorem hstr_few : ∀ p r : Nat, p < 3 → r < 26 → addD (.str ⟨#[97 + r]⟩) (.str (Str.ofString (toString ((p : Nat) : Int)))) = some (.str (nmD r p)) := fun p r hp hr => by
  have e : ∀ p : Fin 3, (Str.ofString (toString ((p.val : Nat) : Int))).length = 1 := by decide +kernel
  have hl : (Str.ofString (toString ((p : Nat) : Int))).length = 1 := e ⟨p, hp⟩
  show (if (⟨#[97 + r]⟩ : Str).length + (Str.ofString (toString ((p : Nat) : Int))).length ≤ sizeLine then some (D.str _) else none) = _
  rw [if_pos (by rw [hl]; exact Nat.le_trans (show 1 + 1 ≤ 4000000 by decide) szLine)]
  rfl
theorem hs1_few : ∀ p : Nat, p < 3 → strC [.int (p : Nat)] = some (.str (Str.ofString (toString ((p : Nat) : Int)))) := fun p hp => by
  have e : ∀ p : Fin 3, ((p.val : Nat) : Int).natAbs.log2 < 1920 := by decide +kernel
  show (if ((p : Nat) : Int).natAbs.log2 < 1920 then some (D.str _) else none) = _
  rw [if_pos (e ⟨p, hp⟩)]
/-- the sizes drawn -/
def sizesJ (ns : List Int) (most : Nat) (s : Js) : List Nat × Js := mapS (fun (_ : Nat) s => (1 + (tk ns most s).1, (tk ns most s).2)) (List.range (1 + (tk ns 3 s).1)) (tk ns 3 s).2
def singleJ (ns : List Int) (most : Nat) (s : Js) : List En × Js :=
  let sz := sizesJ ns most s
  let a := tk ns 10 sz.2
  let b := tk ns 10 a.2
  progJ ns (sz.1.map fun _ => 1) sz.1 [a.1, b.1] b.2
theorem mapS_all {α β S : Type} {f : α → S → β × S} {P : β → Prop} (h : ∀ a s, P (f a s).1) : ∀ (l : List α) (s : S), ∀ y ∈ (mapS f l s).1, P y
  | [], s, y, hy => by cases hy
  | a :: l, s, y, hy => by
    rcases List.mem_cons.mp hy with e | hy
    · exact e ▸ h a s
    · exact mapS_all h l _ y hy
theorem sizes_ok {ns : List Int} {most : Nat} (hm : 0 < most) (s : Js) : (sizesJ ns most s).1.length ≤ 3 ∧ 0 < (sizesJ ns most s).1.length ∧ ∀ z ∈ (sizesJ ns most s).1, 0 < z ∧ z ≤ most := by
  unfold sizesJ
  rw [mapS_len, List.length_range]
  have := tk_lt (ns := ns) (many := 3) (by decide) s
  refine ⟨by omega, by omega, mapS_all (P := fun z => 0 < z ∧ z ≤ most) (fun a s => ?_) _ _⟩
  have := tk_lt (ns := ns) hm s
  simp only
  omega
theorem starts_get : ∀ (szs acc : List Nat), acc ≠ [] → (∀ z ∈ szs, 0 < z ∧ z ≤ 100) → (∀ p lo hi : Nat, acc[p]? = some lo → acc[p + 1]? = some hi → lo < hi) → (∀ x ∈ acc, x ≤ acc.getLastD 0) →
    let r := szs.foldl (fun acc z => acc ++ [acc.getLastD 0 + z]) acc
    (∀ p lo hi : Nat, r[p]? = some lo → r[p + 1]? = some hi → lo < hi) ∧ (∀ x ∈ r, x ≤ acc.getLastD 0 + 100 * szs.length) ∧ r[0]? = acc[0]? ∧ r.getLastD 0 = acc.getLastD 0 + szs.sum
  | [], acc, hne, _, h1, h2 => ⟨h1, fun x hx => by have := h2 x hx; show x ≤ acc.getLastD 0 + 100 * 0; omega, rfl, by simp⟩
  | z :: szs, acc, hne, hz, h1, h2 => by
    have hz0 := hz z (List.mem_cons_self ..)
    have el : (acc ++ [acc.getLastD 0 + z]).getLastD 0 = acc.getLastD 0 + z := by rw [List.getLastD_eq_getLast?, List.getLast?_append]; simp
    have ih := starts_get szs (acc ++ [acc.getLastD 0 + z]) (by simp) (fun y hy => hz y (List.mem_cons_of_mem _ hy)) (fun p lo hi q1 q2 => by
      by_cases hp : p + 1 < acc.length
      · rw [List.getElem?_append_left (by omega)] at q1
        rw [List.getElem?_append_left hp] at q2
        exact h1 p lo hi q1 q2
      · have hl : acc.length ≠ 0 := fun e => hne (List.length_eq_zero_iff.mp e)
        have hpl : p + 1 < acc.length + 1 := by have := (List.getElem?_eq_some_iff.mp q2).1; simpa using this
        rw [List.getElem?_append_right (by omega)] at q2
        rw [List.getElem?_append_left (by omega)] at q1
        rw [show p + 1 - acc.length = 0 by omega] at q2
        cases q2
        have := h2 lo (List.mem_of_getElem? q1)
        omega) (fun x hx => by
      rw [el]
      rcases List.mem_append.mp hx with hx | hx
      · have := h2 x hx; omega
      · rw [List.mem_singleton.mp hx]; exact Nat.le_refl _)
    rw [List.foldl_cons]
    obtain ⟨i1, i2, i3, i4⟩ := ih
    refine ⟨i1, fun x hx => ?_, ?_, ?_⟩
    · have := i2 x hx
      rw [el] at this
      rw [List.length_cons]
      omega
    · rw [i3]
      cases acc with
      | nil => exact absurd rfl hne
      | cons a acc => rfl
    · rw [i4, el, List.sum_cons]
      omega
theorem lay_single {szs : List Nat} (h1 : szs.length ≤ 3) (h0 : 0 < szs.length) (h2 : ∀ z ∈ szs, 0 < z ∧ z ≤ 100) : Lay (szs.map fun _ => 1) (startsOf szs) := by
  obtain ⟨i1, i2, i3, i4⟩ := starts_get szs [0] (by simp) h2 (fun p lo hi q1 q2 => by simp at q2) (fun x hx => by rw [List.mem_singleton.mp hx]; exact Nat.zero_le _)
  refine ⟨?_, by rw [List.length_map]; omega, i3, i1, fun p lo hp => ?_, fun p c hc => ?_, by rw [List.length_map]; exact h0⟩
  · unfold startsOf
    rw [starts_len, List.length_map]
    simp
    omega
  · have := i2 lo (List.mem_of_getElem? hp)
    simp at this
    omega
  · rw [List.getElem?_map] at hc
    cases e : szs[p]? with
    | none => rw [e] at hc; cases hc
    | some z => rw [e] at hc; cases hc; exact ⟨Nat.one_pos, show 1 ≤ 24 by decide⟩
theorem takeR {ns : List Int} (h63 : ns.length ≤ 63) (a : Addr) {many : Nat} (z : Int) (hz : z = (many : Nat)) (h1 : 0 < many) (h2 : many ≤ 2 ^ 60) (s : Js) (ρ : Ly.Env) (h : ρ[0]? = some (some (.pr a (jD ns s)))) : callR g_law_take [.s 0, .v (.int z)] ρ = .ok (.fz (.int ((tk ns many s).1 : Nat))) (setCK (jD ns (tk ns many s).2) 0 ρ) := by
  subst hz
  exact callRs1 (xs := jD ns s) (by rw [h]; rfl) (p_take h63 s h1 h2)
theorem p_single {ns : List Int} (h63 : ns.length ≤ 63) {most : Nat} (hm : 0 < most) (hm2 : most ≤ 100) (s : Js) :
    g_law_single [.mu (jD ns s), .val (.int most)] = some (.ok (.fz (prD (singleJ ns most s).1)), [.mu (jD ns (singleJ ns most s).2), .val (.int most)]) := by
  refine sem_mu (ds := [.int most]) fun a => ?_
  show ∃ ρ', m_law_single [some (.pr a (jD ns s)), some (.fz (.int most)), none, none, none] = _ ∧ _
  have e3 := takeR h63 a (many := 3) 3 rfl (by decide) (by decide) s
  have hr3 := tk_lt (ns := ns) (many := 3) (by decide) s
  have hs := sizes_ok (ns := ns) hm s
  unfold singleJ
  unfold sizesJ at hs ⊢
  generalize tk ns 3 s = r3 at *
  obtain ⟨n3, s1⟩ := r3
  have ok1 : okR (1 + (n3 : Int)) = true := okR_of (by omega) (by simp only at hr3; omega)
  have en1 : (1 + (n3 : Int)).toNat = 1 + n3 := by omega
  have hz : (rangeD 0 (1 + n3)).length ≤ sizeLine := by rw [rangeD_len]; exact Nat.le_trans (by simp only at hr3; omega) szLine
  have h1 := lc_st (v := 3) (ds := rangeD 0 (1 + n3)) (s := s1) (el := Ly.bin addD (pur (.int 1)) (calD g_law_take (consS 0 (consV (getM 1) (pur []))))) (mi := rng1 (consM (Ly.bin addD (pur (.int 1)) (calD g_law_take (consS 0 (consV (pur (.int 3)) (pur []))))) (pur []))) (ρ := [some (.pr a (jD ns s)), some (.fz (.int most)), none, none, none])
    (fun s => [some (.pr a (jD ns s)), some (.fz (.int most)), none, none, none]) (fun (_ : D) s => (D.int (1 + (tk ns most s).1 : Nat), (tk ns most s).2)) (by simp [e3, setCK, ok1, en1]) (fun s => by simp) (fun s => by simp) (fun s s' => by simp) hz (fun d hd s => by
      have e := takeR h63 a most rfl hm (by omega) s
      simp [e, setCK])
  rw [rangeD_0, mapS_map, mapS_enc (fun (_ : Nat) s => (1 + (tk ns most s).1, (tk ns most s).2)) (fun (k : Nat) => D.int (k : Nat))] at h1
  simp only at hs h1
  generalize mapS (fun (_ : Nat) s => (1 + (tk ns most s).1, (tk ns most s).2)) (List.range (1 + n3)) s1 = rz at *
  obtain ⟨szs, s2⟩ := rz
  simp only at hs h1 ⊢
  have L := lay_single hs.1 hs.2.1 (fun z hz => ⟨(hs.2.2 z hz).1, Nat.le_trans (hs.2.2 z hz).2 hm2⟩)
  have hcl : (szs.map fun _ => 1).length = szs.length := List.length_map ..
  have e10 := takeR h63 a (many := 10) 10 rfl (by decide) (by decide) s2
  generalize tk ns 10 s2 = ra at *
  obtain ⟨ka, s3⟩ := ra
  have e10b := takeR h63 a (many := 10) 10 rfl (by decide) (by decide) s3
  generalize tk ns 10 s3 = rb at *
  obtain ⟨kb, s4⟩ := rb
  simp only at e10 e10b ⊢
  have hp := p_program h63 (mks := [ka, kb]) L (by simp) (by simp) (fun p sz h => by have := (hs.2.2 sz (List.mem_of_getElem? h)).2; omega) hcl.symm (fun p r hp hr => hstr_few p r (by rw [hcl] at hp; omega) hr) (fun p hp => hs1_few p (by rw [hcl] at hp; omega)) s4
  have h2 : lcO [4] (itemsL (getM 2)) (putM 4) (pur true) (pur (.int 1)) [some (.pr a (jD ns s2)), some (.fz (.int most)), some (.fz (.lst (iD szs))), none, none] = .ok (iD (szs.map fun _ => 1)) [some (.pr a (jD ns s2)), some (.fz (.int most)), some (.fz (.lst (iD szs))), none, none] := by
    have := lc_map (v := 4) (ds := iD szs) (el := pur (.int 1)) (mi := itemsL (getM 2)) (ρ := [some (.pr a (jD ns s2)), some (.fz (.int most)), some (.fz (.lst (iD szs))), none, none]) (ρ1 := [some (.pr a (jD ns s2)), some (.fz (.int most)), some (.fz (.lst (iD szs))), none, none]) (fun _ => D.int 1) (by simp) (by simp) (by simp) (by rw [iD_len]; exact Nat.le_trans (by omega) szLine) (fun d hd => by simp)
    have e1 : (iD szs).map (fun _ => D.int 1) = iD (szs.map fun _ => 1) := by
      unfold iD
      rw [List.map_map, List.map_map]
      exact List.map_congr_left fun _ _ => rfl
    rw [this, e1]
  have e20 : iD [ka, kb] = [.int (ka : Nat), .int (kb : Nat)] := rfl
  rw [e20] at hp
  have hp' : ∀ ρ : Ly.Env, ρ[0]? = some (some (.pr a (jD ns s4))) → callR g_law_program [.s 0, .v (.lst (iD (szs.map fun _ => 1))), .v (.lst (iD szs)), .v (.lst [.int (ka : Nat), .int (kb : Nat)])] ρ = _ := fun ρ h => callRs3 (xs := jD ns s4) (by rw [h]; rfl) hp
  unfold m_law_single
  have e1' : (szs.map fun (k : Nat) => D.int (k : Nat)) = iD szs := rfl
  rw [e1'] at h1
  generalize iD (szs.map fun _ => 1) = c1 at *
  simp [h1, h2, e10, e10b, hp', setCK]
/-- the places, one behind another -/
def flatJ (P : List En) : List Pl := P.flatMap fun e => e.2.2
theorem p_flat (P : List En) (hl : ∀ e ∈ P, e.2.2.length ≤ 5000) (hP : P.length ≤ 60) : g_law_flat [.val (prD P)] = some (.ok (.fz (.lst ((flatJ P).map plD))), [.val (prD P)]) := by
  obtain ⟨ρ', h1, x2, x3, x4, h2, h3⟩ := for_rel (g := gtup 3 (gcons (putM 2) (gcons (putM 3) (gcons (putM 4) (gnil))))) (b := seqS (asgM (Ly.bin addD (getM 1) (calM listC (consM (getM 4) (pur [])))) (putM 1)) (pur .nx))
    (fun ds (t : List D) ρ => ∃ x2 x3 x4, (t.length + 5000 * ds.length ≤ 300000 ∧ ∀ d ∈ ds, ∃ e ∈ P, d = enD e) ∧ ρ = [some (.fz (prD P)), some (.fz (.lst t)), slo x2, slo x3, slo x4]) (fun d t => match d with
      | .tup [_, _, .tup ps] => t ++ ps
      | _ => t) (fun d ds t ρ ⟨x2, x3, x4, q1, q2⟩ => by
      subst q2
      obtain ⟨e, he, rfl⟩ := q1.2 d (List.mem_cons_self ..)
      have hz := q1.1
      rw [List.length_cons] at hz
      have hle := hl e he
      have hadd : addD (.lst t) (.lst (e.2.2.map plD)) = some (.lst (t ++ e.2.2.map plD)) := by
        show (if t.length + (e.2.2.map plD).length ≤ sizeLine then some (D.lst _) else none) = _
        rw [if_pos (by rw [List.length_map]; exact Nat.le_trans (by omega) szLine)]
      refine ⟨[some (.fz (prD P)), some (.fz (.lst (t ++ e.2.2.map plD))), some (.fz (.str e.1)), some (.fz (.int e.2.1)), some (.fz (.tup (e.2.2.map plD)))], by simp [enD, hadd], some (.str e.1), some (.int e.2.1), some (.tup (e.2.2.map plD)), ⟨?_, fun d hd => q1.2 d (List.mem_cons_of_mem _ hd)⟩, rfl⟩
      show (t ++ e.2.2.map plD).length + _ ≤ _
      rw [List.length_append, List.length_map]
      omega) (P.map enD) [] [some (.fz (prD P)), some (.fz (.lst [])), none, none, none] ⟨none, none, none, ⟨by simp; omega, fun d hd => by obtain ⟨e, he, rfl⟩ := List.mem_map.mp hd; exact ⟨e, he, rfl⟩⟩, rfl⟩
  have ef : ∀ (Q : List En) (t : List D), (Q.map enD).foldl (fun t d => match d with
      | .tup [_, _, .tup ps] => t ++ ps
      | _ => t) t = t ++ (flatJ Q).map plD := fun Q => by
    induction Q with
    | nil => intro t; simp [flatJ]
    | cons e Q ih =>
      intro t
      rw [List.map_cons, List.foldl_cons]
      show (Q.map enD).foldl _ (t ++ e.2.2.map plD) = _
      rw [ih]
      simp [flatJ]
  rw [ef, List.nil_append] at h3
  subst h3
  refine sem_rt (ds := [prD P]) (ρ' := [some (.fz (prD P)), some (.fz (.lst ((flatJ P).map plD))), slo x2, slo x3, slo x4]) ?_
  show m_law_flat [some (.fz (prD P)), none, none, none, none] = _
  unfold m_law_flat
  have e0 : prD P = .tup (P.map enD) := rfl
  simp only [e0] at h1 ⊢
  simp [h1]
end Wk

set_option Elab.async false
set_option linter.all false
set_option maxRecDepth 100000
set_option maxHeartbeats 2000000
namespace Wk
open PySem L2 Ly
def priceJ (ns : List Int) (shape : Nat) (s : Js) : Nat × Js :=
  let a := tk ns 4 s
  let b := tk ns 1000000000001 a.2
  let c := tk ns 4 b.2
  (([1, a.1, b.1, ([0, 0, 1, 1000000000000] : List Nat).getD c.1 0] : List Nat).getD shape 0, c.2)
def pricesJ (ns : List Int) (many : Nat) (s : Js) : List Nat × Js := mapS (fun (_ : Nat) s' => priceJ ns (tk ns 4 s).1 s') (List.range many) (tk ns 4 s).2
theorem priceJ_le {ns : List Int} {shape : Nat} (s : Js) : (priceJ ns shape s).1 ≤ 1000000000000 := by
  unfold priceJ
  dsimp only
  have h1 := tk_lt (ns := ns) (many := 4) (by decide) s
  generalize tk ns 4 s = r1 at *
  have h2 := tk_lt (ns := ns) (many := 1000000000001) (by decide) r1.2
  generalize tk ns 1000000000001 r1.2 = r2 at *
  generalize tk ns 4 r2.2 = r3 at *
  have h3 : ([0, 0, 1, 1000000000000] : List Nat).getD r3.1 0 ≤ 1000000000000 := by
    match r3.1 with
    | 0 => decide
    | 1 => decide
    | 2 => decide
    | 3 => decide
    | n + 4 => simp
  generalize ([0, 0, 1, 1000000000000] : List Nat).getD r3.1 0 = x at *
  match shape with
  | 0 => simp
  | 1 => simp; omega
  | 2 => simp; omega
  | 3 => simpa using h3
  | n + 4 => simp
theorem pow12 : decide (CPowX 10 12) = true := by decide +kernel
theorem p_prices {ns : List Int} (h63 : ns.length ≤ 63) {many : Nat} (hm : many ≤ 5000) (s : Js) :
    g_law_prices [.mu (jD ns s), .val (.int many)] = some (.ok (.fz (.tup (iD (pricesJ ns many s).1))), [.mu (jD ns (pricesJ ns many s).2), .val (.int many)]) := by
  refine sem_mu (ds := [.int many]) fun a => ?_
  show ∃ ρ', m_law_prices [some (.pr a (jD ns s)), some (.fz (.int many)), none, none, none, none] = _ ∧ _
  have e3 := takeR h63 a (many := 4) 4 rfl (by decide) (by decide) s
  have hr := tk_lt (ns := ns) (many := 4) (by decide) s
  unfold pricesJ
  generalize tk ns 4 s = r3 at *
  obtain ⟨sh, s1⟩ := r3
  simp only at e3 hr ⊢
  have okn : okR (many : Int) = true := okR_of (by omega) (by omega)
  obtain ⟨ρ', h1, x4, x5, h2, h3⟩ := for_rel (g := putM 4) (b := seqS (asgM (Ly.bin ixD (lstM (consM (pur (.int 1)) (consM (calD g_law_take (consS 0 (consV (pur (.int 4)) (pur [])))) (consM (calD g_law_take (consS 0 (consV (Ly.bin addD (Ly.bin powD (pur (.int 10)) (pur (.int 12))) (pur (.int 1))) (pur [])))) (consM (Ly.bin ixD (lstM (consM (pur (.int 0)) (consM (pur (.int 0)) (consM (pur (.int 1)) (consM (Ly.bin powD (pur (.int 10)) (pur (.int 12))) (pur [])))))) (calD g_law_take (consS 0 (consV (pur (.int 4)) (pur []))))) (pur [])))))) (getM 2)) (putM 5)) (seqS (appM 3 (getM 5)) (pur .nx)))
    (fun ds (t : Js × List Nat) ρ => ∃ x4 x5, t.2.length + ds.length ≤ 5000 ∧ ρ = [some (.pr a (jD ns t.1)), some (.fz (.int many)), some (.fz (.int sh)), some (.ow (iD t.2)), slo x4, slo x5]) (fun _ t => ((priceJ ns sh t.1).2, t.2 ++ [(priceJ ns sh t.1).1])) (fun d ds t ρ ⟨x4, x5, q1, q2⟩ => by
      subst q2
      obtain ⟨s, acc⟩ := t
      rw [List.length_cons] at q1
      have hz : (iD acc).length < sizeLine := by have := szLine; rw [iD_len]; simp only at q1; omega
      have f1 := takeR h63 a (many := 4) 4 rfl (by decide) (by decide) s
      unfold priceJ
      dsimp only
      generalize tk ns 4 s = r1 at *
      obtain ⟨k1, s2⟩ := r1
      have f2 := takeR h63 a (many := 1000000000001) 1000000000001 rfl (by decide) (by decide) s2
      generalize tk ns 1000000000001 s2 = r2 at *
      obtain ⟨k2, s3⟩ := r2
      have f3 := takeR h63 a (many := 4) 4 rfl (by decide) (by decide) s3
      have hk := tk_lt (ns := ns) (many := 4) (by decide) s3
      generalize tk ns 4 s3 = r3 at *
      obtain ⟨k3, s4⟩ := r3
      simp only at f1 f2 f3 hk ⊢
      have ei : ([D.int 0, D.int 0, D.int 1, D.int 1000000000000] : List D)[k3]? = some (.int ((([0, 0, 1, 1000000000000] : List Nat).getD k3 0 : Nat) : Int)) := by
        match k3, hk with
        | 0, _ => rfl
        | 1, _ => rfl
        | 2, _ => rfl
        | 3, _ => rfl
      generalize ([0, 0, 1, 1000000000000] : List Nat).getD k3 0 = p4 at *
      have ej : ([D.int 1, D.int (k1 : Nat), D.int (k2 : Nat), D.int (p4 : Nat)] : List D)[sh]? = some (.int ((([1, k1, k2, p4] : List Nat).getD sh 0 : Nat) : Int)) := by
        match sh, hr with
        | 0, _ => rfl
        | 1, _ => rfl
        | 2, _ => rfl
        | 3, _ => rfl
      generalize ([1, k1, k2, p4] : List Nat).getD sh 0 = pr at *
      have ea : iD (acc ++ [pr]) = iD acc ++ [.int (pr : Nat)] := by unfold iD; rw [List.map_append]; rfl
      refine ⟨[some (.pr a (jD ns s4)), some (.fz (.int many)), some (.fz (.int sh)), some (.ow (iD acc ++ [.int (pr : Nat)])), some (.fz d), some (.fz (.int (pr : Nat)))], by simp [f1, f2, f3, setCK, pow12, ei, ej, hz], some d, some (.int (pr : Nat)), ?_, ?_⟩
      · show (acc ++ [pr]).length + ds.length ≤ 5000
        rw [List.length_append, List.length_singleton]
        simp only at q1
        omega
      · simp only [ea]
        rfl) (rangeD 0 many) (s1, []) [some (.pr a (jD ns s1)), some (.fz (.int many)), some (.fz (.int sh)), some (.ow []), none, none] ⟨none, none, by rw [rangeD_len]; simp; omega, rfl⟩
  subst h3
  have ef : (rangeD 0 many).foldl (fun t d => ((priceJ ns sh t.1).2, t.2 ++ [(priceJ ns sh t.1).1])) (s1, ([] : List Nat)) = ((mapS (fun (_ : Nat) s' => priceJ ns sh s') (List.range many) s1).2, (mapS (fun (_ : Nat) s' => priceJ ns sh s') (List.range many) s1).1) := by
    rw [rangeD_0, List.foldl_map]
    have := fold_map (fun (_ : Nat) s' => priceJ ns sh s') (List.range many) s1 []
    rw [List.nil_append] at this
    exact this
  rw [ef] at h1
  simp only at h1
  generalize mapS (fun (_ : Nat) s' => priceJ ns sh s') (List.range many) s1 = rr at *
  obtain ⟨ps, s2⟩ := rr
  unfold m_law_prices
  simp only at h1 ⊢
  simp [e3, setCK, okn, h1]
end Wk

set_option Elab.async false
set_option linter.all false
set_option maxRecDepth 100000
set_option maxHeartbeats 2000000
namespace Wk
open PySem L2 Ly
/-! ### what a place costs by a sheet -/
abbrev Ent : Type := Option (Nat × Nat)
def eD : Ent → D
  | none => .non
  | some (a, b) => .tup [.int a, .int b]
theorem eD_ok {n : Nat} (e : Ent) : okD (n + 1) (eD e) := by
  cases e with
  | none => exact okD_non
  | some p =>
    refine okD_tup ?_
    intro x hx
    simp only [List.mem_cons, List.not_mem_nil, or_false] at hx
    rcases hx with h | h
    · rw [h]; exact okD_int
    · rw [h]; exact okD_int
@[simp] theorem isNon_eD (e : Ent) : isNon (eD e) = e.isNone := by cases e <;> rfl
theorem inB_non {l : List Ent} : inB .non (.lst (l.map eD)) = some (l.any Option.isNone) := by
  rw [inB_lst okD_non (fun x hx => by obtain ⟨e, _, rfl⟩ := List.mem_map.mp hx; exact eD_ok e) (fun z h => nomatch h), List.any_map]
  congr 2
  funext e
  cases e <;> rfl
theorem eqO_nil {xs : List D} (h : ∀ x ∈ xs, okD 63 x) : eqO (.lst xs) (.lst []) = some (.bl xs.isEmpty) := by
  unfold eqO eqD
  rw [shD_of (okD_lst h), shD_of (okD_lst (n := 63) (xs := []) (by simp))]
  cases xs <;> rfl
@[simp] theorem sxx1 : eqO (.str "exit") (.str "exit") = some (.bl true) := by kernel_rfl
@[simp] theorem sxx2 : eqO (.str "call") (.str "exit") = some (.bl false) := by kernel_rfl
@[simp] theorem sxx3 : eqO (.str "move") (.str "exit") = some (.bl false) := by kernel_rfl
@[simp] theorem sxx4 : eqO (.str "exit") (.str "call") = some (.bl false) := by kernel_rfl
@[simp] theorem sxx5 : eqO (.str "call") (.str "call") = some (.bl true) := by kernel_rfl
@[simp] theorem sxx6 : eqO (.str "move") (.str "call") = some (.bl false) := by kernel_rfl
@[simp] theorem sxx7 : eqO (.str "exit") (.str "move") = some (.bl false) := by kernel_rfl
@[simp] theorem sxx8 : eqO (.str "call") (.str "move") = some (.bl false) := by kernel_rfl
@[simp] theorem sxx9 : eqO (.str "move") (.str "move") = some (.bl true) := by kernel_rfl
@[simp] theorem nxx4 : neO (.str "exit") (.str "call") = some (.bl true) := by kernel_rfl
@[simp] theorem nxx5 : neO (.str "call") (.str "call") = some (.bl false) := by kernel_rfl
@[simp] theorem nxx6 : neO (.str "move") (.str "call") = some (.bl true) := by kernel_rfl
@[simp] theorem nxx7 : neO (.str "exit") (.str "move") = some (.bl true) := by kernel_rfl
@[simp] theorem nxx8 : neO (.str "call") (.str "move") = some (.bl true) := by kernel_rfl
@[simp] theorem nxx9 : neO (.str "move") (.str "move") = some (.bl false) := by kernel_rfl
/-- a what that leads to places below n; a call names one exit -/
def WhOk (n : Nat) : Wh → Prop
  | .mv who ws => who ≤ 1 ∧ ws ≠ [] ∧ ws.length ≤ 8 ∧ ws.Nodup ∧ ∀ w ∈ ws, w < n
  | .cl w es => w < n ∧ ∃ e, es = [e] ∧ e < n
  | .ex e => e = 0
def priceAt (pl pr : Nat) (sh : Nat → Ent) : Wh → Option (Nat × List Nat)
  | .ex _ => some (pr, [])
  | .cl w es => match sh w, sh (es.headD 0) with
    | some a, some b => some (pr + a.1 + b.1, [a.2, b.2])
    | _, _ => none
  | .mv who ws => if who = pl then match ((ws.filterMap sh).map (·.1)).min? with
      | none => none
      | some least => some (pr + least, [((((ws.filterMap sh).filter fun x => decide (x.1 = least)).map (·.2)).min?).getD 0])
    else if (ws.map sh).any Option.isNone then none else some (pr + (((ws.filterMap sh).map (·.1)).max?).getD 0, (ws.filterMap sh).map (·.2))
def paD : Option (Nat × List Nat) → D
  | none => .non
  | some (c, l) => .tup [.int c, .lst (iD l)]
theorem minC_iD {l : List Nat} : minC [.lst (iD l)] = l.min?.map fun (k : Nat) => D.int (k : Nat) := by
  rw [iD_ints, minC_ints, min_cast, Option.map_map]
  rfl
theorem plD_get {pls : List Pl} {v : Nat} {x : Pl} (h : pls[v]? = some x) : (pls.map plD)[v]? = some (plD x) := by rw [List.getElem?_map, h]; rfl
/-- the told entries, all of them there -/
theorem told_some {ws : List Nat} {sh : Nat → Ent} (h : (ws.map sh).any Option.isNone = false) : ws.map sh = (ws.filterMap sh).map some := by
  induction ws with
  | nil => rfl
  | cons w ws ih =>
    rw [List.map_cons, List.any_cons, Bool.or_eq_false_iff] at h
    cases e : sh w with
    | none => rw [e] at h; cases h.1
    | some p => rw [List.map_cons, List.filterMap_cons_some e, List.map_cons, e, ih h.2]
abbrev pD (p : Nat × Nat) : D := .tup [.int p.1, .int p.2]
theorem flt_non (sh : Nat → Ent) : ∀ ws : List Nat, ((ws.map sh).map eD).filterMap (fun d => if Ly.isNon d then none else some d) = (ws.filterMap sh).map pD
  | [] => rfl
  | w :: ws => by
    rw [List.map_cons, List.map_cons]
    cases e : sh w with
    | none =>
      rw [List.filterMap_cons_none (by rfl), List.filterMap_cons_none e]
      exact flt_non sh ws
    | some p => rw [List.filterMap_cons_some (b := pD p) (by rfl), List.filterMap_cons_some e, List.map_cons, flt_non sh ws]
def fltL (least : Nat) : D → Option D
  | .tup [.int a, b] => if a = (least : Nat) then some b else none
  | _ => none
@[simp] theorem fltL_pD {least : Nat} {p : Nat × Nat} : fltL least (pD p) = if p.1 = least then some (.int (p.2 : Nat)) else none := by
  show (if ((p.1 : Nat) : Int) = (least : Nat) then some (D.int (p.2 : Nat)) else none) = _
  by_cases h : p.1 = least
  · rw [if_pos h, if_pos (by omega)]
  · rw [if_neg h, if_neg (by omega)]
theorem flt_least (least : Nat) : ∀ l : List (Nat × Nat), (l.map pD).filterMap (fltL least) = iD ((l.filter fun x => decide (x.1 = least)).map (·.2))
  | [] => rfl
  | p :: l => by
    rw [List.map_cons]
    by_cases h : p.1 = least
    · rw [List.filterMap_cons_some (b := D.int (p.2 : Nat)) (by rw [fltL_pD, if_pos h]), flt_least least l, List.filter_cons_of_pos (by simpa using h)]
      rfl
    · rw [List.filterMap_cons_none (by rw [fltL_pD, if_neg h]), flt_least least l, List.filter_cons_of_neg (by simpa using h)]
section
variable {pls : List Pl} {pl : Nat} {prs : List Nat} {sh : Nat → Ent} {S : D} {n : Nat}
theorem p_price_at (hS : ∀ w : Nat, w < n → ixD S (.int w) = some (eD (sh w))) {v : Nat} {x : Pl} {pr : Nat} (hx : pls[v]? = some x) (hpr : prs[v]? = some pr) (hw : WhOk n x.2) :
    g_law_price_at [.val (.lst (pls.map plD)), .val (.int pl), .val (.tup (iD prs)), .val S, .val (.int v)] = some (.ok (.fz (paD (priceAt pl pr sh x.2))), [.val (.lst (pls.map plD)), .val (.int pl), .val (.tup (iD prs)), .val S, .val (.int v)]) := by
  obtain ⟨ρ', h⟩ : ∃ ρ', m_law_price_at [some (.fz (.lst (pls.map plD))), some (.fz (.int pl)), some (.fz (.tup (iD prs))), some (.fz S), some (.fz (.int v)), none, none, none, none, none] = .ok (.rt (.fz (paD (priceAt pl pr sh x.2)))) ρ' := by
    have hx' := plD_get hx
    obtain ⟨mk, wh⟩ := x
    simp only at hw ⊢
    have ep : plD (mk, wh) = .tup [.int mk, whD wh] := rfl
    rw [ep] at hx'
    generalize pls.map plD = PL at *
    have hp' : (iD prs)[v]? = some (.int (pr : Nat)) := by rw [iD_get, hpr]; rfl
    generalize iD prs = PR at *
    unfold m_law_price_at
    cases wh with
    | ex e => simp [hx', whD, hp', priceAt, paD]
    | cl w es =>
      obtain ⟨h1, e, rfl, h2⟩ := hw
      have s1 := hS w h1
      have s2 := hS e h2
      have ei : ∀ a b : Ent, inB .non (.lst [eD a, eD b]) = some (a.isNone || b.isNone) := fun a b => by
        have := inB_non (l := [a, b])
        simpa using this
      have e2 : priceAt pl pr sh (.cl w [e]) = match sh w, sh e with
        | some a, some b => some (pr + a.1 + b.1, [a.2, b.2])
        | _, _ => none := rfl
      rw [e2]
      generalize sh w = A at *
      generalize sh e = B at *
      cases A with
      | none => simp [hx', whD, hp', s1, s2, inO, ei, paD]
      | some a =>
        cases B with
        | none => simp [hx', whD, hp', s1, s2, inO, ei, paD]
        | some b =>
          have ei2 : inB .non (.lst [.tup [.int a.1, .int a.2], .tup [.int b.1, .int b.2]]) = some false := ei (some a) (some b)
          simp [hx', whD, hp', s1, s2, inO, ei2, paD, eD, iD]
    | mv who ws =>
      obtain ⟨_, hne, h8, _, hws⟩ := hw
      have hz : ws.length ≤ sizeLine := Nat.le_trans (by omega) szLine
      have l1 : ∀ sl8 sl9 : Option Sl, isOB (some sl8) = false → lcO [8] (itemsT (ixM 5 (pur (.int 2)))) (putM 8) (pur true) (ixM 3 (getM 8)) [some (.fz (.lst PL)), some (.fz (.int pl)), some (.fz (.tup PR)), some (.fz S), some (.fz (.int v)), some (.fz (.tup [.str "move", .int who, .tup (iD ws)])), none, none, sl8, sl9] = .ok ((ws.map sh).map eD) [some (.fz (.lst PL)), some (.fz (.int pl)), some (.fz (.tup PR)), some (.fz S), some (.fz (.int v)), some (.fz (.tup [.str "move", .int who, .tup (iD ws)])), none, none, sl8, sl9] := fun sl8 sl9 h8 => by
        have := lc_map (v := 8) (ds := iD ws) (el := ixM 3 (getM 8)) (mi := itemsT (ixM 5 (pur (.int 2)))) (ρ := [some (.fz (.lst PL)), some (.fz (.int pl)), some (.fz (.tup PR)), some (.fz S), some (.fz (.int v)), some (.fz (.tup [.str "move", .int who, .tup (iD ws)])), none, none, sl8, sl9]) (ρ1 := [some (.fz (.lst PL)), some (.fz (.int pl)), some (.fz (.tup PR)), some (.fz S), some (.fz (.int v)), some (.fz (.tup [.str "move", .int who, .tup (iD ws)])), none, none, sl8, sl9]) (fun d => (ixD S d).getD .non) (by simp) (by simp) (by simpa using h8) (by rw [iD_len]; exact hz) (fun d hd => by
          obtain ⟨w, hw, rfl⟩ := List.mem_map.mp hd
          have := hS w (hws w hw)
          simp [this])
        rw [this]
        congr 1
        unfold iD
        rw [List.map_map, List.map_map]
        refine List.map_congr_left fun w hw => ?_
        show (ixD S (.int (w : Nat))).getD .non = eD (sh w)
        rw [hS w (hws w hw)]
        rfl
      have l1 := l1 none none rfl
      -- the numbers of the told entries
      have lf : ∀ (b : Bool) (sl7 : Option Sl) (l : List (Nat × Nat)), l.length ≤ sizeLine → lcO [9] (itemsL (getM 6)) (putM 9) (pur true) (ixM 9 (pur (.int (if b then 1 else 0)))) [some (.fz (.lst PL)), some (.fz (.int pl)), some (.fz (.tup PR)), some (.fz S), some (.fz (.int v)), some (.fz (.tup [.str "move", .int who, .tup (iD ws)])), some (.fz (.lst (l.map pD))), sl7, none, none] = .ok (iD (l.map fun p => if b then p.2 else p.1)) [some (.fz (.lst PL)), some (.fz (.int pl)), some (.fz (.tup PR)), some (.fz S), some (.fz (.int v)), some (.fz (.tup [.str "move", .int who, .tup (iD ws)])), some (.fz (.lst (l.map pD))), sl7, none, none] := fun b sl7 l hl => by
        have := lc_map (v := 9) (ds := l.map pD) (el := ixM 9 (pur (.int (if b then 1 else 0)))) (mi := itemsL (getM 6)) (ρ := [some (.fz (.lst PL)), some (.fz (.int pl)), some (.fz (.tup PR)), some (.fz S), some (.fz (.int v)), some (.fz (.tup [.str "move", .int who, .tup (iD ws)])), some (.fz (.lst (l.map pD))), sl7, none, none]) (ρ1 := [some (.fz (.lst PL)), some (.fz (.int pl)), some (.fz (.tup PR)), some (.fz S), some (.fz (.int v)), some (.fz (.tup [.str "move", .int who, .tup (iD ws)])), some (.fz (.lst (l.map pD))), sl7, none, none]) (fun d => (ixD d (.int (if b then 1 else 0))).getD .non) (by simp) (by simp) (by simp) (by rw [List.length_map]; exact hl) (fun d hd => by
          obtain ⟨p, hp, rfl⟩ := List.mem_map.mp hd
          cases b <;> simp [pD])
        rw [this]
        congr 1
        unfold iD
        rw [List.map_map, List.map_map]
        refine List.map_congr_left fun p hp => ?_
        cases b <;> rfl
      have eL : ∀ e ∈ ws.map sh, eD e = match e with
        | none => .non
        | some p => pD p := fun e _ => by cases e <;> rfl
      have hLz : (ws.filterMap sh).length ≤ sizeLine := Nat.le_trans (List.length_filterMap_le _ _) hz
      by_cases hpl : who = pl
      · have e1 : priceAt pl pr sh (.mv who ws) = match ((ws.filterMap sh).map (·.1)).min? with
          | none => none
          | some least => some (pr + least, [((((ws.filterMap sh).filter fun x => decide (x.1 = least)).map (·.2)).min?).getD 0]) := if_pos hpl
        rw [e1]
        subst hpl
        have l2 : lcO [9] (itemsL (getM 6)) (putM 9) (tst (Ly.bin isnO (getM 9) (pur .non))) (getM 9) [some (.fz (.lst PL)), some (.fz (.int who)), some (.fz (.tup PR)), some (.fz S), some (.fz (.int v)), some (.fz (.tup [.str "move", .int who, .tup (iD ws)])), some (.fz (.lst ((ws.map sh).map eD))), none, none, none] = .ok ((ws.filterMap sh).map pD) [some (.fz (.lst PL)), some (.fz (.int who)), some (.fz (.tup PR)), some (.fz S), some (.fz (.int v)), some (.fz (.tup [.str "move", .int who, .tup (iD ws)])), some (.fz (.lst ((ws.map sh).map eD))), none, none, none] := by
          have := lc_flt (v := 9) (ds := (ws.map sh).map eD) (c := tst (Ly.bin isnO (getM 9) (pur .non))) (el := getM 9) (mi := itemsL (getM 6)) (ρ := [some (.fz (.lst PL)), some (.fz (.int who)), some (.fz (.tup PR)), some (.fz S), some (.fz (.int v)), some (.fz (.tup [.str "move", .int who, .tup (iD ws)])), some (.fz (.lst ((ws.map sh).map eD))), none, none, none]) (ρ1 := [some (.fz (.lst PL)), some (.fz (.int who)), some (.fz (.tup PR)), some (.fz S), some (.fz (.int v)), some (.fz (.tup [.str "move", .int who, .tup (iD ws)])), some (.fz (.lst ((ws.map sh).map eD))), none, none, none]) (fun d => if Ly.isNon d then none else some d) (by simp) (by simp) (by simp) (by simpa using hz) (fun d hd => by
            obtain ⟨e, he, rfl⟩ := List.mem_map.mp hd
            cases e with
            | none => simp [eD]
            | some p => simp [eD])
          rw [this]
          congr 1
          exact flt_non sh ws
        have l3 := lf false none (ws.filterMap sh) hLz
        have en := eqO_nil (xs := (ws.filterMap sh).map pD) (fun x hx => by
          obtain ⟨p, _, rfl⟩ := List.mem_map.mp hx
          exact eD_ok (n := 62) (some p))
        have emn := minC_iD (l := (ws.filterMap sh).map fun p => p.1)
        have l4 : ∀ least : Nat, lcO [9] (itemsL (getM 6)) (putM 9) (tst (Ly.bin eqO (ixM 9 (pur (.int 0))) (getM 7))) (ixM 9 (pur (.int 1))) [some (.fz (.lst PL)), some (.fz (.int who)), some (.fz (.tup PR)), some (.fz S), some (.fz (.int v)), some (.fz (.tup [.str "move", .int who, .tup (iD ws)])), some (.fz (.lst ((ws.filterMap sh).map pD))), some (.fz (.int least)), none, none] = .ok (iD (((ws.filterMap sh).filter fun x => decide (x.1 = least)).map (·.2))) [some (.fz (.lst PL)), some (.fz (.int who)), some (.fz (.tup PR)), some (.fz S), some (.fz (.int v)), some (.fz (.tup [.str "move", .int who, .tup (iD ws)])), some (.fz (.lst ((ws.filterMap sh).map pD))), some (.fz (.int least)), none, none] := fun least => by
          have := lc_flt (v := 9) (ds := (ws.filterMap sh).map pD) (c := tst (Ly.bin eqO (ixM 9 (pur (.int 0))) (getM 7))) (el := ixM 9 (pur (.int 1))) (mi := itemsL (getM 6)) (ρ := [some (.fz (.lst PL)), some (.fz (.int who)), some (.fz (.tup PR)), some (.fz S), some (.fz (.int v)), some (.fz (.tup [.str "move", .int who, .tup (iD ws)])), some (.fz (.lst ((ws.filterMap sh).map pD))), some (.fz (.int least)), none, none]) (ρ1 := [some (.fz (.lst PL)), some (.fz (.int who)), some (.fz (.tup PR)), some (.fz S), some (.fz (.int v)), some (.fz (.tup [.str "move", .int who, .tup (iD ws)])), some (.fz (.lst ((ws.filterMap sh).map pD))), some (.fz (.int least)), none, none]) (fltL least) (by simp) (by simp) (by simp) (by rw [List.length_map]; exact hLz) (fun d hd => by
            obtain ⟨p, hp, rfl⟩ := List.mem_map.mp hd
            rw [fltL_pD]
            by_cases hpl : p.1 = least
            · rw [if_pos hpl]
              simp [pD, hpl]
            · rw [if_neg hpl]
              simp [pD, hpl]
              omega)
          rw [this]
          congr 1
          exact flt_least least (ws.filterMap sh)
        generalize (ws.map sh).map eD = Q0 at *
        generalize hL : ws.filterMap sh = L at *
        cases L with
        | nil =>
          simp only [List.map_nil, List.isEmpty_nil] at en l2
          simp [hx', whD, l1, l2, en, paD, hp']
        | cons p L =>
          have hmn : ∃ least, (((p :: L).map fun p => p.1).min?) = some least := ⟨_, rfl⟩
          obtain ⟨least, hle⟩ := hmn
          have hmem : ∃ q ∈ p :: L, q.1 = least := by
            have := List.min?_mem hle
            obtain ⟨q, hq, e⟩ := List.mem_map.mp this
            exact ⟨q, hq, e⟩
          obtain ⟨m2, hm2⟩ : ∃ m2, (((p :: L).filter fun x => decide (x.1 = least)).map (·.2)).min? = some m2 := by
            cases h : (((p :: L).filter fun x => decide (x.1 = least)).map (·.2)).min? with
            | some m => exact ⟨m, rfl⟩
            | none =>
              rw [List.min?_eq_none_iff, List.map_eq_nil_iff] at h
              obtain ⟨q, hq, e⟩ := hmem
              have : q ∈ (p :: L).filter fun x => decide (x.1 = least) := List.mem_filter.mpr ⟨hq, by simpa using e⟩
              rw [h] at this
              cases this
          have l4' := l4 least
          have em2 := minC_iD (l := ((p :: L).filter fun x => decide (x.1 = least)).map (·.2))
          rw [hm2] at em2
          rw [hle] at emn ⊢
          simp only
          rw [hm2]
          generalize ((p :: L).filter fun x => decide (x.1 = least)).map (·.2) = F at *
          simp only [Bool.false_eq_true, if_false] at l3
          generalize iD ((p :: L).map fun p => p.1) = C at *
          have hE : ((p :: L).map pD).isEmpty = false := rfl
          rw [hE] at en
          generalize (p :: L).map pD = Q at *
          have e1D : ∀ x : Nat, iD [x] = [.int (x : Nat)] := fun _ => rfl
          simp [hx', whD, l1, l2, l3, l4', en, emn, em2, paD, hp', e1D]
      · have e1 : priceAt pl pr sh (.mv who ws) = if (ws.map sh).any Option.isNone then none else some (pr + (((ws.filterMap sh).map (·.1)).max?).getD 0, (ws.filterMap sh).map (·.2)) := if_neg hpl
        rw [e1]
        have hpl' : ¬ ((who : Nat) : Int) = (pl : Nat) := by omega
        have ein := inB_non (l := ws.map sh)
        cases ha : (ws.map sh).any Option.isNone with
        | true =>
          rw [ha] at ein
          generalize (ws.map sh).map eD = Q at *
          simp [hx', whD, l1, hpl', inO, ein, paD]
        | false =>
          rw [ha] at ein
          have et := told_some ha
          have l3 := lf false none (ws.filterMap sh) hLz
          have l4 := lf true none (ws.filterMap sh) hLz
          have eQ : (ws.map sh).map eD = (ws.filterMap sh).map pD := by
            rw [et, List.map_map]
            rfl
          rw [eQ] at l1 ein
          have emx := maxC_iD (l := (ws.filterMap sh).map fun p => p.1)
          obtain ⟨m, hm⟩ : ∃ m, ((ws.filterMap sh).map fun p => p.1).max? = some m := by
            cases h : ((ws.filterMap sh).map fun p => p.1).max? with
            | some m => exact ⟨m, rfl⟩
            | none =>
              rw [List.max?_eq_none_iff, List.map_eq_nil_iff] at h
              rw [h] at et
              exact absurd (List.map_eq_nil_iff.mp et) hne
          rw [hm] at emx ⊢
          simp only [Bool.false_eq_true, if_false, if_true] at l3 l4 ⊢
          generalize (ws.filterMap sh).map pD = Q at *
          generalize iD ((ws.filterMap sh).map fun p => p.1) = C1 at *
          simp [hx', whD, l1, hpl', inO, ein, l3, l4, emx, paD, hp']
  exact sem_rt (ds := [.lst (pls.map plD), .int pl, .tup (iD prs), S, .int v]) h
end
end Wk

set_option Elab.async false
set_option linter.all false
set_option maxRecDepth 100000
set_option maxHeartbeats 2000000
namespace Wk
open PySem L2 Ly
def cD : Option Nat → D
  | none => .non
  | some x => .int x
@[simp] theorem isNon_cD (e : Option Nat) : Ly.isNon (cD e) = e.isNone := by cases e <;> rfl
def tight (pr c : Nat) (costs : Nat → Option Nat) (w : Nat) : Bool := match costs w with
  | some x => decide (pr + x = c)
  | none => false
def nums (l : List Ent) : List Nat := l.filterMap fun e => e.map (·.2)
def rounded (pl pr c : Nat) (costs : Nat → Option Nat) (sh : Nat → Ent) : Wh → Ent
  | .ex _ => some (c, 0)
  | .cl w es => if ((es ++ [w]).map sh).any Option.isNone then none else some (c, 1 + ((nums ((es ++ [w]).map sh)).max?).getD 0)
  | .mv who ws => if who = pl then match (nums ((ws.filter (tight pr c costs)).map sh)).min? with
      | none => none
      | some m => some (c, 1 + m)
    else if (ws.map sh).any Option.isNone then none else some (c, 1 + ((nums (ws.map sh)).max?).getD 0)
def fltR (tg : Nat → Bool) (sh : Nat → Ent) : D → Option D
  | .int z => if tg z.toNat = true then some (eD (sh z.toNat)) else none
  | _ => none
theorem fltR_nat {tg : Nat → Bool} {sh : Nat → Ent} {w : Nat} : fltR tg sh (.int (w : Nat)) = if tg w = true then some (eD (sh w)) else none := by
  show (if tg ((w : Nat) : Int).toNat = true then _ else _) = _
  rw [Int.toNat_natCast]
theorem flt_tight (tg : Nat → Bool) (sh : Nat → Ent) : ∀ ws : List Nat, (iD ws).filterMap (fltR tg sh) = ((ws.filter tg).map sh).map eD
  | [] => rfl
  | w :: ws => by
    show (D.int (w : Nat) :: iD ws).filterMap _ = _
    by_cases h : tg w = true
    · rw [List.filterMap_cons_some (b := eD (sh w)) (by rw [fltR_nat, if_pos h]), flt_tight tg sh ws, List.filter_cons_of_pos h]
      rfl
    · rw [List.filterMap_cons_none (by rw [fltR_nat, if_neg h]), flt_tight tg sh ws, List.filter_cons_of_neg h]
def fltN : D → Option D
  | .tup [_, b] => some b
  | _ => none
theorem flt_nums : ∀ l : List Ent, (l.map eD).filterMap fltN = iD (nums l)
  | [] => rfl
  | none :: l => by
    rw [List.map_cons, List.filterMap_cons_none (by rfl), flt_nums l]
    rfl
  | some p :: l => by
    rw [List.map_cons, List.filterMap_cons_some (b := D.int (p.2 : Nat)) (by rfl), flt_nums l]
    rfl
theorem nums_some {l : List Ent} (h : l.any Option.isNone = false) : (l.map eD).map (fun d => (ixD d (.int 1)).getD .non) = iD (nums l) := by
  induction l with
  | nil => rfl
  | cons e l ih =>
    rw [List.any_cons, Bool.or_eq_false_iff] at h
    cases e with
    | none => cases h.1
    | some p =>
      rw [List.map_cons, List.map_cons, ih h.2]
      show (atI [D.int (p.1 : Nat), D.int (p.2 : Nat)] 1).getD .non :: iD (nums l) = _
      rw [atI_1]
      rfl
theorem nums_ne {l : List Ent} (h : l.any Option.isNone = false) (hne : l ≠ []) : ∃ m, (nums l).max? = some m := by
  cases l with
  | nil => exact absurd rfl hne
  | cons e l =>
    rw [List.any_cons, Bool.or_eq_false_iff] at h
    cases e with
    | none => cases h.1
    | some p => exact ⟨_, rfl⟩
section
variable {pls : List Pl} {pl : Nat} {prs : List Nat} {sh : Nat → Ent} {costs : Nat → Option Nat} {S C : D} {n : Nat}
/-- the AND of _law_rounded, behind `used` -/
theorem rnd_and (PL PR : List D) (hS : ∀ w : Nat, w < n → ixD S (.int w) = some (eD (sh w))) (wd : D) {v c : Nat} (hC : ixD C (.int (v : Nat)) = some (.int (c : Nat))) {us : List Nat} (hu : ∀ w ∈ us, w < n) (hne : us ≠ []) (hul : us.length ≤ 100) :
    ∃ ρ', seqS (asgM (frzM (lcO [9] (itemsL (getM 8)) (putM 9) (pur true) (ixM 4 (getM 9)))) (putM 7)) (seqS (retM (ifE (tst (Ly.bin inO (pur .non) (getM 7))) (pur .non) (tupM (consM (ixM 3 (getM 5)) (consM (Ly.bin addD (pur (.int 1)) (calM maxC (consM (frzM (lcO [10] (itemsL (getM 7)) (putM 10) (pur true) (ixM 10 (pur (.int 1))))) (pur [])))) (pur [])))))) (pur .nx))
      [some (.fz (.lst PL)), some (.fz (.int pl)), some (.fz (.tup PR)), some (.fz C), some (.fz S), some (.fz (.int v)), some (.fz wd), none, some (.ow (iD us)), none, none] = .ok (.rt (.fz (eD (if (us.map sh).any Option.isNone then none else some (c, 1 + ((nums (us.map sh)).max?).getD 0))))) ρ' := by
  have hz : us.length ≤ sizeLine := Nat.le_trans (by omega) szLine
  have l1 : lcO [9] (itemsL (getM 8)) (putM 9) (pur true) (ixM 4 (getM 9)) [some (.fz (.lst PL)), some (.fz (.int pl)), some (.fz (.tup PR)), some (.fz C), some (.fz S), some (.fz (.int v)), some (.fz wd), none, some (.ow (iD us)), none, none] = .ok ((us.map sh).map eD) [some (.fz (.lst PL)), some (.fz (.int pl)), some (.fz (.tup PR)), some (.fz C), some (.fz S), some (.fz (.int v)), some (.fz wd), none, some (.fz (.lst (iD us))), none, none] := by
    have := lc_map (v := 9) (ds := iD us) (el := ixM 4 (getM 9)) (mi := itemsL (getM 8)) (ρ := [some (.fz (.lst PL)), some (.fz (.int pl)), some (.fz (.tup PR)), some (.fz C), some (.fz S), some (.fz (.int v)), some (.fz wd), none, some (.ow (iD us)), none, none]) (ρ1 := [some (.fz (.lst PL)), some (.fz (.int pl)), some (.fz (.tup PR)), some (.fz C), some (.fz S), some (.fz (.int v)), some (.fz wd), none, some (.fz (.lst (iD us))), none, none]) (fun d => (ixD S d).getD .non) (by simp) (by simp) (by simp) (by rw [iD_len]; exact hz) (fun d hd => by
      obtain ⟨w, hw, rfl⟩ := List.mem_map.mp hd
      have := hS w (hu w hw)
      simp [this])
    rw [this]
    congr 1
    unfold iD
    rw [List.map_map, List.map_map]
    refine List.map_congr_left fun w hw => ?_
    show (ixD S (.int (w : Nat))).getD .non = eD (sh w)
    rw [hS w (hu w hw)]
    rfl
  have ein := inB_non (l := us.map sh)
  cases ha : (us.map sh).any Option.isNone with
  | true =>
    rw [ha] at ein
    generalize (us.map sh).map eD = Q at *
    simp [l1, inO, ein, eD]
  | false =>
    rw [ha] at ein
    have l2 : lcO [10] (itemsL (getM 7)) (putM 10) (pur true) (ixM 10 (pur (.int 1))) [some (.fz (.lst PL)), some (.fz (.int pl)), some (.fz (.tup PR)), some (.fz C), some (.fz S), some (.fz (.int v)), some (.fz wd), some (.fz (.lst ((us.map sh).map eD))), some (.fz (.lst (iD us))), none, none] = .ok (iD (nums (us.map sh))) [some (.fz (.lst PL)), some (.fz (.int pl)), some (.fz (.tup PR)), some (.fz C), some (.fz S), some (.fz (.int v)), some (.fz wd), some (.fz (.lst ((us.map sh).map eD))), some (.fz (.lst (iD us))), none, none] := by
      have := lc_map (v := 10) (ds := (us.map sh).map eD) (el := ixM 10 (pur (.int 1))) (mi := itemsL (getM 7)) (ρ := [some (.fz (.lst PL)), some (.fz (.int pl)), some (.fz (.tup PR)), some (.fz C), some (.fz S), some (.fz (.int v)), some (.fz wd), some (.fz (.lst ((us.map sh).map eD))), some (.fz (.lst (iD us))), none, none]) (ρ1 := [some (.fz (.lst PL)), some (.fz (.int pl)), some (.fz (.tup PR)), some (.fz C), some (.fz S), some (.fz (.int v)), some (.fz wd), some (.fz (.lst ((us.map sh).map eD))), some (.fz (.lst (iD us))), none, none]) (fun d => (ixD d (.int 1)).getD .non) (by simp) (by simp) (by simp) (by simpa using hz) (fun d hd => by
        obtain ⟨e, he, rfl⟩ := List.mem_map.mp hd
        cases e with
        | none =>
          have : (us.map sh).any Option.isNone = true := List.any_eq_true.mpr ⟨none, he, rfl⟩
          rw [ha] at this
          cases this
        | some p => simp [eD])
      rw [this, nums_some ha]
    obtain ⟨m, hm⟩ := nums_ne ha (fun e => hne (List.map_eq_nil_iff.mp e))
    have emx := maxC_iD (l := nums (us.map sh))
    rw [hm] at emx ⊢
    generalize (us.map sh).map eD = Q at *
    generalize iD (nums (us.map sh)) = N at *
    simp [l1, inO, ein, l2, emx, hC, eD]
theorem p_rounded (hS : ∀ w : Nat, w < n → ixD S (.int w) = some (eD (sh w))) (hC : ∀ w : Nat, w < n → ixD C (.int w) = some (cD (costs w))) {v : Nat} {x : Pl} {pr c : Nat} (hx : pls[v]? = some x) (hpr : prs[v]? = some pr) (hw : WhOk n x.2) (hv : v < n) (hc : costs v = some c) :
    g_law_rounded [.val (.lst (pls.map plD)), .val (.int pl), .val (.tup (iD prs)), .val C, .val S, .val (.int v)] = some (.ok (.fz (eD (rounded pl pr c costs sh x.2))), [.val (.lst (pls.map plD)), .val (.int pl), .val (.tup (iD prs)), .val C, .val S, .val (.int v)]) := by
  obtain ⟨ρ', h⟩ : ∃ ρ', m_law_rounded [some (.fz (.lst (pls.map plD))), some (.fz (.int pl)), some (.fz (.tup (iD prs))), some (.fz C), some (.fz S), some (.fz (.int v)), none, none, none, none, none] = .ok (.rt (.fz (eD (rounded pl pr c costs sh x.2)))) ρ' := by
    have hx' := plD_get hx
    have hCv := hC v hv
    rw [hc] at hCv
    have hCv : ixD C (.int (v : Nat)) = some (.int (c : Nat)) := hCv
    obtain ⟨mk, wh⟩ := x
    simp only at hw ⊢
    have ep : plD (mk, wh) = .tup [.int mk, whD wh] := rfl
    rw [ep] at hx'
    generalize pls.map plD = PL at *
    have hp' : (iD prs)[v]? = some (.int (pr : Nat)) := by rw [iD_get, hpr]; rfl
    generalize iD prs = PR at *
    unfold m_law_rounded
    cases wh with
    | ex e => simp [hx', whD, hCv, rounded, eD]
    | cl w es =>
      obtain ⟨h1, e, rfl, h2⟩ := hw
      obtain ⟨ρ', h⟩ := rnd_and (pl := pl) (C := C) PL PR hS (.tup [.str "call", .int (w : Nat), .tup [.int (e : Nat)]]) hCv (us := [e, w]) (by intro z hz; simp at hz; rcases hz with rfl | rfl <;> assumption) (by simp) (by simp)
      have e1 : rounded pl pr c costs sh (.cl w [e]) = if (([e, w]).map sh).any Option.isNone then none else some (c, 1 + ((nums (([e, w]).map sh)).max?).getD 0) := rfl
      rw [e1]
      generalize (if (([e, w]).map sh).any Option.isNone then (none : Ent) else some (c, 1 + ((nums (([e, w]).map sh)).max?).getD 0)) = R at *
      have ei : iD [e, w] = [.int (e : Nat), .int (w : Nat)] := rfl
      rw [ei] at h
      have hsz : 1 < sizeLine := by have := szLine; omega
      have e1' : iD [e] = [.int (e : Nat)] := rfl
      simp at h
      simp [hx', whD, hCv, e1', setCK, hsz, h]
    | mv who ws =>
      obtain ⟨_, hne, h8, _, hws⟩ := hw
      have hz : ws.length ≤ sizeLine := Nat.le_trans (by omega) szLine
      by_cases hpl : who = pl
      · have e1 : rounded pl pr c costs sh (.mv who ws) = match (nums ((ws.filter (tight pr c costs)).map sh)).min? with
          | none => none
          | some m => some (c, 1 + m) := if_pos hpl
        rw [e1]
        subst hpl
        have l1 : lcO [9] (itemsT (ixM 6 (pur (.int 2)))) (putM 9) (andT (tst (Ly.bin isnO (ixM 3 (getM 9)) (pur .non))) (tst (Ly.bin eqO (Ly.bin addD (ixM 2 (getM 5)) (ixM 3 (getM 9))) (ixM 3 (getM 5))))) (ixM 4 (getM 9)) [some (.fz (.lst PL)), some (.fz (.int who)), some (.fz (.tup PR)), some (.fz C), some (.fz S), some (.fz (.int v)), some (.fz (.tup [.str "move", .int who, .tup (iD ws)])), none, none, none, none] = .ok (((ws.filter (tight pr c costs)).map sh).map eD) [some (.fz (.lst PL)), some (.fz (.int who)), some (.fz (.tup PR)), some (.fz C), some (.fz S), some (.fz (.int v)), some (.fz (.tup [.str "move", .int who, .tup (iD ws)])), none, none, none, none] := by
          have := lc_flt (v := 9) (ds := iD ws) (c := andT (tst (Ly.bin isnO (ixM 3 (getM 9)) (pur .non))) (tst (Ly.bin eqO (Ly.bin addD (ixM 2 (getM 5)) (ixM 3 (getM 9))) (ixM 3 (getM 5))))) (el := ixM 4 (getM 9)) (mi := itemsT (ixM 6 (pur (.int 2)))) (ρ := [some (.fz (.lst PL)), some (.fz (.int who)), some (.fz (.tup PR)), some (.fz C), some (.fz S), some (.fz (.int v)), some (.fz (.tup [.str "move", .int who, .tup (iD ws)])), none, none, none, none]) (ρ1 := [some (.fz (.lst PL)), some (.fz (.int who)), some (.fz (.tup PR)), some (.fz C), some (.fz S), some (.fz (.int v)), some (.fz (.tup [.str "move", .int who, .tup (iD ws)])), none, none, none, none]) (fltR (tight pr c costs) sh) (by simp) (by simp) (by simp) (by rw [iD_len]; exact hz) (fun d hd => by
            obtain ⟨w, hw, rfl⟩ := List.mem_map.mp hd
            have hSw := hS w (hws w hw)
            have hCw := hC w (hws w hw)
            rw [fltR_nat]
            unfold tight
            generalize sh w = sw at *
            cases hcw : costs w with
            | none =>
              rw [hcw] at hCw
              have hCw : ixD C (.int (w : Nat)) = some .non := hCw
              simp [hCw]
            | some z =>
              rw [hcw] at hCw
              have hCw : ixD C (.int (w : Nat)) = some (.int (z : Nat)) := hCw
              simp only
              by_cases ht : pr + z = c
              · have ht' : ((pr : Nat) : Int) + (z : Nat) = (c : Nat) := by omega
                rw [if_pos (decide_eq_true ht)]
                simp [hCw, hp', hCv, ht', hSw]
              · have ht' : ¬ ((pr : Nat) : Int) + (z : Nat) = (c : Nat) := by omega
                rw [if_neg (by simpa using ht)]
                simp [hCw, hp', hCv, ht'])
          rw [this, flt_tight]
        generalize hT : (ws.filter (tight pr c costs)).map sh = T at *
        have hTl : T.length ≤ sizeLine := by rw [← hT, List.length_map]; exact Nat.le_trans (List.length_filter_le _ _) hz
        have l2 : lcO [10] (itemsL (getM 7)) (putM 10) (tst (Ly.bin isnO (getM 10) (pur .non))) (ixM 10 (pur (.int 1))) [some (.fz (.lst PL)), some (.fz (.int who)), some (.fz (.tup PR)), some (.fz C), some (.fz S), some (.fz (.int v)), some (.fz (.tup [.str "move", .int who, .tup (iD ws)])), some (.fz (.lst (T.map eD))), none, none, none] = .ok (iD (nums T)) [some (.fz (.lst PL)), some (.fz (.int who)), some (.fz (.tup PR)), some (.fz C), some (.fz S), some (.fz (.int v)), some (.fz (.tup [.str "move", .int who, .tup (iD ws)])), some (.fz (.lst (T.map eD))), none, none, none] := by
          have := lc_flt (v := 10) (ds := T.map eD) (c := tst (Ly.bin isnO (getM 10) (pur .non))) (el := ixM 10 (pur (.int 1))) (mi := itemsL (getM 7)) (ρ := [some (.fz (.lst PL)), some (.fz (.int who)), some (.fz (.tup PR)), some (.fz C), some (.fz S), some (.fz (.int v)), some (.fz (.tup [.str "move", .int who, .tup (iD ws)])), some (.fz (.lst (T.map eD))), none, none, none]) (ρ1 := [some (.fz (.lst PL)), some (.fz (.int who)), some (.fz (.tup PR)), some (.fz C), some (.fz S), some (.fz (.int v)), some (.fz (.tup [.str "move", .int who, .tup (iD ws)])), some (.fz (.lst (T.map eD))), none, none, none]) fltN (by simp) (by simp) (by simp) (by rw [List.length_map]; exact hTl) (fun d hd => by
            obtain ⟨e, he, rfl⟩ := List.mem_map.mp hd
            cases e with
            | none => simp [eD, fltN]
            | some p => simp [eD, fltN])
          rw [this, flt_nums]
        have en := eqO_nil (xs := iD (nums T)) (fun x hx => by
          obtain ⟨p, _, rfl⟩ := List.mem_map.mp hx
          exact okD_int)
        have emn := minC_iD (l := nums T)
        generalize T.map eD = Q at *
        generalize nums T = N at *
        cases N with
        | nil =>
          simp only [iD_nil, List.isEmpty_nil] at en l2
          simp [hx', whD, l1, l2, en, eD]
        | cons q N =>
          obtain ⟨m, hm⟩ : ∃ m, (q :: N).min? = some m := ⟨_, rfl⟩
          rw [hm] at emn ⊢
          have hE : (iD (q :: N)).isEmpty = false := rfl
          rw [hE] at en
          generalize iD (q :: N) = NN at *
          simp [hx', whD, l1, l2, en, emn, hCv, eD]
      · have hpl' : ¬ ((who : Nat) : Int) = (pl : Nat) := by omega
        have e1 : rounded pl pr c costs sh (.mv who ws) = if (ws.map sh).any Option.isNone then none else some (c, 1 + ((nums (ws.map sh)).max?).getD 0) := if_neg hpl
        rw [e1]
        obtain ⟨ρ', h⟩ := rnd_and (pl := pl) (C := C) PL PR hS (.tup [.str "move", .int (who : Nat), .tup (iD ws)]) hCv hws hne (by omega)
        generalize (if (ws.map sh).any Option.isNone then (none : Ent) else some (c, 1 + ((nums (ws.map sh)).max?).getD 0)) = R at *
        simp at h
        simp [hx', whD, hCv, hpl', h]
  exact sem_rt (ds := [.lst (pls.map plD), .int pl, .tup (iD prs), C, S, .int v]) h
end
end Wk

set_option Elab.async false
set_option linter.all false
set_option maxRecDepth 100000
set_option maxHeartbeats 2000000
namespace Wk
open PySem L2 Ly
/-- the text of a single program's game -/
structure Game where
  pls : List Pl
  pl : Nat
  prs : List Nat
structure Game.Ok (G : Game) : Prop where
  few : G.pls.length ≤ 4000
  prs : G.prs.length = G.pls.length
  wh : ∀ (v : Nat) (x : Pl), G.pls[v]? = some x → WhOk G.pls.length x.2
section
variable (G : Game)
def Game.n : Nat := G.pls.length
def Game.wh (v : Nat) : Wh := ((G.pls[v]?).getD (0, .ex 0)).2
def Game.pr (v : Nat) : Nat := G.prs.getD v 0
def Game.at_ (sh : Nat → Ent) (v : Nat) : Option (Nat × List Nat) := priceAt G.pl (G.pr v) sh (G.wh v)
def zeroE (e : Option Nat) : Ent := e.map fun c => (c, 0)
def Game.stepC (cs : List (Option Nat)) : List (Option Nat) := (List.range G.n).map fun v => (G.at_ (fun w => zeroE (cs.getD w none)) v).map (·.1)
def Game.costs (G : Game) : Nat → List (Option Nat)
  | 0 => List.replicate G.n none
  | t + 1 => G.stepC (Game.costs G t)
def Game.rnd (cs : List (Option Nat)) (sh : List Ent) (v : Nat) : Ent := match cs.getD v none with
  | none => none
  | some c => rounded G.pl (G.pr v) c (fun w => cs.getD w none) (fun w => sh.getD w none) (G.wh v)
def Game.stepS (cs : List (Option Nat)) (sh : List Ent) : List Ent := (List.range G.n).map fun v => G.rnd cs sh v
def Game.sheets (G : Game) (cs : List (Option Nat)) : Nat → List Ent
  | 0 => List.replicate G.n none
  | t + 1 => G.stepS cs (Game.sheets G cs t)
def Game.sheet : List Ent := G.sheets (G.costs (G.n + 1)) (G.n + 1)
end
theorem getD_ix {α : Type} {f : α → D} {l : List (Option α)} {g : Option α → D} {w : Nat} (h : w < l.length) : ixD (.lst (l.map g)) (.int (w : Nat)) = some (g (l.getD w none)) := by
  rw [ixD_lst, Ly.atI_nat, List.getElem?_map, List.getElem?_eq_getElem h, List.getD_eq_getElem?_getD, List.getElem?_eq_getElem h]
  rfl
theorem getD_ixT {α : Type} {l : List (Option α)} {g : Option α → D} {w : Nat} (h : w < l.length) : ixD (.tup (l.map g)) (.int (w : Nat)) = some (g (l.getD w none)) := by
  rw [ixD_tup, Ly.atI_nat, List.getElem?_map, List.getElem?_eq_getElem h, List.getD_eq_getElem?_getD, List.getElem?_eq_getElem h]
  rfl
theorem Game.costs_len (G : Game) : ∀ t, (G.costs t).length = G.n
  | 0 => List.length_replicate ..
  | t + 1 => by show ((List.range G.n).map _).length = _; rw [List.length_map, List.length_range]
theorem Game.sheets_len (G : Game) (cs : List (Option Nat)) : ∀ t, (G.sheets cs t).length = G.n
  | 0 => List.length_replicate ..
  | t + 1 => by show ((List.range G.n).map _).length = _; rw [List.length_map, List.length_range]
def EQ (G : Game) (C : D) (x5 x6 x7 : Option D) (s8 s9 : Option Sl) (x10 x11 : Option D) : Ly.Env := [some (.fz (.lst (G.pls.map plD))), some (.fz (.int G.pl)), some (.fz (.tup (iD G.prs))), some (.fz (.int G.n)), some (.fz C), slo x5, slo x6, slo x7, s8, s9, slo x10, slo x11, none, none, none]
def costD (cs : List (Option Nat)) : D := .lst (cs.map cD)
def entD (sh : List Ent) : D := .lst (sh.map eD)
section
variable {G : Game}
theorem Game.Ok.get (hG : G.Ok) {v : Nat} (hv : v < G.n) : ∃ x p, G.pls[v]? = some x ∧ G.prs[v]? = some p := by
  have h2 : v < G.prs.length := by rw [hG.prs]; exact hv
  exact ⟨_, _, List.getElem?_eq_getElem hv, List.getElem?_eq_getElem h2⟩
theorem lc_told (cs : List (Option Nat)) (hn : cs.length ≤ 4000) (x5 x6 x7 : Option D) (s8 s9 : Option Sl) (x10 x11 : Option D) :
    lcO [13] (itemsL (getM 4)) (putM 13) (pur true) (ifE (tst (Ly.bin isO (getM 13) (pur .non))) (pur .non) (tupM (consM (getM 13) (consM (pur (.int 0)) (pur []))))) (EQ G (costD cs) x5 x6 x7 s8 s9 x10 x11) = .ok ((cs.map zeroE).map eD) (EQ G (costD cs) x5 x6 x7 s8 s9 x10 x11) := by
  have := lc_map (v := 13) (ds := cs.map cD) (el := ifE (tst (Ly.bin isO (getM 13) (pur .non))) (pur .non) (tupM (consM (getM 13) (consM (pur (.int 0)) (pur []))))) (mi := itemsL (getM 4)) (ρ := EQ G (costD cs) x5 x6 x7 s8 s9 x10 x11) (ρ1 := EQ G (costD cs) x5 x6 x7 s8 s9 x10 x11) (fun d => if Ly.isNon d then .non else .tup [d, .int 0]) (by simp [EQ, costD]) (by simp [EQ]) (by simp [EQ]) (by rw [List.length_map]; exact Nat.le_trans (by omega) szLine) (fun d hd => by
    obtain ⟨e, he, rfl⟩ := List.mem_map.mp hd
    cases e with
    | none => simp [EQ, cD]
    | some z => simp [EQ, cD])
  rw [this, List.map_map, List.map_map]
  congr 1
  refine List.map_congr_left fun e _ => ?_
  cases e <;> rfl
theorem lc_found (hG : G.Ok) (T : List Ent) (hT : T.length = G.n) (C : D) (x5 x7 : Option D) (s8 s9 : Option Sl) (x10 x11 : Option D) :
    lcO [10] (rng1 (consM (getM 3) (pur []))) (putM 10) (pur true) (calD g_law_price_at (consV (getM 0) (consV (getM 1) (consV (getM 2) (consV (getM 6) (consV (getM 10) (pur []))))))) (EQ G C x5 (some (entD T)) x7 s8 s9 x10 x11) = .ok ((List.range G.n).map fun v => paD (G.at_ (fun w => T.getD w none) v)) (EQ G C x5 (some (entD T)) x7 s8 s9 x10 x11) := by
  have hfew : G.n ≤ 4000 := hG.few
  have okn : okR (G.n : Nat) = true := okR_of (by omega) (by omega)
  have := lc_map (v := 10) (ds := rangeD 0 G.n) (el := calD g_law_price_at (consV (getM 0) (consV (getM 1) (consV (getM 2) (consV (getM 6) (consV (getM 10) (pur []))))))) (mi := rng1 (consM (getM 3) (pur []))) (ρ := EQ G C x5 (some (entD T)) x7 s8 s9 x10 x11) (ρ1 := EQ G C x5 (some (entD T)) x7 s8 s9 x10 x11) (fun d => match d with
    | .int z => paD (G.at_ (fun w => T.getD w none) z.toNat)
    | _ => .non) (by simp [EQ, okn]) (by simp [EQ]) (by simp [EQ]) (by rw [rangeD_len]; exact Nat.le_trans (by omega) szLine) (fun d hd => by
    rw [rangeD_0] at hd
    obtain ⟨v, hv, rfl⟩ := List.mem_map.mp hd
    have hv := List.mem_range.mp hv
    obtain ⟨x, p, hx, hp⟩ := hG.get hv
    have h := p_price_at (pls := G.pls) (pl := G.pl) (prs := G.prs) (sh := fun w => T.getD w none) (S := entD T) (n := G.n) (fun w hw => getD_ix (f := eD ∘ some) (by rw [hT]; exact hw)) hx hp (hG.wh v _ hx)
    have hat : G.at_ (fun w => T.getD w none) v = priceAt G.pl p (fun w => T.getD w none) x.2 := by
      unfold Game.at_ Game.pr Game.wh
      rw [hx, List.getD_eq_getElem?_getD, hp]
      rfl
    rw [← hat] at h
    have hc := fun ρ : Ly.Env => callR5 (ρ := ρ) h
    simp [EQ, hc])
  rw [this, rangeD_0, List.map_map]
  congr 1
theorem lc_costs (T : List (Option (Nat × List Nat))) (hT : T.length ≤ 4000) (C : D) (x5 x6 : Option D) (s8 s9 : Option Sl) (x10 x11 : Option D) :
    lcO [14] (itemsL (getM 7)) (putM 14) (pur true) (ifE (tst (Ly.bin isO (getM 14) (pur .non))) (pur .non) (ixM 14 (pur (.int 0)))) (EQ G C x5 x6 (some (.lst (T.map paD))) s8 s9 x10 x11) = .ok ((T.map fun e => e.map (·.1)).map cD) (EQ G C x5 x6 (some (.lst (T.map paD))) s8 s9 x10 x11) := by
  have := lc_map (v := 14) (ds := T.map paD) (el := ifE (tst (Ly.bin isO (getM 14) (pur .non))) (pur .non) (ixM 14 (pur (.int 0)))) (mi := itemsL (getM 7)) (ρ := EQ G C x5 x6 (some (.lst (T.map paD))) s8 s9 x10 x11) (ρ1 := EQ G C x5 x6 (some (.lst (T.map paD))) s8 s9 x10 x11) (fun d => if Ly.isNon d then .non else (ixD d (.int 0)).getD .non) (by simp [EQ]) (by simp [EQ]) (by simp [EQ]) (by rw [List.length_map]; exact Nat.le_trans (by omega) szLine) (fun d hd => by
    obtain ⟨e, he, rfl⟩ := List.mem_map.mp hd
    cases e with
    | none => simp [EQ, paD]
    | some z => simp [EQ, paD])
  rw [this, List.map_map, List.map_map]
  congr 1
  refine List.map_congr_left fun e _ => ?_
  cases e with
  | none => rfl
  | some z =>
    show (atI [D.int (z.1 : Nat), D.lst (iD z.2)] 0).getD .non = _
    rw [atI_0]
    rfl
end
end Wk

set_option Elab.async false
set_option linter.all false
set_option maxRecDepth 100000
set_option maxHeartbeats 2000000
namespace Wk
open PySem L2 Ly
section
variable {G : Game}
noncomputable def body1 : M Fl := seqS (asgM (frzM (lcO [13] (itemsL (getM 4)) (putM 13) (pur true) (ifE (tst (Ly.bin isO (getM 13) (pur .non))) (pur .non) (tupM (consM (getM 13) (consM (pur (.int 0)) (pur []))))))) (putM 6)) (seqS (asgM (frzM (lcO [10] (rng1 (consM (getM 3) (pur []))) (putM 10) (pur true) (calD g_law_price_at (consV (getM 0) (consV (getM 1) (consV (getM 2) (consV (getM 6) (consV (getM 10) (pur []))))))))) (putM 7)) (seqS (asgM (frzM (lcO [14] (itemsL (getM 7)) (putM 14) (pur true) (ifE (tst (Ly.bin isO (getM 14) (pur .non))) (pur .non) (ixM 14 (pur (.int 0)))))) (putM 4)) (pur .nx)))
noncomputable def body2 : M Fl := (seqS (asgM (pur .non) (putM 11)) (seqS (iteS (tst (Ly.bin isnO (ixM 4 (getM 10)) (pur .non))) (seqS (asgM (calD g_law_rounded (consV (getM 0) (consV (getM 1) (consV (getM 2) (consV (getM 4) (consV (getM 8) (consV (getM 10) (pur [])))))))) (putM 11)) (pur .nx)) (pur .nx)) (seqS (appM 9 (getM 11)) (pur .nx))))
noncomputable def body3 : M Fl := (seqS (setOM 9 (lstO (pur []))) (seqS (Ly.forM (rng1 (consM (getM 3) (pur []))) (putM 10) body2) (seqS (asgM (getM 9) (putM 8)) (pur .nx))))
theorem round1 (hG : G.Ok) (t : Nat) (x5 x6 x7 : Option D) : body1 (EQ G (costD (G.costs t)) x5 x6 x7 none none none none) = .ok .nx (EQ G (costD (G.costs (t + 1))) x5 (some (entD ((G.costs t).map zeroE))) (some (.lst ((List.range G.n).map fun v => paD (G.at_ (fun w => ((G.costs t).map zeroE).getD w none) v)))) none none none none) := by
  have hl := G.costs_len t
  have hfew : G.n ≤ 4000 := hG.few
  have e1 := lc_told (G := G) (G.costs t) (by omega) x5 x6 x7 none none none none
  have e2 := lc_found hG ((G.costs t).map zeroE) (by rw [List.length_map, hl]) (costD (G.costs t)) x5 x7 none none none none
  have e3 := lc_costs (G := G) ((List.range G.n).map fun v => G.at_ (fun w => ((G.costs t).map zeroE).getD w none) v) (by rw [List.length_map, List.length_range]; exact hfew) (costD (G.costs t)) x5 (some (entD ((G.costs t).map zeroE))) none none none none
  rw [List.map_map] at e3
  have eC : costD (G.costs (t + 1)) = .lst ((((List.range G.n).map fun v => G.at_ (fun w => ((G.costs t).map zeroE).getD w none) v).map fun e => e.map (·.1)).map cD) := by
    show costD (G.stepC (G.costs t)) = _
    unfold costD Game.stepC
    rw [List.map_map (l := List.range G.n)]
    have ef : (fun w => ((G.costs t).map zeroE).getD w none) = (fun w => zeroE ((G.costs t).getD w none)) := by
      funext w
      rw [List.getD_eq_getElem?_getD, List.getD_eq_getElem?_getD, List.getElem?_map]
      cases (G.costs t)[w]? with
      | none => rfl
      | some e => rfl
    rw [ef, List.map_map, List.map_map]
    rfl
  rw [eC]
  unfold entD at *
  generalize ((G.costs t).map zeroE).map eD = T at *
  generalize costD (G.costs t) = C at *
  have eF : (paD ∘ fun v => G.at_ (fun w => ((G.costs t).map zeroE).getD w none) v) = fun v => paD (G.at_ (fun w => ((G.costs t).map zeroE).getD w none) v) := rfl
  rw [eF] at e3
  generalize ((List.range G.n).map fun v => paD (G.at_ (fun w => ((G.costs t).map zeroE).getD w none) v)) = Fd at *
  generalize ((((List.range G.n).map fun v => G.at_ (fun w => ((G.costs t).map zeroE).getD w none) v).map fun e => e.map (·.1)).map cD) = C' at *
  simp only [EQ, slo_some, slo_none] at e1 e2 e3 ⊢
  unfold body1
  simp [e1, e2, e3]
theorem loop1 (hG : G.Ok) (ds : List D) : ∀ (t : Nat) (x5 x6 x7 : Option D), ∃ x5' x6' x7', forL (putM 5) body1 ds (EQ G (costD (G.costs t)) x5 x6 x7 none none none none) = .ok .nx (EQ G (costD (G.costs (t + ds.length))) x5' x6' x7' none none none none) := by
  induction ds with
  | nil => exact fun t x5 x6 x7 => ⟨x5, x6, x7, rfl⟩
  | cons d ds ih =>
    intro t x5 x6 x7
    obtain ⟨y5, y6, y7, h⟩ := ih (t + 1) (some d) (some (entD ((G.costs t).map zeroE))) (some (.lst ((List.range G.n).map fun v => paD (G.at_ (fun w => ((G.costs t).map zeroE).getD w none) v))))
    refine ⟨y5, y6, y7, ?_⟩
    unfold forL
    have hp : putM 5 d (EQ G (costD (G.costs t)) x5 x6 x7 none none none none) = .ok () (EQ G (costD (G.costs t)) (some d) x6 x7 none none none none) := by simp [EQ]
    rw [ev_bnd, hp, ev_ok, ev_bnd, round1 hG, ev_ok]
    show forL _ _ _ _ = _
    rw [h, List.length_cons, Nat.add_right_comm, Nat.add_assoc]
theorem step2 (hG : G.Ok) (cs : List (Option Nat)) (hc : cs.length = G.n) (sh : List Ent) (hs : sh.length = G.n) (v : Nat) (hv : v < G.n) (acc : List Ent) (ha : acc.length ≤ 4000) (x5 x6 x7 x10 x11 : Option D) :
    bndR (putM 10 (.int (v : Nat)) (EQ G (costD cs) x5 x6 x7 (some (.fz (entD sh))) (some (.ow (acc.map eD))) x10 x11)) (fun _ => body2) = .ok .nx (EQ G (costD cs) x5 x6 x7 (some (.fz (entD sh))) (some (.ow ((acc ++ [G.rnd cs sh v]).map eD))) (some (.int (v : Nat))) (some (eD (G.rnd cs sh v)))) := by
  obtain ⟨x, p, hx, hp⟩ := hG.get hv
  have hC : ∀ w : Nat, w < G.n → ixD (costD cs) (.int (w : Nat)) = some (cD (cs.getD w none)) := fun w hw => getD_ix (f := cD ∘ some) (by rw [hc]; exact hw)
  have hS : ∀ w : Nat, w < G.n → ixD (entD sh) (.int (w : Nat)) = some (eD (sh.getD w none)) := fun w hw => getD_ix (f := eD ∘ some) (by rw [hs]; exact hw)
  have hCv := hC v hv
  have hsz : (acc.map eD).length < sizeLine := by have := szLine; rw [List.length_map]; omega
  rw [List.map_append]
  unfold body2
  cases hcv : cs.getD v none with
  | none =>
    rw [hcv] at hCv
    have hCv : ixD (costD cs) (.int (v : Nat)) = some .non := hCv
    have hrn : G.rnd cs sh v = none := by unfold Game.rnd; rw [hcv]
    rw [hrn]
    generalize acc.map eD = A at *
    simp [EQ, hCv, hsz, setCK, eD]
  | some c =>
    rw [hcv] at hCv
    have hCv : ixD (costD cs) (.int (v : Nat)) = some (.int (c : Nat)) := hCv
    have h := p_rounded (pls := G.pls) (pl := G.pl) (prs := G.prs) (sh := fun w => sh.getD w none) (costs := fun w => cs.getD w none) (S := entD sh) (C := costD cs) (n := G.n) hS hC hx hp (hG.wh v _ hx) hv hcv
    have hr : rounded G.pl (G.pr v) c (fun w => cs.getD w none) (fun w => sh.getD w none) (G.wh v) = rounded G.pl p c (fun w => cs.getD w none) (fun w => sh.getD w none) x.2 := by
      unfold Game.pr Game.wh
      rw [hx, List.getD_eq_getElem?_getD, hp]
      rfl
    have hrn : G.rnd cs sh v = rounded G.pl (G.pr v) c (fun w => cs.getD w none) (fun w => sh.getD w none) (G.wh v) := by unfold Game.rnd; rw [hcv]
    rw [← hr, ← hrn] at h
    have hcal := fun ρ : Ly.Env => callR6 (ρ := ρ) h
    generalize G.rnd cs sh v = R at *
    generalize acc.map eD = A at *
    simp [EQ, hCv, hcal, hsz, setCK]
theorem loop2 (hG : G.Ok) (cs : List (Option Nat)) (hc : cs.length = G.n) (sh : List Ent) (hs : sh.length = G.n) (x5 x6 x7 : Option D) : ∀ (vs : List Nat), (∀ v ∈ vs, v < G.n) → ∀ (acc : List Ent) (x10 x11 : Option D), acc.length + vs.length ≤ 4000 →
    ∃ x10' x11', forL (putM 10) body2 (vs.map fun (k : Nat) => D.int (k : Nat)) (EQ G (costD cs) x5 x6 x7 (some (.fz (entD sh))) (some (.ow (acc.map eD))) x10 x11) = .ok .nx (EQ G (costD cs) x5 x6 x7 (some (.fz (entD sh))) (some (.ow ((acc ++ vs.map (G.rnd cs sh)).map eD))) x10' x11')
  | [], _, acc, x10, x11, _ => ⟨x10, x11, by rw [List.map_nil, List.map_nil, List.append_nil]; rfl⟩
  | v :: vs, hvs, acc, x10, x11, hl => by
    rw [List.length_cons] at hl
    obtain ⟨y10, y11, h⟩ := loop2 hG cs hc sh hs x5 x6 x7 vs (fun v hv => hvs v (List.mem_cons_of_mem _ hv)) (acc ++ [G.rnd cs sh v]) (some (.int (v : Nat))) (some (eD (G.rnd cs sh v))) (by simp; omega)
    refine ⟨y10, y11, ?_⟩
    have h1 := step2 hG cs hc sh hs v (hvs v (List.mem_cons_self ..)) acc (by omega) x5 x6 x7 x10 x11
    rw [List.map_cons]
    unfold forL
    rw [ev_bnd]
    cases e : putM 10 (.int (v : Nat)) (EQ G (costD cs) x5 x6 x7 (some (.fz (entD sh))) (some (.ow (acc.map eD))) x10 x11) with
    | stuck => rw [e] at h1; cases h1
    | ex c ρ' => rw [e] at h1; cases h1
    | ok u ρ' =>
      rw [e, ev_ok] at h1
      rw [ev_ok, ev_bnd, h1, ev_ok]
      show forL _ _ _ _ = _
      rw [h, List.append_assoc]
      rfl
theorem round2 (hG : G.Ok) (cs : List (Option Nat)) (hc : cs.length = G.n) (t : Nat) (x5 x6 x7 x9 x10 x11 : Option D) :
    ∃ x9' x10' x11', body3 (EQ G (costD cs) x5 x6 x7 (some (.fz (entD (G.sheets cs t)))) (slo x9) x10 x11) = .ok .nx (EQ G (costD cs) x5 x6 x7 (some (.fz (entD (G.sheets cs (t + 1))))) (slo x9') x10' x11') := by
  have hfew : G.n ≤ 4000 := hG.few
  have okn : okR (G.n : Nat) = true := okR_of (by omega) (by omega)
  obtain ⟨y10, y11, h⟩ := loop2 hG cs hc (G.sheets cs t) (G.sheets_len cs t) x5 x6 x7 (List.range G.n) (fun v hv => List.mem_range.mp hv) [] x10 x11 (by simp; omega)
  rw [← rangeD_0, List.nil_append] at h
  have eS : (List.range G.n).map (G.rnd cs (G.sheets cs t)) = G.sheets cs (t + 1) := rfl
  rw [eS] at h
  refine ⟨some (entD (G.sheets cs (t + 1))), y10, y11, ?_⟩
  have eE : D.lst ((G.sheets cs (t + 1)).map eD) = entD (G.sheets cs (t + 1)) := rfl
  generalize entD (G.sheets cs t) = S0 at *
  rw [← eE]
  generalize (G.sheets cs (t + 1)).map eD = S1 at *
  generalize costD cs = C at *
  simp only [EQ, List.map_nil] at h
  unfold body3
  simp [EQ, okn, h]
theorem loop3 (hG : G.Ok) (cs : List (Option Nat)) (hc : cs.length = G.n) (ds : List D) : ∀ (t : Nat) (x5 x6 x7 x9 x10 x11 : Option D), ∃ x5' x9' x10' x11', forL (putM 5) body3 ds (EQ G (costD cs) x5 x6 x7 (some (.fz (entD (G.sheets cs t)))) (slo x9) x10 x11) = .ok .nx (EQ G (costD cs) x5' x6 x7 (some (.fz (entD (G.sheets cs (t + ds.length))))) (slo x9') x10' x11') := by
  induction ds with
  | nil => exact fun t x5 x6 x7 x9 x10 x11 => ⟨x5, x9, x10, x11, rfl⟩
  | cons d ds ih =>
    intro t x5 x6 x7 x9 x10 x11
    obtain ⟨y9, y10, y11, h1⟩ := round2 hG cs hc t (some d) x6 x7 x9 x10 x11
    obtain ⟨z5, z9, z10, z11, h⟩ := ih (t + 1) (some d) x6 x7 y9 y10 y11
    refine ⟨z5, z9, z10, z11, ?_⟩
    unfold forL
    have hp : putM 5 d (EQ G (costD cs) x5 x6 x7 (some (.fz (entD (G.sheets cs t)))) (slo x9) x10 x11) = .ok () (EQ G (costD cs) (some d) x6 x7 (some (.fz (entD (G.sheets cs t)))) (slo x9) x10 x11) := by simp [EQ]
    rw [ev_bnd, hp, ev_ok, ev_bnd, h1, ev_ok]
    show forL _ _ _ _ = _
    rw [h, List.length_cons, Nat.add_right_comm, Nat.add_assoc]
theorem lc_none (el : List D) (hl : el.length ≤ 4000) {ρ : Ly.Env} (h0 : ρ[0]? = some (some (.fz (.lst el)))) (hlen : 12 < ρ.length) (ho : isOB ρ[12]? = false) : lcO [12] (itemsL (getM 0)) (putM 12) (pur true) (pur .non) ρ = .ok (el.map fun _ => .non) ρ :=
  lc_map (v := 12) (ds := el) (el := pur .non) (mi := itemsL (getM 0)) (fun _ => D.non) (by simp [h0]) hlen ho (Nat.le_trans (by omega) szLine) fun d hd => by simp
theorem p_sheet (hG : G.Ok) : g_law_sheet [.val (.lst (G.pls.map plD)), .val (.int G.pl), .val (.tup (iD G.prs))] = some (.ok (.fz (.tup (G.sheet.map eD))), [.val (.lst (G.pls.map plD)), .val (.int G.pl), .val (.tup (iD G.prs))]) := by
  have hfew : G.n ≤ 4000 := hG.few
  have okn : okR (((G.n : Nat) : Int) + 1) = true := okR_of (by omega) (by omega)
  have en1 : (((G.n : Nat) : Int) + 1).toNat = G.n + 1 := by omega
  obtain ⟨ρ', h⟩ : ∃ ρ', m_law_sheet [some (.fz (.lst (G.pls.map plD))), some (.fz (.int G.pl)), some (.fz (.tup (iD G.prs))), none, none, none, none, none, none, none, none, none, none, none, none] = .ok (.rt (.fz (.tup (G.sheet.map eD)))) ρ' := by
    obtain ⟨x5, x6, x7, h1⟩ := loop1 hG (rangeD 0 (G.n + 1)) 0 none none none
    rw [rangeD_len, Nat.zero_add] at h1
    obtain ⟨y5, y9, y10, y11, h2⟩ := loop3 hG (G.costs (G.n + 1)) (G.costs_len _) (rangeD 0 (G.n + 1)) 0 x5 x6 x7 none none none
    rw [rangeD_len, Nat.zero_add] at h2
    have hn : G.pls.length = G.n := rfl
    have e0 : (G.pls.map plD).map (fun _ => D.non) = (G.costs 0).map cD := by
      show _ = (List.replicate G.n none).map cD
      rw [List.map_map, List.map_replicate]
      exact List.map_const' ..
    have e0' : (G.pls.map plD).map (fun _ => D.non) = (G.sheets (G.costs (G.n + 1)) 0).map eD := by
      show _ = (List.replicate G.n none).map eD
      rw [List.map_map, List.map_replicate]
      exact List.map_const' ..
    have hpl : (G.pls.map plD).length = G.n := List.length_map ..
    have hpl2 : (G.pls.map plD).length ≤ 4000 := by rw [hpl]; exact hfew
    unfold costD at h1 h2
    unfold entD at h2
    rw [← e0] at h1
    rw [← e0'] at h2
    have eF : G.sheet = G.sheets (G.costs (G.n + 1)) (G.n + 1) := rfl
    rw [eF]
    generalize (G.sheets (G.costs (G.n + 1)) (G.n + 1)).map eD = SF at *
    generalize (G.costs (G.n + 1)).map cD = CF at *
    clear e0 e0'
    simp only [EQ, slo_none] at h1 h2
    generalize G.pls.map plD = PL at *
    have ln := fun (ρ : Ly.Env) h0 hlen ho => lc_none PL hpl2 (ρ := ρ) h0 hlen ho
    unfold m_law_sheet
    unfold body1 at h1
    unfold body3 body2 at h2
    simp [hpl, ln, okn, en1, h1, h2]
  exact sem_rt (ds := [.lst (G.pls.map plD), .int G.pl, .tup (iD G.prs)]) h
end
end Wk

set_option Elab.async false
set_option linter.all false
set_option maxRecDepth 100000
set_option maxHeartbeats 2000000
namespace Wk
open PySem L2 Ly
/-! ### small tests -/
def isI : D → Bool
  | .int _ => true
  | _ => false
theorem p_is_int (d : D) : g_is_int [.val d] = some (.ok (.fz (.bl (isI d))), [.val d]) := by
  refine sem_rt (ds := [d]) (ρ' := [some (.fz d)]) ?_
  show m_is_int [some (.fz d)] = _
  unfold m_is_int
  simp [isi_int, isi_bool]
  cases d <;> simp [isI]
theorem p_law_int (d : D) : g_law_int [.val d] = some (.ok (.fz (.bl (isI d))), [.val d]) := by
  refine sem_rt (ds := [d]) (ρ' := [some (.fz d)]) ?_
  show m_law_int [some (.fz d)] = _
  unfold m_law_int
  simp [isi_int, isi_bool]
  cases d <;> simp [isI]
def inR (lo hi : Int) : D → Bool
  | .int n => decide (lo ≤ n) && decide (n ≤ hi)
  | _ => false
theorem p_within (d : D) (lo hi : Int) : g_within [.val d, .val (.int lo), .val (.int hi)] = some (.ok (.fz (.bl (inR lo hi d))), [.val d, .val (.int lo), .val (.int hi)]) := by
  refine sem_rt (ds := [d, .int lo, .int hi]) (ρ' := [some (.fz d), some (.fz (.int lo)), some (.fz (.int hi))]) ?_
  show m_within [some (.fz d), some (.fz (.int lo)), some (.fz (.int hi))] = _
  unfold m_within
  simp [callR1 (p_is_int d)]
  cases d with
  | int n =>
    by_cases h : lo ≤ n
    · simp [isI, inR, h]
    · simp [isI, inR, h]
  | _ => simp [isI, inR]
def rowB (lo hi : Int) : D → Bool
  | .tup xs => decide (lo ≤ (xs.length : Nat)) && decide (((xs.length : Nat) : Int) ≤ hi)
  | _ => false
theorem p_is_row (d : D) (lo hi : Int) : g_is_row [.val d, .val (.int lo), .val (.int hi)] = some (.ok (.fz (.bl (rowB lo hi d))), [.val d, .val (.int lo), .val (.int hi)]) := by
  refine sem_rt (ds := [d, .int lo, .int hi]) (ρ' := [some (.fz d), some (.fz (.int lo)), some (.fz (.int hi))]) ?_
  show m_is_row [some (.fz d), some (.fz (.int lo)), some (.fz (.int hi))] = _
  unfold m_is_row
  cases d with
  | tup xs =>
    by_cases h : lo ≤ ((xs.length : Nat) : Int)
    · simp [isi_tuple, rowB, h]
    · simp [isi_tuple, rowB, h]
  | _ => simp [isi_tuple, rowB]
theorem p_same_bl (a b : Bool) : g_law_same 1 [.val (.bl a), .val (.bl b)] = some (.ok (.fz (.bl (a == b))), [.val (.bl a), .val (.bl b)]) := by
  refine sem_rt (ds := [.bl a, .bl b]) (ρ' := [some (.fz (.bl a)), some (.fz (.bl b)), none]) ?_
  show m_law_same (g_law_same 0) [some (.fz (.bl a)), some (.fz (.bl b)), none] = _
  unfold m_law_same
  have h1 : isiTs (tyD (.bl a)) ["int", "str"] = some true := by kernel_rfl
  simp [isi_tuple, isi_bool, isi_str, h1]
def nnB : D → Bool
  | .int n => decide (0 ≤ n)
  | _ => false
/-- None, or two numbers -/
def formB : D → Bool
  | .non => true
  | .tup [a, b] => nnB a && nnB b
  | _ => false
theorem formB_len {xs : List D} (h : xs.length ≠ 2) : formB (.tup xs) = false := by
  match xs, h with
  | [], _ => rfl
  | [a], _ => rfl
  | [a, b], h => exact absurd rfl h
  | a :: b :: c :: r, _ => rfl
theorem rowB_2 {xs : List D} (h : xs.length = 2) : rowB 2 2 (.tup xs) = true := by
  show (decide ((2 : Int) ≤ (xs.length : Nat)) && decide (((xs.length : Nat) : Int) ≤ 2)) = true
  rw [h]
  rfl
theorem rowB_n2 {xs : List D} (h : xs.length ≠ 2) : rowB 2 2 (.tup xs) = false := by
  show (decide ((2 : Int) ≤ (xs.length : Nat)) && decide (((xs.length : Nat) : Int) ≤ 2)) = false
  rw [Bool.and_eq_false_iff, decide_eq_false_iff_not, decide_eq_false_iff_not]
  omega
theorem el_form (t d : D) : andV (calD g_is_int (consV (getM 1) (pur []))) (Ly.bin geD (getM 1) (pur (.int 0))) [some (.fz t), some (.fz d)] = .ok (.bl (nnB d)) [some (.fz t), some (.fz d)] := by
  have hi := fun ρ : Ly.Env => callR1 (ρ := ρ) (p_is_int d)
  cases d with
  | int n => simp [hi, isI, nnB]
  | _ => simp [hi, isI, nnB]
theorem p_is_entry_form (d : D) : g_is_entry_form [.val d] = some (.ok (.fz (.bl (formB d))), [.val d]) := by
  obtain ⟨ρ', h⟩ : ∃ ρ', m_is_entry_form [some (.fz d), none] = .ok (.rt (.fz (.bl (formB d)))) ρ' := by
    unfold m_is_entry_form
    have hr := fun ρ : Ly.Env => callR3 (ρ := ρ) (p_is_row d 2 2)
    cases d with
    | non => simp [formB]
    | tup xs =>
      by_cases h2 : xs.length = 2
      · have hb := rowB_2 h2
        match xs, h2 with
        | [a, b], _ =>
          have hl := lc_map (v := 1) (ds := [a, b]) (el := andV (calD g_is_int (consV (getM 1) (pur []))) (Ly.bin geD (getM 1) (pur (.int 0)))) (mi := itemsT (getM 0)) (ρ := [some (.fz (.tup [a, b])), none]) (ρ1 := [some (.fz (.tup [a, b])), none]) (fun d => .bl (nnB d)) (by simp) (by simp) (by simp) (Nat.le_trans (show 2 ≤ 4000000 by decide) szLine) (fun d hd => el_form _ d)
          have ha := allC_bls (l := [nnB a, nnB b])
          have hf : formB (.tup [a, b]) = ([nnB a, nnB b]).all id := by
            show (nnB a && nnB b) = (nnB a && (nnB b && true))
            rw [Bool.and_true]
          rw [hf]
          generalize ([nnB a, nnB b]).all id = R at *
          simp only [List.map_cons, List.map_nil] at hl ha
          simp [hr, hb, hl, ha]
      · have hb := rowB_n2 h2
        have hf := formB_len h2
        rw [hf]
        simp [hr, hb]
    | bl c => simp [hr, rowB, formB]
    | int c => simp [hr, rowB, formB]
    | str c => simp [hr, rowB, formB]
    | lst c => simp [hr, rowB, formB]
    | lck c => simp [hr, rowB, formB, Ly.isNon]
  exact sem_rt (ds := [d]) h
end Wk

set_option Elab.async false
set_option linter.all false
set_option maxRecDepth 100000
set_option maxHeartbeats 2000000
namespace Wk
open PySem L2 Ly
/-! ### _law_judged: the forms -/
noncomputable def bodyF : M Fl := (seqS (iteS (tst (Ly.bin isnO (getM 4) (pur .non))) (seqS (iteS (orT (notT (tst (isiM "tuple" (getM 4)))) (orT (tst (Ly.bin neO (calM lenC (consM (getM 4) (pur []))) (pur (.int 2)))) (orT (notT (tst (calD g_law_int (consV (ixM 4 (pur (.int 0))) (pur []))))) (notT (tst (calD g_law_int (consV (ixM 4 (pur (.int 1))) (pur [])))))))) (seqS (retM (pur (.bl false))) (pur .nx)) (pur .nx)) (seqS (iteS (orT (tst (Ly.bin ltD (ixM 4 (pur (.int 0))) (pur (.int 0)))) (tst (Ly.bin ltD (ixM 4 (pur (.int 1))) (pur (.int 0))))) (seqS (retM (pur (.bl false))) (pur .nx)) (pur .nx)) (pur .nx))) (pur .nx)) (pur .nx))
theorem form_step (a b c T d : D) (x4 x5 x6 x7 : Option D) : bndR (putM 4 d [some (.fz a), some (.fz b), some (.fz c), some (.fz T), slo x4, slo x5, slo x6, slo x7]) (fun _ => bodyF) = .ok (if (!formB d) = true then .rt (.fz (.bl false)) else .nx) [some (.fz a), some (.fz b), some (.fz c), some (.fz T), some (.fz d), slo x5, slo x6, slo x7] := by
  have hp : putM 4 d [some (.fz a), some (.fz b), some (.fz c), some (.fz T), slo x4, slo x5, slo x6, slo x7] = .ok () [some (.fz a), some (.fz b), some (.fz c), some (.fz T), some (.fz d), slo x5, slo x6, slo x7] := by simp
  rw [hp, ev_ok]
  generalize slo x5 = s5
  generalize slo x6 = s6
  generalize slo x7 = s7
  unfold bodyF
  cases d with
  | non => simp [formB]
  | tup xs =>
    by_cases h2 : xs.length = 2
    · match xs, h2 with
      | [p, q], _ =>
        have hf : formB (.tup [p, q]) = (nnB p && nnB q) := rfl
        rw [hf]
        have h1 := fun ρ : Ly.Env => callR1 (ρ := ρ) (p_law_int p)
        have h3 := fun ρ : Ly.Env => callR1 (ρ := ρ) (p_law_int q)
        have nI : ∀ z : D, isI z = false → nnB z = false := fun z h => by cases z <;> first | rfl | cases h
        cases hip : isI p with
        | false =>
          rw [hip] at h1
          rw [nI p hip]
          simp [isi_tuple, h1]
        | true =>
          rw [hip] at h1
          cases hiq : isI q with
          | false =>
            rw [hiq] at h3
            rw [nI q hiq, Bool.and_false]
            simp [isi_tuple, h1, h3]
          | true =>
            rw [hiq] at h3
            obtain ⟨m, rfl⟩ : ∃ m, p = .int m := by cases p <;> first | exact ⟨_, rfl⟩ | cases hip
            obtain ⟨k, rfl⟩ : ∃ k, q = .int k := by cases q <;> first | exact ⟨_, rfl⟩ | cases hiq
            by_cases hm : m < 0
            · have e : nnB (.int m) = false := decide_eq_false (by omega)
              rw [e]
              simp [isi_tuple, h1, h3, hm]
            · have e : nnB (.int m) = true := decide_eq_true (by omega)
              rw [e]
              by_cases hk : k < 0
              · have e : nnB (.int k) = false := decide_eq_false (by omega)
                rw [e]
                simp [isi_tuple, h1, h3, hm, hk]
              · have e : nnB (.int k) = true := decide_eq_true (by omega)
                rw [e]
                simp [isi_tuple, h1, h3, hm, hk]
    · have hf := formB_len h2
      have h2' : ¬ ((xs.length : Nat) : Int) = 2 := by omega
      rw [hf]
      simp [isi_tuple, h2']
  | bl c => simp [isi_tuple, formB]
  | int c => simp [isi_tuple, formB]
  | str c => simp [isi_tuple, formB]
  | lst c => simp [isi_tuple, formB]
  | lck c =>
    have : Ly.isNon (.lck c) = false := rfl
    simp [isi_tuple, formB, this]
theorem form_loop (a b c T : D) (ds : List D) (x4 x5 x6 x7 : Option D) : ∃ x4', forL (putM 4) bodyF ds [some (.fz a), some (.fz b), some (.fz c), some (.fz T), slo x4, slo x5, slo x6, slo x7] = .ok (if ds.all formB = true then .nx else .rt (.fz (.bl false))) [some (.fz a), some (.fz b), some (.fz c), some (.fz T), slo x4', slo x5, slo x6, slo x7] := by
  obtain ⟨ρ', ⟨y4, rfl⟩, h⟩ := for_inv (ds := ds) (g := putM 4) (b := bodyF) (fun ρ => ∃ y4, ρ = [some (.fz a), some (.fz b), some (.fz c), some (.fz T), slo y4, slo x5, slo x6, slo x7]) (fun d => !formB d) (.fz (.bl false)) (fun d hd ρ ⟨y4, e⟩ => by
    subst e
    exact ⟨_, ⟨some d, rfl⟩, form_step a b c T d y4 x5 x6 x7⟩) _ ⟨x4, rfl⟩
  refine ⟨y4, h.trans ?_⟩
  have e : (ds.any fun d => !formB d) = !ds.all formB := by
    clear h
    induction ds with
    | nil => rfl
    | cons d ds ih => rw [List.any_cons, List.all_cons, Bool.not_and, ih]
  rw [e]
  cases ds.all formB <;> rfl
end Wk

set_option Elab.async false
set_option linter.all false
set_option maxRecDepth 100000
set_option maxHeartbeats 2000000
namespace Wk
open PySem L2 Ly
/-! ### _law_judged: each place -/
def dec : D → Ent
  | .tup [.int a, .int b] => some (a.toNat, b.toNat)
  | _ => none
theorem dec_eD {d : D} (h : formB d = true) : eD (dec d) = d := by
  cases d with
  | non => rfl
  | tup xs =>
    by_cases h2 : xs.length = 2
    · match xs, h2 with
      | [p, q], _ =>
        have hf : (nnB p && nnB q) = true := h
        rw [Bool.and_eq_true] at hf
        cases p with
        | int a =>
          cases q with
          | int b =>
            have ha : 0 ≤ a := of_decide_eq_true hf.1
            have hb : 0 ≤ b := of_decide_eq_true hf.2
            show D.tup [.int (a.toNat : Nat), .int (b.toNat : Nat)] = _
            rw [Int.toNat_of_nonneg ha, Int.toNat_of_nonneg hb]
          | _ => cases hf.2
        | _ => cases hf.1
    · rw [formB_len h2] at h; cases h
  | _ => cases h
theorem dec_all {xs : List D} (h : xs.all formB = true) : (xs.map dec).map eD = xs := by
  induction xs with
  | nil => rfl
  | cons d xs ih =>
    rw [List.all_cons, Bool.and_eq_true] at h
    rw [List.map_cons, List.map_cons, dec_eD h.1, ih h.2]
def okPair : Option (Nat × List Nat) → Ent → Bool
  | none, none => true
  | some (c, l), some (a, b) => decide (a = c) && l.all fun k => decide (k < b)
  | _, _ => false
def okAt (G : Game) (sh : Nat → Ent) (v : Nat) : Bool := okPair (G.at_ sh v) (sh v)
noncomputable def bodyC : M Fl := (seqS (asgM (calD g_law_price_at (consV (getM 0) (consV (getM 1) (consV (getM 2) (consV (getM 3) (consV (getM 5) (pur []))))))) (putM 6)) (seqS (iteS (orT (tst (Ly.bin isO (getM 6) (pur .non))) (tst (Ly.bin isO (ixM 3 (getM 5)) (pur .non)))) (seqS (iteS (orT (tst (Ly.bin isnO (getM 6) (pur .non))) (tst (Ly.bin isnO (ixM 3 (getM 5)) (pur .non)))) (seqS (retM (pur (.bl false))) (pur .nx)) (pur .nx)) (pur .nx)) (seqS (iteS (orT (tst (Ly.bin neO (Ly.bin ixD (ixM 3 (getM 5)) (pur (.int 0))) (ixM 6 (pur (.int 0))))) (notT (tst (calM allC (consM (frzM (lcO [7] (itemsL (ixM 6 (pur (.int 1)))) (putM 7) (pur true) (Ly.bin ltD (getM 7) (Ly.bin ixD (ixM 3 (getM 5)) (pur (.int 1)))))) (pur [])))))) (seqS (retM (pur (.bl false))) (pur .nx)) (pur .nx)) (pur .nx))) (pur .nx)))
theorem at_len {n pl pr : Nat} {sh : Nat → Ent} {wh : Wh} (hw : WhOk n wh) {c : Nat} {l : List Nat} (h : priceAt pl pr sh wh = some (c, l)) : l.length ≤ 4000000 := by
  cases wh with
  | ex e => cases h; decide
  | cl w es =>
    simp only [priceAt] at h
    split at h
    · cases h; simp
    · cases h
  | mv who ws =>
    have h8 := hw.2.2.1
    simp only [priceAt] at h
    split at h
    · split at h
      · cases h
      · cases h; simp
    · split at h
      · cases h
      · cases h
        rw [List.length_map]
        exact Nat.le_trans (List.length_filterMap_le _ _) (by omega)
section
variable {G : Game}
theorem check_step (hG : G.Ok) (sh : List Ent) (hs : sh.length = G.n) (v : Nat) (hv : v < G.n) (x4 x5 x6 x7 : Option D) :
    ∃ x6', bndR (putM 5 (.int (v : Nat)) [some (.fz (.lst (G.pls.map plD))), some (.fz (.int G.pl)), some (.fz (.tup (iD G.prs))), some (.fz (.tup (sh.map eD))), slo x4, slo x5, slo x6, slo x7]) (fun _ => bodyC) = .ok (if (!okAt G (fun w => sh.getD w none) v) = true then .rt (.fz (.bl false)) else .nx) [some (.fz (.lst (G.pls.map plD))), some (.fz (.int G.pl)), some (.fz (.tup (iD G.prs))), some (.fz (.tup (sh.map eD))), slo x4, some (.fz (.int (v : Nat))), slo x6', slo x7] := by
  obtain ⟨x, p, hx, hp⟩ := hG.get hv
  have hS : ∀ w : Nat, w < G.n → ixD (.tup (sh.map eD)) (.int (w : Nat)) = some (eD (sh.getD w none)) := fun w hw => getD_ixT (by rw [hs]; exact hw)
  have h := p_price_at (pls := G.pls) (pl := G.pl) (prs := G.prs) (sh := fun w => sh.getD w none) (S := .tup (sh.map eD)) (n := G.n) hS hx hp (hG.wh v _ hx)
  have hat : G.at_ (fun w => sh.getD w none) v = priceAt G.pl p (fun w => sh.getD w none) x.2 := by
    unfold Game.at_ Game.pr Game.wh
    rw [hx, List.getD_eq_getElem?_getD, hp]
    rfl
  rw [← hat] at h
  have hc := fun ρ : Ly.Env => callR5 (ρ := ρ) h
  have hSv := hS v hv
  have hlen : ∀ c l, G.at_ (fun w => sh.getD w none) v = some (c, l) → l.length ≤ 4000000 := fun c l e => by
    rw [hat] at e
    exact at_len (hG.wh v _ hx) e
  have eo : okAt G (fun w => sh.getD w none) v = okPair (G.at_ (fun w => sh.getD w none) v) (sh.getD v none) := rfl
  rw [eo]
  clear eo
  generalize G.at_ (fun w => sh.getD w none) v = A at *
  generalize sh.getD v none = B at *
  clear h hat hS
  rw [ixD_tup] at hSv
  generalize G.pls.map plD = PL at *
  generalize iD G.prs = PR at *
  generalize sh.map eD = SH at *
  generalize slo x4 = s4
  refine ⟨some (paD A), ?_⟩
  cases A with
  | none =>
    cases B with
    | none => simp [bodyC, hc, hSv, paD, eD, okPair]
    | some b => simp [bodyC, hc, hSv, paD, eD, okPair]
  | some cl =>
    obtain ⟨c, l⟩ := cl
    cases B with
    | none => simp [bodyC, hc, hSv, paD, eD, okPair]
    | some ab =>
      obtain ⟨a, b⟩ := ab
      have hl : l.length ≤ 4000000 := hlen c l rfl
      have lm : lcO [7] (itemsL (ixM 6 (pur (.int 1)))) (putM 7) (pur true) (Ly.bin ltD (getM 7) (Ly.bin ixD (ixM 3 (getM 5)) (pur (.int 1)))) [some (.fz (.lst PL)), some (.fz (.int G.pl)), some (.fz (.tup PR)), some (.fz (.tup SH)), s4, some (.fz (.int (v : Nat))), some (.fz (.tup [.int (c : Nat), .lst (iD l)])), slo x7] = .ok ((l.map fun k => decide (k < b)).map .bl) [some (.fz (.lst PL)), some (.fz (.int G.pl)), some (.fz (.tup PR)), some (.fz (.tup SH)), s4, some (.fz (.int (v : Nat))), some (.fz (.tup [.int (c : Nat), .lst (iD l)])), slo x7] := by
        have := lc_map (v := 7) (ds := iD l) (el := Ly.bin ltD (getM 7) (Ly.bin ixD (ixM 3 (getM 5)) (pur (.int 1)))) (mi := itemsL (ixM 6 (pur (.int 1)))) (ρ := [some (.fz (.lst PL)), some (.fz (.int G.pl)), some (.fz (.tup PR)), some (.fz (.tup SH)), s4, some (.fz (.int (v : Nat))), some (.fz (.tup [.int (c : Nat), .lst (iD l)])), slo x7]) (ρ1 := [some (.fz (.lst PL)), some (.fz (.int G.pl)), some (.fz (.tup PR)), some (.fz (.tup SH)), s4, some (.fz (.int (v : Nat))), some (.fz (.tup [.int (c : Nat), .lst (iD l)])), slo x7]) (fun d => match d with
          | .int z => .bl (decide (z < (b : Nat)))
          | _ => .non) (by simp) (by simp) (by simp) (by rw [iD_len]; exact Nat.le_trans hl szLine) (fun d hd => by
          obtain ⟨k, hk, rfl⟩ := List.mem_map.mp hd
          simp [hSv, eD])
        rw [this]
        congr 1
        unfold iD
        rw [List.map_map, List.map_map]
        refine List.map_congr_left fun k _ => ?_
        show D.bl (decide (((k : Nat) : Int) < (b : Nat))) = D.bl (decide (k < b))
        congr 1
        rw [Bool.eq_iff_iff, decide_eq_true_eq, decide_eq_true_eq]
        omega
      have ha := allC_bls (l := l.map fun k => decide (k < b))
      have hall : (l.map fun k => decide (k < b)).all id = l.all fun k => decide (k < b) := by rw [List.all_map]; rfl
      rw [hall] at ha
      have eO : okPair (some (c, l)) (some (a, b)) = (decide (a = c) && l.all fun k => decide (k < b)) := rfl
      rw [eO]
      generalize (l.map fun k => decide (k < b)).map D.bl = Q at *
      generalize (l.all fun k => decide (k < b)) = R at *
      by_cases hac : a = c
      · have hac' : ((a : Nat) : Int) = (c : Nat) := by omega
        rw [decide_eq_true hac, Bool.true_and]
        cases R with
        | true => simp [bodyC, hc, hSv, paD, eD, hac', lm, ha]
        | false => simp [bodyC, hc, hSv, paD, eD, hac', lm, ha]
      · have hac' : ¬ ((a : Nat) : Int) = (c : Nat) := by omega
        rw [decide_eq_false hac, Bool.false_and]
        simp [bodyC, hc, hSv, paD, eD, hac']
end
end Wk

set_option Elab.async false
set_option linter.all false
set_option maxRecDepth 100000
set_option maxHeartbeats 2000000
namespace Wk
open PySem L2 Ly
def judgedB (G : Game) : D → Bool
  | .tup xs => decide (xs.length = G.n) && (xs.all formB && (List.range G.n).all (okAt G fun w => (xs.map dec).getD w none))
  | _ => false
section
variable {G : Game}
theorem check_loop (hG : G.Ok) (sh : List Ent) (hs : sh.length = G.n) (x4 x5 x6 x7 : Option D) :
    ∃ x5' x6', forL (putM 5) bodyC (rangeD 0 G.n) [some (.fz (.lst (G.pls.map plD))), some (.fz (.int G.pl)), some (.fz (.tup (iD G.prs))), some (.fz (.tup (sh.map eD))), slo x4, slo x5, slo x6, slo x7] = .ok (if (List.range G.n).all (okAt G fun w => sh.getD w none) = true then .nx else .rt (.fz (.bl false))) [some (.fz (.lst (G.pls.map plD))), some (.fz (.int G.pl)), some (.fz (.tup (iD G.prs))), some (.fz (.tup (sh.map eD))), slo x4, slo x5', slo x6', slo x7] := by
  obtain ⟨ρ', ⟨y5, y6, rfl⟩, h⟩ := for_inv (ds := rangeD 0 G.n) (g := putM 5) (b := bodyC) (fun ρ => ∃ y5 y6, ρ = [some (.fz (.lst (G.pls.map plD))), some (.fz (.int G.pl)), some (.fz (.tup (iD G.prs))), some (.fz (.tup (sh.map eD))), slo x4, slo y5, slo y6, slo x7]) (fun d => match d with
    | .int z => !okAt G (fun w => sh.getD w none) z.toNat
    | _ => false) (.fz (.bl false)) (fun d hd ρ ⟨y5, y6, e⟩ => by
    subst e
    rw [rangeD_0] at hd
    obtain ⟨v, hv, rfl⟩ := List.mem_map.mp hd
    obtain ⟨z6, h⟩ := check_step hG sh hs v (List.mem_range.mp hv) x4 y5 y6 x7
    refine ⟨_, ⟨some (.int (v : Nat)), z6, rfl⟩, ?_⟩
    simp only [Int.toNat_natCast]
    exact h) _ ⟨x5, x6, rfl⟩
  refine ⟨y5, y6, h.trans ?_⟩
  have e : ((rangeD 0 G.n).any fun d => match d with
    | .int z => !okAt G (fun w => sh.getD w none) z.toNat
    | _ => false) = !(List.range G.n).all (okAt G fun w => sh.getD w none) := by
    rw [rangeD_0]
    clear h
    induction List.range G.n with
    | nil => rfl
    | cons v l ih =>
      rw [List.map_cons, List.any_cons, List.all_cons, Bool.not_and, ih]
      simp only [Int.toNat_natCast]
  rw [e]
  cases (List.range G.n).all (okAt G fun w => sh.getD w none) <;> rfl
theorem p_judged (hG : G.Ok) (T : D) : g_law_judged [.val (.lst (G.pls.map plD)), .val (.int G.pl), .val (.tup (iD G.prs)), .val T] = some (.ok (.fz (.bl (judgedB G T))), [.val (.lst (G.pls.map plD)), .val (.int G.pl), .val (.tup (iD G.prs)), .val T]) := by
  have hfew : G.n ≤ 4000 := hG.few
  have okn : okR (G.n : Nat) = true := okR_of (by omega) (by omega)
  obtain ⟨ρ', h⟩ : ∃ ρ', m_law_judged [some (.fz (.lst (G.pls.map plD))), some (.fz (.int G.pl)), some (.fz (.tup (iD G.prs))), some (.fz T), none, none, none, none] = .ok (.rt (.fz (.bl (judgedB G T)))) ρ' := by
    have hpl : (G.pls.map plD).length = G.n := List.length_map ..
    cases T with
    | tup xs =>
      by_cases hn : xs.length = G.n
      · obtain ⟨y4, h1⟩ := form_loop (.lst (G.pls.map plD)) (.int G.pl) (.tup (iD G.prs)) (.tup xs) xs none none none none
        have hn' : ((xs.length : Nat) : Int) = (G.n : Nat) := by omega
        have eJ : judgedB G (.tup xs) = (xs.all formB && (List.range G.n).all (okAt G fun w => (xs.map dec).getD w none)) := by
          show (decide (xs.length = G.n) && _) = _
          rw [decide_eq_true hn, Bool.true_and]
        rw [eJ]
        cases hf : xs.all formB with
        | false =>
          rw [hf] at h1
          simp only [Bool.false_eq_true, if_false, slo_none] at h1
          unfold m_law_judged
          unfold bodyF at h1
          simp [isi_tuple, hpl, hn', h1]
        | true =>
          rw [hf] at h1
          have hx := dec_all hf
          obtain ⟨y5, y6, h2⟩ := check_loop hG (xs.map dec) (by rw [List.length_map]; exact hn) y4 none none none
          rw [hx] at h2
          rw [Bool.true_and]
          generalize (List.range G.n).all (okAt G fun w => (xs.map dec).getD w none) = R at *
          simp only [if_true, slo_none] at h1 h2
          unfold m_law_judged
          unfold bodyF at h1
          unfold bodyC at h2
          generalize G.pls.map plD = PL at *
          cases R with
          | true =>
            simp only [if_true] at h2
            simp [isi_tuple, hpl, hn', h1, okn, h2]
          | false =>
            simp only [Bool.false_eq_true, if_false] at h2
            simp [isi_tuple, hpl, hn', h1, okn, h2]
      · have hn' : ¬ ((xs.length : Nat) : Int) = (G.n : Nat) := by omega
        have eJ : judgedB G (.tup xs) = false := by
          show (decide (xs.length = G.n) && _) = _
          rw [decide_eq_false hn, Bool.false_and]
        rw [eJ]
        unfold m_law_judged
        simp [isi_tuple, hpl, hn']
    | _ =>
      unfold m_law_judged
      simp [isi_tuple, judgedB]
  exact sem_rt (ds := [.lst (G.pls.map plD), .int G.pl, .tup (iD G.prs), T]) h
end
end Wk

set_option Elab.async false
set_option linter.all false
set_option maxRecDepth 100000
set_option maxHeartbeats 2000000
namespace Wk
open PySem L2 Ly
/-! ### used_by, is_right_entry -/
def usedBy : Wh → List Nat
  | .mv _ ws => ws
  | .cl w es => [w, es.headD 0]
  | .ex _ => []
theorem p_used_by {n : Nat} {wh : Wh} (hw : WhOk n wh) : g_used_by [.val (whD wh)] = some (.ok (.fz (.tup (iD (usedBy wh)))), [.val (whD wh)]) := by
  refine sem_rt (ds := [whD wh]) (ρ' := [some (.fz (whD wh))]) ?_
  show m_used_by [some (.fz (whD wh))] = _
  unfold m_used_by
  cases wh with
  | mv who ws => simp [whD, usedBy]
  | cl w es =>
    obtain ⟨_, e, rfl, _⟩ := hw
    have e1 : iD [e] = [.int (e : Nat)] := rfl
    have e2 : iD (usedBy (.cl w [e])) = [.int (w : Nat), .int (e : Nat)] := rfl
    rw [e2]
    simp [whD, e1]
  | ex e =>
    have e2 : iD (usedBy (.ex e)) = [] := rfl
    rw [e2]
    simp [whD]
def knownOf (used : List Ent) : List (Nat × Nat) := used.filterMap id
/-- what is_right_entry says -/
def rightB (pl pr : Nat) (entry : Ent) (used : List Ent) : Wh → Bool
  | .mv who _ => if who = pl then match entry, ((knownOf used).map (·.1)).min? with
      | some (a, b), some low => decide (a = pr + low) && (knownOf used).any fun q => decide (q.1 = low) && decide (q.2 < b)
      | none, none => true
      | _, _ => false
    else match entry with
      | none => used.any Option.isNone
      | some (a, b) => !used.any Option.isNone && ((knownOf used).all (fun q => decide (q.2 < b)) && decide (a = pr + (((knownOf used).map (·.1)).max?).getD 0))
  | .cl _ _ => match entry with
      | none => used.any Option.isNone
      | some (a, b) => !used.any Option.isNone && ((knownOf used).all (fun q => decide (q.2 < b)) && decide (a = pr + ((knownOf used).map (·.1)).sum))
  | .ex _ => match entry with
      | none => used.any Option.isNone
      | some (a, b) => !used.any Option.isNone && ((knownOf used).all (fun q => decide (q.2 < b)) && decide (a = pr))
theorem known_len (used : List Ent) : ((knownOf used).length < used.length) ↔ used.any Option.isNone = true := by
  induction used with
  | nil => simp [knownOf]
  | cons e used ih =>
    cases e with
    | none =>
      have : (knownOf (none :: used)).length ≤ used.length := (List.length_filterMap_le id used : (used.filterMap id).length ≤ used.length)
      simp
      omega
    | some p =>
      have e1 : knownOf (some p :: used) = p :: knownOf used := rfl
      rw [e1, List.any_cons]
      simp only [List.length_cons, Option.isNone_some, Bool.false_or]
      rw [← ih]
      omega
theorem right_pair {pl pr n : Nat} {sh : Nat → Ent} {wh : Wh} (hw : WhOk n wh) (entry : Ent) : rightB pl pr entry ((usedBy wh).map sh) wh = okPair (priceAt pl pr sh wh) entry := by
  cases wh with
  | ex e =>
    cases entry with
    | none => rfl
    | some ab =>
      obtain ⟨a, b⟩ := ab
      show (!([] : List Ent).any Option.isNone && (([] : List (Nat × Nat)).all (fun q => decide (q.2 < b)) && decide (a = pr))) = (decide (a = pr) && ([] : List Nat).all fun k => decide (k < b))
      simp
  | cl w es =>
    obtain ⟨_, e, rfl, _⟩ := hw
    have e1 : (usedBy (.cl w [e])).map sh = [sh w, sh e] := rfl
    have e2 : priceAt pl pr sh (.cl w [e]) = match sh w, sh e with
        | some a, some b => some (pr + a.1 + b.1, [a.2, b.2])
        | _, _ => none := rfl
    rw [e1, e2]
    generalize sh w = A
    generalize sh e = B
    cases A with
    | none =>
      cases entry with
      | none => simp [rightB, okPair]
      | some ab => simp [rightB, okPair]
    | some p =>
      cases B with
      | none =>
        cases entry with
        | none => simp [rightB, okPair]
        | some ab => simp [rightB, okPair]
      | some q =>
        cases entry with
        | none => simp [rightB, okPair]
        | some ab =>
          obtain ⟨a, b⟩ := ab
          simp [rightB, okPair, knownOf, Nat.add_assoc, Bool.and_comm]
  | mv who ws =>
    have ek : knownOf (ws.map sh) = ws.filterMap sh := by
      unfold knownOf
      rw [List.filterMap_map]
      rfl
    have eu : (usedBy (.mv who ws)).map sh = ws.map sh := rfl
    rw [eu]
    by_cases hpl : who = pl
    · have e1 : priceAt pl pr sh (.mv who ws) = match ((ws.filterMap sh).map (·.1)).min? with
          | none => none
          | some least => some (pr + least, [((((ws.filterMap sh).filter fun x => decide (x.1 = least)).map (·.2)).min?).getD 0]) := if_pos hpl
      have e2 : rightB pl pr entry (ws.map sh) (.mv who ws) = match entry, ((knownOf (ws.map sh)).map (·.1)).min? with
          | some (a, b), some low => decide (a = pr + low) && (knownOf (ws.map sh)).any fun q => decide (q.1 = low) && decide (q.2 < b)
          | none, none => true
          | _, _ => false := if_pos hpl
      rw [e1, e2, ek]
      cases hm : ((ws.filterMap sh).map (·.1)).min? with
      | none => cases entry <;> rfl
      | some low =>
        cases entry with
        | none => rfl
        | some ab =>
          obtain ⟨a, b⟩ := ab
          show (decide (a = pr + low) && _) = (decide (a = pr + low) && _)
          congr 1
          obtain ⟨q0, hq0, hq1⟩ := List.mem_map.mp (List.min?_mem hm)
          generalize ws.filterMap sh = L at *
          have hne : ((L.filter fun x => decide (x.1 = low)).map (·.2)) ≠ [] := fun e => by
            have : q0 ∈ L.filter fun x => decide (x.1 = low) := List.mem_filter.mpr ⟨hq0, by simpa using hq1⟩
            rw [List.map_eq_nil_iff.mp e] at this
            cases this
          obtain ⟨m, hmm⟩ : ∃ m, ((L.filter fun x => decide (x.1 = low)).map (·.2)).min? = some m := by
            cases h : ((L.filter fun x => decide (x.1 = low)).map (·.2)).min? with
            | some m => exact ⟨m, rfl⟩
            | none => exact absurd (List.min?_eq_none_iff.mp h) hne
          rw [hmm]
          have hmin := List.min?_eq_some_iff.mp hmm
          rw [Bool.eq_iff_iff, List.any_eq_true]
          simp only [List.all_cons, List.all_nil, Bool.and_true, decide_eq_true_eq, Option.getD_some, Bool.and_eq_true]
          constructor
          · rintro ⟨q, hq, h1, h2⟩
            have : q.2 ∈ (L.filter fun x => decide (x.1 = low)).map (·.2) := List.mem_map.mpr ⟨q, List.mem_filter.mpr ⟨hq, by simpa using h1⟩, rfl⟩
            have := hmin.2 _ this
            omega
          · intro h
            obtain ⟨q, hq, e⟩ := List.mem_map.mp hmin.1
            obtain ⟨h1, h2⟩ := List.mem_filter.mp hq
            exact ⟨q, h1, by simpa using h2, by omega⟩
    · have e1 : priceAt pl pr sh (.mv who ws) = if (ws.map sh).any Option.isNone then none else some (pr + (((ws.filterMap sh).map (·.1)).max?).getD 0, (ws.filterMap sh).map (·.2)) := if_neg hpl
      have e2 : rightB pl pr entry (ws.map sh) (.mv who ws) = match entry with
          | none => (ws.map sh).any Option.isNone
          | some (a, b) => !(ws.map sh).any Option.isNone && ((knownOf (ws.map sh)).all (fun q => decide (q.2 < b)) && decide (a = pr + (((knownOf (ws.map sh)).map (·.1)).max?).getD 0)) := if_neg hpl
      rw [e1, e2, ek]
      cases (ws.map sh).any Option.isNone with
      | true => cases entry <;> simp [okPair]
      | false =>
        cases entry with
        | none => rfl
        | some ab =>
          obtain ⟨a, b⟩ := ab
          have e3 : ((ws.filterMap sh).map (·.2)).all (fun k => decide (k < b)) = (ws.filterMap sh).all fun q => decide (q.2 < b) := by rw [List.all_map]; rfl
          show (true && (_ && _)) = (_ && _)
          rw [e3, Bool.true_and, Bool.and_comm]
end Wk

set_option Elab.async false
set_option linter.all false
set_option maxRecDepth 100000
set_option maxHeartbeats 2000000
namespace Wk
open PySem L2 Ly
def E9 (wd : D) (pl pr : Nat) (en : D) (us : List D) (x5 x6 x7 : Option D) : Ly.Env := [some (.fz wd), some (.fz (.int pl)), some (.fz (.int pr)), some (.fz en), some (.fz (.lst us)), slo x5, slo x6, slo x7, none]
theorem flt_known : ∀ us : List Ent, (us.map eD).filterMap (fun d => if Ly.isNon d then none else some d) = (knownOf us).map pD
  | [] => rfl
  | none :: us => by
    rw [List.map_cons, List.filterMap_cons_none (by rfl), flt_known us]
    rfl
  | some p :: us => by
    rw [List.map_cons, List.filterMap_cons_some (b := pD p) (by rfl), flt_known us]
    rfl
section
variable {wd : D} {pl pr : Nat} {en : D} {x5 x6 x7 : Option D}
theorem k1 (us : List Ent) (hz : us.length ≤ 4000) : lcO [8] (itemsL (getM 4)) (putM 8) (tst (Ly.bin isnO (getM 8) (pur .non))) (getM 8) (E9 wd pl pr en (us.map eD) x5 x6 x7) = .ok ((knownOf us).map pD) (E9 wd pl pr en (us.map eD) x5 x6 x7) := by
  have := lc_flt (v := 8) (ds := us.map eD) (c := tst (Ly.bin isnO (getM 8) (pur .non))) (el := getM 8) (mi := itemsL (getM 4)) (ρ := E9 wd pl pr en (us.map eD) x5 x6 x7) (ρ1 := E9 wd pl pr en (us.map eD) x5 x6 x7) (fun d => if Ly.isNon d then none else some d) (by simp [E9]) (by simp [E9]) (by simp [E9]) (by rw [List.length_map]; exact Nat.le_trans (by omega) szLine) (fun d hd => by
    obtain ⟨e, he, rfl⟩ := List.mem_map.mp hd
    cases e with
    | none => simp [E9, eD]
    | some p => simp [E9, eD])
  rw [this, flt_known]
theorem k2 (b : Bool) (i : Bool) (l : List (Nat × Nat)) (hz : l.length ≤ 4000) (us : List D) (h : if i = true then x5 = some (.lst (l.map pD)) else us = l.map pD) : lcO [8] (itemsL (getM (if i = true then 5 else 4))) (putM 8) (pur true) (ixM 8 (pur (.int (if b = true then 1 else 0)))) (E9 wd pl pr en us x5 x6 x7) = .ok (iD (l.map fun p => if b = true then p.2 else p.1)) (E9 wd pl pr en us x5 x6 x7) := by
  have := lc_map (v := 8) (ds := l.map pD) (el := ixM 8 (pur (.int (if b = true then 1 else 0)))) (mi := itemsL (getM (if i = true then 5 else 4))) (ρ := E9 wd pl pr en us x5 x6 x7) (ρ1 := E9 wd pl pr en us x5 x6 x7) (fun d => (ixD d (.int (if b = true then 1 else 0))).getD .non) (by cases i <;> simp at h <;> simp [E9, h]) (by simp [E9]) (by simp [E9]) (by rw [List.length_map]; exact Nat.le_trans (by omega) szLine) (fun d hd => by
    obtain ⟨p, hp, rfl⟩ := List.mem_map.mp hd
    cases b <;> simp [E9, pD])
  rw [this]
  congr 1
  unfold iD
  rw [List.map_map, List.map_map]
  refine List.map_congr_left fun p hp => ?_
  cases b <;> rfl
theorem k3 (a b : Nat) (low : Nat) (l : List (Nat × Nat)) (hz : l.length ≤ 4000) (us : List D) : lcO [8] (itemsL (getM 5)) (putM 8) (pur true) (andV (Ly.bin eqO (ixM 8 (pur (.int 0))) (getM 6)) (Ly.bin ltD (ixM 8 (pur (.int 1))) (ixM 3 (pur (.int 1))))) (E9 wd pl pr (pD (a, b)) us (some (.lst (l.map pD))) (some (.int low)) x7) = .ok ((l.map fun q => decide (q.1 = low) && decide (q.2 < b)).map .bl) (E9 wd pl pr (pD (a, b)) us (some (.lst (l.map pD))) (some (.int low)) x7) := by
  have := lc_map (v := 8) (ds := l.map pD) (el := andV (Ly.bin eqO (ixM 8 (pur (.int 0))) (getM 6)) (Ly.bin ltD (ixM 8 (pur (.int 1))) (ixM 3 (pur (.int 1))))) (mi := itemsL (getM 5)) (ρ := E9 wd pl pr (pD (a, b)) us (some (.lst (l.map pD))) (some (.int low)) x7) (ρ1 := E9 wd pl pr (pD (a, b)) us (some (.lst (l.map pD))) (some (.int low)) x7) (fun d => match d with
    | .tup [.int x, .int y] => .bl (decide (x.toNat = low) && decide (y.toNat < b))
    | _ => .non) (by simp [E9]) (by simp [E9]) (by simp [E9]) (by rw [List.length_map]; exact Nat.le_trans (by omega) szLine) (fun d hd => by
    obtain ⟨p, hp, rfl⟩ := List.mem_map.mp hd
    by_cases h : p.1 = low
    · simp [E9, pD, h]
    · simp [E9, pD, h]
      omega)
  rw [this]
  congr 1
  rw [List.map_map, List.map_map]
  exact List.map_congr_left fun p hp => rfl
theorem k4 (a b : Nat) (l : List (Nat × Nat)) (hz : l.length ≤ 4000) : lcO [8] (itemsL (getM 4)) (putM 8) (pur true) (Ly.bin ltD (ixM 8 (pur (.int 1))) (ixM 3 (pur (.int 1)))) (E9 wd pl pr (pD (a, b)) (l.map pD) x5 x6 x7) = .ok ((l.map fun q => decide (q.2 < b)).map .bl) (E9 wd pl pr (pD (a, b)) (l.map pD) x5 x6 x7) := by
  have := lc_map (v := 8) (ds := l.map pD) (el := Ly.bin ltD (ixM 8 (pur (.int 1))) (ixM 3 (pur (.int 1)))) (mi := itemsL (getM 4)) (ρ := E9 wd pl pr (pD (a, b)) (l.map pD) x5 x6 x7) (ρ1 := E9 wd pl pr (pD (a, b)) (l.map pD) x5 x6 x7) (fun d => match d with
    | .tup [.int x, .int y] => .bl (decide (y.toNat < b))
    | _ => .non) (by simp [E9]) (by simp [E9]) (by simp [E9]) (by rw [List.length_map]; exact Nat.le_trans (by omega) szLine) (fun d hd => by
    obtain ⟨p, hp, rfl⟩ := List.mem_map.mp hd
    simp [E9, pD])
  rw [this]
  congr 1
  rw [List.map_map, List.map_map]
  exact List.map_congr_left fun p hp => rfl
end
end Wk

set_option Elab.async false
set_option linter.all false
set_option maxRecDepth 100000
set_option maxHeartbeats 2000000
namespace Wk
open PySem L2 Ly
theorem used_some {us : List Ent} (h : us.any Option.isNone = false) : us.map eD = (knownOf us).map pD := by
  have := told_some (ws := List.range us.length) (sh := fun w => us.getD w none)
  induction us with
  | nil => rfl
  | cons e us ih =>
    rw [List.any_cons, Bool.or_eq_false_iff] at h
    cases e with
    | none => cases h.1
    | some p =>
      have e1 : knownOf (some p :: us) = p :: knownOf us := rfl
      rw [e1, List.map_cons, List.map_cons, ih h.2 (told_some)]
      rfl
theorem sum_cast : ∀ l : List Nat, (l.map fun (k : Nat) => (k : Int)).sum = ((l.sum : Nat) : Int)
  | [] => rfl
  | a :: l => by
    rw [List.map_cons, List.sum_cons, List.sum_cons, sum_cast l]
    omega
theorem sumC_iD {l : List Nat} : sumC [.lst (iD l)] = some (.int (l.sum : Nat)) := by rw [iD_ints, sumC_ints, sum_cast]
theorem known_le (us : List Ent) : (knownOf us).length ≤ us.length := List.length_filterMap_le id us
section
variable {pl pr : Nat}
theorem p_is_right {n : Nat} {wh : Wh} (hw : WhOk n wh) (entry : Ent) (sh : Nat → Ent) :
    g_is_right_entry [.val (whD wh), .val (.int pl), .val (.int pr), .val (eD entry), .val (.lst (((usedBy wh).map sh).map eD))] = some (.ok (.fz (.bl (rightB pl pr entry ((usedBy wh).map sh) wh))), [.val (whD wh), .val (.int pl), .val (.int pr), .val (eD entry), .val (.lst (((usedBy wh).map sh).map eD))]) := by
  obtain ⟨ρ', h⟩ : ∃ ρ', m_is_right_entry [some (.fz (whD wh)), some (.fz (.int pl)), some (.fz (.int pr)), some (.fz (eD entry)), some (.fz (.lst (((usedBy wh).map sh).map eD))), none, none, none, none] = .ok (.rt (.fz (.bl (rightB pl pr entry ((usedBy wh).map sh) wh)))) ρ' := by
    have hul : (usedBy wh).length ≤ 8 := by
      cases wh with
      | mv who ws => exact hw.2.2.1
      | cl w es => show 2 ≤ 8; decide
      | ex e => show 0 ≤ 8; decide
    have hul : ((usedBy wh).map sh).length ≤ 8 := by rw [List.length_map]; exact hul
    have hne : ∀ who ws, wh = .mv who ws → ((usedBy wh).map sh) ≠ [] := fun who ws e => by
      subst e
      intro z
      exact hw.2.1 (List.map_eq_nil_iff.mp z)
    generalize (usedBy wh).map sh = us at *
    have hk8 := known_le us
    have l1 := k1 (wd := whD wh) (pl := pl) (pr := pr) (en := eD entry) (x5 := none) (x6 := none) (x7 := none) us (by omega)
    have en := eqO_nil (xs := (knownOf us).map pD) (fun x hx => by
      obtain ⟨p, _, rfl⟩ := List.mem_map.mp hx
      exact eD_ok (n := 62) (some p))
    have hlt := known_len us
    have hkl : ((knownOf us).map pD).length = (knownOf us).length := List.length_map ..
    have hul' : (us.map eD).length = us.length := List.length_map ..
    -- the AND part
    cases wh with
    | mv who ws =>
      have hne := hne who ws rfl
      by_cases hpl : who = pl
      · subst hpl
        have eR : rightB who pr entry us (.mv who ws) = match (generalizing := false) entry, ((knownOf us).map (·.1)).min? with
          | some (a, b), some low => decide (a = pr + low) && (knownOf us).any fun q => decide (q.1 = low) && decide (q.2 < b)
          | none, none => true
          | _, _ => false := if_pos rfl
        rw [eR]
        clear eR
        cases hK : knownOf us with
        | nil =>
          rw [hK] at l1 en
          simp only [List.map_nil, List.isEmpty_nil] at l1 en
          simp only [E9, slo_none, whD] at l1
          generalize us.map eD = U0 at *
          unfold m_is_right_entry
          cases entry with
          | none =>
            simp only [eD] at l1
            simp [whD, l1, en, eD]
          | some ab =>
            obtain ⟨a, b⟩ := ab
            simp only [eD] at l1
            simp [whD, l1, en, eD]
        | cons q L =>
          rw [hK] at l1 en hk8
          have hE : ((q :: L).map pD).isEmpty = false := rfl
          rw [hE] at en
          obtain ⟨low, hm⟩ : ∃ low, ((q :: L).map (·.1)).min? = some low := ⟨_, rfl⟩
          rw [hm]
          cases entry with
          | none =>
            simp only [E9, slo_none, whD] at l1
            generalize us.map eD = U0 at *
            generalize (q :: L).map pD = K0 at *
            unfold m_is_right_entry
            simp only [eD] at l1
            simp [whD, l1, en, eD]
          | some ab =>
            obtain ⟨a, b⟩ := ab
            simp only
            have l5 := k2 (wd := whD (.mv who ws)) (pl := who) (pr := pr) (en := pD (a, b)) (x5 := some (.lst ((q :: L).map pD))) (x6 := none) (x7 := none) false true (q :: L) (by omega) (us.map eD) rfl
            simp only [Bool.false_eq_true, if_false, if_true] at l5
            have l6 := k3 (wd := whD (.mv who ws)) (pl := who) (pr := pr) (x7 := none) a b low (q :: L) (by omega) (us.map eD)
            have emn := minC_iD (l := (q :: L).map fun p => p.1)
            rw [hm] at emn
            have ha := anyC_bls (l := (q :: L).map fun q => decide (q.1 = low) && decide (q.2 < b))
            have hany : ((q :: L).map fun q => decide (q.1 = low) && decide (q.2 < b)).any id = (q :: L).any fun q => decide (q.1 = low) && decide (q.2 < b) := by rw [List.any_map]; rfl
            rw [hany] at ha
            have eE : eD (some (a, b)) = pD (a, b) := rfl
            rw [eE] at l1 ⊢
            generalize iD ((q :: L).map fun p => p.1) = CC at *
            generalize ((q :: L).map fun q => decide (q.1 = low) && decide (q.2 < b)).map D.bl = B0 at *
            generalize ((q :: L).any fun q => decide (q.1 = low) && decide (q.2 < b)) = R at *
            generalize (q :: L).map pD = K0 at *
            generalize us.map eD = U0 at *
            simp only [E9, slo_none, slo_some, whD, pD] at l1 l5 l6
            unfold m_is_right_entry
            by_cases hal : a = pr + low
            · have hal' : ((a : Nat) : Int) = (pr : Nat) + (low : Nat) := by omega
              rw [decide_eq_true hal, Bool.true_and]
              have hd : decide (((a : Nat) : Int) = (pr : Nat) + (low : Nat)) = true := decide_eq_true hal'
              clear hal'
              simp [whD, l1, en, l5, emn, l6, ha, hd, pD]
              try omega
            · have hal' : ¬ ((a : Nat) : Int) = (pr : Nat) + (low : Nat) := by omega
              rw [decide_eq_false hal, Bool.false_and]
              simp [whD, l1, en, l5, emn, l6, ha, hal', pD]
      · have hpl' : ¬ ((who : Nat) : Int) = (pl : Nat) := by omega
        cases hany : us.any Option.isNone with
        | true =>
          have hk : (((knownOf us).length : Nat) : Int) < ((us.length : Nat) : Int) := by have := hlt.mpr hany; omega
          simp only [E9, slo_none, whD] at l1
          generalize (knownOf us).map pD = K0 at *
          generalize us.map eD = U0 at *
          unfold m_is_right_entry
          cases entry with
          | none =>
            have eR : rightB pl pr none us (.mv who ws) = true := (if_neg hpl).trans hany
            rw [eR]
            simp only [eD] at l1
            simp [whD, hpl', l1, hkl, hul', eD, hk]
          | some ab =>
            obtain ⟨a, b⟩ := ab
            have eR : rightB pl pr (some (a, b)) us (.mv who ws) = false := (if_neg hpl).trans (by
              show (!us.any Option.isNone && _) = false
              rw [hany]
              rfl)
            rw [eR]
            simp only [eD] at l1
            simp [whD, hpl', l1, hkl, hul', eD, hk]
        | false =>
          have hk : ¬ (((knownOf us).length : Nat) : Int) < ((us.length : Nat) : Int) := fun z => by
            have : (knownOf us).length < us.length := by omega
            rw [hlt.mp this] at hany
            cases hany
          have eU := used_some hany
          cases entry with
          | none =>
            have eR : rightB pl pr none us (.mv who ws) = false := (if_neg hpl).trans hany
            rw [eR]
            simp only [E9, slo_none, whD] at l1
            generalize (knownOf us).map pD = K0 at *
            generalize us.map eD = U0 at *
            unfold m_is_right_entry
            simp only [eD] at l1
            simp [whD, hpl', l1, hkl, hul', eD, hk]
          | some ab =>
            obtain ⟨a, b⟩ := ab
            have eR : rightB pl pr (some (a, b)) us (.mv who ws) = ((knownOf us).all (fun q => decide (q.2 < b)) && decide (a = pr + (((knownOf us).map (·.1)).max?).getD 0)) := (if_neg hpl).trans (by
              show (!us.any Option.isNone && _) = _
              rw [hany]
              rfl)
            rw [eR]
            rw [eU] at l1 hul' ⊢
            have l4 := k4 (wd := whD (.mv who ws)) (pl := pl) (pr := pr) (x5 := some (.lst ((knownOf us).map pD))) (x6 := none) (x7 := none) a b (knownOf us) (by omega)
            have ha := allC_bls (l := (knownOf us).map fun q => decide (q.2 < b))
            have hall : ((knownOf us).map fun q => decide (q.2 < b)).all id = (knownOf us).all fun q => decide (q.2 < b) := by rw [List.all_map]; rfl
            rw [hall] at ha
            have l5 := k2 (wd := whD (.mv who ws)) (pl := pl) (pr := pr) (en := pD (a, b)) (x5 := some (.lst ((knownOf us).map pD))) (x6 := none) (x7 := none) false false (knownOf us) (by omega) ((knownOf us).map pD) rfl
            simp only [Bool.false_eq_true, if_false] at l5
            have esm := maxC_iD (l := (knownOf us).map fun p => p.1)
            obtain ⟨m, hm⟩ : ∃ m, ((knownOf us).map fun p => p.1).max? = some m := by
              cases h : ((knownOf us).map fun p => p.1).max? with
              | some m => exact ⟨m, rfl⟩
              | none =>
                rw [List.max?_eq_none_iff, List.map_eq_nil_iff] at h
                rw [h] at eU
                exact absurd (List.map_eq_nil_iff.mp eU) hne
            rw [hm] at esm ⊢
            generalize iD ((knownOf us).map fun p => p.1) = CC at *
            simp only [E9, slo_none, slo_some, whD] at l1 l4 l5
            generalize ((knownOf us).map fun q => decide (q.2 < b)).map D.bl = B0 at *
            generalize (knownOf us).all (fun q => decide (q.2 < b)) = R at *
            generalize (knownOf us).map pD = K0 at *
            have eE : eD (some (a, b)) = pD (a, b) := rfl
            rw [eE] at l1 ⊢
            simp only [pD] at l1 l4 l5
            unfold m_is_right_entry
            cases R with
            | true =>
              simp [whD, hpl', l1, hkl, hul', hk, l4, ha, l5, esm, pD]
              omega
            | false => simp [whD, hpl', l1, hkl, hul', hk, l4, ha, pD]
    | cl w es =>
      cases hany : us.any Option.isNone with
      | true =>
        have hk : (((knownOf us).length : Nat) : Int) < ((us.length : Nat) : Int) := by have := hlt.mpr hany; omega
        simp only [E9, slo_none, whD] at l1
        generalize (knownOf us).map pD = K0 at *
        generalize us.map eD = U0 at *
        unfold m_is_right_entry
        cases entry with
        | none =>
          have eR : rightB pl pr none us (.cl w es) = true := hany
          rw [eR]
          simp only [eD] at l1
          simp [whD, l1, hkl, hul', eD, hk]
        | some ab =>
          obtain ⟨a, b⟩ := ab
          have eR : rightB pl pr (some (a, b)) us (.cl w es) = false := by
            show (!us.any Option.isNone && _) = false
            rw [hany]
            rfl
          rw [eR]
          simp only [eD] at l1
          simp [whD, l1, hkl, hul', eD, hk]
      | false =>
        have hk : ¬ (((knownOf us).length : Nat) : Int) < ((us.length : Nat) : Int) := fun z => by
          have : (knownOf us).length < us.length := by omega
          rw [hlt.mp this] at hany
          cases hany
        have eU := used_some hany
        cases entry with
        | none =>
          have eR : rightB pl pr none us (.cl w es) = false := hany
          rw [eR]
          simp only [E9, slo_none, whD] at l1
          generalize (knownOf us).map pD = K0 at *
          generalize us.map eD = U0 at *
          unfold m_is_right_entry
          simp only [eD] at l1
          simp [whD, l1, hkl, hul', eD, hk]
        | some ab =>
          obtain ⟨a, b⟩ := ab
          have eR : rightB pl pr (some (a, b)) us (.cl w es) = ((knownOf us).all (fun q => decide (q.2 < b)) && decide (a = pr + ((knownOf us).map (·.1)).sum)) := by
            show (!us.any Option.isNone && _) = _
            rw [hany]
            rfl
          rw [eR]
          rw [eU] at l1 hul' ⊢
          have l4 := k4 (wd := whD (.cl w es)) (pl := pl) (pr := pr) (x5 := some (.lst ((knownOf us).map pD))) (x6 := none) (x7 := none) a b (knownOf us) (by omega)
          have ha := allC_bls (l := (knownOf us).map fun q => decide (q.2 < b))
          have hall : ((knownOf us).map fun q => decide (q.2 < b)).all id = (knownOf us).all fun q => decide (q.2 < b) := by rw [List.all_map]; rfl
          rw [hall] at ha
          have l5 := k2 (wd := whD (.cl w es)) (pl := pl) (pr := pr) (en := pD (a, b)) (x5 := some (.lst ((knownOf us).map pD))) (x6 := none) (x7 := none) false false (knownOf us) (by omega) ((knownOf us).map pD) rfl
          simp only [Bool.false_eq_true, if_false] at l5
          have esm := sumC_iD (l := (knownOf us).map fun p => p.1)
          generalize ((knownOf us).map fun p => p.1).sum = SM at *
          generalize iD ((knownOf us).map fun p => p.1) = CC at *
          simp only [E9, slo_none, slo_some, whD] at l1 l4 l5
          generalize ((knownOf us).map fun q => decide (q.2 < b)).map D.bl = B0 at *
          generalize (knownOf us).all (fun q => decide (q.2 < b)) = R at *
          generalize (knownOf us).map pD = K0 at *
          have eE : eD (some (a, b)) = pD (a, b) := rfl
          rw [eE] at l1 ⊢
          simp only [pD] at l1 l4 l5
          unfold m_is_right_entry
          cases R with
          | true =>
            simp [whD, l1, hkl, hul', hk, l4, ha, l5, esm, pD]
            omega
          | false => simp [whD, l1, hkl, hul', hk, l4, ha, pD]
    | ex e =>
      cases hany : us.any Option.isNone with
      | true =>
        have hk : (((knownOf us).length : Nat) : Int) < ((us.length : Nat) : Int) := by have := hlt.mpr hany; omega
        simp only [E9, slo_none, whD] at l1
        generalize (knownOf us).map pD = K0 at *
        generalize us.map eD = U0 at *
        unfold m_is_right_entry
        cases entry with
        | none =>
          have eR : rightB pl pr none us (.ex e) = true := hany
          rw [eR]
          simp only [eD] at l1
          simp [whD, l1, hkl, hul', eD, hk]
        | some ab =>
          obtain ⟨a, b⟩ := ab
          have eR : rightB pl pr (some (a, b)) us (.ex e) = false := by
            show (!us.any Option.isNone && _) = false
            rw [hany]
            rfl
          rw [eR]
          simp only [eD] at l1
          simp [whD, l1, hkl, hul', eD, hk]
      | false =>
        have hk : ¬ (((knownOf us).length : Nat) : Int) < ((us.length : Nat) : Int) := fun z => by
          have : (knownOf us).length < us.length := by omega
          rw [hlt.mp this] at hany
          cases hany
        have eU := used_some hany
        cases entry with
        | none =>
          have eR : rightB pl pr none us (.ex e) = false := hany
          rw [eR]
          simp only [E9, slo_none, whD] at l1
          generalize (knownOf us).map pD = K0 at *
          generalize us.map eD = U0 at *
          unfold m_is_right_entry
          simp only [eD] at l1
          simp [whD, l1, hkl, hul', eD, hk]
        | some ab =>
          obtain ⟨a, b⟩ := ab
          have eR : rightB pl pr (some (a, b)) us (.ex e) = ((knownOf us).all (fun q => decide (q.2 < b)) && decide (a = pr)) := by
            show (!us.any Option.isNone && _) = _
            rw [hany]
            rfl
          rw [eR]
          rw [eU] at l1 hul' ⊢
          have l4 := k4 (wd := whD (.ex e)) (pl := pl) (pr := pr) (x5 := some (.lst ((knownOf us).map pD))) (x6 := none) (x7 := none) a b (knownOf us) (by omega)
          have ha := allC_bls (l := (knownOf us).map fun q => decide (q.2 < b))
          have hall : ((knownOf us).map fun q => decide (q.2 < b)).all id = (knownOf us).all fun q => decide (q.2 < b) := by rw [List.all_map]; rfl
          rw [hall] at ha
          simp only [E9, slo_none, slo_some, whD] at l1 l4
          generalize ((knownOf us).map fun q => decide (q.2 < b)).map D.bl = B0 at *
          generalize (knownOf us).all (fun q => decide (q.2 < b)) = R at *
          generalize (knownOf us).map pD = K0 at *
          have eE : eD (some (a, b)) = pD (a, b) := rfl
          rw [eE] at l1 ⊢
          simp only [pD] at l1 l4
          unfold m_is_right_entry
          cases R with
          | true =>
            simp [whD, l1, hkl, hul', hk, l4, ha, pD]
            omega
          | false => simp [whD, l1, hkl, hul', hk, l4, ha, pD]
  exact sem_rt (ds := [whD wh, .int pl, .int pr, eD entry, .lst (((usedBy wh).map sh).map eD)]) h
end
end Wk

set_option Elab.async false
set_option linter.all false
set_option maxRecDepth 100000
set_option maxHeartbeats 2000000
namespace Wk
open PySem L2 Ly
/-! ### flat, exits_at -/
theorem p_exits_at (P : List En) (hP : P.length ≤ 60) : g_exits_at [.val (prD P)] = some (.ok (.fz (.lst (iD (P.map fun e => e.2.1)))), [.val (prD P)]) := by
  refine sem_rt (ds := [prD P]) (ρ' := [some (.fz (prD P)), none]) ?_
  show m_exits_at [some (.fz (prD P)), none] = _
  have := lc_map (v := 1) (ds := P.map enD) (el := ixM 1 (pur (.int 1))) (mi := itemsT (getM 0)) (ρ := [some (.fz (prD P)), none]) (ρ1 := [some (.fz (prD P)), none]) (fun d => (ixD d (.int 1)).getD .non) (by simp [prD]) (by simp) (by simp) (by rw [List.length_map]; exact Nat.le_trans (by omega) szLine) (fun d hd => by
    obtain ⟨e, he, rfl⟩ := List.mem_map.mp hd
    simp [enD])
  have e2 : (P.map enD).map (fun d => (ixD d (.int 1)).getD .non) = iD (P.map fun e => e.2.1) := by
    unfold iD
    rw [List.map_map, List.map_map]
    refine List.map_congr_left fun e _ => ?_
    show (atI [D.str e.1, D.int (e.2.1 : Nat), D.tup (e.2.2.map plD)] 1).getD .non = _
    rw [atI_1]
    rfl
  rw [e2] at this
  unfold m_exits_at
  simp [this]
end Wk
namespace Wk
open PySem L2 Ly
theorem atI_last {l : List Nat} (hne : l ≠ []) : atI (iD l) (-1) = some (.int (l.getLastD 0 : Nat)) := by
  have : iD l = iD l.dropLast ++ [.int (l.getLastD 0 : Nat)] := by
    have e : l = l.dropLast ++ [l.getLast hne] := (List.dropLast_concat_getLast hne).symm
    have e2 : l.getLastD 0 = l.getLast hne := by rw [List.getLastD_eq_getLast?, List.getLast?_eq_getLast hne]; rfl
    rw [e2]
    conv => lhs; rw [e]
    unfold iD
    rw [List.map_append]
    rfl
  rw [this, atI_m1]
theorem starts_loop (P0 : List En) : ∀ (P : List En) (acc : List Nat) (x : Option D), acc ≠ [] → acc.length + P.length ≤ 1000 → ∃ x', forL (putM 2) (seqS (appM 1 (Ly.bin addD (ixM 1 (pur (.int (-1)))) (calM lenC (consM (ixM 2 (pur (.int 2))) (pur []))))) (pur .nx)) (P.map enD) [some (.fz (prD P0)), some (.ow (iD acc)), slo x] =
    .ok .nx [some (.fz (prD P0)), some (.ow (iD ((P.map fun e => e.2.2.length).foldl (fun acc z => acc ++ [acc.getLastD 0 + z]) acc))), slo x']
  | [], acc, x, _, _ => ⟨x, rfl⟩
  | e :: P, acc, x, hne, hl => by
    obtain ⟨x', h⟩ := starts_loop P0 P (acc ++ [acc.getLastD 0 + e.2.2.length]) (some (enD e)) (by simp) (by simp at hl ⊢; omega)
    refine ⟨x', ?_⟩
    have em := atI_last hne
    have hsz : (iD acc).length < sizeLine := by have := szLine; rw [iD_len]; simp at hl; omega
    have e2 : iD (acc ++ [acc.getLastD 0 + e.2.2.length]) = iD acc ++ [.int ((acc.getLastD 0 : Nat) + (e.2.2.length : Nat) : Int)] := by unfold iD; rw [List.map_append]; rfl
    rw [e2] at h
    rw [List.map_cons, List.map_cons, List.foldl_cons]
    unfold forL
    generalize acc.getLastD 0 = la at *
    have hp : putM 2 (enD e) [some (.fz (prD P0)), some (.ow (iD acc)), slo x] = .ok () [some (.fz (prD P0)), some (.ow (iD acc)), some (.fz (enD e))] := by simp
    have hb : seqS (appM 1 (Ly.bin addD (ixM 1 (pur (.int (-1)))) (calM lenC (consM (ixM 2 (pur (.int 2))) (pur []))))) (pur .nx) [some (.fz (prD P0)), some (.ow (iD acc)), some (.fz (enD e))] = .ok .nx [some (.fz (prD P0)), some (.ow (iD acc ++ [.int ((la : Nat) + (e.2.2.length : Nat) : Int)])), some (.fz (enD e))] := by
      simp [em, hsz, setCK, enD]
    rw [ev_bnd, hp, ev_ok, ev_bnd, hb, ev_ok]
    exact h
theorem p_starts_of (P : List En) (hP : P.length ≤ 60) : g_starts_of [.val (prD P)] = some (.ok (.fr (iD (startsOf (P.map fun e => e.2.2.length)))), [.val (prD P)]) := by
  obtain ⟨x', h⟩ := starts_loop P P [0] none (by simp) (by simp; omega)
  have h : forL _ _ (P.map enD) [some (.fz (prD P)), some (.ow (iD [0])), none] = .ok .nx [some (.fz (prD P)), some (.ow (iD (startsOf (P.map fun e => e.2.2.length)))), slo x'] := h
  refine sem_rt (ds := [prD P]) (ρ' := [some (.fz (prD P)), none, slo x']) ?_
  show m_starts_of [some (.fz (prD P)), none, none] = _
  have e0 : iD [0] = [.int 0] := rfl
  rw [e0] at h
  have eP : prD P = .tup (P.map enD) := rfl
  rw [eP] at h ⊢
  unfold m_starts_of
  simp [h, retN]
end Wk

set_option Elab.async false
set_option linter.all false
set_option maxRecDepth 100000
set_option maxHeartbeats 2000000
namespace Wk
/-! ### the fixpoints: prices -/
def IsC (pl pr : Nat) (c : Nat → Option Nat) (x : Nat) : Wh → Prop
  | .ex _ => x = pr
  | .cl w es => ∃ a b, c w = some a ∧ c (es.headD 0) = some b ∧ x = pr + a + b
  | .mv who ws => if who = pl then ∃ w ∈ ws, ∃ a, c w = some a ∧ x = pr + a ∧ ∀ w' ∈ ws, ∀ a', c w' = some a' → a ≤ a'
    else (∀ w ∈ ws, ∃ a, c w = some a ∧ pr + a ≤ x) ∧ ∃ w ∈ ws, ∃ a, c w = some a ∧ x = pr + a
def IsR (pl : Nat) (tg : Nat → Bool) (r : Nat → Option Nat) (k : Nat) : Wh → Prop
  | .ex _ => k = 0
  | .cl w es => ∃ a b, r w = some a ∧ r (es.headD 0) = some b ∧ k = 1 + max a b
  | .mv who ws => if who = pl then ∃ w ∈ ws, tg w = true ∧ ∃ a, r w = some a ∧ k = 1 + a ∧ ∀ w' ∈ ws, tg w' = true → ∀ a', r w' = some a' → a ≤ a'
    else (∀ w ∈ ws, ∃ a, r w = some a ∧ 1 + a ≤ k) ∧ ∃ w ∈ ws, ∃ a, r w = some a ∧ k = 1 + a
theorem mem_fst {sh : Nat → Ent} {ws : List Nat} {a : Nat} : a ∈ (ws.filterMap sh).map (·.1) ↔ ∃ w ∈ ws, (sh w).map (·.1) = some a := by
  simp only [List.mem_map, List.mem_filterMap]
  constructor
  · rintro ⟨p, ⟨w, hw, e⟩, rfl⟩
    exact ⟨w, hw, by rw [e]; rfl⟩
  · rintro ⟨w, hw, e⟩
    cases h : sh w with
    | none => rw [h] at e; cases e
    | some p => rw [h] at e; cases e; exact ⟨p, ⟨w, hw, h⟩, rfl⟩
theorem min_iff {l : List Nat} {a : Nat} : l.min? = some a ↔ a ∈ l ∧ ∀ b ∈ l, a ≤ b := List.min?_eq_some_iff
theorem max_iff {l : List Nat} {a : Nat} : l.max? = some a ↔ a ∈ l ∧ ∀ b ∈ l, b ≤ a := List.max?_eq_some_iff
theorem any_none {sh : Nat → Ent} {ws : List Nat} : (ws.map sh).any Option.isNone = false ↔ ∀ w ∈ ws, ∃ p, sh w = some p := by
  rw [List.any_eq_false]
  constructor
  · intro h w hw
    cases e : sh w with
    | none => exact absurd (by rw [e]; rfl) (h (sh w) (List.mem_map_of_mem hw))
    | some p => exact ⟨p, rfl⟩
  · intro h x hx
    obtain ⟨w, hw, rfl⟩ := List.mem_map.mp hx
    obtain ⟨p, e⟩ := h w hw
    rw [e]; simp
theorem max_some {l : List Nat} (h : l ≠ []) : ∃ a, l.max? = some a := by
  cases e : l.max? with
  | none => exact absurd (List.max?_eq_none_iff.mp e) h
  | some a => exact ⟨a, rfl⟩
theorem fst_ne {sh : Nat → Ent} {ws : List Nat} (h : ∀ w ∈ ws, ∃ p, sh w = some p) (hne : ws ≠ []) : (ws.filterMap sh).map (·.1) ≠ [] := by
  cases ws with
  | nil => exact absurd rfl hne
  | cons w ws =>
    obtain ⟨p, e⟩ := h w (List.mem_cons_self ..)
    rw [List.filterMap_cons_some e]
    simp
theorem price_iff {n pl pr : Nat} {sh : Nat → Ent} {wh : Wh} (hw : WhOk n wh) (x : Nat) : (∃ l, priceAt pl pr sh wh = some (x, l)) ↔ IsC pl pr (fun w => (sh w).map (·.1)) x wh := by
  cases wh with
  | ex e =>
    show (∃ l, some (pr, []) = some (x, l)) ↔ x = pr
    constructor
    · rintro ⟨l, h⟩; cases h; rfl
    · rintro rfl; exact ⟨[], rfl⟩
  | cl w es =>
    simp only [IsC, priceAt]
    cases h1 : sh w with
    | none => simp
    | some p =>
      cases h2 : sh (es.headD 0) with
      | none => simp
      | some q => simp; omega
  | mv who ws =>
    simp only [IsC, priceAt]
    by_cases hp : who = pl
    · rw [if_pos hp, if_pos hp]
      cases e : ((ws.filterMap sh).map (·.1)).min? with
      | none =>
        have e0 := List.min?_eq_none_iff.mp e
        constructor
        · rintro ⟨l, h⟩; cases h
        · rintro ⟨w, hw, a, h, _⟩
          have : a ∈ (ws.filterMap sh).map (·.1) := mem_fst.mpr ⟨w, hw, h⟩
          rw [e0] at this; cases this
      | some m =>
        obtain ⟨h1, h2⟩ := min_iff.mp e
        obtain ⟨w, hw, hm⟩ := mem_fst.mp h1
        constructor
        · rintro ⟨l, h⟩
          cases h
          exact ⟨w, hw, m, hm, rfl, fun w' hw' a' ha' => h2 a' (mem_fst.mpr ⟨w', hw', ha'⟩)⟩
        · rintro ⟨w', hw', a, ha, rfl, hl⟩
          have e1 := h2 a (mem_fst.mpr ⟨w', hw', ha⟩)
          have e2 := hl w hw m hm
          have : a = m := by omega
          subst this
          exact ⟨_, rfl⟩
    · rw [if_neg hp, if_neg hp]
      cases e : (ws.map sh).any Option.isNone with
      | true =>
        constructor
        · rintro ⟨l, h⟩; cases h
        · rintro ⟨h, _⟩
          have : (ws.map sh).any Option.isNone = false := any_none.mpr fun w hw => by
            obtain ⟨a, ha, _⟩ := h w hw
            cases q : sh w with
            | none => rw [q] at ha; cases ha
            | some p => exact ⟨p, rfl⟩
          rw [this] at e; cases e
      | false =>
        have ha := any_none.mp e
        obtain ⟨m, hm⟩ := max_some (fst_ne ha hw.2.1)
        obtain ⟨h1, h2⟩ := max_iff.mp hm
        obtain ⟨w, hw', hmw⟩ := mem_fst.mp h1
        rw [hm]
        simp only [Option.getD_some, Bool.false_eq_true, if_false]
        constructor
        · rintro ⟨l, h⟩
          cases h
          refine ⟨fun w' hw2 => ?_, w, hw', m, hmw, rfl⟩
          obtain ⟨p, hp2⟩ := ha w' hw2
          exact ⟨p.1, by rw [hp2]; rfl, by have := h2 p.1 (mem_fst.mpr ⟨w', hw2, by rw [hp2]; rfl⟩); omega⟩
        · rintro ⟨h3, w', hw2, a, ha2, rfl⟩
          obtain ⟨b, hb, hb2⟩ := h3 w hw'
          rw [hmw] at hb
          cases hb
          have := h2 a (mem_fst.mpr ⟨w', hw2, ha2⟩)
          have : a = m := by omega
          subst this
          exact ⟨_, rfl⟩
theorem mem_nums {l : List Ent} {k : Nat} : k ∈ nums l ↔ ∃ e ∈ l, e.map (·.2) = some k := by
  unfold nums
  rw [List.mem_filterMap]
theorem mem_numsM {sh : Nat → Ent} {ws : List Nat} {k : Nat} : k ∈ nums (ws.map sh) ↔ ∃ w ∈ ws, (sh w).map (·.2) = some k := by
  rw [mem_nums]
  constructor
  · rintro ⟨e, he, h⟩
    obtain ⟨w, hw, rfl⟩ := List.mem_map.mp he
    exact ⟨w, hw, h⟩
  · rintro ⟨w, hw, h⟩
    exact ⟨sh w, List.mem_map_of_mem hw, h⟩
theorem snd_ne {sh : Nat → Ent} {ws : List Nat} (h : ∀ w ∈ ws, ∃ p, sh w = some p) (hne : ws ≠ []) : nums (ws.map sh) ≠ [] := by
  cases ws with
  | nil => exact absurd rfl hne
  | cons w ws =>
    obtain ⟨p, e⟩ := h w (List.mem_cons_self ..)
    intro h0
    have : p.2 ∈ nums ((w :: ws).map sh) := mem_numsM.mpr ⟨w, List.mem_cons_self .., by rw [e]; rfl⟩
    rw [h0] at this; cases this
/-- all known; the greatest number -/
theorem all_iff {sh : Nat → Ent} {ws : List Nat} (hne : ws ≠ []) (c x k : Nat) : (if (ws.map sh).any Option.isNone then none else some (c, 1 + ((nums (ws.map sh)).max?).getD 0)) = some (x, k) ↔
    x = c ∧ (∀ w ∈ ws, ∃ a, (sh w).map (·.2) = some a ∧ 1 + a ≤ k) ∧ ∃ w ∈ ws, ∃ a, (sh w).map (·.2) = some a ∧ k = 1 + a := by
  cases e : (ws.map sh).any Option.isNone with
  | true =>
    constructor
    · intro h; cases h
    · rintro ⟨_, h, _⟩
      have : (ws.map sh).any Option.isNone = false := any_none.mpr fun w hw => by
        obtain ⟨a, ha, _⟩ := h w hw
        cases q : sh w with
        | none => rw [q] at ha; cases ha
        | some p => exact ⟨p, rfl⟩
      rw [this] at e; cases e
  | false =>
    have ha := any_none.mp e
    obtain ⟨m, hm⟩ := max_some (snd_ne ha hne)
    obtain ⟨h1, h2⟩ := max_iff.mp hm
    obtain ⟨w, hw', hmw⟩ := mem_numsM.mp h1
    rw [hm]
    simp only [Option.getD_some, Bool.false_eq_true, if_false]
    constructor
    · intro h
      cases h
      refine ⟨rfl, fun w' hw2 => ?_, w, hw', m, hmw, rfl⟩
      obtain ⟨p, hp2⟩ := ha w' hw2
      exact ⟨p.2, by rw [hp2]; rfl, by have := h2 p.2 (mem_numsM.mpr ⟨w', hw2, by rw [hp2]; rfl⟩); omega⟩
    · rintro ⟨rfl, h3, w', hw2, a, ha2, rfl⟩
      obtain ⟨b, hb, hb2⟩ := h3 w hw'
      rw [hmw] at hb
      cases hb
      have := h2 a (mem_numsM.mpr ⟨w', hw2, ha2⟩)
      have : a = m := by omega
      subst this
      rfl
theorem rounded_iff {n pl pr c : Nat} {costs : Nat → Option Nat} {sh : Nat → Ent} {wh : Wh} (hw : WhOk n wh) (x k : Nat) : rounded pl pr c costs sh wh = some (x, k) ↔ x = c ∧ IsR pl (tight pr c costs) (fun w => (sh w).map (·.2)) k wh := by
  cases wh with
  | ex e =>
    show some (c, 0) = some (x, k) ↔ x = c ∧ k = 0
    constructor
    · intro h; cases h; exact ⟨rfl, rfl⟩
    · rintro ⟨rfl, rfl⟩; rfl
  | cl w es =>
    obtain ⟨_, e, rfl, _⟩ := hw
    simp only [rounded, IsR]
    rw [all_iff (by simp)]
    refine and_congr_right fun _ => ?_
    simp only [List.cons_append, List.nil_append, List.mem_cons, List.not_mem_nil, or_false, forall_eq_or_imp, forall_eq, exists_eq_or_imp, exists_eq_left, List.headD_cons]
    constructor
    · rintro ⟨⟨⟨a, h1, h2⟩, b, h3, h4⟩, h⟩
      refine ⟨b, a, h3, h1, ?_⟩
      rcases h with ⟨z, h5, h6⟩ | ⟨z, h5, h6⟩
      · rw [h1] at h5; cases h5; omega
      · rw [h3] at h5; cases h5; omega
    · rintro ⟨a, b, h1, h2, rfl⟩
      refine ⟨⟨⟨b, h2, by omega⟩, a, h1, by omega⟩, ?_⟩
      by_cases hab : a ≤ b
      · exact .inl ⟨b, h2, by omega⟩
      · exact .inr ⟨a, h1, by omega⟩
  | mv who ws =>
    simp only [rounded, IsR]
    by_cases hp : who = pl
    · rw [if_pos hp, if_pos hp]
      cases e : (nums ((ws.filter (tight pr c costs)).map sh)).min? with
      | none =>
        have e0 := List.min?_eq_none_iff.mp e
        constructor
        · intro h; cases h
        · rintro ⟨_, w, hw, ht, a, h, _⟩
          have : a ∈ nums ((ws.filter (tight pr c costs)).map sh) := mem_numsM.mpr ⟨w, List.mem_filter.mpr ⟨hw, ht⟩, h⟩
          rw [e0] at this; cases this
      | some m =>
        obtain ⟨h1, h2⟩ := min_iff.mp e
        obtain ⟨w, hw, hm⟩ := mem_numsM.mp h1
        have hw := List.mem_filter.mp hw
        constructor
        · intro h
          cases h
          exact ⟨rfl, w, hw.1, hw.2, m, hm, rfl, fun w' hw' ht' a' ha' => h2 a' (mem_numsM.mpr ⟨w', List.mem_filter.mpr ⟨hw', ht'⟩, ha'⟩)⟩
        · rintro ⟨rfl, w', hw', ht', a, ha, rfl, hl⟩
          have e1 := h2 a (mem_numsM.mpr ⟨w', List.mem_filter.mpr ⟨hw', ht'⟩, ha⟩)
          have e2 := hl w hw.1 hw.2 m hm
          have : a = m := by omega
          subst this
          rfl
    · rw [if_neg hp, if_neg hp]
      exact all_iff hw.2.1 c x k
end Wk

set_option Elab.async false
set_option linter.all false
set_option maxRecDepth 100000
set_option maxHeartbeats 2000000
namespace Wk
theorem exists_min {c : Nat → Option Nat} : ∀ {ws : List Nat}, (∃ w ∈ ws, ∃ a, c w = some a) → ∃ w ∈ ws, ∃ a, c w = some a ∧ ∀ w' ∈ ws, ∀ a', c w' = some a' → a ≤ a'
  | [], ⟨w, hw, _⟩ => by cases hw
  | v :: ws, h => by
    by_cases h2 : ∃ w ∈ ws, ∃ a, c w = some a
    · obtain ⟨w, hw, a, ha, hm⟩ := exists_min h2
      cases e : c v with
      | none =>
        refine ⟨w, List.mem_cons_of_mem _ hw, a, ha, fun w' hw' a' ha' => ?_⟩
        rcases List.mem_cons.mp hw' with rfl | hw'
        · rw [e] at ha'; cases ha'
        · exact hm w' hw' a' ha'
      | some b =>
        by_cases hab : a ≤ b
        · refine ⟨w, List.mem_cons_of_mem _ hw, a, ha, fun w' hw' a' ha' => ?_⟩
          rcases List.mem_cons.mp hw' with rfl | hw'
          · rw [e] at ha'; cases ha'; exact hab
          · exact hm w' hw' a' ha'
        · refine ⟨v, List.mem_cons_self .., b, e, fun w' hw' a' ha' => ?_⟩
          rcases List.mem_cons.mp hw' with rfl | hw'
          · rw [e] at ha'; cases ha'; exact Nat.le_refl _
          · have := hm w' hw' a' ha'; omega
    · obtain ⟨w, hw, a, ha⟩ := h
      rcases List.mem_cons.mp hw with rfl | hw
      · refine ⟨w, List.mem_cons_self .., a, ha, fun w' hw' a' ha' => ?_⟩
        rcases List.mem_cons.mp hw' with rfl | hw'
        · rw [ha] at ha'; cases ha'; exact Nat.le_refl _
        · exact absurd ⟨w', hw', a', ha'⟩ h2
      · exact absurd ⟨w, hw, a, ha⟩ h2
theorem exists_max {c : Nat → Option Nat} : ∀ {ws : List Nat}, ws ≠ [] → (∀ w ∈ ws, ∃ a, c w = some a) → ∃ w ∈ ws, ∃ a, c w = some a ∧ ∀ w' ∈ ws, ∀ a', c w' = some a' → a' ≤ a
  | [], h, _ => absurd rfl h
  | [v], _, h => by
    obtain ⟨a, ha⟩ := h v (List.mem_cons_self ..)
    refine ⟨v, List.mem_cons_self .., a, ha, fun w' hw' a' ha' => ?_⟩
    rw [List.mem_singleton.mp hw', ha] at ha'
    cases ha'; exact Nat.le_refl _
  | v :: u :: ws, _, h => by
    obtain ⟨w, hw, a, ha, hm⟩ := exists_max (ws := u :: ws) (by simp) fun w hw => h w (List.mem_cons_of_mem _ hw)
    obtain ⟨b, hb⟩ := h v (List.mem_cons_self ..)
    by_cases hab : b ≤ a
    · refine ⟨w, List.mem_cons_of_mem _ hw, a, ha, fun w' hw' a' ha' => ?_⟩
      rcases List.mem_cons.mp hw' with rfl | hw'
      · rw [hb] at ha'; cases ha'; exact hab
      · exact hm w' hw' a' ha'
    · refine ⟨v, List.mem_cons_self .., b, hb, fun w' hw' a' ha' => ?_⟩
      rcases List.mem_cons.mp hw' with rfl | hw'
      · rw [hb] at ha'; cases ha'; exact Nat.le_refl _
      · have := hm w' hw' a' ha'; omega
/-- what a what's places are -/
def Wh.uses : Wh → List Nat
  | .mv _ ws => ws
  | .cl w es => [w, es.headD 0]
  | .ex _ => []
theorem uses_lt {n : Nat} {wh : Wh} (hw : WhOk n wh) : ∀ w ∈ wh.uses, w < n := by
  cases wh with
  | ex e => intro w h; cases h
  | cl w es =>
    obtain ⟨h1, e, rfl, h2⟩ := hw
    intro u hu
    simp only [Wh.uses, List.mem_cons, List.not_mem_nil, or_false, List.headD_cons] at hu
    rcases hu with rfl | rfl <;> assumption
  | mv who ws => exact hw.2.2.2.2
/-- less or equal, None being the greatest -/
def LeC (c' c : Nat → Option Nat) (w : Nat) : Prop := ∀ a, c w = some a → ∃ a', c' w = some a' ∧ a' ≤ a
theorem IsC.uniq {pl pr : Nat} {c : Nat → Option Nat} {x y : Nat} {wh : Wh} (h1 : IsC pl pr c x wh) (h2 : IsC pl pr c y wh) : x = y := by
  cases wh with
  | ex e => exact h1.trans h2.symm
  | cl w es =>
    obtain ⟨a, b, ha, hb, rfl⟩ := h1
    obtain ⟨a', b', ha', hb', rfl⟩ := h2
    rw [ha] at ha'; rw [hb] at hb'; cases ha'; cases hb'; rfl
  | mv who ws =>
    simp only [IsC] at h1 h2
    split at h1
    · rename_i hp
      rw [if_pos hp] at h2
      obtain ⟨w, hw, a, ha, rfl, hm⟩ := h1
      obtain ⟨w', hw', a', ha', rfl, hm'⟩ := h2
      have := hm w' hw' a' ha'
      have := hm' w hw a ha
      omega
    · rename_i hp
      rw [if_neg hp] at h2
      obtain ⟨q, w, hw, a, ha, rfl⟩ := h1
      obtain ⟨q', w', hw', a', ha', rfl⟩ := h2
      obtain ⟨b, hb, hb2⟩ := q w' hw'
      obtain ⟨b', hb', hb2'⟩ := q' w hw
      rw [ha'] at hb; cases hb
      rw [ha] at hb'; cases hb'
      omega
theorem IsC.mono {n pl pr : Nat} {c c' : Nat → Option Nat} {x : Nat} {wh : Wh} (hw : WhOk n wh) (hc : ∀ w ∈ wh.uses, LeC c' c w) (h : IsC pl pr c x wh) : ∃ x', IsC pl pr c' x' wh ∧ x' ≤ x := by
  cases wh with
  | ex e => exact ⟨x, h, Nat.le_refl _⟩
  | cl w es =>
    obtain ⟨a, b, ha, hb, rfl⟩ := h
    obtain ⟨a', ha', la⟩ := hc w (by simp [Wh.uses]) a ha
    obtain ⟨b', hb', lb⟩ := hc (es.headD 0) (by simp [Wh.uses]) b hb
    exact ⟨_, ⟨a', b', ha', hb', rfl⟩, by omega⟩
  | mv who ws =>
    simp only [IsC] at h ⊢
    split at h
    · rename_i hp
      simp only [if_pos hp]
      obtain ⟨w, hw, a, ha, rfl, hm⟩ := h
      obtain ⟨a', ha', la⟩ := hc w hw a ha
      obtain ⟨u, hu, b, hb, hm2⟩ := exists_min ⟨w, hw, a', ha'⟩
      exact ⟨pr + b, ⟨u, hu, b, hb, rfl, hm2⟩, by have := hm2 w hw a' ha'; omega⟩
    · rename_i hp
      simp only [if_neg hp]
      obtain ⟨q, _⟩ := h
      obtain ⟨w, hw2, a, ha, hm⟩ := exists_max (c := c') hw.2.1 fun w hw => by
        obtain ⟨a, ha, _⟩ := q w hw
        obtain ⟨a', ha', _⟩ := hc w hw a ha
        exact ⟨a', ha'⟩
      refine ⟨pr + a, ⟨fun w' hw' => ?_, w, hw2, a, ha, rfl⟩, ?_⟩
      · obtain ⟨a1, ha1, _⟩ := q w' hw'
        obtain ⟨a', ha', _⟩ := hc w' hw' a1 ha1
        exact ⟨a', ha', by have := hm w' hw' a' ha'; omega⟩
      · obtain ⟨a1, ha1, l1⟩ := q w hw2
        obtain ⟨a', ha', l2⟩ := hc w hw2 a1 ha1
        rw [ha] at ha'; cases ha'; omega
/-- if the price falls, that of some used place falls, and is not above it -/
theorem IsC.falls {n pl pr : Nat} {c c' : Nat → Option Nat} {x' : Nat} {wh : Wh} (hw : WhOk n wh) (hc : ∀ w ∈ wh.uses, LeC c' c w) (h' : IsC pl pr c' x' wh) (h : ∀ x, IsC pl pr c x wh → x' < x) :
    ∃ w ∈ wh.uses, ∃ a', c' w = some a' ∧ a' ≤ x' ∧ ∀ a, c w = some a → a' < a := by
  cases wh with
  | ex e =>
    have := h x' h'
    omega
  | cl w es =>
    obtain ⟨a', b', ha', hb', rfl⟩ := h'
    by_cases h1 : ∀ a, c w = some a → a' < a
    · exact ⟨w, by simp [Wh.uses], a', ha', by omega, h1⟩
    · by_cases h2 : ∀ b, c (es.headD 0) = some b → b' < b
      · exact ⟨es.headD 0, by simp [Wh.uses], b', hb', by omega, h2⟩
      · exfalso
        simp only [Classical.not_forall] at h1 h2
        obtain ⟨a, ha, la⟩ := h1
        obtain ⟨b, hb, lb⟩ := h2
        have := h _ ⟨a, b, ha, hb, rfl⟩
        omega
  | mv who ws =>
    simp only [IsC] at h' h
    split at h'
    · rename_i hp
      simp only [if_pos hp] at h
      obtain ⟨w, hw, a', ha', rfl, hm⟩ := h'
      refine ⟨w, hw, a', ha', by omega, fun a ha => ?_⟩
      obtain ⟨u, hu, b, hb, hm2⟩ := exists_min ⟨w, hw, a, ha⟩
      have := h _ ⟨u, hu, b, hb, rfl, hm2⟩
      have := hm2 w hw a ha
      omega
    · rename_i hp
      simp only [if_neg hp] at h
      obtain ⟨q, _⟩ := h'
      by_cases h1 : ∀ w ∈ ws, ∃ a, c w = some a
      · obtain ⟨w, hw2, a, ha, hm⟩ := exists_max hw.2.1 h1
        have := h (pr + a) ⟨fun w' hw' => by
          obtain ⟨b, hb⟩ := h1 w' hw'
          exact ⟨b, hb, by have := hm w' hw' b hb; omega⟩, w, hw2, a, ha, rfl⟩
        obtain ⟨a', ha', l⟩ := q w hw2
        refine ⟨w, hw2, a', ha', by omega, fun b hb => ?_⟩
        rw [ha] at hb; cases hb
        omega
      · simp only [Classical.not_forall] at h1
        obtain ⟨w, hw2, h1⟩ := h1
        obtain ⟨a', ha', l⟩ := q w hw2
        exact ⟨w, hw2, a', ha', by omega, fun b hb => absurd ⟨b, hb⟩ h1⟩
/-- rounds of prices -/
structure Rnds (n pl : Nat) (pr : Nat → Nat) (wh : Nat → Wh) (c : Nat → Nat → Option Nat) : Prop where
  ok : ∀ v, v < n → WhOk n (wh v)
  z : ∀ v, c 0 v = none
  s : ∀ t v x, v < n → (c (t + 1) v = some x ↔ IsC pl (pr v) (c t) x (wh v))
section
variable {n pl : Nat} {pr : Nat → Nat} {wh : Nat → Wh} {c : Nat → Nat → Option Nat}
theorem Rnds.le1 (R : Rnds n pl pr wh c) : ∀ t v, v < n → LeC (c (t + 1)) (c t) v
  | 0, v, _ => fun a h => by rw [R.z] at h; cases h
  | t + 1, v, hv => fun a h => by
    obtain ⟨x', h1, h2⟩ := IsC.mono (R.ok v hv) (fun w hw => R.le1 t w (uses_lt (R.ok v hv) w hw)) ((R.s t v a hv).mp h)
    exact ⟨x', (R.s (t + 1) v x' hv).mpr h1, h2⟩
theorem Rnds.le (R : Rnds n pl pr wh c) {t : Nat} {v : Nat} (hv : v < n) : ∀ k, LeC (c (t + k)) (c t) v
  | 0 => fun a h => ⟨a, h, Nat.le_refl _⟩
  | k + 1 => fun a h => by
    obtain ⟨a1, h1, l1⟩ := R.le hv k a h
    obtain ⟨a2, h2, l2⟩ := R.le1 (t + k) v hv a1 h1
    exact ⟨a2, h2, by omega⟩
/-- a fall in a round has as many places behind it -/
theorem Rnds.chain (R : Rnds n pl pr wh c) : ∀ t v x, v < n → c (t + 1) v = some x → (∀ y, c t v = some y → x < y) → ∃ L : List Nat, L.length = t + 1 ∧ L.Nodup ∧ (∀ u ∈ L, u < n) ∧ ∀ u ∈ L, ∃ y, c (t + 1) u = some y ∧ y ≤ x
  | 0, v, x, hv, h, _ => ⟨[v], rfl, List.nodup_cons.mpr ⟨List.not_mem_nil, List.nodup_nil⟩, fun u hu => by rw [List.mem_singleton.mp hu]; exact hv, fun u hu => by rw [List.mem_singleton.mp hu]; exact ⟨x, h, Nat.le_refl _⟩⟩
  | t + 1, v, x, hv, h, hf => by
    obtain ⟨w, hw, a', ha', la, hlt⟩ := IsC.falls (R.ok v hv) (fun w hw => R.le1 t w (uses_lt (R.ok v hv) w hw)) ((R.s (t + 1) v x hv).mp h) (fun y hy => hf y ((R.s t v y hv).mpr hy))
    obtain ⟨L, h1, h2, h3, h4⟩ := R.chain t w a' (uses_lt (R.ok v hv) w hw) ha' hlt
    refine ⟨v :: L, by rw [List.length_cons, h1], List.nodup_cons.mpr ⟨fun hm => ?_, h2⟩, fun u hu => ?_, fun u hu => ?_⟩
    · obtain ⟨y, hy, ly⟩ := h4 v hm
      have := hf y hy
      omega
    · rcases List.mem_cons.mp hu with rfl | hu
      · exact hv
      · exact h3 u hu
    · rcases List.mem_cons.mp hu with rfl | hu
      · exact ⟨x, h, Nat.le_refl _⟩
      · obtain ⟨y, hy, ly⟩ := h4 u hu
        obtain ⟨z, hz, lz⟩ := R.le1 (t + 1) u (h3 u hu) y hy
        exact ⟨z, hz, by omega⟩
theorem nodup_le : ∀ {n : Nat} {L : List Nat}, L.Nodup → (∀ u ∈ L, u < n) → L.length ≤ n
  | 0, [], _, _ => Nat.le_refl _
  | 0, a :: L, _, hl => absurd (hl a (List.mem_cons_self ..)) (Nat.not_lt_zero _)
  | n + 1, L, h, hl => by
    have h1 := nodup_le (n := n) (h.erase n) fun u hu => by
      have := (List.Nodup.mem_erase_iff h).mp hu
      have := hl u this.2
      omega
    by_cases hm : n ∈ L
    · rw [List.length_erase_of_mem hm] at h1
      omega
    · rw [List.erase_of_not_mem hm] at h1
      omega
/-- after n rounds all stands -/
theorem Rnds.stands (R : Rnds n pl pr wh c) {t : Nat} (ht : n ≤ t) {v : Nat} (hv : v < n) : c (t + 1) v = c t v := by
  cases h : c (t + 1) v with
  | none =>
    cases h2 : c t v with
    | none => rfl
    | some a =>
      obtain ⟨a', h3, _⟩ := R.le1 t v hv a h2
      rw [h] at h3; cases h3
  | some x =>
    by_cases hf : ∀ y, c t v = some y → x < y
    · obtain ⟨L, h1, h2, h3, _⟩ := R.chain t v x hv h hf
      have := nodup_le h2 h3
      omega
    · simp only [Classical.not_forall] at hf
      obtain ⟨y, hy, hxy⟩ := hf
      obtain ⟨a', h3, l⟩ := R.le1 t v hv y hy
      rw [h] at h3; cases h3
      rw [hy]
      congr 1
      omega
end
end Wk

set_option Elab.async false
set_option linter.all false
set_option maxRecDepth 100000
set_option maxHeartbeats 2000000
namespace Wk
/-! ### the numbers of the rounds -/
structure Rnks (n pl : Nat) (wh : Nat → Wh) (tg : Nat → Nat → Bool) (P : Nat → Prop) (r : Nat → Nat → Option Nat) : Prop where
  ok : ∀ v, v < n → WhOk n (wh v)
  z : ∀ v, r 0 v = none
  s : ∀ t v k, v < n → (r (t + 1) v = some k ↔ P v ∧ IsR pl (tg v) (r t) k (wh v))
section
variable {n pl : Nat} {wh : Nat → Wh} {tg : Nat → Nat → Bool} {P : Nat → Prop} {r : Nat → Nat → Option Nat}
theorem min_tg {g : Nat → Bool} {c : Nat → Option Nat} {ws : List Nat} (h : ∃ w ∈ ws, g w = true ∧ ∃ a, c w = some a) : ∃ w ∈ ws, g w = true ∧ ∃ a, c w = some a ∧ ∀ w' ∈ ws, g w' = true → ∀ a', c w' = some a' → a ≤ a' := by
  obtain ⟨w, hw, hg, ha⟩ := h
  obtain ⟨u, hu, a, ha, hm⟩ := exists_min (ws := ws.filter g) (c := c) ⟨w, List.mem_filter.mpr ⟨hw, hg⟩, ha⟩
  have hu := List.mem_filter.mp hu
  exact ⟨u, hu.1, hu.2, a, ha, fun w' h1 h2 => hm w' (List.mem_filter.mpr ⟨h1, h2⟩)⟩
/-- a place with a number keeps it; a new one has the number of its round -/
theorem Rnks.two (R : Rnks n pl wh tg P r) : ∀ t, (∀ v k, v < n → r t v = some k → k < t ∧ r (t + 1) v = some k) ∧ (∀ v k, v < n → r t v = none → r (t + 1) v = some k → k = t ∧ ((wh v).uses = [] ∨ ∃ w ∈ (wh v).uses, (t = 0 ∨ r (t - 1) w = none ∧ ∃ a, r t w = some a)) ∧ (t ≠ 0 → (wh v).uses ≠ []))
  | 0 => by
    refine ⟨fun v k _ h => ?_, fun v k hv _ h => ?_⟩
    · rw [R.z] at h; cases h
    · have h := ((R.s 0 v k hv).mp h).2
      have ok := R.ok v hv
      cases e : wh v with
      | ex e' => rw [e] at h; exact ⟨h, .inl rfl, fun h => absurd rfl h⟩
      | cl w es =>
        rw [e] at h
        obtain ⟨a, b, ha, _⟩ := h
        rw [R.z] at ha; cases ha
      | mv who ws =>
        rw [e] at h
        simp only [IsR] at h
        split at h
        · obtain ⟨w, _, _, a, ha, _⟩ := h
          rw [R.z] at ha; cases ha
        · obtain ⟨_, w, _, a, ha, _⟩ := h
          rw [R.z] at ha; cases ha
  | t + 1 => by
    obtain ⟨i1, i2⟩ := R.two t
    have dich : ∀ w a, w < n → r (t + 1) w = some a → (r t w = some a ∧ a < t) ∨ (r t w = none ∧ a = t) := fun w a hw h => by
      cases e : r t w with
      | none => exact .inr ⟨rfl, (i2 w a hw e h).1⟩
      | some b =>
        obtain ⟨l, h2⟩ := i1 w b hw e
        rw [h] at h2; cases h2
        exact .inl ⟨rfl, l⟩
    refine ⟨fun v k hv h => ?_, fun v k hv h0 h => ?_⟩
    · obtain ⟨p, h⟩ := (R.s t v k hv).mp h
      have ok := R.ok v hv
      suffices k < t + 1 ∧ IsR pl (tg v) (r (t + 1)) k (wh v) from ⟨this.1, (R.s (t + 1) v k hv).mpr ⟨p, this.2⟩⟩
      cases e : wh v with
      | ex e' => rw [e] at h; exact ⟨by have : k = 0 := h; omega, h⟩
      | cl w es =>
        rw [e] at h ok
        have hlt := uses_lt ok
        obtain ⟨a, b, ha, hb, rfl⟩ := h
        obtain ⟨l1, h1⟩ := i1 w a (hlt w (by simp [Wh.uses])) ha
        obtain ⟨l2, h2⟩ := i1 _ b (hlt (es.headD 0) (by simp [Wh.uses])) hb
        exact ⟨by omega, a, b, h1, h2, rfl⟩
      | mv who ws =>
        rw [e] at h ok
        have hlt : ∀ w ∈ ws, w < n := uses_lt ok
        simp only [IsR] at h ⊢
        split at h
        · rename_i hp
          simp only [if_pos hp]
          obtain ⟨w, hw, hg, a, ha, rfl, hm⟩ := h
          obtain ⟨l1, h1⟩ := i1 w a (hlt w hw) ha
          refine ⟨by omega, w, hw, hg, a, h1, rfl, fun w' hw' hg' a' ha' => ?_⟩
          rcases dich w' a' (hlt w' hw') ha' with ⟨q1, q2⟩ | ⟨q1, q2⟩
          · exact hm w' hw' hg' a' q1
          · omega
        · rename_i hp
          simp only [if_neg hp]
          obtain ⟨q, w, hw, a, ha, rfl⟩ := h
          obtain ⟨l1, h1⟩ := i1 w a (hlt w hw) ha
          refine ⟨by omega, fun w' hw' => ?_, w, hw, a, h1, rfl⟩
          obtain ⟨b, hb, lb⟩ := q w' hw'
          exact ⟨b, (i1 w' b (hlt w' hw') hb).2, lb⟩
    · obtain ⟨p, h⟩ := (R.s (t + 1) v k hv).mp h
      have ok := R.ok v hv
      have h0' : ∀ k, ¬ IsR pl (tg v) (r t) k (wh v) := fun k hk => by
        have := (R.s t v k hv).mpr ⟨p, hk⟩
        rw [h0] at this; cases this
      cases e : wh v with
      | ex e' => rw [e] at h0'; exact absurd rfl (h0' 0)
      | cl w es =>
        rw [e] at h ok h0'
        have hlt := uses_lt ok
        obtain ⟨a, b, ha, hb, rfl⟩ := h
        have m1 : w ∈ (Wh.cl w es).uses := by simp [Wh.uses]
        have m2 : es.headD 0 ∈ (Wh.cl w es).uses := by simp [Wh.uses]
        rcases dich w a (hlt w m1) ha with ⟨q1, q2⟩ | ⟨q1, q2⟩
        · rcases dich _ b (hlt _ m2) hb with ⟨q3, q4⟩ | ⟨q3, q4⟩
          · exact absurd ⟨a, b, q1, q3, rfl⟩ (h0' _)
          · exact ⟨by omega, .inr ⟨_, m2, .inr ⟨q3, b, hb⟩⟩, fun _ => by simp [Wh.uses]⟩
        · rcases dich _ b (hlt _ m2) hb with ⟨q3, q4⟩ | ⟨q3, q4⟩
          · exact ⟨by omega, .inr ⟨_, m1, .inr ⟨q1, a, ha⟩⟩, fun _ => by simp [Wh.uses]⟩
          · exact ⟨by omega, .inr ⟨_, m1, .inr ⟨q1, a, ha⟩⟩, fun _ => by simp [Wh.uses]⟩
      | mv who ws =>
        rw [e] at h ok h0'
        have hlt : ∀ w ∈ ws, w < n := uses_lt ok
        have hne : t + 1 ≠ 0 → (Wh.mv who ws).uses ≠ [] := fun _ => ok.2.1
        simp only [IsR] at h h0'
        split at h
        · rename_i hp
          simp only [if_pos hp] at h0'
          obtain ⟨w, hw, hg, a, ha, rfl, hm⟩ := h
          rcases dich w a (hlt w hw) ha with ⟨q1, q2⟩ | ⟨q1, q2⟩
          · obtain ⟨u, hu, hgu, b, hb, hm2⟩ := min_tg ⟨w, hw, hg, a, q1⟩
            exact absurd ⟨u, hu, hgu, b, hb, rfl, hm2⟩ (h0' (1 + b))
          · exact ⟨by omega, .inr ⟨w, hw, .inr ⟨q1, a, ha⟩⟩, hne⟩
        · rename_i hp
          simp only [if_neg hp] at h0'
          obtain ⟨q, w, hw, a, ha, rfl⟩ := h
          by_cases hall : ∀ w ∈ ws, ∃ a, r t w = some a
          · obtain ⟨u, hu, b, hb, hm2⟩ := exists_max ok.2.1 hall
            exact absurd ⟨fun w' hw' => by
              obtain ⟨d, hd⟩ := hall w' hw'
              exact ⟨d, hd, by have := hm2 w' hw' d hd; omega⟩, u, hu, b, hb, rfl⟩ (h0' (1 + b))
          · simp only [Classical.not_forall] at hall
            obtain ⟨u, hu, hn⟩ := hall
            obtain ⟨b, hb, lb⟩ := q u hu
            rcases dich u b (hlt u hu) hb with ⟨q1, q2⟩ | ⟨q1, q2⟩
            · exact absurd ⟨b, q1⟩ hn
            · rcases dich w a (hlt w hw) ha with ⟨q3, q4⟩ | ⟨q3, q4⟩
              · exact ⟨by omega, .inr ⟨u, hu, .inr ⟨q1, b, hb⟩⟩, hne⟩
              · exact ⟨by omega, .inr ⟨u, hu, .inr ⟨q1, b, hb⟩⟩, hne⟩
theorem Rnks.chain (R : Rnks n pl wh tg P r) : ∀ t v k, v < n → r t v = none → r (t + 1) v = some k → ∃ L : List Nat, L.length = t + 1 ∧ L.Nodup ∧ (∀ u ∈ L, u < n) ∧ ∀ u ∈ L, ∃ y, r (t + 1) u = some y
  | 0, v, k, hv, _, h => ⟨[v], rfl, List.nodup_cons.mpr ⟨List.not_mem_nil, List.nodup_nil⟩, fun u hu => by rw [List.mem_singleton.mp hu]; exact hv, fun u hu => by rw [List.mem_singleton.mp hu]; exact ⟨k, h⟩⟩
  | t + 1, v, k, hv, h0, h => by
    obtain ⟨_, h1, h2⟩ := (R.two (t + 1)).2 v k hv h0 h
    have h2 := h2 (by omega)
    rcases h1 with h1 | ⟨w, hw, h1⟩
    · exact absurd h1 h2
    · rcases h1 with h1 | ⟨h1, a, ha⟩
      · omega
      · have hwn := uses_lt (R.ok v hv) w hw
        obtain ⟨L, e1, e2, e3, e4⟩ := R.chain t w a hwn h1 ha
        refine ⟨v :: L, by rw [List.length_cons, e1], List.nodup_cons.mpr ⟨fun hm => ?_, e2⟩, fun u hu => ?_, fun u hu => ?_⟩
        · obtain ⟨y, hy⟩ := e4 v hm
          rw [h0] at hy; cases hy
        · rcases List.mem_cons.mp hu with rfl | hu
          · exact hv
          · exact e3 u hu
        · rcases List.mem_cons.mp hu with rfl | hu
          · exact ⟨k, h⟩
          · obtain ⟨y, hy⟩ := e4 u hu
            exact ⟨y, ((R.two (t + 1)).1 u y (e3 u hu) hy).2⟩
theorem Rnks.stands (R : Rnks n pl wh tg P r) {t : Nat} (ht : n ≤ t) {v : Nat} (hv : v < n) : r (t + 1) v = r t v := by
  cases h2 : r t v with
  | some a => exact ((R.two t).1 v a hv h2).2
  | none =>
    cases h : r (t + 1) v with
    | none => rfl
    | some k =>
      obtain ⟨L, h1, h3, h4, _⟩ := R.chain t v k hv h2 h
      have := nodup_le h3 h4
      omega
end
section
variable {n pl : Nat} {pr : Nat → Nat} {wh : Nat → Wh} {c r : Nat → Nat → Option Nat}
/-- prices and numbers together -/
structure Both (n pl : Nat) (pr : Nat → Nat) (wh : Nat → Wh) (c r : Nat → Nat → Option Nat) : Prop where
  R : Rnds n pl pr wh c
  z : ∀ v, r 0 v = none
  s : ∀ t v k, v < n → (r (t + 1) v = some k ↔ ∃ x, c (n + 1) v = some x ∧ IsR pl (tight (pr v) x (c (n + 1))) (r t) k (wh v))
def tgOf (n : Nat) (pr : Nat → Nat) (c : Nat → Nat → Option Nat) (v : Nat) : Nat → Bool := tight (pr v) ((c (n + 1) v).getD 0) (c (n + 1))
theorem Both.rk (B : Both n pl pr wh c r) : Rnks n pl wh (tgOf n pr c) (fun v => ∃ x, c (n + 1) v = some x) r := ⟨B.R.ok, B.z, fun t v k hv => by
  rw [B.s t v k hv]
  unfold tgOf
  constructor
  · rintro ⟨x, h1, h2⟩
    rw [h1]
    exact ⟨⟨x, rfl⟩, h2⟩
  · rintro ⟨⟨x, h1⟩, h2⟩
    rw [h1] at h2
    exact ⟨x, h1, h2⟩⟩
theorem Both.fixC (B : Both n pl pr wh c r) {v x : Nat} (hv : v < n) : c (n + 1) v = some x ↔ IsC pl (pr v) (c (n + 1)) x (wh v) := by
  rw [← B.R.s (n + 1) v x hv, B.R.stands (t := n + 1) (by omega) hv]
theorem Both.fixR (B : Both n pl pr wh c r) {v k : Nat} (hv : v < n) : r (n + 1) v = some k ↔ ∃ x, c (n + 1) v = some x ∧ IsR pl (tight (pr v) x (c (n + 1))) (r (n + 1)) k (wh v) := by
  rw [← B.s (n + 1) v k hv, B.rk.stands (t := n + 1) (by omega) hv]
theorem Both.all (B : Both n pl pr wh c r) : ∀ x t v, t ≤ n + 1 → v < n → c (n + 1) v = some x → c t v = some x → ∃ k, r (n + 1) v = some k := by
  intro x
  induction x using Nat.strongRecOn with
  | _ x ihx =>
    intro t
    induction t with
    | zero => intro v _ _ _ h; rw [B.R.z] at h; cases h
    | succ t iht =>
      intro v ht hv hC hc
      have ok := B.R.ok v hv
      have hle : ∀ w, w < n → LeC (c (n + 1)) (c t) w := fun w hw => by
        have := B.R.le (t := t) hw (n + 1 - t)
        rwa [show t + (n + 1 - t) = n + 1 by omega] at this
      have hlt := uses_lt ok
      have h1 := (B.R.s t v x hv).mp hc
      have h2 := (B.fixC hv).mp hC
      suffices ∃ k, IsR pl (tight (pr v) x (c (n + 1))) (r (n + 1)) k (wh v) by
        obtain ⟨k, hk⟩ := this
        exact ⟨k, (B.fixR hv).mpr ⟨x, hC, hk⟩⟩
      -- a place with a price of at most x, told in round t if it is x
      have key : ∀ w a, w < n → c (n + 1) w = some a → a ≤ x → (a = x → c t w = some x) → ∃ k, r (n + 1) w = some k := fun w a hw ha hax h => by
        by_cases e : a = x
        · subst e
          exact iht w (by omega) hw ha (h rfl)
        · exact ihx a (by omega) (n + 1) w (Nat.le_refl _) hw ha ha
      cases e : wh v with
      | ex e' => exact ⟨0, rfl⟩
      | cl w es =>
        rw [e] at h1 h2 hlt
        obtain ⟨a, b, ha, hb, rfl⟩ := h1
        obtain ⟨a', b', ha', hb', he⟩ := h2
        have m1 := hlt w (by simp [Wh.uses])
        have m2 := hlt (es.headD 0) (by simp [Wh.uses])
        obtain ⟨a2, q1, l1⟩ := hle w m1 a ha
        obtain ⟨b2, q2, l2⟩ := hle _ m2 b hb
        rw [ha'] at q1; cases q1
        rw [hb'] at q2; cases q2
        obtain ⟨k1, e1⟩ := key w a' m1 ha' (by omega) (fun _ => by rw [ha]; congr 1; omega)
        obtain ⟨k2, e2⟩ := key _ b' m2 hb' (by omega) (fun _ => by rw [hb]; congr 1; omega)
        exact ⟨_, k1, k2, e1, e2, rfl⟩
      | mv who ws =>
        rw [e] at h1 h2 hlt ok
        have hlt : ∀ w ∈ ws, w < n := hlt
        simp only [IsC] at h1 h2
        simp only [IsR]
        split at h1
        · rename_i hp
          simp only [if_pos hp] at h2 ⊢
          obtain ⟨w, hw, a, ha, rfl, hm⟩ := h1
          obtain ⟨w2, hw2, a2, ha2, he, hm2⟩ := h2
          obtain ⟨a3, q1, l1⟩ := hle w (hlt w hw) a ha
          have := hm2 w hw a3 q1
          have ea : a3 = a := by omega
          subst ea
          obtain ⟨k1, e1⟩ := key w a3 (hlt w hw) q1 (by omega) (fun h => by rw [ha]; congr 1)
          obtain ⟨u, hu, hg, b, hb, hm3⟩ := min_tg (g := tight (pr v) (pr v + a3) (c (n + 1))) (c := r (n + 1)) ⟨w, hw, by unfold tight; rw [q1]; simp, k1, e1⟩
          exact ⟨1 + b, u, hu, hg, b, hb, rfl, hm3⟩
        · rename_i hp
          simp only [if_neg hp] at h2 ⊢
          have hall : ∀ w ∈ ws, ∃ k, r (n + 1) w = some k := fun w hw => by
            obtain ⟨a, ha, la⟩ := h1.1 w hw
            obtain ⟨a', ha', la'⟩ := h2.1 w hw
            obtain ⟨a3, q1, l1⟩ := hle w (hlt w hw) a ha
            rw [ha'] at q1; cases q1
            exact key w a' (hlt w hw) ha' (by omega) (fun h => by rw [ha]; congr 1; omega)
          obtain ⟨u, hu, b, hb, hm2⟩ := exists_max ok.2.1 hall
          exact ⟨1 + b, fun w' hw' => by
            obtain ⟨d, hd⟩ := hall w' hw'
            exact ⟨d, hd, by have := hm2 w' hw' d hd; omega⟩, u, hu, b, hb, rfl⟩
/-- the list of rounds that priceAt tells -/
theorem price_rounds {n pl pr : Nat} {sh : Nat → Ent} {wh : Wh} (hw : WhOk n wh) {x : Nat} {l : List Nat} (h : priceAt pl pr sh wh = some (x, l)) : (∃ ws, wh = .mv pl ws ∧ ∀ w ∈ ws, ∀ a b, sh w = some (a, b) → x = pr + a → ∀ j ∈ l, j ≤ b) ∨ ((∀ who ws, wh = .mv who ws → who ≠ pl) ∧ ∀ j ∈ l, ∃ w ∈ wh.uses, ∃ a, sh w = some (a, j)) := by
  cases wh with
  | ex e => cases h; exact .inr ⟨fun _ _ h => (by cases h), fun j hj => (by cases hj)⟩
  | cl w es =>
    refine .inr ⟨fun _ _ h => (by cases h), fun j hj => ?_⟩
    simp only [priceAt] at h
    split at h
    · rename_i a b h1 h2
      cases h
      simp only [List.mem_cons, List.not_mem_nil, or_false] at hj
      rcases hj with rfl | rfl
      · exact ⟨w, by simp [Wh.uses], a.1, h1⟩
      · exact ⟨es.headD 0, by simp [Wh.uses], b.1, h2⟩
    · cases h
  | mv who ws =>
    simp only [priceAt] at h
    split at h
    · rename_i hp
      subst hp
      refine .inl ⟨ws, rfl, fun w hw a b hs hx j hj => ?_⟩
      split at h
      · cases h
      · rename_i least hl
        cases h
        have ea : a = least := by omega
        subst ea
        rw [List.mem_singleton] at hj
        have hb : b ∈ ((ws.filterMap sh).filter fun x => decide (x.1 = a)).map (·.2) := List.mem_map.mpr ⟨(a, b), List.mem_filter.mpr ⟨List.mem_filterMap.mpr ⟨w, hw, hs⟩, by simp⟩, rfl⟩
        cases e : (((ws.filterMap sh).filter fun x => decide (x.1 = a)).map (·.2)).min? with
        | none => rw [List.min?_eq_none_iff.mp e] at hb; cases hb
        | some m =>
          rw [e] at hj
          subst hj
          exact (min_iff.mp e).2 b hb
    · rename_i hp
      refine .inr ⟨fun who' ws' h => by cases h; exact hp, fun j hj => ?_⟩
      split at h
      · cases h
      · cases h
        obtain ⟨p, hp1, rfl⟩ := List.mem_map.mp hj
        obtain ⟨w, hw1, e⟩ := List.mem_filterMap.mp hp1
        exact ⟨w, hw1, p.1, e⟩
/-- the stretched sheet is right at each place -/
theorem Both.right (B : Both n pl pr wh c r) {f : Nat → Nat} (hf : ∀ a b, a < b → f a < f b) {sh : Nat → Ent} (hs : ∀ w, w < n → sh w = match c (n + 1) w, r (n + 1) w with
    | some x, some k => some (x, f k)
    | _, _ => none) {v : Nat} (hv : v < n) : okPair (priceAt pl (pr v) sh (wh v)) (sh v) = true := by
  have ok := B.R.ok v hv
  have hlt := uses_lt ok
  have hfst : ∀ w, w < n → (sh w).map (·.1) = c (n + 1) w := fun w hw => by
    rw [hs w hw]
    cases e : c (n + 1) w with
    | none => rfl
    | some x =>
      obtain ⟨k, hk⟩ := B.all x (n + 1) w (Nat.le_refl _) hw e e
      rw [hk]
      rfl
  have hsnd : ∀ w, w < n → ∀ a j, sh w = some (a, j) → ∃ k, r (n + 1) w = some k ∧ j = f k := fun w hw a j h => by
    rw [hs w hw] at h
    split at h
    · rename_i x k h1 h2
      cases h
      exact ⟨k, h2, rfl⟩
    · cases h
  have hcong : ∀ x, IsC pl (pr v) (fun w => (sh w).map (·.1)) x (wh v) ↔ IsC pl (pr v) (c (n + 1)) x (wh v) := fun x => by
    constructor
    · intro h
      obtain ⟨x', h1, l1⟩ := IsC.mono ok (c' := c (n + 1)) (fun w hw a ha => ⟨a, by rw [← hfst w (hlt w hw)]; exact ha, Nat.le_refl _⟩) h
      obtain ⟨x2, h2, l2⟩ := IsC.mono ok (c' := fun w => (sh w).map (·.1)) (fun w hw a ha => ⟨a, by show (sh w).map (·.1) = _; rw [hfst w (hlt w hw)]; exact ha, Nat.le_refl _⟩) h1
      have := h.uniq h2
      have : x = x' := by omega
      rw [this]; exact h1
    · intro h
      obtain ⟨x', h1, l1⟩ := IsC.mono ok (c' := fun w => (sh w).map (·.1)) (fun w hw a ha => ⟨a, by show (sh w).map (·.1) = _; rw [hfst w (hlt w hw)]; exact ha, Nat.le_refl _⟩) h
      obtain ⟨x2, h2, l2⟩ := IsC.mono ok (c' := c (n + 1)) (fun w hw a ha => ⟨a, by rw [← hfst w (hlt w hw)]; exact ha, Nat.le_refl _⟩) h1
      have := h.uniq h2
      have : x = x' := by omega
      rw [this]; exact h1
  cases e : c (n + 1) v with
  | none =>
    have e1 : sh v = none := by rw [hs v hv, e]
    rw [e1]
    cases e2 : priceAt pl (pr v) sh (wh v) with
    | none => rfl
    | some p =>
      have := (B.fixC hv).mpr ((hcong p.1).mp ((price_iff ok p.1).mp ⟨p.2, e2⟩))
      rw [e] at this; cases this
  | some x =>
    obtain ⟨k, hk⟩ := B.all x (n + 1) v (Nat.le_refl _) hv e e
    have e1 : sh v = some (x, f k) := by rw [hs v hv, e, hk]
    obtain ⟨l, hl⟩ := (price_iff ok x).mpr ((hcong x).mpr ((B.fixC hv).mp e))
    rw [e1, hl]
    show (decide (x = x) && l.all fun j => decide (j < f k)) = true
    rw [decide_eq_true rfl, Bool.true_and, List.all_eq_true]
    intro j hj
    refine decide_eq_true ?_
    obtain ⟨x', hx', hr⟩ := (B.fixR hv).mp hk
    rw [e] at hx'; cases hx'
    rcases price_rounds ok hl with ⟨ws, hwh, h⟩ | ⟨hno, h⟩
    · rw [hwh] at hr hlt
      simp only [IsR, if_true] at hr
      obtain ⟨w, hw, hg, a, ha, rfl, _⟩ := hr
      have hwn := hlt w hw
      unfold tight at hg
      cases ec : c (n + 1) w with
      | none => rw [ec] at hg; cases hg
      | some y =>
        rw [ec] at hg
        have hg : pr v + y = x := of_decide_eq_true hg
        have es : sh w = some (y, f a) := by rw [hs w hwn, ec, ha]
        have := h w hw y (f a) es hg.symm j hj
        have := hf a (1 + a) (by omega)
        omega
    · obtain ⟨w, hw, a, ha⟩ := h j hj
      obtain ⟨k2, hk2, rfl⟩ := hsnd w (hlt w hw) a j ha
      refine hf k2 k ?_
      cases ew : wh v with
      | ex e' => rw [ew] at hw; cases hw
      | cl u es =>
        rw [ew] at hr hw
        obtain ⟨p, q, hp, hq, rfl⟩ := hr
        simp only [Wh.uses, List.mem_cons, List.not_mem_nil, or_false] at hw
        rcases hw with rfl | rfl
        · rw [hk2] at hp; cases hp; omega
        · rw [hk2] at hq; cases hq; omega
      | mv who ws =>
        rw [ew] at hr hw
        have hne := hno who ws ew
        simp only [IsR, if_neg hne] at hr
        obtain ⟨b, hb, lb⟩ := hr.1 w hw
        rw [hk2] at hb; cases hb
        omega
end
end Wk

set_option Elab.async false
set_option linter.all false
set_option maxRecDepth 100000
set_option maxHeartbeats 2000000
namespace Wk
open PySem L2 Ly
/-! ### flat; the forms of a program -/
def plsOf : D → List D
  | .tup [_, _, .tup ps] => ps
  | _ => []
def cntOf : D → D
  | .tup [_, c, _] => c
  | _ => .non
theorem plsOf_enD (e : En) : plsOf (enD e) = e.2.2.map plD := rfl
theorem flatMap_pls (P : List En) : (P.map enD).flatMap (fun d => (plsOf d).map fun e => e) = (flatJ P).map plD := by
  unfold flatJ
  induction P with
  | nil => rfl
  | cons e P ih =>
    rw [List.map_cons, List.flatMap_cons, ih, List.flatMap_cons, List.map_append, plsOf_enD, List.map_id']
theorem p_flatP (P : List En) (hz : (flatJ P).length ≤ 4000000) : g_flat [.val (prD P)] = some (.ok (.fz (.lst ((flatJ P).map plD))), [.val (prD P)]) := by
  refine sem_rt (ds := [prD P]) (ρ' := [some (.fz (prD P)), none, none]) ?_
  show m_flat [some (.fz (prD P)), none, none] = _
  have h := lc2_map (v := 1) (v1 := 2) (el := getM 2) (mi := itemsT (getM 0)) (mi1 := itemsT (ixM 1 (pur (.int 2)))) (ds := P.map enD) (ρ := [some (.fz (prD P)), none, none]) (ρ1 := [some (.fz (prD P)), none, none]) (by decide) plsOf (fun _ e => e) (by simp [prD]) (by simp) (by simp) (by simp) (by simp) (fun d hd => by
    obtain ⟨e, he, rfl⟩ := List.mem_map.mp hd
    rw [plsOf_enD]
    simp [enD]) (fun d hd e he => by simp) (by
    rw [flatMap_pls, List.length_map]
    exact Nat.le_trans hz szLine)
  rw [flatMap_pls] at h
  unfold m_flat
  simp [h]
/-! ### places -/
theorem p_are_places {l : List Nat} {lo hi : Nat} (hl : ∀ w ∈ l, lo ≤ w ∧ w < hi) (hz : l.length ≤ 4000) : g_are_places [.val (.tup (iD l)), .val (.int lo), .val (.int hi)] = some (.ok (.fz (.bl true)), [.val (.tup (iD l)), .val (.int lo), .val (.int hi)]) := by
  refine sem_rt (ds := [.tup (iD l), .int lo, .int hi]) (ρ' := [some (.fz (.tup (iD l))), some (.fz (.int lo)), some (.fz (.int hi)), none]) ?_
  show m_are_places [some (.fz (.tup (iD l))), some (.fz (.int lo)), some (.fz (.int hi)), none] = _
  have h := lc_map (v := 3) (ds := iD l) (el := calD g_within (consV (getM 3) (consV (getM 1) (consV (Ly.bin subD (getM 2) (pur (.int 1))) (pur []))))) (mi := itemsT (getM 0)) (ρ := [some (.fz (.tup (iD l))), some (.fz (.int lo)), some (.fz (.int hi)), none]) (ρ1 := [some (.fz (.tup (iD l))), some (.fz (.int lo)), some (.fz (.int hi)), none]) (fun _ => .bl true) (by simp) (by simp) (by simp) (by rw [iD_len]; exact Nat.le_trans (by omega) szLine) (fun d hd => by
    obtain ⟨w, hw, rfl⟩ := List.mem_map.mp hd
    have := hl w hw
    have e : inR lo (hi - 1) (.int (w : Nat)) = true := by
      show (decide _ && decide _) = true
      rw [Bool.and_eq_true, decide_eq_true_eq, decide_eq_true_eq]
      omega
    have hw := fun ρ : Ly.Env => callR3 (ρ := ρ) (p_within (.int (w : Nat)) lo (hi - 1))
    simp [hw, e])
  have e2 : (iD l).map (fun _ => D.bl true) = ((iD l).map fun _ => true).map .bl := by rw [List.map_map]; rfl
  rw [e2] at h
  have e3 := allC_bls (l := (iD l).map fun _ => true)
  have e4 : ((iD l).map fun _ => true).all id = true := by rw [List.all_eq_true]; intro x hx; obtain ⟨_, _, rfl⟩ := List.mem_map.mp hx; rfl
  rw [e4] at e3
  generalize (iD l).map (fun _ => true) = L at h e3
  unfold m_are_places
  simp [h, e3]
/-- a what of a procedure with the places from lo on, before hi; single exits -/
def WhIn (n lo hi : Nat) : Wh → Prop
  | .mv who ws => who ≤ 1 ∧ ws ≠ [] ∧ ws.length ≤ 8 ∧ ws.Nodup ∧ ∀ w ∈ ws, lo ≤ w ∧ w < hi
  | .cl w es => w < n ∧ ∃ e, es = [e] ∧ lo ≤ e ∧ e < hi
  | .ex e => e = 0
theorem WhIn.ok {n lo hi : Nat} {wh : Wh} (h : WhIn n lo hi wh) (hn : hi ≤ n) : WhOk n wh := by
  cases wh with
  | ex e => exact h
  | cl w es =>
    obtain ⟨h1, e, rfl, h2, h3⟩ := h
    exact ⟨h1, e, rfl, by omega⟩
  | mv who ws =>
    obtain ⟨h1, h2, h3, h4, h5⟩ := h
    exact ⟨h1, h2, h3, h4, fun w hw => by have := h5 w hw; omega⟩
theorem lenDD_iD {l : List Nat} (h : l.Nodup) (hz : l.length ≤ 4000) : lenDD (.tup (iD l)) = some (.int (l.length : Nat)) := by
  rw [iD_ints]
  show (intsD ((l.map fun (k : Nat) => (k : Int)).map D.int)).bind _ = _
  rw [intsD_map]
  have nd : (l.map fun (k : Nat) => (k : Int)).Nodup := by
    refine List.Pairwise.map _ (fun a b hab => ?_) h
    intro e
    exact hab (by omega)
  rw [Option.bind_some, if_pos ⟨nd, by rw [List.length_map]; exact hz⟩, List.length_map]
theorem rowB_in {lo hi : Nat} {xs : List D} (h1 : lo ≤ xs.length) (h2 : xs.length ≤ hi) : rowB lo hi (.tup xs) = true := by
  show (decide _ && decide _) = true
  rw [Bool.and_eq_true, decide_eq_true_eq, decide_eq_true_eq]
  omega
theorem inR_in {lo hi : Int} {k : Int} (h1 : lo ≤ k) (h2 : k ≤ hi) : inR lo hi (.int k) = true := by
  show (decide _ && decide _) = true
  rw [Bool.and_eq_true, decide_eq_true_eq, decide_eq_true_eq]
  exact ⟨h1, h2⟩
theorem row_1 {a b c : D} : rowB 3 3 (.tup [a, b, c]) = true := Eq.trans rfl rfl
theorem row_2 {a b : D} : rowB 3 3 (.tup [a, b]) = false := Eq.trans rfl rfl
theorem row_3 {a b c : D} : rowB 2 2 (.tup [a, b, c]) = false := Eq.trans rfl rfl
theorem row_4 {a b : D} : rowB 2 2 (.tup [a, b]) = true := Eq.trans rfl rfl
theorem p_is_move {n lo hi : Nat} {wh : Wh} (h : WhIn n lo hi wh) : g_is_move [.val (whD wh), .val (.int lo), .val (.int hi)] = some (.ok (.fz (.bl (match wh with
    | .mv _ _ => true
    | _ => false))), [.val (whD wh), .val (.int lo), .val (.int hi)]) := by
  refine sem_rt (ds := [whD wh, .int lo, .int hi]) (ρ' := [some (.fz (whD wh)), some (.fz (.int lo)), some (.fz (.int hi))]) ?_
  show m_is_move [some (.fz (whD wh)), some (.fz (.int lo)), some (.fz (.int hi))] = _
  unfold m_is_move
  cases wh with
  | ex e =>
    have hr := fun (ρ : Ly.Env) (d : D) (a b : Int) => callR3 (ρ := ρ) (p_is_row d a b)
    simp [hr, whD, row_1, row_2, row_3, row_4]
  | cl w es =>
    have hr := fun (ρ : Ly.Env) (d : D) (a b : Int) => callR3 (ρ := ρ) (p_is_row d a b)
    simp [hr, whD, row_1, row_2, row_3, row_4]
  | mv who ws =>
    obtain ⟨h1, h2, h3, h4, h5⟩ := h
    have hr := fun (ρ : Ly.Env) (d : D) (a b : Int) => callR3 (ρ := ρ) (p_is_row d a b)
    have hw := fun ρ : Ly.Env => callR3 (ρ := ρ) (p_within (.int who) 0 1)
    have e1 : rowB 1 8 (.tup (iD ws)) = true := rowB_in (lo := 1) (hi := 8) (by rw [iD_len]; exact List.length_pos_iff.mpr h2) (by rw [iD_len]; exact h3)
    have e2 : inR 0 1 (.int (who : Nat)) = true := inR_in (by omega) (by omega)
    have hp := fun ρ : Ly.Env => callR3 (ρ := ρ) (p_are_places h5 (by omega))
    simp [hr, whD, row_1, row_2, row_3, row_4, hw, e1, e2, hp, lenDD_iD h4 (by omega), iD_len]
theorem p_is_call {n lo hi : Nat} {wh : Wh} (h : WhIn n lo hi wh) (hn : 0 < n) : g_is_call [.val (whD wh), .val (.int lo), .val (.int hi), .val (.lst (List.replicate n (.int 1)))] = some (.ok (.fz (.bl (match wh with
    | .cl _ _ => true
    | _ => false))), [.val (whD wh), .val (.int lo), .val (.int hi), .val (.lst (List.replicate n (.int 1)))]) := by
  refine sem_rt (ds := [whD wh, .int lo, .int hi, .lst (List.replicate n (.int 1))]) (ρ' := [some (.fz (whD wh)), some (.fz (.int lo)), some (.fz (.int hi)), some (.fz (.lst (List.replicate n (.int 1))))]) ?_
  show m_is_call [some (.fz (whD wh)), some (.fz (.int lo)), some (.fz (.int hi)), some (.fz (.lst (List.replicate n (.int 1))))] = _
  unfold m_is_call
  cases wh with
  | ex e =>
    have hr := fun (ρ : Ly.Env) (d : D) (a b : Int) => callR3 (ρ := ρ) (p_is_row d a b)
    simp [hr, whD, row_1, row_2, row_3, row_4]
  | mv w es =>
    have hr := fun (ρ : Ly.Env) (d : D) (a b : Int) => callR3 (ρ := ρ) (p_is_row d a b)
    simp [hr, whD, row_1, row_2, row_3, row_4]
  | cl w es =>
    obtain ⟨h1, e, rfl, h2, h3⟩ := h
    have hr := fun (ρ : Ly.Env) (d : D) (a b : Int) => callR3 (ρ := ρ) (p_is_row d a b)
    have hw := fun ρ : Ly.Env => callR3 (ρ := ρ) (p_within (.int w) 0 ((n : Nat) - 1))
    have e1 : rowB 1 1 (.tup (iD [e])) = true := rfl
    have e2 : inR 0 ((n : Nat) - 1) (.int (w : Nat)) = true := inR_in (by omega) (by omega)
    have hp := fun ρ : Ly.Env => callR3 (ρ := ρ) (p_are_places (l := [e]) (lo := lo) (hi := hi) (fun x hx => by rw [List.mem_singleton.mp hx]; omega) (by simp))
    have eg : (List.replicate n (D.int 1))[w]? = some (.int 1) := List.getElem?_replicate_of_lt h1
    simp [hr, whD, row_1, row_2, row_3, row_4, hw, e1, e2, hp, eg]
theorem p_is_exit {n lo hi : Nat} {wh : Wh} (h : WhIn n lo hi wh) : g_is_exit [.val (whD wh), .val (.int 1)] = some (.ok (.fz (.bl (match wh with
    | .ex _ => true
    | _ => false))), [.val (whD wh), .val (.int 1)]) := by
  refine sem_rt (ds := [whD wh, .int 1]) (ρ' := [some (.fz (whD wh)), some (.fz (.int 1))]) ?_
  show m_is_exit [some (.fz (whD wh)), some (.fz (.int 1))] = _
  unfold m_is_exit
  cases wh with
  | mv w es =>
    have hr := fun (ρ : Ly.Env) (d : D) (a b : Int) => callR3 (ρ := ρ) (p_is_row d a b)
    simp [hr, whD, row_1, row_2, row_3, row_4]
  | cl w es =>
    have hr := fun (ρ : Ly.Env) (d : D) (a b : Int) => callR3 (ρ := ρ) (p_is_row d a b)
    simp [hr, whD, row_1, row_2, row_3, row_4]
  | ex e =>
    have h : e = 0 := h
    subst h
    have hr := fun (ρ : Ly.Env) (d : D) (a b : Int) => callR3 (ρ := ρ) (p_is_row d a b)
    have hw := fun ρ : Ly.Env => callR3 (ρ := ρ) (p_within (.int 0) 0 0)
    have e2 : inR 0 0 (.int 0) = true := rfl
    simp [hr, whD, row_1, row_2, row_3, row_4, hw, e2]
theorem p_is_place {n lo hi : Nat} {x : Pl} (hm : x.1 ≤ 9) (h : WhIn n lo hi x.2) (hlo : lo < n) : g_is_place [.val (plD x), .val (.int lo), .val (.int hi), .val (.lst (List.replicate n (.int 1)))] = some (.ok (.fz (.bl true)), [.val (plD x), .val (.int lo), .val (.int hi), .val (.lst (List.replicate n (.int 1)))]) := by
  obtain ⟨m, wh⟩ := x
  refine sem_rt (ds := [plD (m, wh), .int lo, .int hi, .lst (List.replicate n (.int 1))]) (ρ' := [some (.fz (plD (m, wh))), some (.fz (.int lo)), some (.fz (.int hi)), some (.fz (.lst (List.replicate n (.int 1)))), some (.fz (whD wh))]) ?_
  show m_is_place [some (.fz (plD (m, wh))), some (.fz (.int lo)), some (.fz (.int hi)), some (.fz (.lst (List.replicate n (.int 1)))), none] = _
  have hr := fun (ρ : Ly.Env) (d : D) (a b : Int) => callR3 (ρ := ρ) (p_is_row d a b)
  have hw := fun ρ : Ly.Env => callR3 (ρ := ρ) (p_within (.int m) 0 9)
  have e2 : inR 0 9 (.int (m : Nat)) = true := inR_in (by omega) (by simp at hm; omega)
  have h1 := fun ρ : Ly.Env => callR3 (ρ := ρ) (p_is_move h)
  have h2 := fun ρ : Ly.Env => callR4 (ρ := ρ) (p_is_call h (by omega))
  have h3 := fun ρ : Ly.Env => callR2 (ρ := ρ) (p_is_exit h)
  have eg : (List.replicate n (D.int 1))[lo]? = some (.int 1) := List.getElem?_replicate_of_lt hlo
  unfold m_is_place
  cases wh with
  | mv w es => simp [hr, plD, row_1, row_2, row_3, row_4, hw, e2, h1]
  | cl w es => simp [hr, plD, row_1, row_2, row_3, row_4, hw, e2, h1, h2]
  | ex e => simp [hr, plD, row_1, row_2, row_3, row_4, hw, e2, h1, h2, h3, eg]
end Wk

set_option Elab.async false
set_option linter.all false
set_option maxRecDepth 100000
set_option maxHeartbeats 2000000
namespace Wk
open PySem L2 Ly
/-! ### names, heads -/
theorem nm_items : ∀ (r : Fin 26) (p : Fin 3), (nmD r.val p.val).cps.toList = [97 + r.val, 48 + p.val] := by decide +kernel
theorem nm_words : ∀ (r : Fin 26) (p : Fin 3), inB (.str (nmD r.val p.val)) (.tup ((["call", "exit", "move", "proc"] : List Str).map D.str)) = some false := by decide +kernel
theorem sm_yes : ∀ r : Fin 26, inB (.str ⟨#[97 + r.val]⟩) (.str "abcdefghijklmnopqrstuvwxyz") = some true := by decide +kernel
theorem sm_no : ∀ p : Fin 3, inB (.str ⟨#[48 + p.val]⟩) (.str "abcdefghijklmnopqrstuvwxyz") = some false := by decide +kernel
theorem dg_yes : ∀ p : Fin 3, inB (.str ⟨#[48 + p.val]⟩) (.str "0123456789") = some true := by decide +kernel
theorem nm_inj {r r' p p' : Nat} (hr : r < 26) (hr' : r' < 26) (hp : p < 3) (hp' : p' < 3) (h : nmD r p = nmD r' p') : p = p' := by
  have e1 := nm_items ⟨r, hr⟩ ⟨p, hp⟩
  have e2 := nm_items ⟨r', hr'⟩ ⟨p', hp'⟩
  simp only at e1 e2
  rw [h, e2] at e1
  simp at e1
  omega
theorem p_is_low_name {r p : Nat} (hr : r < 26) (hp : p < 3) : g_is_low_name [.val (.str (nmD r p))] = some (.ok (.fz (.bl true)), [.val (.str (nmD r p))]) := by
  refine sem_rt (ds := [.str (nmD r p)]) (ρ' := [some (.fz (.str (nmD r p))), none]) ?_
  show m_is_low_name [some (.fz (.str (nmD r p))), none] = _
  have e1 := nm_items ⟨r, hr⟩ ⟨p, hp⟩
  have e2 := nm_words ⟨r, hr⟩ ⟨p, hp⟩
  have e3 := sm_yes ⟨r, hr⟩
  have e4 := sm_no ⟨p, hp⟩
  have e5 := dg_yes ⟨p, hp⟩
  simp only at e1 e2 e3 e4 e5
  generalize nmD r p = s at *
  have el : s.length = 2 := by
    have : s.cps.toList.length = 2 := by rw [e1]; rfl
    rw [Array.length_toList] at this
    exact this
  have hz : (2 : Nat) ≤ sizeLine := Nat.le_trans (by decide) szLine
  have c1 : lenC [.str s] = some (.int 2) := by
    show (if s.length ≤ sizeLine then some (D.int s.length) else none) = _
    rw [el, if_pos hz]; rfl
  have c2 : ixD (.str s) (.int 0) = some (.str ⟨#[97 + r]⟩) := by
    show (if s.length ≤ sizeLine then (atI s.cps.toList 0).map fun c => D.str ⟨#[c]⟩ else none) = _
    rw [el, if_pos hz, e1]; rfl
  have i1 : inO (.str s) (.tup ((["call", "exit", "move", "proc"] : List Str).map D.str)) = some (.bl false) := by unfold inO; rw [e2]; rfl
  have i2 : inO (.str ⟨#[97 + r]⟩) (.str "abcdefghijklmnopqrstuvwxyz") = some (.bl true) := by unfold inO; rw [e3]; rfl
  have i3 : inO (.str ⟨#[48 + p]⟩) (.str "abcdefghijklmnopqrstuvwxyz") = some (.bl false) := by unfold inO; rw [e4]; rfl
  have i4 : inO (.str ⟨#[48 + p]⟩) (.str "0123456789") = some (.bl true) := by unfold inO; rw [e5]; rfl
  have it : (s.cps.toList.map fun c => D.str ⟨#[c]⟩) = [.str ⟨#[97 + r]⟩, .str ⟨#[48 + p]⟩] := by rw [e1]; rfl
  generalize (⟨#[97 + r]⟩ : Str) = a at *
  generalize (⟨#[48 + p]⟩ : Str) = b at *
  have h := lc_map (v := 1) (ds := [.str a, .str b]) (el := orV (Ly.bin inO (getM 1) (pur (.str "abcdefghijklmnopqrstuvwxyz"))) (Ly.bin inO (getM 1) (pur (.str "0123456789")))) (mi := itemsS (getM 0)) (ρ := [some (.fz (.str s)), none]) (ρ1 := [some (.fz (.str s)), none]) (fun _ => .bl true) (by simp [it]) (by simp) (by simp) (by simpa using hz) (fun d hd => by
    simp only [List.mem_cons, List.not_mem_nil, or_false] at hd
    rcases hd with rfl | rfl
    · simp [i2]
    · simp [i3, i4])
  have e6 : allC [.lst ([D.str a, D.str b].map fun _ => D.bl true)] = some (.bl true) := allC_bls (l := [true, true])
  generalize ([D.str a, D.str b].map fun _ => D.bl true) = L at *
  unfold m_is_low_name
  generalize ((["call", "exit", "move", "proc"] : List Str).map D.str) = ww at *
  simp [isi_str, c1, i1, c2, i2, h, e6]
theorem p_is_head {e : En} {r p : Nat} (hr : r < 26) (hp : p < 3) (h1 : e.1 = nmD r p) (h2 : e.2.1 = 1) (h3 : 0 < e.2.2.length) (h4 : e.2.2.length ≤ 4000) : g_is_head [.val (enD e)] = some (.ok (.fz (.bl true)), [.val (enD e)]) := by
  obtain ⟨nm, ex, ps⟩ := e
  simp only at h1 h2 h3 h4
  subst h1 h2
  refine sem_rt (ds := [enD (nmD r p, 1, ps)]) (ρ' := [some (.fz (enD (nmD r p, 1, ps)))]) ?_
  show m_is_head [some (.fz (enD (nmD r p, 1, ps)))] = _
  have hrow := fun (ρ : Ly.Env) (d : D) (a b : Int) => callR3 (ρ := ρ) (p_is_row d a b)
  have hl := fun ρ : Ly.Env => callR1 (ρ := ρ) (p_is_low_name hr hp)
  have hw := fun ρ : Ly.Env => callR3 (ρ := ρ) (p_within (.int 1) 1 24)
  have e1 : inR 1 24 (.int 1) = true := rfl
  have e2 : rowB 1 4000 (.tup (ps.map plD)) = true := rowB_in (lo := 1) (hi := 4000) (by rw [List.length_map]; omega) (by rw [List.length_map]; omega)
  unfold m_is_head
  simp [enD, hrow, row_1, hl, hw, e1, e2]
/-- a program with one exit a procedure -/
structure ProgOk (P : List En) : Prop where
  pos : 0 < P.length
  few : P.length ≤ 3
  ent : ∀ p e, P[p]? = some e → ∃ r lo hi, r < 26 ∧ e.1 = nmD r p ∧ e.2.1 = 1 ∧ 0 < e.2.2.length ∧ e.2.2.length ≤ 100 ∧
    (startsOf (P.map fun e => e.2.2.length))[p]? = some lo ∧ (startsOf (P.map fun e => e.2.2.length))[p + 1]? = some hi ∧ lo < hi ∧ hi ≤ (flatJ P).length ∧ ∀ x ∈ e.2.2, x.1 ≤ 9 ∧ WhIn (flatJ P).length lo hi x.2
theorem flat_len (P : List En) : (flatJ P).length = (P.map fun e => e.2.2.length).sum := by
  unfold flatJ
  rw [List.length_flatMap]
theorem sum_le {l : List Nat} {b : Nat} (h : ∀ z ∈ l, z ≤ b) : l.sum ≤ b * l.length := by
  induction l with
  | nil => simp
  | cons a l ih =>
    have := ih fun z hz => h z (List.mem_cons_of_mem _ hz)
    have := h a (List.mem_cons_self ..)
    rw [List.sum_cons, List.length_cons, Nat.mul_add]
    omega
theorem ProgOk.small {P : List En} (h : ProgOk P) : (flatJ P).length ≤ 300 := by
  rw [flat_len]
  have h1 := sum_le (l := P.map fun e => e.2.2.length) (b := 100) fun z hz => by
    obtain ⟨e, he, rfl⟩ := List.mem_map.mp hz
    obtain ⟨p, hp⟩ := List.mem_iff_getElem?.mp he
    obtain ⟨r, lo, hi, _, _, _, _, h5, _⟩ := h.ent p e hp
    exact h5
  have := h.few
  rw [List.length_map] at h1
  omega
theorem strsD_map : ∀ l : List Str, strsD (l.map .str) = some l
  | [] => rfl
  | x :: l => by show (strsD (l.map .str)).map _ = _; rw [strsD_map l]; rfl
theorem ProgOk.names {P : List En} (h : ProgOk P) : (P.map (·.1)).Nodup := by
  rw [List.nodup_iff_pairwise_ne, List.pairwise_iff_getElem]
  intro i j hi hj hij
  rw [List.length_map] at hi hj
  rw [List.getElem_map, List.getElem_map]
  obtain ⟨r, _, _, h1, h2, _⟩ := h.ent i P[i] (List.getElem?_eq_getElem hi)
  obtain ⟨r', _, _, h1', h2', _⟩ := h.ent j P[j] (List.getElem?_eq_getElem hj)
  have := h.few
  rw [h2, h2']
  intro e
  have := nm_inj h1 h1' (by omega) (by omega) e
  omega
theorem p_are_heads {P : List En} (h : ProgOk P) : g_are_heads [.val (prD P)] = some (.ok (.fz (.bl true)), [.val (prD P)]) := by
  have h3 := h.few
  have hz : P.length ≤ sizeLine := Nat.le_trans (by omega) szLine
  have ez : (P.map enD).length ≤ sizeLine := by rw [List.length_map]; exact hz
  refine sem_rt (ds := [prD P]) (ρ' := [some (.fz (prD P)), none]) ?_
  show m_are_heads [some (.fz (prD P)), none] = _
  have hrow := fun (ρ : Ly.Env) => callR3 (ρ := ρ) (p_is_row (prD P) 1 60)
  have e1 : rowB 1 60 (prD P) = true := rowB_in (lo := 1) (hi := 60) (by rw [List.length_map]; exact h.pos) (by rw [List.length_map]; omega)
  have h1 := lc_map (v := 1) (ds := P.map enD) (el := calD g_is_head (consV (getM 1) (pur []))) (mi := itemsT (getM 0)) (ρ := [some (.fz (prD P)), none]) (ρ1 := [some (.fz (prD P)), none]) (fun _ => .bl true) (by simp [prD]) (by simp) (by simp) ez (fun d hd => by
    obtain ⟨e, he, rfl⟩ := List.mem_map.mp hd
    obtain ⟨p, hp⟩ := List.mem_iff_getElem?.mp he
    obtain ⟨r, lo, hi, q1, q2, q3, q4, q5, _⟩ := h.ent p e hp
    have hpl := (List.getElem?_eq_some_iff.mp hp).1
    have := fun ρ : Ly.Env => callR1 (ρ := ρ) (p_is_head q1 (by omega) q2 q3 q4 (by omega))
    simp [this])
  have e2 : allC [.lst ((P.map enD).map fun _ => D.bl true)] = some (.bl true) := by
    have e3 := allC_bls (l := P.map fun _ => true)
    have e4 : (P.map fun _ => true).all id = true := by rw [List.all_eq_true]; intro x hx; obtain ⟨_, _, rfl⟩ := List.mem_map.mp hx; rfl
    rw [e4] at e3
    have e5 : ((P.map enD).map fun _ => D.bl true) = (P.map fun _ => true).map .bl := by rw [List.map_map, List.map_map]; rfl
    rw [e5]; exact e3
  have h2 := lc_map (v := 1) (ds := P.map enD) (el := ixM 1 (pur (.int 0))) (mi := itemsT (getM 0)) (ρ := [some (.fz (prD P)), none]) (ρ1 := [some (.fz (prD P)), none]) (fun d => (ixD d (.int 0)).getD .non) (by simp [prD]) (by simp) (by simp) ez (fun d hd => by
    obtain ⟨e, he, rfl⟩ := List.mem_map.mp hd
    simp [enD])
  have e3 : lenDD (.lst ((P.map enD).map fun d => (ixD d (.int 0)).getD .non)) = some (.int (P.length : Nat)) := by
    have : ((P.map enD).map fun d => (ixD d (.int 0)).getD .non) = (P.map (·.1)).map .str := by
      rw [List.map_map, List.map_map]
      refine List.map_congr_left fun e _ => ?_
      show (atI [D.str e.1, D.int (e.2.1 : Nat), D.tup (e.2.2.map plD)] 0).getD .non = _
      rw [atI_0]; rfl
    rw [this]
    show (strsD _).bind _ = _
    rw [strsD_map, Option.bind_some, if_pos ⟨h.names, by rw [List.length_map]; omega⟩, List.length_map]
  have h4 := lc_map (v := 1) (ds := P.map enD) (el := calM lenC (consM (ixM 1 (pur (.int 2))) (pur []))) (mi := itemsT (getM 0)) (ρ := [some (.fz (prD P)), none]) (ρ1 := [some (.fz (prD P)), none]) (fun d => .int (plsOf d).length) (by simp [prD]) (by simp) (by simp) ez (fun d hd => by
    obtain ⟨e, he, rfl⟩ := List.mem_map.mp hd
    simp [enD, plsOf])
  have e5 : sumC [.lst ((P.map enD).map fun d => D.int (plsOf d).length)] = some (.int ((flatJ P).length : Nat)) := by
    have : ((P.map enD).map fun d => D.int (plsOf d).length) = iD (P.map fun e => e.2.2.length) := by
      unfold iD
      rw [List.map_map, List.map_map]
      refine List.map_congr_left fun e _ => ?_
      show D.int (plsOf (enD e)).length = D.int _
      rw [plsOf_enD, List.length_map]
    rw [this, sumC_iD, flat_len]
  have hsm := h.small
  have e6 : lenC [prD P] = some (.int (P.length : Nat)) := by
    show lenC [.tup (P.map enD)] = _
    rw [lenC_tup, List.length_map]
  have e7 : decide (((flatJ P).length : Int) ≤ 4000) = true := decide_eq_true (by omega)
  generalize ((P.map enD).map fun _ => D.bl true) = L1 at *
  generalize ((P.map enD).map fun d => (ixD d (.int 0)).getD .non) = L2 at *
  generalize ((P.map enD).map fun d => D.int (plsOf d).length) = L3 at *
  generalize (flatJ P).length = n at *
  unfold m_are_heads
  generalize prD P = T at *
  simp [hrow, e1, h1, e2, h2, e3, h4, e5, e6]
  omega
end Wk

set_option Elab.async false
set_option linter.all false
set_option maxRecDepth 100000
set_option maxHeartbeats 2000000
namespace Wk
open PySem L2 Ly
/-! ### is_program; need_prices -/
theorem any_false {α : Type} : ∀ l : List α, (l.any fun _ => false) = false
  | [] => rfl
  | _ :: l => any_false l
/-- a loop that always goes on -/
theorem for_go {g : D → M Unit} {b : M Fl} {ds : List D} (I : Ly.Env → Prop) (h : ∀ d ∈ ds, ∀ ρ, I ρ → ∃ ρ', I ρ' ∧ bndR (g d ρ) (fun _ => b) = .ok .nx ρ') {ρ : Ly.Env} (hi : I ρ) : ∃ ρ', I ρ' ∧ forL g b ds ρ = .ok .nx ρ' := by
  obtain ⟨ρ', h1, h2⟩ := for_inv (ds := ds) (g := g) (b := b) I (fun _ => false) (.fz .non) (fun d hd ρ hi => by
    obtain ⟨ρ', h1, h2⟩ := h d hd ρ hi
    exact ⟨ρ', h1, by simpa using h2⟩) ρ hi
  rw [any_false] at h2
  exact ⟨ρ', h1, by simpa using h2⟩
theorem enum_mem {l : List D} {d : D} (h : d ∈ enumD l) : ∃ (i : Nat) (x : D), l[i]? = some x ∧ d = .tup [.int (i : Nat), x] := by
  unfold enumD at h
  obtain ⟨i, hi, e⟩ := List.mem_mapIdx.mp h
  exact ⟨i, l[i], List.getElem?_eq_getElem hi, e.symm⟩
theorem flatMap_cnt (P : List En) (h : ∀ e ∈ P, e.2.1 = 1) : (P.map enD).flatMap (fun d => (plsOf d).map fun _ => cntOf d) = List.replicate (flatJ P).length (.int 1) := by
  unfold flatJ
  induction P with
  | nil => rfl
  | cons e P ih =>
    rw [List.map_cons, List.flatMap_cons, ih (fun e he => h e (List.mem_cons_of_mem _ he)), List.flatMap_cons, List.length_append, ← List.replicate_append_replicate]
    congr 1
    rw [plsOf_enD, List.map_map]
    have : cntOf (enD e) = .int 1 := by
      show D.int (e.2.1 : Nat) = _
      rw [h e (List.mem_cons_self ..)]; rfl
    rw [this]
    exact List.map_const'
theorem p_is_program {P : List En} (h : ProgOk P) : g_is_program [.val (prD P)] = some (.ok (.fz (.bl true)), [.val (prD P)]) := by
  have hf := h.few
  have hsm := h.small
  have h0 := fun ρ : Ly.Env => callR1 (ρ := ρ) (p_are_heads h)
  have hone : ∀ e ∈ P, e.2.1 = 1 := fun e he => by
    obtain ⟨p, hp⟩ := List.mem_iff_getElem?.mp he
    obtain ⟨r, lo, hi, _, _, q3, _⟩ := h.ent p e hp
    exact q3
  have h1 := lc2_map (v := 4) (v1 := 5) (el := ixM 4 (pur (.int 1))) (mi := itemsT (getM 0)) (mi1 := itemsT (ixM 4 (pur (.int 2)))) (ds := P.map enD) (ρ := [some (.fz (prD P)), none, none, none, none, none]) (ρ1 := [some (.fz (prD P)), none, none, none, none, none]) (by decide) plsOf (fun d _ => cntOf d) (by simp [prD]) (by simp) (by simp) (by simp) (by simp) (fun d hd => by
    obtain ⟨e, he, rfl⟩ := List.mem_map.mp hd
    rw [plsOf_enD]
    simp [enD]) (fun d hd e he => by
    obtain ⟨e', he', rfl⟩ := List.mem_map.mp hd
    simp [enD, cntOf]) (by
    rw [flatMap_cnt P hone, List.length_replicate]
    exact Nat.le_trans (by omega) szLine)
  rw [flatMap_cnt P hone] at h1
  have h2 := fun ρ : Ly.Env => callR1 (ρ := ρ) (p_starts_of P (by omega))
  have hent := h.ent
  generalize hn : (flatJ P).length = n at *
  generalize hst : startsOf (P.map fun e => e.2.2.length) = st at *
  obtain ⟨ρ', ⟨x3, x4, x5, rfl⟩, h3⟩ := for_go (g := gtup 2 (gcons (putM 3) (gcons (putM 4) (gnil)))) (b := seqS (Ly.forM (itemsT (ixM 4 (pur (.int 2)))) (putM 5) (seqS (iteS (notT (tst (calD g_is_place (consV (getM 5) (consV (ixM 2 (getM 3)) (consV (ixM 2 (Ly.bin addD (getM 3) (pur (.int 1)))) (consV (getM 1) (pur [])))))))) (seqS (retM (pur (.bl false))) (pur .nx)) (pur .nx)) (pur .nx))) (pur .nx)) (ds := enumD (P.map enD))
    (fun ρ => ∃ x3 x4 x5, ρ = [some (.fz (prD P)), some (.fz (.lst (List.replicate n (.int 1)))), some (.fz (.lst (iD st))), slo x3, slo x4, slo x5]) (fun d hd ρ ⟨x3, x4, x5, e⟩ => by
      subst e
      obtain ⟨i, y, hy, rfl⟩ := enum_mem hd
      rw [List.getElem?_map] at hy
      cases he : P[i]? with
      | none => rw [he] at hy; cases hy
      | some e =>
        rw [he] at hy
        have hy : enD e = y := Option.some.inj hy
        subst hy
        obtain ⟨r, lo, hi, _, _, _, q4, q5, q6, q7, q8, q9, q10⟩ := hent i e he
        have e7 : (iD st)[i + 1]? = some (.int (hi : Nat)) := by rw [iD_get, q7]; rfl
        have ei : atI (iD st) (((i : Nat) : Int) + 1) = some (.int (hi : Nat)) := by
          rw [show ((i : Nat) : Int) + 1 = ((i + 1 : Nat) : Int) by omega, Ly.atI_nat, e7]
        obtain ⟨ρ', ⟨z5, rfl⟩, h4⟩ := for_go (g := putM 5) (b := seqS (iteS (notT (tst (calD g_is_place (consV (getM 5) (consV (ixM 2 (getM 3)) (consV (ixM 2 (Ly.bin addD (getM 3) (pur (.int 1)))) (consV (getM 1) (pur [])))))))) (seqS (retM (pur (.bl false))) (pur .nx)) (pur .nx)) (pur .nx)) (ds := e.2.2.map plD)
          (fun ρ => ∃ z5, ρ = [some (.fz (prD P)), some (.fz (.lst (List.replicate n (.int 1)))), some (.fz (.lst (iD st))), some (.fz (.int (i : Nat))), some (.fz (enD e)), slo z5]) (fun d hd ρ ⟨z5, e⟩ => by
            subst e
            obtain ⟨x, hx, rfl⟩ := List.mem_map.mp hd
            obtain ⟨q11, q12⟩ := q10 x hx
            have hp := fun ρ : Ly.Env => callR4 (ρ := ρ) (p_is_place q11 q12 (by omega))
            refine ⟨_, ⟨some (plD x), rfl⟩, ?_⟩
            simp [q6, ei, hp]) (ρ := [some (.fz (prD P)), some (.fz (.lst (List.replicate n (.int 1)))), some (.fz (.lst (iD st))), some (.fz (.int (i : Nat))), some (.fz (enD e)), slo x5]) ⟨x5, rfl⟩
        refine ⟨_, ⟨some (.int (i : Nat)), some (enD e), z5, rfl⟩, ?_⟩
        have e2 : ixD (enD e) (.int 2) = some (.tup (e.2.2.map plD)) := by
          show atI [D.str e.1, D.int (e.2.1 : Nat), D.tup (e.2.2.map plD)] 2 = _
          rw [atI_2]; rfl
        generalize enD e = ee at *
        simp [e2, h4]) (ρ := [some (.fz (prD P)), some (.fz (.lst (List.replicate n (.int 1)))), some (.fz (.lst (iD st))), none, none, none]) ⟨none, none, none, rfl⟩
  refine sem_rt (ds := [prD P]) (ρ' := [some (.fz (prD P)), some (.fz (.lst (List.replicate n (.int 1)))), some (.fz (.lst (iD st))), slo x3, slo x4, slo x5]) ?_
  show m_is_program [some (.fz (prD P)), none, none, none, none, none] = _
  unfold m_is_program
  have et : tupX (prD P) = some (P.map enD) := rfl
  generalize P.map enD = ll at *
  generalize prD P = T at *
  simp [h0, h1, h2, h3, et]
theorem p_checked {P : List En} (h : ProgOk P) : g_checked_program [.val (prD P)] = some (.ok (.fz .non), [.val (prD P)]) := by
  refine sem_nx (ds := [prD P]) (ρ' := [some (.fz (prD P))]) ?_
  show m_checked_program [some (.fz (prD P))] = _
  have h0 := fun ρ : Ly.Env => callR1 (ρ := ρ) (p_is_program h)
  unfold m_checked_program
  simp [h0]
theorem p_need_player {pl : Nat} (h : pl ≤ 1) : g_need_player [.val (.int pl)] = some (.ok (.fz .non), [.val (.int pl)]) := by
  refine sem_nx (ds := [.int pl]) (ρ' := [some (.fz (.int pl))]) ?_
  show m_need_player [some (.fz (.int pl))] = _
  have h0 := fun ρ : Ly.Env => callR3 (ρ := ρ) (p_within (.int pl) 0 1)
  have e2 : inR 0 1 (.int (pl : Nat)) = true := inR_in (by omega) (by omega)
  unfold m_need_player
  simp [h0, e2]
/-- the prices -/
structure PrsOk (n : Nat) (prs : List Nat) : Prop where
  len : prs.length = n
  le : ∀ p ∈ prs, p ≤ 1000000000000
theorem p_need_prices {P : List En} (h : ProgOk P) {pl : Nat} (hpl : pl ≤ 1) {prs : List Nat} (hp : PrsOk (flatJ P).length prs) : g_need_prices [.val (prD P), .val (.int pl), .val (.tup (iD prs))] = some (.ok (.fz .non), [.val (prD P), .val (.int pl), .val (.tup (iD prs))]) := by
  have hf := h.few
  have hsm := h.small
  have hone : ∀ e ∈ P, e.2.1 = 1 := fun e he => by
    obtain ⟨p, hp⟩ := List.mem_iff_getElem?.mp he
    obtain ⟨r, lo, hi, _, _, q3, _⟩ := h.ent p e hp
    exact q3
  have h0 := fun ρ : Ly.Env => callR1 (ρ := ρ) (p_checked h)
  have h1 := fun ρ : Ly.Env => callR1 (ρ := ρ) (p_exits_at P (by omega))
  have h2 := fun ρ : Ly.Env => callR1 (ρ := ρ) (p_need_player hpl)
  have h3 := fun ρ : Ly.Env => callR1 (ρ := ρ) (p_flatP P (by omega))
  have hrow := fun (ρ : Ly.Env) (a b : Int) => callR3 (ρ := ρ) (p_is_row (.tup (iD prs)) a b)
  have e1 : rowB (flatJ P).length (flatJ P).length (.tup (iD prs)) = true := rowB_in (by rw [iD_len, hp.len]; exact Nat.le_refl _) (by rw [iD_len, hp.len]; exact Nat.le_refl _)
  obtain ⟨ρ', ⟨x3, x4, rfl⟩, h4⟩ := for_go (g := gtup 2 (gcons (putM 3) (gcons (putM 4) (gnil)))) (b := seqS (iteS (tst (Ly.bin gtD (getM 4) (pur (.int 1)))) (seqS (stk) (pur .nx)) (pur .nx)) (pur .nx)) (ds := enumD (iD (P.map fun e => e.2.1)))
    (fun ρ => ∃ x3 x4, ρ = [some (.fz (prD P)), some (.fz (.int pl)), some (.fz (.tup (iD prs))), slo x3, slo x4, none, none]) (fun d hd ρ ⟨x3, x4, e⟩ => by
      subst e
      obtain ⟨i, y, hy, rfl⟩ := enum_mem hd
      rw [iD_get, List.getElem?_map] at hy
      cases he : P[i]? with
      | none => rw [he] at hy; cases hy
      | some e =>
        rw [he] at hy
        have hy : D.int (e.2.1 : Nat) = y := Option.some.inj hy
        have e1 := hone e (List.mem_of_getElem? he)
        rw [e1] at hy
        subst hy
        refine ⟨_, ⟨some (.int (i : Nat)), some (.int 1), rfl⟩, ?_⟩
        simp) (ρ := [some (.fz (prD P)), some (.fz (.int pl)), some (.fz (.tup (iD prs))), none, none, none, none]) ⟨none, none, rfl⟩
  generalize hn : (flatJ P).map plD = fl at *
  have hfl : fl.length = (flatJ P).length := by rw [← hn, List.length_map]
  generalize (flatJ P).length = n at *
  have h5 := lc_map (v := 6) (ds := iD prs) (el := calD g_within (consV (getM 6) (consV (pur (.int 0)) (consV (pur (.int 1000000000000)) (pur []))))) (mi := itemsT (getM 2)) (ρ := [some (.fz (prD P)), some (.fz (.int pl)), some (.fz (.tup (iD prs))), slo x3, slo x4, some (.fz (.int n)), none]) (ρ1 := [some (.fz (prD P)), some (.fz (.int pl)), some (.fz (.tup (iD prs))), slo x3, slo x4, some (.fz (.int n)), none]) (fun _ => .bl true) (by simp) (by simp) (by simp) (by rw [iD_len, hp.len]; exact Nat.le_trans (by omega) szLine) (fun d hd => by
    obtain ⟨w, hw, rfl⟩ := List.mem_map.mp hd
    have := hp.le w hw
    have e : inR 0 1000000000000 (.int (w : Nat)) = true := inR_in (by omega) (by omega)
    have hw := fun ρ : Ly.Env => callR3 (ρ := ρ) (p_within (.int (w : Nat)) 0 1000000000000)
    simp [hw, e])
  have e2 : (iD prs).map (fun _ => D.bl true) = ((iD prs).map fun _ => true).map .bl := by rw [List.map_map]; rfl
  rw [e2] at h5
  have e3 := allC_bls (l := (iD prs).map fun _ => true)
  have e4 : ((iD prs).map fun _ => true).all id = true := by rw [List.all_eq_true]; intro x hx; obtain ⟨_, _, rfl⟩ := List.mem_map.mp hx; rfl
  rw [e4] at e3
  generalize (iD prs).map (fun _ => true) = L at *
  refine sem_nx (ds := [prD P, .int pl, .tup (iD prs)]) (ρ' := [some (.fz (prD P)), some (.fz (.int pl)), some (.fz (.tup (iD prs))), slo x3, slo x4, some (.fz (.int n)), none]) ?_
  show m_need_prices [some (.fz (prD P)), some (.fz (.int pl)), some (.fz (.tup (iD prs))), none, none, none, none] = _
  unfold m_need_prices
  generalize iD (P.map fun e => e.2.1) = ll at *
  simp [h0, h1, h4, h2, h3, hfl, hrow, e1, h5, e3]
end Wk

set_option Elab.async false
set_option linter.all false
set_option maxRecDepth 100000
set_option maxHeartbeats 2000000
namespace Wk
open PySem L2 Ly
/-! ### is_price_sheet -/
def gameOf (P : List En) (pl : Nat) (prs : List Nat) : Game := ⟨flatJ P, pl, prs⟩
theorem flat_mem {P : List En} {x : Pl} (h : x ∈ flatJ P) : ∃ e ∈ P, x ∈ e.2.2 := by
  unfold flatJ at h
  exact List.mem_flatMap.mp h
theorem ProgOk.game {P : List En} (h : ProgOk P) {pl : Nat} {prs : List Nat} (hp : prs.length = (flatJ P).length) : (gameOf P pl prs).Ok where
  few := by have := h.small; show (flatJ P).length ≤ 4000; omega
  prs := hp
  wh := fun v x hx => by
    obtain ⟨e, he, hxe⟩ := flat_mem (List.mem_of_getElem? hx)
    obtain ⟨p, hp⟩ := List.mem_iff_getElem?.mp he
    obtain ⟨r, lo, hi, _, _, _, _, _, _, _, _, h8, h9⟩ := h.ent p e hp
    exact (h9 x hxe).2.ok h8
noncomputable def bodyR : M Fl := seqS (iteS (notT (tst (calD g_is_right_entry (consV (getM 7) (consV (getM 1) (consV (ixM 2 (getM 5)) (consV (ixM 3 (getM 5)) (consV (frzM (lcO [9] (itemsT (calD g_used_by (consV (getM 7) (pur [])))) (putM 9) (pur true) (ixM 3 (getM 9)))) (pur []))))))))) (seqS (retM (pur (.bl false))) (pur .nx)) (pur .nx)) (pur .nx)
section
variable {G : Game}
theorem right_step (hG : G.Ok) (a c : D) (sh : List Ent) (hs : sh.length = G.n) {v : Nat} {x : Pl} (hx : G.pls[v]? = some x) (x5 x6 x7 : Option D) :
    bndR (gtup 2 (gcons (putM 5) (gcons (gtup 2 (gcons (putM 6) (gcons (putM 7) (gnil)))) (gnil))) (.tup [.int v, plD x]) [some (.fz a), some (.fz (.int G.pl)), some (.fz (.tup (iD G.prs))), some (.fz (.tup (sh.map eD))), some (.fz c), slo x5, slo x6, slo x7, none, none]) (fun _ => bodyR) =
      .ok (if (!okAt G (fun w => sh.getD w none) v) = true then .rt (.fz (.bl false)) else .nx) [some (.fz a), some (.fz (.int G.pl)), some (.fz (.tup (iD G.prs))), some (.fz (.tup (sh.map eD))), some (.fz c), some (.fz (.int v)), some (.fz (.int x.1)), some (.fz (whD x.2)), none, none] := by
  have hv : v < G.n := (List.getElem?_eq_some_iff.mp hx).1
  obtain ⟨_, p, _, hp⟩ := hG.get hv
  have hw := hG.wh v x hx
  have ew : G.wh v = x.2 := by unfold Game.wh; rw [hx]; rfl
  have ep : G.pr v = p := by unfold Game.pr; rw [List.getD_eq_getElem?_getD, hp]; rfl
  have hlt := uses_lt hw
  have hub : usedBy x.2 = x.2.uses := by cases x.2 <;> rfl
  have hul : (usedBy x.2).length ≤ 4000 := by
    cases e : x.2 with
    | mv who ws => rw [e] at hw; have := hw.2.2.1; show ws.length ≤ 4000; omega
    | cl w es => show [w, es.headD 0].length ≤ 4000; simp
    | ex e => show ([] : List Nat).length ≤ 4000; simp
  have hsh : ∀ w : Nat, w < G.n → (sh.map eD)[w]? = some (eD (sh.getD w none)) := fun w hw => by
    rw [List.getElem?_map, List.getD_eq_getElem?_getD, List.getElem?_eq_getElem (by omega)]; rfl
  have h1 := fun ρ : Ly.Env => callR1 (ρ := ρ) (p_used_by hw)
  have h2 := lc_map (v := 9) (ds := iD (usedBy x.2)) (el := ixM 3 (getM 9)) (mi := itemsT (calD g_used_by (consV (getM 7) (pur [])))) (ρ := [some (.fz a), some (.fz (.int G.pl)), some (.fz (.tup (iD G.prs))), some (.fz (.tup (sh.map eD))), some (.fz c), some (.fz (.int v)), some (.fz (.int x.1)), some (.fz (whD x.2)), none, none]) (ρ1 := [some (.fz a), some (.fz (.int G.pl)), some (.fz (.tup (iD G.prs))), some (.fz (.tup (sh.map eD))), some (.fz c), some (.fz (.int v)), some (.fz (.int x.1)), some (.fz (whD x.2)), none, none]) (fun d => match d with
    | .int z => eD (sh.getD z.toNat none)
    | _ => .non) (by simp [h1]) (by simp) (by simp) (by rw [iD_len]; exact Nat.le_trans (by omega) szLine) (fun d hd => by
    obtain ⟨w, hw, rfl⟩ := List.mem_map.mp hd
    rw [hub] at hw
    have hwn : w < G.n := hlt w hw
    simp only [Int.toNat_natCast]
    have e := hsh w hwn
    generalize sh.map eD = L at *
    generalize sh.getD w none = en at *
    simp [e])
  have e2 : ((iD (usedBy x.2)).map fun d => match d with
    | .int z => eD (sh.getD z.toNat none)
    | _ => .non) = ((usedBy x.2).map fun w => sh.getD w none).map eD := by
    unfold iD
    rw [List.map_map, List.map_map]
    refine List.map_congr_left fun w _ => ?_
    simp only [Function.comp, Int.toNat_natCast]
  rw [e2] at h2
  have h3 := fun ρ : Ly.Env => callR5 (ρ := ρ) (p_is_right (pl := G.pl) (pr := p) hw (sh.getD v none) (fun w => sh.getD w none))
  have e3 : rightB G.pl p (sh.getD v none) ((usedBy x.2).map fun w => sh.getD w none) x.2 = okAt G (fun w => sh.getD w none) v := by
    rw [right_pair hw]
    unfold okAt Game.at_
    rw [ew, ep]
  rw [e3] at h3
  have e4 := hsh v hv
  have e5 : (iD G.prs)[v]? = some (.int (p : Nat)) := by rw [iD_get, hp]; rfl
  generalize okAt G (fun w => sh.getD w none) v = b at *
  generalize ((usedBy x.2).map fun w => sh.getD w none).map eD = L2 at *
  generalize sh.getD v none = en at *
  generalize sh.map eD = L at *
  obtain ⟨m, wh⟩ := x
  simp only at h1 h2 h3
  unfold bodyR
  simp [plD, h2, h3, e4, e5]
  cases b <;> simp
theorem right_loop (hG : G.Ok) (a : D) (sh : List Ent) (hs : sh.length = G.n) : ∃ x5 x6 x7, forL (gtup 2 (gcons (putM 5) (gcons (gtup 2 (gcons (putM 6) (gcons (putM 7) (gnil)))) (gnil)))) bodyR (enumD (G.pls.map plD)) [some (.fz a), some (.fz (.int G.pl)), some (.fz (.tup (iD G.prs))), some (.fz (.tup (sh.map eD))), some (.fz (.lst (G.pls.map plD))), none, none, none, none, none] =
    .ok (if (List.range G.n).all (okAt G fun w => sh.getD w none) = true then .nx else .rt (.fz (.bl false))) [some (.fz a), some (.fz (.int G.pl)), some (.fz (.tup (iD G.prs))), some (.fz (.tup (sh.map eD))), some (.fz (.lst (G.pls.map plD))), slo x5, slo x6, slo x7, none, none] := by
  obtain ⟨ρ', ⟨y5, y6, y7, rfl⟩, h⟩ := for_inv (ds := enumD (G.pls.map plD)) (g := gtup 2 (gcons (putM 5) (gcons (gtup 2 (gcons (putM 6) (gcons (putM 7) (gnil)))) (gnil)))) (b := bodyR) (fun ρ => ∃ y5 y6 y7, ρ = [some (.fz a), some (.fz (.int G.pl)), some (.fz (.tup (iD G.prs))), some (.fz (.tup (sh.map eD))), some (.fz (.lst (G.pls.map plD))), slo y5, slo y6, slo y7, none, none]) (fun d => match d with
    | .tup [.int z, _] => !okAt G (fun w => sh.getD w none) z.toNat
    | _ => false) (.fz (.bl false)) (fun d hd ρ ⟨y5, y6, y7, e⟩ => by
    subst e
    obtain ⟨i, y, hy, rfl⟩ := enum_mem hd
    rw [List.getElem?_map] at hy
    cases hx : G.pls[i]? with
    | none => rw [hx] at hy; cases hy
    | some x =>
      rw [hx] at hy
      have hy : plD x = y := Option.some.inj hy
      subst hy
      refine ⟨_, ⟨some (.int i), some (.int x.1), some (whD x.2), rfl⟩, ?_⟩
      simp only [Int.toNat_natCast]
      exact right_step hG a _ sh hs hx y5 y6 y7) [some (.fz a), some (.fz (.int G.pl)), some (.fz (.tup (iD G.prs))), some (.fz (.tup (sh.map eD))), some (.fz (.lst (G.pls.map plD))), none, none, none, none, none] ⟨none, none, none, rfl⟩
  refine ⟨y5, y6, y7, h.trans ?_⟩
  have e : ((enumD (G.pls.map plD)).any fun d => match d with
      | .tup [.int z, _] => !okAt G (fun w => sh.getD w none) z.toNat
      | _ => false) = !(List.range G.n).all (okAt G fun w => sh.getD w none) := by
    have e1 : ∀ (l : List D) (f : Nat → Bool), ((enumD l).any fun d => match d with
      | .tup [.int z, _] => !f z.toNat
      | _ => false) = !(List.range l.length).all f := fun l f => by
      rw [Bool.eq_iff_iff, List.any_eq_true, Bool.not_eq_true', List.all_eq_false]
      constructor
      · rintro ⟨d, hd, h⟩
        obtain ⟨i, y, hy, rfl⟩ := enum_mem hd
        simp only [Int.toNat_natCast] at h
        exact ⟨i, List.mem_range.mpr (List.getElem?_eq_some_iff.mp hy).1, by simpa using h⟩
      · rintro ⟨i, hi, h⟩
        have hi := List.mem_range.mp hi
        refine ⟨.tup [.int (i : Nat), l[i]], ?_, ?_⟩
        · unfold enumD
          exact List.mem_mapIdx.mpr ⟨i, hi, rfl⟩
        · simp only [Int.toNat_natCast]
          simpa using h
    rw [e1, List.length_map]
    rfl
  rw [e]
  cases (List.range G.n).all (okAt G fun w => sh.getD w none) <;> rfl
end
theorem p_is_price_sheet {P : List En} (h : ProgOk P) {pl : Nat} (hpl : pl ≤ 1) {prs : List Nat} (hp : PrsOk (flatJ P).length prs) (T : D) (hT : ∀ xs, T = .tup xs → xs.length ≤ 4000) :
    g_is_price_sheet [.val (prD P), .val (.int pl), .val (.tup (iD prs)), .val T] = some (.ok (.fz (.bl (judgedB (gameOf P pl prs) T))), [.val (prD P), .val (.int pl), .val (.tup (iD prs)), .val T]) := by
  have hG := h.game (pl := pl) hp.len
  have hsm := h.small
  have h0 := fun ρ : Ly.Env => callR3 (ρ := ρ) (p_need_prices h hpl hp)
  have h1 := fun ρ : Ly.Env => callR1 (ρ := ρ) (p_flatP P (by omega))
  have hrow := fun (ρ : Ly.Env) (a b : Int) => callR3 (ρ := ρ) (p_is_row T a b)
  have hfl : ((flatJ P).map plD).length = (gameOf P pl prs).n := List.length_map ..
  obtain ⟨ρ', hh⟩ : ∃ ρ', m_is_price_sheet [some (.fz (prD P)), some (.fz (.int pl)), some (.fz (.tup (iD prs))), some (.fz T), none, none, none, none, none, none] = .ok (.rt (.fz (.bl (judgedB (gameOf P pl prs) T)))) ρ' := by
    by_cases hr : rowB (gameOf P pl prs).n (gameOf P pl prs).n T = true
    · cases T with
      | tup xs =>
        have hn : xs.length = (gameOf P pl prs).n := by
          have hr : (decide (((gameOf P pl prs).n : Int) ≤ (xs.length : Nat)) && decide (((xs.length : Nat) : Int) ≤ (gameOf P pl prs).n)) = true := hr
          rw [Bool.and_eq_true, decide_eq_true_eq, decide_eq_true_eq] at hr
          omega
        have hx4 := hT xs rfl
        have h5 := lc_map (v := 8) (ds := xs) (el := calD g_is_entry_form (consV (getM 8) (pur []))) (mi := itemsT (getM 3)) (ρ := [some (.fz (prD P)), some (.fz (.int pl)), some (.fz (.tup (iD prs))), some (.fz (.tup xs)), some (.fz (.lst ((flatJ P).map plD))), none, none, none, none, none]) (ρ1 := [some (.fz (prD P)), some (.fz (.int pl)), some (.fz (.tup (iD prs))), some (.fz (.tup xs)), some (.fz (.lst ((flatJ P).map plD))), none, none, none, none, none]) (fun d => .bl (formB d)) (by simp) (by simp) (by simp) (Nat.le_trans (by omega) szLine) (fun d hd => by
          have := fun ρ : Ly.Env => callR1 (ρ := ρ) (p_is_entry_form d)
          simp [this])
        have e2 : xs.map (fun d => D.bl (formB d)) = (xs.map formB).map .bl := by rw [List.map_map]; rfl
        rw [e2] at h5
        have e3 := allC_bls (l := xs.map formB)
        have e4 : (xs.map formB).all id = xs.all formB := by rw [List.all_map]; rfl
        rw [e4] at e3
        have eJ : judgedB (gameOf P pl prs) (.tup xs) = (xs.all formB && (List.range (gameOf P pl prs).n).all (okAt (gameOf P pl prs) fun w => (xs.map dec).getD w none)) := by
          show (decide (xs.length = (gameOf P pl prs).n) && _) = _
          rw [decide_eq_true hn, Bool.true_and]
        rw [eJ]
        generalize (xs.map formB).map D.bl = L at *
        cases hf : xs.all formB with
        | false =>
          rw [hf] at e3
          unfold m_is_price_sheet
          generalize (flatJ P).map plD = fl at *
          simp [h0, h1, hfl, hrow, hr, h5, e3]
        | true =>
          rw [hf] at e3
          have hd := dec_all hf
          obtain ⟨x5, x6, x7, h6⟩ := right_loop hG (prD P) (xs.map dec) (by rw [List.length_map]; exact hn)
          rw [hd] at h6
          unfold bodyR at h6
          have h6 : forL _ _ (enumD ((flatJ P).map plD)) [some (.fz (prD P)), some (.fz (.int pl)), some (.fz (.tup (iD prs))), some (.fz (.tup xs)), some (.fz (.lst ((flatJ P).map plD))), none, none, none, none, none] = .ok _ [some (.fz (prD P)), some (.fz (.int pl)), some (.fz (.tup (iD prs))), some (.fz (.tup xs)), some (.fz (.lst ((flatJ P).map plD))), slo x5, slo x6, slo x7, none, none] := h6
          generalize (List.range (gameOf P pl prs).n).all (okAt (gameOf P pl prs) fun w => (xs.map dec).getD w none) = b at *
          unfold m_is_price_sheet
          generalize (flatJ P).map plD = fl at *
          cases b <;> simp at h6 <;> simp [h0, h1, hfl, hrow, hr, h5, e3, h6]
      | _ => cases hr
    · have hr : rowB (gameOf P pl prs).n (gameOf P pl prs).n T = false := by simpa using hr
      have ej : judgedB (gameOf P pl prs) T = false := by
        cases T with
        | tup xs =>
          show (decide (xs.length = (gameOf P pl prs).n) && _) = false
          have : xs.length ≠ (gameOf P pl prs).n := fun e => by
            rw [rowB_in (by omega) (by omega)] at hr
            cases hr
          rw [decide_eq_false this, Bool.false_and]
        | _ => rfl
      rw [ej]
      unfold m_is_price_sheet
      generalize (flatJ P).map plD = fl at *
      simp [h0, h1, hfl, hrow, hr]
  exact sem_rt (ds := [prD P, .int pl, .tup (iD prs), T]) hh
end Wk

set_option Elab.async false
set_option linter.all false
set_option maxRecDepth 100000
set_option maxHeartbeats 2000000
namespace Wk
open PySem L2 Ly
/-! ### what is drawn is a program -/
theorem foldl_starts : ∀ (szs acc : List Nat), acc ≠ [] → szs.foldl (fun acc z => acc ++ [acc.getLastD 0 + z]) acc = acc ++ (List.range szs.length).map fun k => acc.getLastD 0 + (szs.take (k + 1)).sum
  | [], acc, _ => by simp
  | z :: szs, acc, h => by
    rw [List.foldl_cons, foldl_starts szs _ (by simp)]
    have el : (acc ++ [acc.getLastD 0 + z]).getLastD 0 = acc.getLastD 0 + z := by rw [List.getLastD_eq_getLast?, List.getLast?_append]; simp
    rw [el, List.length_cons, List.range_succ_eq_map, List.map_cons, List.map_map, List.append_assoc]
    congr 1
    rw [List.singleton_append]
    congr 1
    · refine List.map_congr_left fun k _ => ?_
      simp only [Function.comp, List.take_succ_cons, List.sum_cons]
      omega
theorem starts_sum {szs : List Nat} {k : Nat} (h : k ≤ szs.length) : (startsOf szs)[k]? = some (szs.take k).sum := by
  unfold startsOf
  rw [foldl_starts szs [0] (by simp)]
  cases k with
  | zero => simp
  | succ k =>
    rw [List.singleton_append, List.getElem?_cons_succ, List.getElem?_map, List.getElem?_range (by omega)]
    simp
theorem take_sum_succ {l : List Nat} {k z : Nat} (h : l[k]? = some z) : (l.take (k + 1)).sum = (l.take k).sum + z := by
  rw [List.take_succ, h]
  simp
theorem take_sum_le (l : List Nat) (k : Nat) : (l.take k).sum ≤ l.sum := by
  have : (l.take k).sum + (l.drop k).sum = l.sum := by rw [← List.sum_append, List.take_append_drop]
  omega
theorem nexts_in {ns : List Int} {lo size : Nat} (hs : 0 < size) : ∀ (n : Nat) (acc : List Nat) (s : Js), acc.Nodup → (∀ w ∈ acc, lo ≤ w ∧ w < lo + size) →
    (nextsJ ns lo size n acc s).1.Nodup ∧ (∀ w ∈ (nextsJ ns lo size n acc s).1, lo ≤ w ∧ w < lo + size) ∧ (nextsJ ns lo size n acc s).1.length ≤ acc.length + n ∧ (acc ≠ [] ∨ 0 < n → (nextsJ ns lo size n acc s).1 ≠ [])
  | 0, acc, s, h1, h2 => ⟨h1, h2, Nat.le_refl _, fun h => h.elim id fun h => absurd h (Nat.lt_irrefl 0)⟩
  | n + 1, acc, s, h1, h2 => by
    have ht := tk_lt (ns := ns) hs s
    have key : (stepN ns lo size acc s).1.Nodup ∧ (∀ w ∈ (stepN ns lo size acc s).1, lo ≤ w ∧ w < lo + size) ∧ (stepN ns lo size acc s).1.length ≤ acc.length + 1 ∧ (stepN ns lo size acc s).1 ≠ [] := by
      unfold stepN
      by_cases hm : lo + (tk ns size s).1 ∈ acc
      · simp only [if_pos hm]
        exact ⟨h1, h2, by omega, fun e => by rw [e] at hm; cases hm⟩
      · simp only [if_neg hm]
        refine ⟨?_, fun w hw => ?_, by simp, by simp⟩
        · rw [List.nodup_append]
          exact ⟨h1, List.nodup_cons.mpr ⟨List.not_mem_nil, List.nodup_nil⟩, fun a ha b hb => by rw [List.mem_singleton.mp hb]; intro e; exact hm (e ▸ ha)⟩
        · rcases List.mem_append.mp hw with hw | hw
          · exact h2 w hw
          · rw [List.mem_singleton.mp hw]; omega
    obtain ⟨i1, i2, i3, i4⟩ := nexts_in hs n (stepN ns lo size acc s).1 (stepN ns lo size acc s).2 key.1 key.2.1
    refine ⟨i1, i2, ?_, fun _ => i4 (.inl key.2.2.2)⟩
    show (nextsJ ns lo size n (stepN ns lo size acc s).1 (stepN ns lo size acc s).2).1.length ≤ acc.length + (n + 1)
    have := key.2.2.1
    omega
theorem q_lt {cs st : List Nat} {pl : Nat} (h : 0 < cs.length) : qOf cs st pl < cs.length := by
  unfold qOf
  cases e : ((List.range cs.length).filter fun k => decide (st.getD k 0 ≤ pl)).max? with
  | none => exact h
  | some m =>
    have := (max_iff.mp e).1
    exact List.mem_range.mp (List.mem_filter.mp this).1
theorem what_in {ns : List Int} {szs : List Nat} (h1 : szs.length ≤ 3) (h0 : 0 < szs.length) (h2 : ∀ z ∈ szs, 0 < z ∧ z ≤ 100) {p : Nat} (hp : p < szs.length) (s : Js) :
    WhIn szs.sum (szs.take p).sum (szs.take (p + 1)).sum (whatJ ns (szs.map fun _ => 1) (startsOf szs) p s).1 := by
  obtain ⟨z, hz⟩ : ∃ z, szs[p]? = some z := ⟨_, List.getElem?_eq_getElem hp⟩
  have hz2 := h2 z (List.mem_of_getElem? hz)
  have e1 : (startsOf szs).getD p 0 = (szs.take p).sum := by rw [List.getD_eq_getElem?_getD, starts_sum (by omega)]; rfl
  have e2 : (startsOf szs).getD (p + 1) 0 = (szs.take (p + 1)).sum := by rw [List.getD_eq_getElem?_getD, starts_sum (by omega)]; rfl
  have e3 := take_sum_succ hz
  have e4 : ∀ q, q < szs.length → (szs.map fun _ => 1).getD q 0 = 1 := fun q hq => by rw [List.getD_eq_getElem?_getD, List.getElem?_map, List.getElem?_eq_getElem hq]; rfl
  have e5 : (startsOf szs).getLastD 0 = szs.sum := by
    have := (starts_get szs [0] (by simp) h2 (fun p lo hi q1 q2 => by simp at q2) (fun x hx => by rw [List.mem_singleton.mp hx]; exact Nat.zero_le _)).2.2.2
    simpa [startsOf] using this
  have e6 := take_sum_le szs (p + 1)
  unfold whatJ
  simp only [e1, e2, e4 p hp, e5]
  have esz : (szs.take (p + 1)).sum - (szs.take p).sum = z := by omega
  rw [esz]
  generalize (szs.take p).sum = lo at *
  split
  · rename_i hsh
    have t3 := tk_lt (ns := ns) (many := 3) (by decide) (tk ns 7 s).2
    obtain ⟨i1, i2, i3, i4⟩ := nexts_in (ns := ns) (lo := lo) hz2.1 (1 + (tk ns 3 (tk ns 7 s).2).1) [] (tk ns 3 (tk ns 7 s).2).2 List.nodup_nil (fun w hw => by cases hw)
    refine ⟨?_, i4 (.inr (by omega)), ?_, i1, fun w hw => ?_⟩
    · have := tk_lt (ns := ns) (many := 2) (by decide) (nextsJ ns lo z (1 + (tk ns 3 (tk ns 7 s).2).1) [] (tk ns 3 (tk ns 7 s).2).2).2
      omega
    · simp only [List.length_nil, Nat.zero_add] at i3
      omega
    · have := i2 w hw
      omega
  · split
    · have tl := tk_lt (ns := ns) (many := szs.sum) (by omega) (tk ns 7 s).2
      have hq : qOf (szs.map fun _ => 1) (startsOf szs) (tk ns szs.sum (tk ns 7 s).2).1 < szs.length := by
        have := q_lt (cs := szs.map fun _ => 1) (st := startsOf szs) (pl := (tk ns szs.sum (tk ns 7 s).2).1) (by rw [List.length_map]; exact h0)
        rwa [List.length_map] at this
      rw [e4 _ hq]
      have tz := tk_lt (ns := ns) hz2.1 (tk ns szs.sum (tk ns 7 s).2).2
      exact ⟨tl, lo + (tk ns z (tk ns szs.sum (tk ns 7 s).2).2).1, rfl, by omega, by omega⟩
    · have := tk_lt (ns := ns) (many := 1) (by decide) (tk ns 7 s).2
      show (tk ns 1 (tk ns 7 s).2).1 = 0
      omega
theorem mapS_get {α β S : Type} {f : α → S → β × S} : ∀ {l : List α} {s : S} {p : Nat} {y : β}, (mapS f l s).1[p]? = some y → ∃ a s', l[p]? = some a ∧ y = (f a s').1
  | [], s, p, y, h => by simp [mapS] at h
  | a :: l, s, 0, y, h => by
    simp only [mapS, List.getElem?_cons_zero] at h
    cases h
    exact ⟨a, s, rfl, rfl⟩
  | a :: l, s, p + 1, y, h => by
    simp only [mapS, List.getElem?_cons_succ] at h
    obtain ⟨b, s', h1, h2⟩ := mapS_get h
    exact ⟨b, s', h1, h2⟩
theorem prog_lens {ns : List Int} {cs szs mks : List Nat} (s : Js) : ((progJ ns cs szs mks s).1.map fun e => e.2.2.length) = szs := by
  refine List.ext_getElem? fun p => ?_
  rw [List.getElem?_map]
  cases e : (progJ ns cs szs mks s).1[p]? with
  | none =>
    have h1 := List.getElem?_eq_none_iff.mp e
    have : (progJ ns cs szs mks s).1.length = szs.length := by unfold progJ; rw [mapS_len, List.length_range]
    rw [List.getElem?_eq_none (by omega)]
    rfl
  | some en =>
    obtain ⟨a, s', h1, h2⟩ := mapS_get e
    have hp : p < szs.length := by
      have := (List.getElem?_eq_some_iff.mp h1).1
      rwa [List.length_range] at this
    rw [List.getElem?_range hp] at h1
    cases h1
    subst h2
    show some (mapS _ (List.range (szs.getD p 0)) s').1.length = _
    rw [mapS_len, List.length_range, List.getD_eq_getElem?_getD, List.getElem?_eq_getElem hp]
    rfl
theorem single_ok {ns : List Int} {most : Nat} (hm : 0 < most) (hm2 : most ≤ 100) (s : Js) : ProgOk (singleJ ns most s).1 := by
  obtain ⟨h1, h0, h2⟩ := sizes_ok (ns := ns) hm s
  have h2' : ∀ z ∈ (sizesJ ns most s).1, 0 < z ∧ z ≤ 100 := fun z hz => ⟨(h2 z hz).1, Nat.le_trans (h2 z hz).2 hm2⟩
  unfold singleJ
  simp only
  have ta := tk_lt (ns := ns) (many := 10) (by decide) (sizesJ ns most s).2
  have tb := tk_lt (ns := ns) (many := 10) (by decide) (tk ns 10 (sizesJ ns most s).2).2
  generalize (tk ns 10 (tk ns 10 (sizesJ ns most s).2).2).2 = s4 at *
  generalize (tk ns 10 (tk ns 10 (sizesJ ns most s).2).2).1 = mb at *
  generalize (tk ns 10 (sizesJ ns most s).2).1 = ma at *
  generalize (sizesJ ns most s).1 = szs at *
  have hl := prog_lens (ns := ns) (cs := szs.map fun _ => 1) (szs := szs) (mks := [ma, mb]) s4
  have hlen : (progJ ns (szs.map fun _ => 1) szs [ma, mb] s4).1.length = szs.length := by rw [← List.length_map (f := fun e : En => e.2.2.length), hl]
  refine ⟨by omega, by omega, fun p e he => ?_⟩
  have hp : p < szs.length := by have := (List.getElem?_eq_some_iff.mp he).1; omega
  rw [flat_len, hl]
  obtain ⟨a, s', g1, g2⟩ := mapS_get he
  rw [List.getElem?_range hp] at g1
  cases g1
  obtain ⟨z, hz⟩ : ∃ z, szs[p]? = some z := ⟨_, List.getElem?_eq_getElem hp⟩
  have hz2 := h2' z (List.mem_of_getElem? hz)
  have ez : szs.getD p 0 = z := by rw [List.getD_eq_getElem?_getD, hz]; rfl
  have e1 : (szs.map fun _ => 1).getD p 0 = 1 := by rw [List.getD_eq_getElem?_getD, List.getElem?_map, hz]; rfl
  have e3 := take_sum_succ hz
  have e6 := take_sum_le szs (p + 1)
  subst g2
  refine ⟨_, (szs.take p).sum, (szs.take (p + 1)).sum, tk_lt (ns := ns) (many := 26) (by decide) _, rfl, e1, ?_, ?_, starts_sum (by omega), starts_sum (by omega), by omega, e6, fun x hx => ?_⟩
  · show 0 < (mapS _ (List.range (szs.getD p 0)) s').1.length
    rw [mapS_len, List.length_range, ez]; exact hz2.1
  · show (mapS _ (List.range (szs.getD p 0)) s').1.length ≤ 100
    rw [mapS_len, List.length_range, ez]; exact hz2.2
  · obtain ⟨i, hi⟩ := List.mem_iff_getElem?.mp hx
    obtain ⟨b, s2, _, g4⟩ := mapS_get hi
    subst g4
    refine ⟨?_, what_in h1 h0 h2' hp _⟩
    show ([ma, mb] : List Nat).getD (tk ns [ma, mb].length s2).1 0 ≤ 9
    have tm := tk_lt (ns := ns) (many := [ma, mb].length) (by simp) s2
    generalize (tk ns [ma, mb].length s2).1 = k at tm
    match k, tm with
    | 0, _ => show ma ≤ 9; omega
    | 1, _ => show mb ≤ 9; omega
/-- the prices drawn -/
theorem prices_ok {ns : List Int} (n : Nat) (s : Js) : PrsOk n (pricesJ ns n s).1 := by
  unfold pricesJ
  exact ⟨by rw [mapS_len, List.length_range], mapS_all (P := fun p => p ≤ 1000000000000) (fun a s => priceJ_le s) _ _⟩
/-- the sheet, stretched -/
def strE (times shift : Nat) : Ent → Ent
  | none => none
  | some p => some (p.1, times * p.2 + shift)
theorem getD_map_range {α : Type} {n v : Nat} {f : Nat → Option α} : ((List.range n).map f).getD v none = if v < n then f v else none := by
  rw [List.getD_eq_getElem?_getD, List.getElem?_map]
  by_cases h : v < n
  · rw [List.getElem?_range h, if_pos h]; rfl
  · rw [List.getElem?_eq_none (by rw [List.length_range]; omega), if_neg h]; rfl
theorem Game.both {G : Game} (hG : G.Ok) : Both G.n G.pl G.pr G.wh (fun t v => (G.costs t).getD v none) (fun t v => ((G.sheets (G.costs (G.n + 1)) t).getD v none).map (·.2)) where
  R := by
    refine ⟨fun v hv => ?_, fun v => ?_, fun t v x hv => ?_⟩
    · obtain ⟨x, p, hx, _⟩ := hG.get hv
      have : G.wh v = x.2 := by unfold Game.wh; rw [hx]; rfl
      rw [this]
      exact hG.wh v x hx
    · show (List.replicate G.n none).getD v none = none
      rw [List.getD_eq_getElem?_getD]
      by_cases h : v < G.n
      · rw [List.getElem?_replicate_of_lt h]; rfl
      · rw [List.getElem?_eq_none (by rw [List.length_replicate]; omega)]; rfl
    · have ok : WhOk G.n (G.wh v) := by
        obtain ⟨x, p, hx, _⟩ := hG.get hv
        have : G.wh v = x.2 := by unfold Game.wh; rw [hx]; rfl
        rw [this]
        exact hG.wh v x hx
      show ((G.stepC (G.costs t)).getD v none) = some x ↔ _
      unfold Game.stepC
      rw [getD_map_range, if_pos hv]
      have h := price_iff (pl := G.pl) (pr := G.pr v) (sh := fun w => zeroE ((G.costs t).getD w none)) ok x
      have e : (fun w => (zeroE ((G.costs t).getD w none)).map (·.1)) = fun w => (G.costs t).getD w none := by
        funext w
        cases (G.costs t).getD w none <;> rfl
      rw [e] at h
      rw [← h]
      unfold Game.at_
      cases priceAt G.pl (G.pr v) (fun w => zeroE ((G.costs t).getD w none)) (G.wh v) with
      | none => simp
      | some p =>
        constructor
        · intro h; cases h; exact ⟨p.2, rfl⟩
        · rintro ⟨l, h⟩; cases h; rfl
  z := fun v => by
    have : (G.sheets (G.costs (G.n + 1)) 0).getD v none = none := by
      show (List.replicate G.n none).getD v none = none
      rw [List.getD_eq_getElem?_getD]
      by_cases h : v < G.n
      · rw [List.getElem?_replicate_of_lt h]; rfl
      · rw [List.getElem?_eq_none (by rw [List.length_replicate]; omega)]; rfl
    simp only [this]
    rfl
  s := fun t v k hv => by
    have ok : WhOk G.n (G.wh v) := by
      obtain ⟨x, p, hx, _⟩ := hG.get hv
      have : G.wh v = x.2 := by unfold Game.wh; rw [hx]; rfl
      rw [this]
      exact hG.wh v x hx
    show ((G.stepS (G.costs (G.n + 1)) (G.sheets (G.costs (G.n + 1)) t)).getD v none).map (·.2) = some k ↔ _
    unfold Game.stepS
    rw [getD_map_range, if_pos hv]
    unfold Game.rnd
    cases e : (G.costs (G.n + 1)).getD v none with
    | none => simp
    | some c =>
      simp only [Option.some.injEq]
      constructor
      · intro h
        cases e2 : rounded G.pl (G.pr v) c (fun w => (G.costs (G.n + 1)).getD w none) (fun w => (G.sheets (G.costs (G.n + 1)) t).getD w none) (G.wh v) with
        | none => rw [e2] at h; cases h
        | some p =>
          rw [e2] at h
          cases h
          obtain ⟨h1, h2⟩ := (rounded_iff ok p.1 p.2).mp e2
          exact ⟨c, rfl, h2⟩
      · rintro ⟨x, rfl, h2⟩
        rw [(rounded_iff ok c k).mpr ⟨rfl, h2⟩]
        rfl
theorem sheet_right {G : Game} (hG : G.Ok) {times : Nat} (ht : 0 < times) (shift : Nat) : judgedB G (.tup ((G.sheet.map (strE times shift)).map eD)) = true := by
  have hl : G.sheet.length = G.n := G.sheets_len _ _
  have hd : ((G.sheet.map (strE times shift)).map eD).map dec = G.sheet.map (strE times shift) := by
    rw [List.map_map]
    conv => rhs; rw [← List.map_id (G.sheet.map (strE times shift))]
    refine List.map_congr_left fun e _ => ?_
    cases e with
    | none => rfl
    | some p => rfl
  show (decide (((G.sheet.map (strE times shift)).map eD).length = G.n) && (((G.sheet.map (strE times shift)).map eD).all formB && (List.range G.n).all (okAt G fun w => (((G.sheet.map (strE times shift)).map eD).map dec).getD w none))) = true
  rw [hd, decide_eq_true (by rw [List.length_map, List.length_map, hl]), Bool.true_and, Bool.and_eq_true]
  refine ⟨?_, ?_⟩
  · rw [List.all_eq_true]
    intro d hd
    obtain ⟨e, _, rfl⟩ := List.mem_map.mp hd
    cases e with
    | none => rfl
    | some p =>
      show (nnB (.int (p.1 : Nat)) && nnB (.int (p.2 : Nat))) = true
      have : ∀ k : Nat, nnB (.int (k : Nat)) = true := fun k => by
        show decide ((0 : Int) ≤ (k : Nat)) = true
        exact decide_eq_true (Int.natCast_nonneg k)
      rw [this, this]; rfl
  · rw [List.all_eq_true]
    intro v hv
    have hv := List.mem_range.mp hv
    have B := G.both hG
    unfold okAt Game.at_
    refine B.right (f := fun k => times * k + shift) (fun a b h => ?_) (fun w hw => ?_) hv
    · have : times * (a + 1) ≤ times * b := Nat.mul_le_mul_left _ h
      rw [Nat.mul_add] at this
      show times * a + shift < times * b + shift
      omega
    · have e0 : (G.sheet.map (strE times shift)).getD w none = strE times shift (G.sheet.getD w none) := by
        rw [List.getD_eq_getElem?_getD, List.getElem?_map, List.getD_eq_getElem?_getD]
        cases G.sheet[w]? <;> rfl
      rw [e0]
      unfold Game.sheet
      cases e : (G.sheets (G.costs (G.n + 1)) (G.n + 1)).getD w none with
      | none =>
        simp only [Option.map_none]
        cases (G.costs (G.n + 1)).getD w none <;> rfl
      | some p =>
        have e1 : (G.sheets (G.costs (G.n + 1)) (G.n + 1)).getD w none = G.rnd (G.costs (G.n + 1)) (G.sheets (G.costs (G.n + 1)) G.n) w := by
          show (G.stepS _ _).getD w none = _
          unfold Game.stepS
          rw [getD_map_range, if_pos hw]
        rw [e1] at e
        unfold Game.rnd at e
        cases ec : (G.costs (G.n + 1)).getD w none with
        | none => rw [ec] at e; cases e
        | some c =>
          rw [ec] at e
          have ok : WhOk G.n (G.wh w) := by
            obtain ⟨x, p, hx, _⟩ := hG.get hw
            have : G.wh w = x.2 := by unfold Game.wh; rw [hx]; rfl
            rw [this]
            exact hG.wh w x hx
          obtain ⟨h1, _⟩ := (rounded_iff (x := p.1) (k := p.2) ok).mp e
          simp only [Option.map_some]
          show some (p.1, times * p.2 + shift) = some (c, times * p.2 + shift)
          rw [h1]
end Wk

set_option Elab.async false
set_option linter.all false
set_option maxRecDepth 100000
set_option maxHeartbeats 4000000
namespace Wk
open PySem L2 Ly
/-! ### _law_bent: it gives a tuple -/
theorem sliceD_tup {xs : List D} {lo hi : Option Int} : sliceD (.tup xs) lo hi = some (.tup (cutL xs lo hi)) := Eq.trans rfl rfl
theorem addD_tup {a b : List D} (h : a.length + b.length ≤ 4000000) : addD (.tup a) (.tup b) = some (.tup (a ++ b)) := by
  show (if a.length + b.length ≤ sizeLine then some (D.tup _) else none) = _
  rw [if_pos (Nat.le_trans h szLine)]
theorem addD_lst {a b : List D} (h : a.length + b.length ≤ 4000000) : addD (.lst a) (.lst b) = some (.lst (a ++ b)) := by
  show (if a.length + b.length ≤ sizeLine then some (D.lst _) else none) = _
  rw [if_pos (Nat.le_trans h szLine)]
theorem step_get {k : Nat} (hk : k < 4) : ∃ z : Int, ([D.int 1, D.int (-1), D.int (-2), D.int 1000000000000] : List D)[k]? = some (.int z) := by
  match k, hk with
  | 0, _ => exact ⟨_, rfl⟩
  | 1, _ => exact ⟨_, rfl⟩
  | 2, _ => exact ⟨_, rfl⟩
  | 3, _ => exact ⟨_, rfl⟩
theorem p_bent {ns : List Int} (h63 : ns.length ≤ 63) {sh : List Ent} (h0 : 0 < sh.length) (h1 : sh.length ≤ 1000) (s : Js) : ∃ xs s', xs.length ≤ 4000 ∧
    g_law_bent [.mu (jD ns s), .val (.tup (sh.map eD))] = some (.ok (.fz (.tup xs)), [.mu (jD ns s'), .val (.tup (sh.map eD))]) := by
  have hlen : (sh.map eD).length = sh.length := List.length_map ..
  have tv := tk_lt (ns := ns) h0 s
  obtain ⟨e, he⟩ : ∃ e, sh[(tk ns sh.length s).1]? = some e := ⟨_, List.getElem?_eq_getElem tv⟩
  have hx : (sh.map eD)[(tk ns sh.length s).1]? = some (eD e) := by rw [List.getElem?_map, he]; rfl
  have hc : ∀ lo hi, (cutL (sh.map eD) lo hi).length ≤ 1000 := fun lo hi => by have := cutL_len (sh.map eD) lo hi; omega
  have hadd : ∀ lo hi lo' hi' w, addD (.tup (cutL (sh.map eD) lo hi)) (.tup [w]) = some (.tup (cutL (sh.map eD) lo hi ++ [w])) ∧ addD (.tup (cutL (sh.map eD) lo hi ++ [w])) (.tup (cutL (sh.map eD) lo' hi')) = some (.tup ((cutL (sh.map eD) lo hi ++ [w]) ++ cutL (sh.map eD) lo' hi')) := fun lo hi lo' hi' w => by
    have a1 := hc lo hi
    have a2 := hc lo' hi'
    exact ⟨addD_tup (by simp; omega), addD_tup (by simp; omega)⟩
  have hfin : ∀ lo hi lo' hi' w, ((cutL (sh.map eD) lo hi ++ [w]) ++ cutL (sh.map eD) lo' hi').length ≤ 4000 := fun lo hi lo' hi' w => by
    have a1 := hc lo hi
    have a2 := hc lo' hi'
    simp
    omega
  suffices ∃ xs s', xs.length ≤ 4000 ∧ ∀ a, ∃ ρ', m_law_bent [some (.pr a (jD ns s)), some (.fz (.tup (sh.map eD))), none, none, none, none, none, none] = .ok (.rt (.fz (.tup xs))) ρ' ∧ ρ'[0]? = some (some (.pr a (jD ns s'))) by
    obtain ⟨xs, s', h, q⟩ := this
    exact ⟨xs, s', h, sem_mu (ds := [.tup (sh.map eD)]) fun a => q a⟩
  have f0 := fun a => takeR h63 a (many := sh.length) (sh.length : Nat) rfl h0 (by omega) s
  generalize tk ns sh.length s = r0 at *
  obtain ⟨v, s1⟩ := r0
  simp only at f0 tv he hx
  generalize sh.map eD = L at *
  cases e with
  | none =>
    have f1 := fun a => takeR h63 a (many := 5) 5 rfl (by decide) (by decide) s1
    generalize tk ns 5 s1 = r1 at *
    obtain ⟨k1, s2⟩ := r1
    have f2 := fun a => takeR h63 a (many := 5) 5 rfl (by decide) (by decide) s2
    generalize tk ns 5 s2 = r2 at *
    obtain ⟨k2, s3⟩ := r2
    simp only at f1 f2
    refine ⟨_, s3, hfin none (some (v : Int)) (some ((v : Int) + 1)) none (.tup [.int (k1 : Nat), .int (k2 : Nat)]), fun a => ?_⟩
    have g0 := f0 a
    have g1 := f1 a
    have g2 := f2 a
    obtain ⟨q1, q2⟩ := hadd none (some (v : Int)) (some ((v : Int) + 1)) none (.tup [.int (k1 : Nat), .int (k2 : Nat)])
    have hx : L[v]? = some .non := hx
    unfold m_law_bent
    simp [hlen, g0, setCK, hx, g1, g2, sliceD_tup, q1, q2]
  | some p =>
    obtain ⟨pa, pb⟩ := p
    have hx : L[v]? = some (.tup [.int (pa : Nat), .int (pb : Nat)]) := hx
    have f1 := fun a => takeR h63 a (many := 4) 4 rfl (by decide) (by decide) s1
    have t1 := tk_lt (ns := ns) (many := 4) (by decide) s1
    generalize tk ns 4 s1 = r1 at *
    obtain ⟨k1, s2⟩ := r1
    have f2 := fun a => takeR h63 a (many := 6) 6 rfl (by decide) (by decide) s2
    generalize tk ns 6 s2 = r2 at *
    obtain ⟨k2, s3⟩ := r2
    have f3 := fun a => takeR h63 a (many := 11) 11 rfl (by decide) (by decide) s3
    have t3 := tk_lt (ns := ns) (many := 11) (by decide) s3
    generalize tk ns 11 s3 = r3 at *
    obtain ⟨k3, s4⟩ := r3
    simp only at f1 f2 f3 t1 t3
    obtain ⟨z, hz⟩ := step_get t1
    obtain ⟨w, hw⟩ : ∃ w, ([.non, .tup [.int (pa + z), .int pb], .tup [.int pa, .int (pb + z)], .tup [.int pa, .int 0], .tup [.int pa, .int k2], .tup [.int pa], .lst [.int pa, .int pb], .tup [.int pa, .bl true], .tup [.int pa, .non], .tup [.int pb, .int pa], .int pa] : List D)[k3]? = some w := ⟨_, List.getElem?_eq_getElem (by simpa using t3)⟩
    refine ⟨_, s4, hfin none (some (v : Int)) (some ((v : Int) + 1)) none w, fun a => ?_⟩
    have g0 := f0 a
    have g1 := f1 a
    have g2 := f2 a
    have g3 := f3 a
    obtain ⟨q1, q2⟩ := hadd none (some (v : Int)) (some ((v : Int) + 1)) none w
    have ha : addD (.lst [.non, .tup [.int (pa + z), .int pb], .tup [.int pa, .int (pb + z)], .tup [.int pa, .int 0], .tup [.int pa, .int k2], .tup [.int pa], .lst [.int pa, .int pb]]) (.lst [.tup [.int pa, .bl true], .tup [.int pa, .non], .tup [.int pb, .int pa], .int pa]) = some (.lst ([.non, .tup [.int (pa + z), .int pb], .tup [.int pa, .int (pb + z)], .tup [.int pa, .int 0], .tup [.int pa, .int k2], .tup [.int pa], .lst [.int pa, .int pb], .tup [.int pa, .bl true], .tup [.int pa, .non], .tup [.int pb, .int pa], .int pa] : List D)) := addD_lst (by simp)
    generalize hW : ([.non, .tup [.int (pa + z), .int pb], .tup [.int pa, .int (pb + z)], .tup [.int pa, .int 0], .tup [.int pa, .int k2], .tup [.int pa], .lst [.int pa, .int pb], .tup [.int pa, .bl true], .tup [.int pa, .non], .tup [.int pb, .int pa], .int pa] : List D) = W at *
    have hWl : W.length = 11 := by rw [← hW]; rfl
    unfold m_law_bent
    simp [hlen, g0, setCK, hx, pow12, g1, hz, g2, ha, hWl, g3, hw, sliceD_tup, q1, q2]
end Wk

set_option Elab.async false
set_option linter.all false
set_option maxRecDepth 100000
set_option maxHeartbeats 4000000
namespace Wk
open PySem L2 Ly
/-! ### the law -/
theorem callO {g : FSem} {z : D} {ns : List Int} {s s' : Js} {r : Ret} (h : g [.mu (jD ns s), .val z] = some (.ok r, [.mu (jD ns s'), .val z])) (ρ : Ly.Env) (hc : contK ρ[1]? = some (jD ns s)) : callR g [.s 1, .v z] ρ = .ok r (setCK (jD ns s') 1 ρ) := callRs1 hc h
theorem ProgOk.npos {P : List En} (h : ProgOk P) : 0 < (flatJ P).length := by
  obtain ⟨r, lo, hi, _, _, _, _, _, _, _, h7, h8, _⟩ := h.ent 0 (P[0]'h.pos) (List.getElem?_eq_getElem h.pos)
  omega
noncomputable def bodyB : M Fl := (seqS (asgM (calD g_law_bent (consS 1 (consV (getM 9) (pur [])))) (putM 11)) (seqS (asgM (calD g_law_judged (consV (getM 4) (consV (getM 5) (consV (getM 6) (consV (getM 11) (pur [])))))) (putM 12)) (seqS (iteS (notT (tst (calD (g_law_same 1) (consV (calD g_is_price_sheet (consV (getM 3) (consV (getM 5) (consV (getM 6) (consV (getM 11) (pur [])))))) (consV (getM 12) (pur [])))))) (seqS (retM (pur (.bl false))) (pur .nx)) (pur .nx)) (pur .nx))))
noncomputable def bodyO : M Fl := (seqS (iteS (tst (Ly.bin isnbO (calD g_is_price_sheet (consV (getM 3) (consV (getM 5) (consV (getM 6) (consV (getM 13) (pur [])))))) (pur (.bl false)))) (seqS (retM (pur (.bl false))) (pur .nx)) (pur .nx)) (pur .nx))
section
variable {ns : List Int} (h63 : ns.length ≤ 63) (x0 : D) {P : List En} (hP : ProgOk P) {pl : Nat} (hpl : pl ≤ 1) {prs : List Nat} (hp : PrsOk (flatJ P).length prs)
def EL (ns : List Int) (x0 : D) (P : List En) (pl : Nat) (prs : List Nat) (x2 x7 x8 : Option D) (S : D) (s : Js) (x10 x11 x12 x13 : Option D) : Ly.Env := [some (.fz x0), some (.ow (jD ns s)), slo x2, some (.fz (prD P)), some (.fz (.lst ((flatJ P).map plD))), some (.fz (.int pl)), some (.fz (.tup (iD prs))), slo x7, slo x8, some (.fz S), slo x10, slo x11, slo x12, slo x13, none]
include h63 hP hpl hp in
theorem loopB (x2 x7 x8 : Option D) (sh : List Ent) (hsh : sh.length = (flatJ P).length) (s : Js) (x10 x11 x12 x13 : Option D) (ds : List D) :
    ∃ s' y10 y11 y12, forL (putM 10) bodyB ds (EL ns x0 P pl prs x2 x7 x8 (.tup (sh.map eD)) s x10 x11 x12 x13) = .ok .nx (EL ns x0 P pl prs x2 x7 x8 (.tup (sh.map eD)) s' y10 y11 y12 x13) := by
  obtain ⟨ρ', ⟨s', y10, y11, y12, rfl⟩, h⟩ := for_go (ds := ds) (g := putM 10) (b := bodyB) (fun ρ => ∃ s y10 y11 y12, ρ = EL ns x0 P pl prs x2 x7 x8 (.tup (sh.map eD)) s y10 y11 y12 x13) (fun d hd ρ ⟨s, y10, y11, y12, e⟩ => by
    subst e
    have hsm := hP.small
    have hpos := hP.npos
    obtain ⟨xs, s2, hx, hb⟩ := p_bent h63 (sh := sh) (by omega) (by omega) s
    have h1 := fun ρ q => callO (ρ := ρ) hb q
    have hG := hP.game (pl := pl) hp.len
    have h2 := fun ρ : Ly.Env => callR4 (ρ := ρ) (p_judged hG (.tup xs))
    have h3 := fun ρ : Ly.Env => callR4 (ρ := ρ) (p_is_price_sheet hP hpl hp (.tup xs) (fun ys e => by cases e; exact hx))
    have h4 := fun ρ : Ly.Env => callR2 (ρ := ρ) (p_same_bl (judgedB (gameOf P pl prs) (.tup xs)) (judgedB (gameOf P pl prs) (.tup xs)))
    have h2 : ∀ ρ : Ly.Env, callR g_law_judged [.v (.lst ((flatJ P).map plD)), .v (.int pl), .v (.tup (iD prs)), .v (.tup xs)] ρ = .ok (.fz (.bl (judgedB (gameOf P pl prs) (.tup xs)))) ρ := h2
    generalize judgedB (gameOf P pl prs) (.tup xs) = b at *
    refine ⟨_, ⟨s2, some d, some (.tup xs), some (.bl b), rfl⟩, ?_⟩
    unfold bodyB EL
    generalize (flatJ P).map plD = fl at *
    generalize sh.map eD = L at *
    simp [h1, setCK, h2, h3, h4]) (ρ := EL ns x0 P pl prs x2 x7 x8 (.tup (sh.map eD)) s x10 x11 x12 x13) ⟨s, x10, x11, x12, rfl⟩
  exact ⟨s', y10, y11, y12, h⟩
include hP hpl hp in
theorem loopO (x2 x7 x8 : Option D) (S : D) (s : Js) (x10 x11 x12 x13 : Option D) (ds : List D) (hds : ∀ d ∈ ds, judgedB (gameOf P pl prs) d = false ∧ ∀ xs, d = .tup xs → xs.length ≤ 4000) :
    ∃ y13, forL (putM 13) bodyO ds (EL ns x0 P pl prs x2 x7 x8 S s x10 x11 x12 x13) = .ok .nx (EL ns x0 P pl prs x2 x7 x8 S s x10 x11 x12 y13) := by
  obtain ⟨ρ', ⟨y13, rfl⟩, h⟩ := for_go (ds := ds) (g := putM 13) (b := bodyO) (fun ρ => ∃ y13, ρ = EL ns x0 P pl prs x2 x7 x8 S s x10 x11 x12 y13) (fun d hd ρ ⟨y13, e⟩ => by
    subst e
    obtain ⟨q1, q2⟩ := hds d hd
    have h3 := fun ρ : Ly.Env => callR4 (ρ := ρ) (p_is_price_sheet hP hpl hp d q2)
    rw [q1] at h3
    refine ⟨_, ⟨some d, rfl⟩, ?_⟩
    unfold bodyO EL
    generalize (flatJ P).map plD = fl at *
    simp [h3]) (ρ := EL ns x0 P pl prs x2 x7 x8 S s x10 x11 x12 x13) ⟨x13, rfl⟩
  exact ⟨y13, h⟩
end
theorem odd_ok {G : Game} {L : List D} (hL : L.length = G.n) (h0 : 0 < G.n) (h1 : G.n ≤ 1000) : ∀ d ∈ ([.lst L, .tup (L ++ [.non]), .tup (cutL L (some 1) none), .non, .int 0] : List D), judgedB G d = false ∧ ∀ xs, d = .tup xs → xs.length ≤ 4000 := by
  have key : ∀ xs : List D, xs.length ≠ G.n → judgedB G (.tup xs) = false := fun xs h => by
    show (decide (xs.length = G.n) && _) = false
    rw [decide_eq_false h, Bool.false_and]
  have hcut : (cutL L (some 1) none).length < G.n := by
    unfold cutL
    have e : HT.sIx L.length 0 (some ((1 : Nat) : Int)) = min 1 L.length := HT.sIx_nat _ _ _
    have e : HT.sIx L.length 0 (some 1) = min 1 L.length := e
    rw [e, List.length_take, List.length_drop]
    omega
  intro d hd
  simp only [List.mem_cons, List.not_mem_nil, or_false] at hd
  rcases hd with rfl | rfl | rfl | rfl | rfl
  · exact ⟨rfl, fun xs e => by cases e⟩
  · exact ⟨key _ (by simp; omega), fun xs e => by cases e; simp; omega⟩
  · exact ⟨key _ (by omega), fun xs e => by cases e; omega⟩
  · exact ⟨rfl, fun xs e => by cases e⟩
  · exact ⟨rfl, fun xs e => by cases e⟩
theorem str_map (k k2 : Nat) (sh : List Ent) : ((sh.map eD).map fun d => match d with
    | .tup [.int a, .int b] => D.tup [.int a, .int ((1 + (k : Int)) * b + (k2 : Int))]
    | _ => .non) = (sh.map (strE (1 + k) k2)).map eD := by
  rw [List.map_map, List.map_map]
  refine List.map_congr_left fun e _ => ?_
  cases e with
  | none => rfl
  | some p =>
    show D.tup [.int (p.1 : Nat), .int ((1 + (k : Int)) * ((p.2 : Nat) : Int) + (k2 : Int))] = D.tup [.int (p.1 : Nat), .int (((1 + k) * p.2 + k2 : Nat) : Int)]
    have : ((1 + (k : Int)) * ((p.2 : Nat) : Int) + (k2 : Int)) = (((1 + k) * p.2 + k2 : Nat) : Int) := by push_cast; rfl
    rw [this]
noncomputable def bodyL : M Fl := (seqS (asgM (calD g_law_single (consS 1 (consV (pur (.int 6)) (pur [])))) (putM 3)) (seqS (asgM (calD g_law_flat (consV (getM 3) (pur []))) (putM 4)) (seqS (asgM (calD g_law_take (consS 1 (consV (pur (.int 2)) (pur [])))) (putM 5)) (seqS (asgM (calD g_law_prices (consS 1 (consV (calM lenC (consM (getM 4) (pur []))) (pur [])))) (putM 6)) (seqS (asgM (Ly.bin addD (pur (.int 1)) (calD g_law_take (consS 1 (consV (pur (.int 4)) (pur []))))) (putM 7)) (seqS (asgM (calD g_law_take (consS 1 (consV (pur (.int 3)) (pur [])))) (putM 8)) (seqS (asgM (calD g_law_sheet (consV (getM 4) (consV (getM 5) (consV (getM 6) (pur []))))) (putM 9)) (seqS (asgM (calM tupleC (consM (frzM (lcO [14] (itemsT (getM 9)) (putM 14) (pur true) (ifE (tst (Ly.bin isO (getM 14) (pur .non))) (pur .non) (tupM (consM (ixM 14 (pur (.int 0))) (consM (Ly.bin addD (Ly.bin mulD (getM 7) (ixM 14 (pur (.int 1)))) (getM 8)) (pur []))))))) (pur []))) (putM 9)) (seqS (iteS (tst (Ly.bin isnbO (calD g_is_price_sheet (consV (getM 3) (consV (getM 5) (consV (getM 6) (consV (getM 9) (pur [])))))) (pur (.bl true)))) (seqS (retM (pur (.bl false))) (pur .nx)) (pur .nx)) (seqS (Ly.forM (rng1 (consM (pur (.int 6)) (pur []))) (putM 10) bodyB) (seqS (Ly.forM (itemsT (tupM (consM (calM listC (consM (getM 9) (pur []))) (consM (Ly.bin addD (getM 9) (tupM (consM (pur .non) (pur [])))) (consM (slM (getM 9) (partM (pur (.int 1))) (pur none)) (consM (pur .non) (consM (pur (.int 0)) (pur [])))))))) (putM 13) bodyO) (pur .nx))))))))))))
theorem takeO {ns : List Int} (h63 : ns.length ≤ 63) {many : Nat} (z : Int) (hz : z = (many : Nat)) (h1 : 0 < many) (h2 : many ≤ 2 ^ 60) (s : Js) (ρ : Ly.Env) (hc : contK ρ[1]? = some (jD ns s)) : callR g_law_take [.s 1, .v (.int z)] ρ = .ok (.fz (.int ((tk ns many s).1 : Nat))) (setCK (jD ns (tk ns many s).2) 1 ρ) := by
  subst hz
  exact callO (p_take h63 s h1 h2) ρ hc
theorem law_step {ns : List Int} (h63 : ns.length ≤ 63) (x0 d : D) (s : Js) (x2 x3 x4 x5 x6 x7 x8 x9 x10 x11 x12 x13 : Option D) :
    ∃ s' y3 y4 y5 y6 y7 y8 y9 y10 y11 y12 y13, bndR (putM 2 d [some (.fz x0), some (.ow (jD ns s)), slo x2, slo x3, slo x4, slo x5, slo x6, slo x7, slo x8, slo x9, slo x10, slo x11, slo x12, slo x13, none]) (fun _ => bodyL) =
      .ok .nx [some (.fz x0), some (.ow (jD ns s')), slo (some d), slo y3, slo y4, slo y5, slo y6, slo y7, slo y8, slo y9, slo y10, slo y11, slo y12, slo y13, none] := by
  have c1 := fun ρ q => callO (z := .int 6) (ρ := ρ) (p_single h63 (most := 6) (by decide) (by decide) s) q
  have hP := single_ok (ns := ns) (most := 6) (by decide) (by decide) s
  generalize singleJ ns 6 s = r1 at *
  obtain ⟨P, s1⟩ := r1
  simp only at c1 hP
  have hsm := hP.small
  have hnp := hP.npos
  have hf := hP.few
  have c2 := fun ρ : Ly.Env => callR1 (ρ := ρ) (p_flat P (fun e he => by
    obtain ⟨p, hp⟩ := List.mem_iff_getElem?.mp he
    obtain ⟨r, lo, hi, _, _, _, _, q5, _⟩ := hP.ent p e hp
    omega) (by omega))
  have c3 := takeO h63 (many := 2) 2 rfl (by decide) (by decide) s1
  have t3 := tk_lt (ns := ns) (many := 2) (by decide) s1
  generalize tk ns 2 s1 = r3 at *
  obtain ⟨pl, s2⟩ := r3
  have hfl : ((flatJ P).map plD).length = (flatJ P).length := List.length_map ..
  have c4 := fun ρ q => callO (ρ := ρ) (p_prices h63 (many := (flatJ P).length) (by omega) s2) q
  have hp := prices_ok (ns := ns) (flatJ P).length s2
  generalize pricesJ ns (flatJ P).length s2 = r4 at *
  obtain ⟨prs, s3⟩ := r4
  have c5 := takeO h63 (many := 4) 4 rfl (by decide) (by decide) s3
  have t5 := tk_lt (ns := ns) (many := 4) (by decide) s3
  generalize tk ns 4 s3 = r5 at *
  obtain ⟨k, s4⟩ := r5
  have c6 := takeO h63 (many := 3) 3 rfl (by decide) (by decide) s4
  generalize tk ns 3 s4 = r6 at *
  obtain ⟨k2, s5⟩ := r6
  simp only at c3 t3 c4 hp c5 t5 c6
  have hpl : pl ≤ 1 := by omega
  have hG := hP.game (pl := pl) hp.len
  have c7 := fun ρ : Ly.Env => callR3 (ρ := ρ) (p_sheet hG)
  have c7 : ∀ ρ : Ly.Env, callR g_law_sheet [.v (.lst ((flatJ P).map plD)), .v (.int pl), .v (.tup (iD prs))] ρ = .ok (.fz (.tup ((gameOf P pl prs).sheet.map eD))) ρ := c7
  have hsl : (gameOf P pl prs).sheet.length = (flatJ P).length := Game.sheets_len _ _ _
  have c8 := lc_map (v := 14) (ds := (gameOf P pl prs).sheet.map eD) (el := ifE (tst (Ly.bin isO (getM 14) (pur .non))) (pur .non) (tupM (consM (ixM 14 (pur (.int 0))) (consM (Ly.bin addD (Ly.bin mulD (getM 7) (ixM 14 (pur (.int 1)))) (getM 8)) (pur []))))) (mi := itemsT (getM 9))
    (ρ := EL ns x0 P pl prs (some d) (some (.int (1 + (k : Int)))) (some (.int (k2 : Nat))) (.tup ((gameOf P pl prs).sheet.map eD)) s5 x10 x11 x12 x13) (ρ1 := EL ns x0 P pl prs (some d) (some (.int (1 + (k : Int)))) (some (.int (k2 : Nat))) (.tup ((gameOf P pl prs).sheet.map eD)) s5 x10 x11 x12 x13) (fun d => match d with
    | .tup [.int a, .int b] => D.tup [.int a, .int ((1 + (k : Int)) * b + (k2 : Int))]
    | _ => .non) (by simp [EL]) (by simp [EL]) (by simp [EL]) (by rw [List.length_map, hsl]; exact Nat.le_trans (by omega) szLine) (fun d hd => by
    obtain ⟨e, he, rfl⟩ := List.mem_map.mp hd
    cases e with
    | none => simp [EL, eD]
    | some p =>
      have hm : ∀ z : Int, cMul (1 + (k : Int)) z = true := fun z => cMul_l (by omega)
      simp [EL, eD, hm])
  rw [str_map] at c8
  have c9 := fun ρ : Ly.Env => callR4 (ρ := ρ) (p_is_price_sheet hP hpl hp (.tup (((gameOf P pl prs).sheet.map (strE (1 + k) k2)).map eD)) (fun xs e => by cases e; rw [List.length_map, List.length_map, hsl]; omega))
  rw [sheet_right hG (by omega)] at c9
  have hsl2 : ((gameOf P pl prs).sheet.map (strE (1 + k) k2)).length = (flatJ P).length := by rw [List.length_map, hsl]
  generalize (gameOf P pl prs).sheet.map (strE (1 + k) k2) = sh2 at *
  obtain ⟨s6, y10, y11, y12, c10⟩ := loopB h63 x0 hP hpl hp (some d) (some (.int (1 + (k : Int)))) (some (.int (k2 : Nat))) sh2 hsl2 s5 x10 x11 x12 x13 (rangeD 0 6)
  have hl2 : (sh2.map eD).length = (gameOf P pl prs).n := by rw [List.length_map, hsl2]; rfl
  obtain ⟨y13, c11⟩ := loopO (ns := ns) x0 hP hpl hp (some d) (some (.int (1 + (k : Int)))) (some (.int (k2 : Nat))) (.tup (sh2.map eD)) s6 y10 y11 y12 x13 _ (odd_ok hl2 hnp (by show (flatJ P).length ≤ 1000; omega))
  have ha : addD (.tup (sh2.map eD)) (.tup [.non]) = some (.tup (sh2.map eD ++ [.non])) := addD_tup (by rw [List.length_map, hsl2]; simp; omega)
  have ok6 : okR 6 = true := okR_of (by omega) (by omega)
  refine ⟨s6, some (prD P), some (.lst ((flatJ P).map plD)), some (.int pl), some (.tup (iD prs)), some (.int (1 + (k : Int))), some (.int (k2 : Nat)), some (.tup (sh2.map eD)), y10, y11, y12, y13, ?_⟩
  unfold EL at c8 c10 c11
  unfold bodyL
  generalize bodyB = bB at *
  generalize bodyO = bO at *
  generalize (flatJ P).map plD = fl at *
  generalize sh2.map eD = L2 at *
  generalize (gameOf P pl prs).sheet.map eD = L1 at *
  simp only [slo_some] at c8 c10 c11
  simp [c1, setCK, c2, c3, hfl, c4, c5, c6, c7, c8, c9, c10, ok6, ha, sliceD_tup, c11]
theorem plain82 (ns : List Int) (h63 : ns.length ≤ 63) : ∃ as', g_law [.val (.lck (ns.map .int))] = some (.ok (.fz (.bl true)), as') := by
  have h0 := fun ρ : Ly.Env => callR1 (ρ := ρ) (p_jug ns)
  have hm : ∃ k : Nat, (if (7 : Int) < (ns.length : Nat) then (7 : Int) else (ns.length : Nat)) = (k : Nat) ∧ k ≤ 63 := by
    by_cases h : (7 : Int) < (ns.length : Nat)
    · exact ⟨7, by rw [if_pos h]; rfl, by omega⟩
    · exact ⟨ns.length, by rw [if_neg h], h63⟩
  obtain ⟨k, hk, hk2⟩ := hm
  have okk : okR (1 + (k : Int)) = true := okR_of (by omega) (by omega)
  obtain ⟨ρ', ⟨s, x2, x3, x4, x5, x6, x7, x8, x9, x10, x11, x12, x13, rfl⟩, h1⟩ := for_go (ds := rangeD 0 (1 + (k : Int)).toNat) (g := putM 2) (b := bodyL) (fun ρ => ∃ s x2 x3 x4 x5 x6 x7 x8 x9 x10 x11 x12 x13, ρ = [some (.fz (.lck (ns.map .int))), some (.ow (jD ns s)), slo x2, slo x3, slo x4, slo x5, slo x6, slo x7, slo x8, slo x9, slo x10, slo x11, slo x12, slo x13, none])
    (fun d hd ρ ⟨s, x2, x3, x4, x5, x6, x7, x8, x9, x10, x11, x12, x13, e⟩ => by
      subst e
      obtain ⟨s', y3, y4, y5, y6, y7, y8, y9, y10, y11, y12, y13, h⟩ := law_step h63 (.lck (ns.map .int)) d s x2 x3 x4 x5 x6 x7 x8 x9 x10 x11 x12 x13
      exact ⟨_, ⟨s', some d, y3, y4, y5, y6, y7, y8, y9, y10, y11, y12, y13, rfl⟩, h⟩) (ρ := [some (.fz (.lck (ns.map .int))), some (.ow (jD ns (0, 0))), none, none, none, none, none, none, none, none, none, none, none, none, none]) ⟨(0, 0), none, none, none, none, none, none, none, none, none, none, none, none, rfl⟩
  refine ⟨_, sem_rt (ds := [.lck (ns.map .int)]) (r := .fz (.bl true)) (ρ' := [some (.fz (.lck (ns.map .int))), some (.ow (jD ns s)), slo x2, slo x3, slo x4, slo x5, slo x6, slo x7, slo x8, slo x9, slo x10, slo x11, slo x12, slo x13, none]) ?_⟩
  show m_law [some (.fz (.lck (ns.map .int))), none, none, none, none, none, none, none, none, none, none, none, none, none, none] = _
  unfold bodyL bodyB bodyO at h1
  unfold m_law
  have hl : (ns.map D.int).length = ns.length := List.length_map ..
  generalize ns.map D.int = xs at *
  simp [calO, h0, hl, hk, okk, h1]
end Wk

set_option Elab.async false
set_option linter.all false
set_option maxRecDepth 100000
set_option maxHeartbeats 0
namespace Wk
open PySem PySem.Spec PyProof.Rows L2 Ly
def PlainLaw : Prop := ∀ ns : List Int, ns.length ≤ 63 → ∃ as', g_law [.val (.lck (ns.map .int))] = some (.ok (.fz (.bl true)), as')
theorem facts {w : World} {K : PySem.W.Frag} {h : Heap} {mg : Str → Option Value} {f : Addr} (X : K.In h) (G : h.Ns mainGlobals mg) (hfa : mg ("law" : Str) = some (.ref f)) (c : He.SaysX Hd.faL Hd.fnL [] [] Hd.exB w h K) :
    ∃ fd : FuncData, (∀ (s : Shared) (v : Value), BindsTo s fd ⟨[v], []⟩ [("script", v)]) ∧ ∀ (P : Program) (base : Heap), FnOk P w K mg base CX0 10 f fd ["script"] (spF K 1 g_law) := by
  have g : Gd Hd.faL Hd.fnL Hd.exB K mg := ⟨c.more, c.t.d, h, X, G⟩
  obtain ⟨fd, b, F⟩ := k_law g
  have e := hfa.symm.trans (g.glo 36 (x := "law"))
  cases e
  exact ⟨fd, fun s v => b s [v] rfl, fun P base => F P w base⟩
end Wk
open PySem PySem.W PySem.Calls PyProof.Rows
theorem law_holds82 (hp : Wk.PlainLaw) : PySem.Challenge.rw_callgames_k82_price_sheets_judged.Holds := by
  w_on; o_law
  refine HandSHeadRun.head_any (r := OpenLaw.row PySem.Challenge.rw_callgames_k82_price_sheets_judged) (q := view (OpenLaw.row PySem.Challenge.rw_callgames_k82_price_sheets_judged).prog [57]) (H := Hd.hk) (ob := Hd.ob) (M := 3000) (loose := Hd.looseL) (d := HandSHeadRun.topDef (OpenLaw.row PySem.Challenge.rw_callgames_k82_price_sheets_judged).prog 57) (kwd := []) Hd.ob_eq
    (by kernel_rfl) (fun s => by kernel_rfl) Hd.run (by kernel_rfl) (by kernel_rfl) (by kernel_rfl) (by rfl) (by first | assumption | decide +kernel) (by decide +kernel) ⟨rfl, rfl, rfl, rfl, rfl, by decide +kernel⟩ ?hw ?hc
  case hw => w_witness2
  case hc =>
    refine L2.walk_ofE (l := PySem.Challenge.rw_callgames_k82_price_sheets_judged) (n := 63) (k := 10) (x := "script") (CX := L2.CX0) rfl (by decide) (by kernel_rfl) ⟨rfl, by decide, by decide⟩ ?F (fun _ _ _ _ z => z)
    intro w mg fa h Y G hmg0
    obtain ⟨K, KX, c⟩ := Y
    have hmg : mg ("law" : PySem.Str) = some (.ref fa) := by
      have e : (HandSHeadRun.topDef (OpenLaw.row PySem.Challenge.rw_callgames_k82_price_sheets_judged).prog 57).name = ("law" : PySem.Str) := by kernel_rfl
      rw [← e]
      exact hmg0
    obtain ⟨fd, hb, hF⟩ := Wk.facts KX G hmg c
    refine ⟨K, fd, Ly.spF K 1 Wk.g_law, KX, hb, ?_, fun base _ _ => hF _ base⟩
    intro H a ns hl _ hS
    obtain ⟨as', e⟩ := hp ns hl
    exact Ly.law_sp e hS

set_option maxRecDepth 100000
set_option maxHeartbeats 0
theorem PySem.Challenge.cw_callgames_k82_price_sheets_judged_holds : PySem.Challenge.rw_callgames_k82_price_sheets_judged.Holds :=
  law_holds82 Wk.plain82

