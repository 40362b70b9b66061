import PyProof.Rows.All
import Wide.All
import OpenK.AllK
import Wide.FinOn
import HandS.ForMost
import HandS.ForExc
import HandS.Wide
import HandS.TupAny
import HandS.IsInst
import HandS.SortInts
import HandS.Conv
import HandS.Style
import HandS.Zip
import HandS.Rev
import HandS.TupLe
import PySem.Challenge.RW_lotshown_k38_whole_numbers_that_are_sold
set_option Elab.async false
set_option linter.all false
set_option maxRecDepth 100000
set_option maxHeartbeats 4000000
namespace DL
open PySem L2

/-! ## data, and what represents it -/
/-- pure data -/
inductive D where
  | non | bl (b : Bool) | int (i : Int) | str (x : Str) | tup (ds : List D) | lst (ds : List D) | dic (ks : List Key) (ds : List D) | scr (ns : List Int)

/-- H' knows all that H knows -/
abbrev Ex (H H' : Hp) : Prop := ∀ a o, H a = some o → H' a = some o
theorem Ex.rfl' (H : Hp) : Ex H H := fun _ _ h => h
theorem Ex.tr {H H1 H2 : Hp} (a : Ex H H1) (b : Ex H1 H2) : Ex H H2 := fun x o h => b x o (a x o h)
theorem Ex.new {H : Hp} {p : Addr} {o : HO} (h : H p = none) : Ex H (upd H p o) := fun a u e => by
  rw [upd_ne (ne_of_none e h)]; exact e
theorem Ex.free {H H' : Hp} (e : Ex H H') {p : Addr} (h : H' p = none) : H p = none := by
  cases h1 : H p with
  | none => rfl
  | some o => rw [e p o h1] at h; cases h
theorem ex_rd {H H' : Hp} {a : Addr} {u : HO} (e : Ex H H') (h : Rd H a u) : Rd H' a u := by
  rcases h with h | ⟨o, h⟩
  · exact Or.inl (e a _ h)
  · exact Or.inr ⟨o, e a _ h⟩
theorem ex_l {K : PySem.W.Frag} {H H' : Hp} {a : Addr} {xs : List V} (e : Ex H H') (h : SqL K H a xs) : SqL K H' a xs := by
  rcases h with h | h
  · exact Or.inl (ex_rd e h)
  · exact Or.inr h
theorem ex_t {K : PySem.W.Frag} {H H' : Hp} {a : Addr} {xs : List V} (e : Ex H H') (h : SqT K H a xs) : SqT K H' a xs := by
  rcases h with h | h
  · exact Or.inl (ex_rd e h)
  · exact Or.inr h

mutual
inductive Rep (K : PySem.W.Frag) (G : Hp) : V → D → Prop
  | non : Rep K G .non .non
  | bl (b : Bool) : Rep K G (.bl b) (.bl b)
  | int (i : Int) : Rep K G (.int i) (.int i)
  | str (x : Str) : Rep K G (.str x) (.str x)
  | tup {a : Addr} {vs : List V} {ds : List D} : SqT K G a vs → Reps K G vs ds → Rep K G (.ref a) (.tup ds)
  | lst {a : Addr} {vs : List V} {ds : List D} : G a = some (.lst vs) → Reps K G vs ds → Rep K G (.ref a) (.lst ds)
  | dic {a : Addr} {kvs : List (Key × V)} {ks : List Key} {ds : List D} : G a = some (.dK kvs) → kvs.map (·.1) = ks → Reps K G (kvs.map (·.2)) ds → Rep K G (.ref a) (.dic ks ds)
  | scr {a : Addr} {ns : List Int} : SqL K G a (ns.map V.int) → Rep K G (.ref a) (.scr ns)
inductive Reps (K : PySem.W.Frag) (G : Hp) : List V → List D → Prop
  | nil : Reps K G [] []
  | cons {v : V} {vs : List V} {d : D} {ds : List D} : Rep K G v d → Reps K G vs ds → Reps K G (v :: vs) (d :: ds)
end

section
variable {K : PySem.W.Frag} {G G' H H' : Hp}
mutual
theorem Rep.mono (e : Ex G G') : ∀ (d : D) {v : V}, Rep K G v d → Rep K G' v d
  | .non, _, h => by cases h; exact .non
  | .bl b, _, h => by cases h; exact .bl b
  | .int i, _, h => by cases h; exact .int i
  | .str x, _, h => by cases h; exact .str x
  | .tup ds, _, h => by cases h with | tup a b => exact .tup (ex_t e a) (Reps.mono e ds b)
  | .lst ds, _, h => by cases h with | lst a b => exact .lst (e _ _ a) (Reps.mono e ds b)
  | .dic ks ds, _, h => by cases h with | dic a b c => exact .dic (e _ _ a) b (Reps.mono e ds c)
  | .scr ns, _, h => by cases h with | scr a => exact .scr (ex_l e a)
theorem Reps.mono (e : Ex G G') : ∀ (ds : List D) {vs : List V}, Reps K G vs ds → Reps K G' vs ds
  | [], _, h => by cases h; exact .nil
  | d :: ds, _, h => by cases h with | cons a b => exact .cons (Rep.mono e d a) (Reps.mono e ds b)
end
theorem Rep.up (e : Ex G G') {d : D} {v : V} (h : Rep K G v d) : Rep K G' v d := Rep.mono e d h
theorem Reps.up (e : Ex G G') {ds : List D} {vs : List V} (h : Reps K G vs ds) : Reps K G' vs ds := Reps.mono e ds h
theorem Reps.len : ∀ {ds : List D} {vs : List V}, Reps K G vs ds → vs.length = ds.length
  | [], _, h => by cases h; rfl
  | d :: ds, _, h => by cases h with | cons a b => exact congrArg (· + 1) (Reps.len b)
theorem Reps.get : ∀ {ds : List D} {vs : List V}, Reps K G vs ds → ∀ {i : Nat} {v : V}, vs[i]? = some v → ∃ d, ds[i]? = some d ∧ Rep K G v d
  | [], _, h, i, v, e => by cases h; simp at e
  | d :: ds, _, h, i, v, e => by
    cases h with
    | cons a b =>
      cases i with
      | zero => simp at e; subst e; exact ⟨d, rfl, a⟩
      | succ i => simpa using Reps.get b (by simpa using e)
theorem Reps.get' : ∀ {ds : List D} {vs : List V}, Reps K G vs ds → ∀ {i : Nat} {d : D}, ds[i]? = some d → ∃ v, vs[i]? = some v ∧ Rep K G v d
  | [], _, h, i, v, e => by cases h; simp at e
  | d :: ds, _, h, i, v, e => by
    cases h with
    | cons a b =>
      cases i with
      | zero => simp at e; subst e; exact ⟨_, rfl, a⟩
      | succ i => simpa using Reps.get' b (by simpa using e)
theorem Reps.append : ∀ {ds es : List D} {vs us : List V}, Reps K G vs ds → Reps K G us es → Reps K G (vs ++ us) (ds ++ es)
  | [], _, _, _, h, q => by cases h; exact q
  | d :: ds, _, _, _, h, q => by cases h with | cons a b => exact .cons a (Reps.append b q)
theorem Reps.take : ∀ {ds : List D} {vs : List V} (n : Nat), Reps K G vs ds → Reps K G (vs.take n) (ds.take n)
  | _, _, 0, _ => .nil
  | [], _, n + 1, h => by cases h; exact .nil
  | d :: ds, _, n + 1, h => by cases h with | cons a b => exact .cons a (Reps.take n b)
theorem Reps.drop : ∀ {ds : List D} {vs : List V} (n : Nat), Reps K G vs ds → Reps K G (vs.drop n) (ds.drop n)
  | _, _, 0, h => h
  | [], _, n + 1, h => by cases h; exact .nil
  | d :: ds, _, n + 1, h => by cases h with | cons a b => exact Reps.drop n b
theorem Reps.set : ∀ {ds : List D} {vs : List V} (n : Nat) {v : V} {d : D}, Reps K G vs ds → Rep K G v d → Reps K G (vs.set n v) (ds.set n d)
  | [], _, n, _, _, h, _ => by cases h; exact .nil
  | d :: ds, _, 0, _, _, h, q => by cases h with | cons a b => exact .cons q b
  | d :: ds, _, n + 1, _, _, h, q => by cases h with | cons a b => exact .cons a (Reps.set n b q)
theorem Reps.dropLast : ∀ {ds : List D} {vs : List V}, Reps K G vs ds → Reps K G vs.dropLast ds.dropLast := fun {ds vs} h => by
  rw [List.dropLast_eq_take, List.dropLast_eq_take, h.len]; exact h.take _
theorem Reps.ints : ∀ (ns : List Int), Reps K G (ns.map V.int) (ns.map D.int)
  | [] => .nil
  | n :: ns => .cons (.int n) (Reps.ints ns)
/-- a list of ints, from its representation -/
theorem Reps.vints : ∀ {ns : List Int} {vs : List V}, Reps K G vs (ns.map D.int) → vs = ns.map V.int
  | [], _, h => by cases h; rfl
  | n :: ns, _, h => by
    cases h with
    | cons a b => cases a; rw [Reps.vints b]; rfl
end

/-! ## slots, results -/
inductive Slot where
  /-- not assigned, or nothing is said -/
  | un
  /-- data that never changes -/
  | val (d : D)
  /-- a list (or dict) of the def's own: no one else holds it -/
  | own (d : D)
  /-- .. of the caller's, lent -/
  | io (d : D)
abbrev Env := List Slot
/-- an answer: data, or a new list (or dict) that no one holds yet -/
inductive A where
  | val (d : D) | own (d : D)
def A.d : A → D
  | .val d => d
  | .own d => d
inductive R (α : Type) where
  | ok (a : α) (e : Env) | ex (c : Str) (e : Env) | no
abbrev M (α : Type) := Env → R α
def R.bind {α β : Type} : R α → (α → M β) → R β
  | .ok a e, f => f a e
  | .ex c e, _ => .ex c e
  | .no, _ => .no
def R.map {α β : Type} (g : α → β) : R α → R β
  | .ok a e => .ok (g a) e
  | .ex c e => .ex c e
  | .no => .no

/-- what stands at p, of its owner's -/
def Own (K : PySem.W.Frag) (G H : Hp) (p : Addr) : D → Prop
  | .lst ds => G p = none ∧ ∃ vs, H p = some (.lst vs) ∧ Reps K G vs ds
  | .dic ks ds => G p = none ∧ ∃ kvs : List (Key × V), H p = some (.dK kvs) ∧ kvs.map (·.1) = ks ∧ Reps K G (kvs.map (·.2)) ds
  | _ => False
def isOwn (s : Slot) : Bool := match s with | .own _ => true | .io _ => true | _ => false
def ownAt (σ : St) (env : Env) (p : Addr) : Prop := ∃ (i : Nat) (s : Slot), env[i]? = some s ∧ isOwn s = true ∧ σ[i]? = some (some (.ref p))

def ownN (σ : St) (env : Env) (p : Addr) : Prop := ∃ (i : Nat) (d : D), env[i]? = some (.own d) ∧ σ[i]? = some (some (.ref p))

structure REnv (K : PySem.W.Frag) (G H : Hp) (σ : St) (env : Env) : Prop where
  len : σ.length = env.length
  ex : Ex G H
  val : ∀ (i : Nat) (d : D), env[i]? = some (.val d) → ∃ v, σ[i]? = some (some v) ∧ Rep K G v d
  own : ∀ (i : Nat) (d : D), (env[i]? = some (.own d) ∨ env[i]? = some (.io d)) → ∃ p, σ[i]? = some (some (.ref p)) ∧ Own K G H p d
  dis : ∀ (i j : Nat) (s t : Slot) (p : Addr), env[i]? = some s → isOwn s = true → env[j]? = some t → isOwn t = true → σ[i]? = some (some (.ref p)) → σ[j]? = some (some (.ref p)) → i = j

/-- a step: from σ, env, G, H to σ', env', G', H' -/
structure Tr (σ : St) (env : Env) (G H : Hp) (σ' : St) (env' : Env) (G' H' : Hp) : Prop where
  ex : Ex G G'
  g : ∀ p, G p = none → G' p = none ∨ H p = none ∨ ownAt σ env p
  h : ∀ p o, H p = some o → ownAt σ env p ∨ H' p = some o
  o : ∀ p, ownAt σ' env' p → ownAt σ env p ∨ H p = none
  on : ∀ p, ownN σ' env' p → ownN σ env p ∨ H p = none
  dom : ∀ p, H' p = none → H p = none
  len : σ'.length = σ.length
  io : ∀ (i : Nat) (d : D), env[i]? = some (.io d) → σ'[i]? = σ[i]? ∧ ∃ d', env'[i]? = some (.io d')

section
variable {K : PySem.W.Frag} {G G1 G2 H H1 H2 : Hp} {σ σ1 σ2 : St} {env env1 env2 : Env}
theorem Tr.refl : Tr σ env G H σ env G H := ⟨fun _ _ h => h, fun _ h => .inl h, fun _ _ h => .inr h, fun _ h => .inl h, fun _ h => .inl h, fun _ h => h, rfl, fun _ d h => ⟨rfl, d, h⟩⟩
theorem Tr.trans (a : Tr σ env G H σ1 env1 G1 H1) (b : Tr σ1 env1 G1 H1 σ2 env2 G2 H2) : Tr σ env G H σ2 env2 G2 H2 where
  ex := Ex.tr a.ex b.ex
  g := fun p h => by
    rcases a.g p h with h1 | h1 | h1
    · rcases b.g p h1 with h2 | h2 | h2
      · exact .inl h2
      · exact .inr (.inl (a.dom p h2))
      · rcases a.o p h2 with h3 | h3
        · exact .inr (.inr h3)
        · exact .inr (.inl h3)
    · exact .inr (.inl h1)
    · exact .inr (.inr h1)
  h := fun p o h => by
    rcases a.h p o h with h1 | h1
    · exact .inl h1
    · rcases b.h p o h1 with h2 | h2
      · rcases a.o p h2 with h3 | h3
        · exact .inl h3
        · rw [h3] at h; cases h
      · exact .inr h2
  o := fun p h => by
    rcases b.o p h with h1 | h1
    · exact a.o p h1
    · exact .inr (a.dom p h1)
  on := fun p h => by
    rcases b.on p h with h1 | h1
    · exact a.on p h1
    · exact .inr (a.dom p h1)
  dom := fun p h => a.dom p (b.dom p h)
  len := b.len.trans a.len
  io := fun i d h => by
    obtain ⟨e1, d1, q1⟩ := a.io i d h
    obtain ⟨e2, d2, q2⟩ := b.io i d1 q1
    exact ⟨e2.trans e1, d2, q2⟩
end

/-- the answer's value: v -/
def RA (K : PySem.W.Frag) (σ : St) (env' : Env) (H G' H' : Hp) (v : V) : A → Prop
  | .val d => Rep K G' v d
  | .own d => ∃ p, v = .ref p ∧ H p = none ∧ ¬ ownAt σ env' p ∧ Own K G' H' p d

/-- the reading of an expression that computes f -/
def T (X : Cx) (W : WX) (f : M A) : TE := fun σ H Q => ∃ G env, REnv X.K G H σ env ∧ match f env with
  | .ok a env' => ∀ v G' H', Tr σ env G H σ env' G' H' → REnv X.K G' H' σ env' → RA X.K σ env' H G' H' v a → Q v H'
  | .ex c env' => ∀ cls G' H', X.mg c = some cls → Tr σ env G H σ env' G' H' → REnv X.K G' H' σ env' → W cls none σ H'
  | .no => False
def TD (X : Cx) (W : WX) (f : M D) : TE := fun σ H Q => ∃ G env, REnv X.K G H σ env ∧ match f env with
  | .ok a env' => ∀ v G' H', Tr σ env G H σ env' G' H' → REnv X.K G' H' σ env' → Rep X.K G' v a → Q v H'
  | .ex c env' => ∀ cls G' H', X.mg c = some cls → Tr σ env G H σ env' G' H' → REnv X.K G' H' σ env' → W cls none σ H'
  | .no => False
def TB (X : Cx) (W : WX) (f : M Bool) : TT := fun σ H Q => ∃ G env, REnv X.K G H σ env ∧ match f env with
  | .ok a env' => ∀ G' H', Tr σ env G H σ env' G' H' → REnv X.K G' H' σ env' → Q a H'
  | .ex c env' => ∀ cls G' H', X.mg c = some cls → Tr σ env G H σ env' G' H' → REnv X.K G' H' σ env' → W cls none σ H'
  | .no => False
def TA' (X : Cx) (W : WX) (f : M (List D)) : TA := fun σ H Q => ∃ G env, REnv X.K G H σ env ∧ match f env with
  | .ok a env' => ∀ vs G' H', Tr σ env G H σ env' G' H' → REnv X.K G' H' σ env' → Reps X.K G' vs a → Q vs H'
  | .ex c env' => ∀ cls G' H', X.mg c = some cls → Tr σ env G H σ env' G' H' → REnv X.K G' H' σ env' → W cls none σ H'
  | .no => False
abbrev DE (X : Cx) (W : WX) (e : Expr) (f : M A) : Prop := PE X e (T X W f)
abbrev DV (X : Cx) (W : WX) (e : Expr) (f : M D) : Prop := PE X e (TD X W f)
abbrev DT (X : Cx) (W : WX) (e : Expr) (f : M Bool) : Prop := PT X e (TB X W f)
abbrev DA (X : Cx) (W : WX) (es : List Expr) (f : M (List D)) : Prop := PA X es (TA' X W f)

section
variable {X : Cx} {W : WX} {e : Expr}
theorem _root_.L2.PE.imp {t u : TE} (h : PE X e t) (i : ∀ σ H Q, u σ H Q → t σ H Q) : PE X e u := ⟨fun pins s σ H Q I q => h.run pins s σ H Q I (i σ H Q q)⟩
theorem _root_.L2.PT.imp {t u : TT} (h : PT X e t) (i : ∀ σ H Q, u σ H Q → t σ H Q) : PT X e u := ⟨fun pins s σ H Q I q => h.run pins s σ H Q I (i σ H Q q)⟩
theorem _root_.L2.PA.imp {es : List Expr} {t u : TA} (h : PA X es t) (i : ∀ σ H Q, u σ H Q → t σ H Q) : PA X es u := ⟨fun pos pins s σ H Q I q => h.run pos pins s σ H Q I (i σ H Q q)⟩
end
end DL

namespace DL
open PySem L2

/-! ## general lemmas -/
section
variable {K : PySem.W.Frag} {G G1 G2 G' H H1 H2 H' : Hp} {σ σ1 σ2 σ' : St} {env env1 env2 env' : Env} {p : Addr} {d : D}
theorem Own.there (h : Own K G H p d) : G p = none ∧ ∃ o, H p = some o := by
  cases d with
  | lst ds => obtain ⟨a, vs, b, _⟩ := h; exact ⟨a, _, b⟩
  | dic ks ds => obtain ⟨a, kvs, b, _⟩ := h; exact ⟨a, _, b⟩
  | _ => exact h.elim
theorem Own.up (h : Own K G H p d) (e : Ex G G') (g : G' p = none) (q : H' p = H p) : Own K G' H' p d := by
  cases d with
  | lst ds => obtain ⟨a, vs, b, r⟩ := h; exact ⟨g, vs, q.trans b, r.up e⟩
  | dic ks ds => obtain ⟨a, kvs, b, c, r⟩ := h; exact ⟨g, kvs, q.trans b, c, r.up e⟩
  | _ => exact h.elim
/-- what stood alone is data from now on -/
theorem Own.freeze (h : Own K G H p d) (e : Ex G H) : ∃ o, H p = some o ∧ Rep K (upd G p o) (.ref p) d := by
  have n := h.there.1
  have eg : ∀ o, Ex G (upd G p o) := fun o => Ex.new n
  cases d with
  | lst ds => obtain ⟨a, vs, b, r⟩ := h; exact ⟨_, b, .lst upd_same (r.up (eg _))⟩
  | dic ks ds => obtain ⟨a, kvs, b, c, r⟩ := h; exact ⟨_, b, .dic upd_same c (r.up (eg _))⟩
  | _ => exact h.elim
theorem REnv.oat (r : REnv K G H σ env) (h : DL.ownAt σ env p) : G p = none ∧ ∃ o, H p = some o := by
  obtain ⟨i, s, e, io, es⟩ := h
  cases s with
  | own d =>
    obtain ⟨q, e1, o⟩ := r.own i d (.inl e)
    rw [es] at e1; cases e1; exact o.there
  | io d =>
    obtain ⟨q, e1, o⟩ := r.own i d (.inr e)
    rw [es] at e1; cases e1; exact o.there
  | un => cases io
  | val d => cases io
/-- a step that changes no object -/
structure PTr (G H G' H' : Hp) : Prop where
  g : Ex G G'
  h : Ex H H'
  e : Ex G' H'
  n : ∀ p, G p = none → G' p = none ∨ H p = none
theorem PTr.refl (e : Ex G H) : PTr G H G H := ⟨fun _ _ h => h, fun _ _ h => h, e, fun _ h => .inl h⟩
/-- a new object that is data at once -/
theorem PTr.new (e : Ex G H) {o : HO} (n : H p = none) : PTr G H (upd G p o) (upd H p o) := by
  have ng : G p = none := Ex.free e n
  refine ⟨Ex.new ng, Ex.new n, fun a u q => ?_, fun a h => ?_⟩
  · by_cases ha : a = p
    · subst ha; rw [upd_same] at q ⊢; exact q
    · rw [upd_ne ha] at q ⊢; exact e a u q
  · by_cases ha : a = p
    · subst ha; exact .inr n
    · rw [upd_ne ha]; exact .inl h
/-- a new object of its maker's -/
theorem PTr.made (e : Ex G H) {o : HO} (n : H p = none) : PTr G H G (upd H p o) :=
  ⟨fun _ _ h => h, Ex.new n, fun a u q => by rw [upd_ne (ne_of_none (e a u q) n)]; exact e a u q, fun _ h => .inl h⟩
theorem PTr.trans (a : PTr G H G1 H1) (b : PTr G1 H1 G2 H2) : PTr G H G2 H2 :=
  ⟨Ex.tr a.g b.g, Ex.tr a.h b.h, b.e, fun p h => by
    rcases a.n p h with h | h
    · rcases b.n p h with h | h
      · exact .inl h
      · exact .inr (Ex.free a.h h)
    · exact .inr h⟩
theorem PTr.on (t : PTr G H G' H') (r : REnv K G H σ env) : Tr σ env G H σ env G' H' ∧ REnv K G' H' σ env := by
  refine ⟨⟨t.g, fun p h => ?_, fun p o h => .inr (t.h p o h), fun p h => .inl h, fun p h => .inl h, fun p h => Ex.free t.h h, rfl, fun i d h => ⟨rfl, d, h⟩⟩, ⟨r.len, t.e, fun i d h => ?_, fun i d h => ?_, r.dis⟩⟩
  · rcases t.n p h with h | h
    · exact .inl h
    · exact .inr (.inl h)
  · obtain ⟨v, e, q⟩ := r.val i d h
    exact ⟨v, e, q.up t.g⟩
  · obtain ⟨p, e, o⟩ := r.own i d h
    obtain ⟨n, u, hu⟩ := o.there
    refine ⟨p, e, o.up t.g ?_ (by rw [t.h p u hu, hu])⟩
    rcases t.n p n with h | h
    · exact h
    · rw [h] at hu; cases hu
/-- an answer, new over H -/
def RA0 (K : PySem.W.Frag) (H G' H' : Hp) (v : V) : A → Prop
  | .val d => Rep K G' v d
  | .own d => ∃ p, v = .ref p ∧ H p = none ∧ Own K G' H' p d
theorem RA0.ra {v : V} {a : A} (r : REnv K G H σ env) (q : RA0 K H G' H' v a) : RA K σ env H G' H' v a := by
  cases a with
  | val d => exact q
  | own d =>
    obtain ⟨p, e, n, o⟩ := q
    exact ⟨p, e, n, (fun z => by obtain ⟨_, u, hu⟩ := r.oat z; rw [n] at hu; cases hu), o⟩
/-- the answer is made data -/
theorem RA.freeze {v : V} {a : A} (t : Tr σ env G H σ' env' G' H') (r : REnv K G' H' σ' env') (q : RA K σ' env' H G' H' v a) :
    ∃ G2, Tr σ env G H σ' env' G2 H' ∧ REnv K G2 H' σ' env' ∧ Rep K G2 v a.d := by
  cases a with
  | val d => exact ⟨G', t, r, q⟩
  | own d =>
    obtain ⟨p, rfl, n, no, o⟩ := q
    obtain ⟨u, hu, rp⟩ := o.freeze r.ex
    have ng := o.there.1
    refine ⟨upd G' p u, ⟨Ex.tr t.ex (Ex.new ng), fun b h => ?_, t.h, t.o, t.on, t.dom, t.len, t.io⟩, ⟨r.len, fun b w e => ?_, fun i d h => ?_, fun i d h => ?_, r.dis⟩, rp⟩
    · by_cases hb : b = p
      · subst hb; exact .inr (.inl n)
      · rw [upd_ne hb]; exact t.g b h
    · by_cases hb : b = p
      · subst hb; rw [upd_same] at e; cases e; exact hu
      · rw [upd_ne hb] at e; exact r.ex b w e
    · obtain ⟨w, e, q⟩ := r.val i d h
      exact ⟨w, e, q.up (Ex.new ng)⟩
    · obtain ⟨b, e, o2⟩ := r.own i d h
      have hb : b ≠ p := fun z => by
        subst z
        rcases h with h | h
        · exact no ⟨i, _, h, rfl, e⟩
        · exact no ⟨i, _, h, rfl, e⟩
      exact ⟨b, e, o2.up (Ex.new ng) (by rw [upd_ne hb]; exact o2.there.1) rfl⟩
theorem get_set {α : Type} {l : List α} {i j : Nat} {a b : α} (h : (l.set i a)[j]? = some b) : (j = i ∧ b = a) ∨ (j ≠ i ∧ l[j]? = some b) := by
  by_cases e : j = i
  · subst e
    by_cases hl : j < l.length
    · rw [List.getElem?_set_self hl] at h; exact .inl ⟨rfl, (Option.some.inj h).symm⟩
    · rw [List.getElem?_eq_none (by simpa using Nat.le_of_not_lt hl)] at h; cases h
  · rw [List.getElem?_set_ne (Ne.symm e)] at h; exact .inr ⟨e, h⟩
/-- a slot's own list is made data -/
theorem REnv.freeze (r : REnv K G H σ env) {i : Nat} (h : env[i]? = some (.own d)) :
    ∃ G2 v, σ[i]? = some (some v) ∧ Tr σ env G H σ (env.set i (.val d)) G2 H ∧ REnv K G2 H σ (env.set i (.val d)) ∧ Rep K G2 v d := by
  obtain ⟨p, es, o⟩ := r.own i d (.inl h)
  obtain ⟨u, hu, rp⟩ := o.freeze r.ex
  have ng := o.there.1
  have oa : ownAt σ env p := ⟨i, _, h, rfl, es⟩
  have back : ∀ q, ownAt σ (env.set i (.val d)) q → ownAt σ env q ∧ q ≠ p := fun q ⟨j, s, e, io, e2⟩ => by
    rcases get_set e with ⟨_, rfl⟩ | ⟨ne, e⟩
    · cases io
    · refine ⟨⟨j, s, e, io, e2⟩, fun z => ?_⟩
      subst z
      exact ne (r.dis j i s _ q e io h rfl e2 es)
  refine ⟨upd G p u, .ref p, es, ⟨Ex.new ng, fun b hb => ?_, fun b w e => .inr e, fun q hq => .inl (back q hq).1, fun q ⟨j, e, a1, a2⟩ => .inl ⟨j, e, by rcases get_set a1 with ⟨_, z⟩ | ⟨_, z⟩; cases z; exact z, a2⟩, fun _ e => e, rfl, fun j e hj => ?_⟩, ⟨by rw [List.length_set]; exact r.len, fun b w e => ?_, fun j e hj => ?_, fun j e hj => ?_, fun j k s t q h1 h2 h3 h4 h5 h6 => ?_⟩, rp⟩
  · by_cases e : b = p
    · subst e; exact .inr (.inr oa)
    · rw [upd_ne e]; exact .inl hb
  · refine ⟨rfl, e, ?_⟩
    have ne : i ≠ j := fun z => by subst z; rw [h] at hj; cases hj
    rw [List.getElem?_set_ne ne]; exact hj
  · by_cases hb : b = p
    · subst hb; rw [upd_same] at e; cases e; exact hu
    · rw [upd_ne hb] at e; exact r.ex b w e
  · rcases get_set hj with ⟨rfl, e1⟩ | ⟨ne, e1⟩
    · cases e1; exact ⟨_, es, rp⟩
    · obtain ⟨v, e2, q⟩ := r.val j e e1
      exact ⟨v, e2, q.up (Ex.new ng)⟩
  · have hj' : env[j]? = some (.own e) ∨ env[j]? = some (.io e) := by
      rcases hj with hj | hj
      · rcases get_set hj with ⟨_, e1⟩ | ⟨ne, e1⟩
        · cases e1
        · exact .inl e1
      · rcases get_set hj with ⟨_, e1⟩ | ⟨ne, e1⟩
        · cases e1
        · exact .inr e1
    obtain ⟨b, e2, o2⟩ := r.own j e hj'
    have hb : b ≠ p := by
      rcases hj with hj | hj
      · exact (back b ⟨j, _, hj, rfl, e2⟩).2
      · exact (back b ⟨j, _, hj, rfl, e2⟩).2
    exact ⟨b, e2, o2.up (Ex.new ng) (by rw [upd_ne hb]; exact o2.there.1) rfl⟩
  · rcases get_set h1 with ⟨_, rfl⟩ | ⟨_, e1⟩
    · cases h2
    · rcases get_set h3 with ⟨_, rfl⟩ | ⟨_, e3⟩
      · cases h4
      · exact r.dis j k s t q e1 h2 e3 h4 h5 h6
/-- an object of the slot's own is changed -/
theorem REnv.write (r : REnv K G H σ env) {i : Nat} {s s' : Slot} {o : HO} {d' : D} (h : env[i]? = some s) (hs : (s = .own d ∧ s' = .own d') ∨ (s = .io d ∧ s' = .io d'))
    (es : σ[i]? = some (some (.ref p))) (new : Own K G (upd H p o) p d') : Tr σ env G H σ (env.set i s') G (upd H p o) ∧ REnv K G (upd H p o) σ (env.set i s') := by
  have so : isOwn s = true := by rcases hs with ⟨rfl, _⟩ | ⟨rfl, _⟩ <;> rfl
  have so' : isOwn s' = true := by rcases hs with ⟨_, rfl⟩ | ⟨_, rfl⟩ <;> rfl
  have oa : ownAt σ env p := ⟨i, _, h, so, es⟩
  have ⟨ng, w, hw⟩ := r.oat oa
  have back : ∀ q, ownAt σ (env.set i s') q → ownAt σ env q := fun q ⟨j, t, e, io, e2⟩ => by
    rcases get_set e with ⟨rfl, rfl⟩ | ⟨ne, e⟩
    · rw [es] at e2; cases e2; exact oa
    · exact ⟨j, t, e, io, e2⟩
  refine ⟨⟨fun _ _ e => e, fun b hb => .inl hb, fun b u e => ?_, fun q hq => .inl (back q hq), fun q hq => ?_, fun b e => ?_, rfl, fun j e hj => ?_⟩, ⟨by rw [List.length_set]; exact r.len, fun b u e => ?_, fun j e hj => ?_, fun j e hj => ?_, fun j k t u q h1 h2 h3 h4 h5 h6 => ?_⟩⟩
  · by_cases hb : b = p
    · subst hb; exact .inl oa
    · rw [upd_ne hb]; exact .inr e
  · obtain ⟨j, e, a1, a2⟩ := hq
    rcases get_set a1 with ⟨rfl, z⟩ | ⟨_, z⟩
    · rcases hs with ⟨h1, h2⟩ | ⟨h1, h2⟩
      · exact .inl ⟨j, _, h1 ▸ h, a2⟩
      · rw [h2] at z; cases z
    · exact .inl ⟨j, e, z, a2⟩
  · by_cases hb : b = p
    · subst hb; rw [upd_same] at e; cases e
    · rw [upd_ne hb] at e; exact e
  · refine ⟨rfl, ?_⟩
    by_cases ne : i = j
    · subst ne
      rw [h] at hj; cases hj
      rcases hs with ⟨h1, _⟩ | ⟨h1, h2⟩
      · cases h1
      · refine ⟨d', ?_⟩
        rw [List.getElem?_set_self (List.getElem?_eq_some_iff.mp h).1, h2]
    · exact ⟨e, by rw [List.getElem?_set_ne ne]; exact hj⟩
  · have hb : b ≠ p := fun z => by subst z; rw [ng] at e; cases e
    rw [upd_ne hb]; exact r.ex b u e
  · rcases get_set hj with ⟨rfl, e1⟩ | ⟨ne, e1⟩
    · rw [← e1] at so'; cases so'
    · exact r.val j e e1
  · by_cases ne : j = i
    · subst ne
      have : s' = .own e ∨ s' = .io e := by
        rcases hj with hj | hj
        · rcases get_set hj with ⟨_, e1⟩ | ⟨ne, e1⟩
          · exact .inl e1.symm
          · exact absurd rfl ne
        · rcases get_set hj with ⟨_, e1⟩ | ⟨ne, e1⟩
          · exact .inr e1.symm
          · exact absurd rfl ne
      have ed : e = d' := by
        rcases hs with ⟨_, rfl⟩ | ⟨_, rfl⟩ <;> rcases this with z | z <;> cases z <;> rfl
      subst ed
      exact ⟨p, es, new⟩
    · have hj' : env[j]? = some (.own e) ∨ env[j]? = some (.io e) := by
        rw [List.getElem?_set_ne (Ne.symm ne)] at hj; exact hj
      obtain ⟨b, e2, o2⟩ := r.own j e hj'
      have hb : b ≠ p := fun z => by
        subst z
        rcases hj' with hj' | hj'
        · exact ne (r.dis j i _ s b hj' rfl h so e2 es)
        · exact ne (r.dis j i _ s b hj' rfl h so e2 es)
      exact ⟨b, e2, o2.up (fun _ _ e => e) o2.there.1 (upd_ne hb)⟩
  · have u1 : ∃ s1, env[j]? = some s1 ∧ isOwn s1 = true := by
      rcases get_set h1 with ⟨rfl, _⟩ | ⟨_, e1⟩
      · exact ⟨s, h, so⟩
      · exact ⟨_, e1, h2⟩
    have u2 : ∃ s1, env[k]? = some s1 ∧ isOwn s1 = true := by
      rcases get_set h3 with ⟨rfl, _⟩ | ⟨_, e1⟩
      · exact ⟨s, h, so⟩
      · exact ⟨_, e1, h4⟩
    obtain ⟨s1, a1, b1⟩ := u1
    obtain ⟨s2, a2, b2⟩ := u2
    exact r.dis j k s1 s2 q a1 b1 a2 b2 h5 h6
end
end DL

namespace DL
open PySem L2

/-! ## operands: an expression's data, or a name that is looked at when the operation runs -/
inductive Opd where
  | e (f : M D) | n (i : Nat)
def peek (env : Env) (i : Nat) : Option D := match env[i]? with
  | some (.val d) => some d
  | some (.own d) => some d
  | some (.io d) => some d
  | _ => none
def Opd.pre : Opd → M (Option D)
  | .e f => fun env => (f env).map some
  | .n i => fun env => match peek env i with
    | some _ => .ok none env
    | none => .no
def Opd.fin : Opd → Option D → Env → Option D
  | .e _, o, _ => o
  | .n i, _, env => peek env i

/-- readable now: data, or an owned thing -/
def RepP (K : PySem.W.Frag) (G H : Hp) (v : V) (d : D) : Prop := Rep K G v d ∨ ∃ p, v = .ref p ∧ Own K G H p d
/-- an operand's value -/
def RO (K : PySem.W.Frag) (G : Hp) (σ : St) (v : V) : Opd → Option D → Prop
  | .e _, some d => Rep K G v d
  | .e _, none => False
  | .n i, _ => σ[i]? = some (some v)
def TP (X : Cx) (W : WX) (o : Opd) : TE := fun σ H Q => ∃ G env, REnv X.K G H σ env ∧ match o.pre env with
  | .ok a env' => ∀ v G' H', Tr σ env G H σ env' G' H' → REnv X.K G' H' σ env' → RO X.K G' σ v o a → Q v H'
  | .ex c env' => ∀ cls G' H', X.mg c = some cls → Tr σ env G H σ env' G' H' → REnv X.K G' H' σ env' → W cls none σ H'
  | .no => False
abbrev DO (X : Cx) (W : WX) (e : Expr) (o : Opd) : Prop := PE X e (TP X W o)

section
variable {K : PySem.W.Frag} {G G' H H' : Hp} {σ : St} {env env' : Env} {v : V} {o : Opd} {a : Option D} {d : D}
theorem RO.up (h : RO K G σ v o a) (e : Ex G G') : RO K G' σ v o a := by
  cases o with
  | e f => cases a with
    | none => exact h
    | some d => exact Rep.up e h
  | n i => exact h
theorem peek_rep (r : REnv K G H σ env) {i : Nat} (h : peek env i = some d) (e : σ[i]? = some (some v)) : RepP K G H v d := by
  unfold peek at h
  split at h
  · rename_i d' hd; cases h
    obtain ⟨w, e1, q⟩ := r.val i _ hd
    rw [e] at e1; cases e1; exact .inl q
  · rename_i d' hd; cases h
    obtain ⟨p, e1, q⟩ := r.own i _ (.inl hd)
    rw [e] at e1; cases e1; exact .inr ⟨p, rfl, q⟩
  · rename_i d' hd; cases h
    obtain ⟨p, e1, q⟩ := r.own i _ (.inr hd)
    rw [e] at e1; cases e1; exact .inr ⟨p, rfl, q⟩
  · cases h
theorem peek_slot (r : REnv K G H σ env) {i : Nat} (h : peek env i = some d) : ∃ v, σ[i]? = some (some v) := by
  unfold peek at h
  split at h
  · rename_i d' hd
    obtain ⟨w, e1, q⟩ := r.val i _ hd; exact ⟨_, e1⟩
  · rename_i d' hd
    obtain ⟨p, e1, q⟩ := r.own i _ (.inl hd); exact ⟨_, e1⟩
  · rename_i d' hd
    obtain ⟨p, e1, q⟩ := r.own i _ (.inr hd); exact ⟨_, e1⟩
  · cases h
theorem RO.fin (r : REnv K G H σ env) (h : RO K G σ v o a) (q : o.fin a env = some d) : RepP K G H v d := by
  cases o with
  | e f =>
    have q : a = some d := q
    subst q; exact .inl h
  | n i => exact peek_rep r q h
end

/-! ## the forms -/
def eBin (g : D → D → Option A) (o1 o2 : Opd) : M A := fun env => (o1.pre env).bind fun a env1 => (o2.pre env1).bind fun b env2 =>
  match o1.fin a env2, o2.fin b env2 with
  | some d1, some d2 => (match g d1 d2 with
    | some r => .ok r env2
    | none => .no)
  | _, _ => .no
def eUn (g : D → Option A) (o1 : Opd) : M A := fun env => (o1.pre env).bind fun a env1 =>
  match o1.fin a env1 with
  | some d1 => (match g d1 with
    | some r => .ok r env1
    | none => .no)
  | _ => .no

/-- what an operation by values does, in data -/
def rD2 (K : PySem.W.Frag) (g : D → D → Option A) : R2 := fun x y H Q => ∃ G d1 d2 a, Ex G H ∧ RepP K G H x d1 ∧ RepP K G H y d2 ∧ g d1 d2 = some a ∧
  ∀ v G' H', PTr G H G' H' → RA0 K H G' H' v a → Q v H'
def rD1 (K : PySem.W.Frag) (g : D → Option A) : V → Hp → VK → Prop := fun x H Q => ∃ G d1 a, Ex G H ∧ RepP K G H x d1 ∧ g d1 = some a ∧
  ∀ v G' H', PTr G H G' H' → RA0 K H G' H' v a → Q v H'
/-- what follows an operation -/
theorem op_end {X : Cx} {W : WX} {σ : St} {env env2 : Env} {G H G2 H2 G' H' : Hp} {v : V} {a : A} {Q : VK} (t : Tr σ env G H σ env2 G2 H2) (r : REnv X.K G2 H2 σ env2) (p : PTr G2 H2 G' H') (ra : RA0 X.K H2 G' H' v a)
    (h : ∀ v G' H', Tr σ env G H σ env2 G' H' → REnv X.K G' H' σ env2 → RA X.K σ env2 H G' H' v a → Q v H') : Q v H' := by
  obtain ⟨t', r'⟩ := p.on r
  refine h v G' H' (t.trans t') r' ?_
  have ra' := ra.ra r
  cases a with
  | val d => exact ra'
  | own d =>
    obtain ⟨q, e, n, no, o⟩ := ra'
    exact ⟨q, e, t.dom q n, no, o⟩
theorem T_bin {X : Cx} {W : WX} {g : D → D → Option A} {o1 o2 : Opd} {σ : St} {H : Hp} {Q : VK} (h : T X W (eBin g o1 o2) σ H Q) : tOp (rD2 X.K g) (TP X W o1) (TP X W o2) σ H Q := by
  obtain ⟨G, env, r, h⟩ := h
  refine ⟨G, env, r, ?_⟩
  unfold eBin at h
  cases e1 : o1.pre env with
  | no => rw [e1] at h; exact h
  | ex c env1 => rw [e1] at h; exact h
  | ok a env1 =>
    rw [e1] at h
    intro x G1 H1 t1 r1 ro1
    refine ⟨G1, env1, r1, ?_⟩
    have h : match (o2.pre env1).bind (fun b env2 => match o1.fin a env2, o2.fin b env2 with
      | some d1, some d2 => (match g d1 d2 with
        | some r => R.ok r env2
        | none => .no)
      | _, _ => .no) with
      | .ok a env' => ∀ v G' H', Tr σ env G H σ env' G' H' → REnv X.K G' H' σ env' → RA X.K σ env' H G' H' v a → Q v H'
      | .ex c env' => ∀ cls G' H', X.mg c = some cls → Tr σ env G H σ env' G' H' → REnv X.K G' H' σ env' → W cls none σ H'
      | .no => False := h
    cases e2 : o2.pre env1 with
    | no => rw [e2] at h; exact h
    | ex c env2 =>
      rw [e2] at h
      intro cls G' H' hc t2 r2
      exact h cls G' H' hc (t1.trans t2) r2
    | ok b env2 =>
      rw [e2] at h
      intro y G2 H2 t2 r2 ro2
      have h : match (match o1.fin a env2, o2.fin b env2 with
        | some d1, some d2 => (match g d1 d2 with
          | some r => R.ok r env2
          | none => .no)
        | _, _ => .no) with
        | .ok a env' => ∀ v G' H', Tr σ env G H σ env' G' H' → REnv X.K G' H' σ env' → RA X.K σ env' H G' H' v a → Q v H'
        | .ex c env' => ∀ cls G' H', X.mg c = some cls → Tr σ env G H σ env' G' H' → REnv X.K G' H' σ env' → W cls none σ H'
        | .no => False := h
      cases f1 : o1.fin a env2 with
      | none => rw [f1] at h; exact h.elim
      | some d1 =>
        cases f2 : o2.fin b env2 with
        | none => rw [f1, f2] at h; exact h.elim
        | some d2 =>
          rw [f1, f2] at h
          cases eg : g d1 d2 with
          | none => simp only [eg] at h
          | some z =>
            simp only [eg] at h
            exact ⟨G2, d1, d2, z, r2.ex, RO.fin r2 (ro1.up t2.ex) f1, RO.fin r2 ro2 f2, eg, fun v G' H' p ra => op_end (W := W) (t1.trans t2) r2 p ra h⟩
theorem T_un {X : Cx} {W : WX} {g : D → Option A} {o1 : Opd} {σ : St} {H : Hp} {Q : VK} (h : T X W (eUn g o1) σ H Q) : tUn (rD1 X.K g) (TP X W o1) σ H Q := by
  obtain ⟨G, env, r, h⟩ := h
  refine ⟨G, env, r, ?_⟩
  unfold eUn at h
  cases e1 : o1.pre env with
  | no => rw [e1] at h; exact h
  | ex c env1 => rw [e1] at h; exact h
  | ok a env1 =>
    rw [e1] at h
    intro x G1 H1 t1 r1 ro1
    have h : match (match o1.fin a env1 with
        | some d1 => (match g d1 with
          | some r => R.ok r env1
          | none => .no)
        | _ => .no) with
        | .ok a env' => ∀ v G' H', Tr σ env G H σ env' G' H' → REnv X.K G' H' σ env' → RA X.K σ env' H G' H' v a → Q v H'
        | .ex c env' => ∀ cls G' H', X.mg c = some cls → Tr σ env G H σ env' G' H' → REnv X.K G' H' σ env' → W cls none σ H'
        | .no => False := h
    cases f1 : o1.fin a env1 with
    | none => rw [f1] at h; exact h.elim
    | some d1 =>
      rw [f1] at h
      cases eg : g d1 with
      | none => simp only [eg] at h
      | some z =>
        simp only [eg] at h
        exact ⟨G1, d1, z, r1.ex, RO.fin r1 ro1 f1, eg, fun v G' H' p ra => op_end (W := W) t1 r1 p ra h⟩

/-! ## the first rules -/
abbrev OpD (X : Cx) (f : Value → Value → Sem Value) (g : D → D → Option A) : Prop := OpR X f (rD2 X.K g)
abbrev UnD (X : Cx) (f : Value → Sem Value) (g : D → Option A) : Prop := UnR X f (rD1 X.K g)
theorem OpR.imp {X : Cx} {f : Value → Value → Sem Value} {r r' : R2} (h : OpR X f r) (i : ∀ x y H Q, r' x y H Q → r x y H Q) : OpR X f r' :=
  fun pins s σ H x y v u Q I rx ry q => h pins s σ H x y v u Q I rx ry (i _ _ _ _ q)
theorem UnR.imp {X : Cx} {f : Value → Sem Value} {r r' : V → Hp → VK → Prop} (h : UnR X f r) (i : ∀ x H Q, r' x H Q → r x H Q) : UnR X f r' :=
  fun pins s σ H x v Q I rx q => h pins s σ H x v Q I rx (i _ _ _ q)
theorem IxR.imp {X : Cx} {r r' : R2} (h : IxR X r) (i : ∀ x y H Q, r' x y H Q → r x y H Q) : IxR X r' :=
  fun va sl pins s σ H x y v u Q I rx ry q e => h va sl pins s σ H x y v u Q I rx ry (i _ _ _ _ q) e
theorem CallR.imp {X : Cx} {f : Value} {r r' : List V → Hp → VK → Prop} (h : CallR X f r) (i : ∀ xs H Q, r' xs H Q → r xs H Q) : CallR X f r' :=
  fun pins s σ H xs us Q I rx q => h pins s σ H xs us Q I rx (i _ _ _ q)

section
variable {X : Cx} {W : WX} {e a b c : Expr} {pos : Pos} {f fa fb : M D} {g : D → D → Option A} {o1 o2 o : Opd}
/-- data as an answer; an answer as data -/
def asA (f : M D) : M A := fun env => (f env).map .val
def asD (f : M A) : M D := fun env => (f env).map A.d
theorem de_v (h : DV X W e f) : DE X W e (asA f) := h.imp fun σ H Q ⟨G, env, r, q⟩ => by
  refine ⟨G, env, r, ?_⟩
  unfold asA at q
  cases e1 : f env with
  | no => rw [e1] at q; exact q
  | ex c env1 => rw [e1] at q; exact q
  | ok z env1 => rw [e1] at q; exact q
theorem dv_e {f : M A} (h : DE X W e f) : DV X W e (asD f) := h.imp fun σ H Q ⟨G, env, r, q⟩ => by
  refine ⟨G, env, r, ?_⟩
  unfold asD at q
  cases e1 : f env with
  | no => rw [e1] at q; exact q
  | ex c env1 => rw [e1] at q; exact q
  | ok z env1 =>
    rw [e1] at q
    intro v G' H' t r' ra
    obtain ⟨G2, t2, r2, rp⟩ := ra.freeze t r'
    exact q v G2 H' t2 r2 rp
theorem do_e (h : DV X W e f) : DO X W e (.e f) := h.imp fun σ H Q ⟨G, env, r, q⟩ => by
  refine ⟨G, env, r, ?_⟩
  have q : match (f env).map some with
    | .ok a env' => ∀ v G' H', Tr σ env G H σ env' G' H' → REnv X.K G' H' σ env' → RO X.K G' σ v (Opd.e f) a → Q v H'
    | .ex c env' => ∀ cls G' H', X.mg c = some cls → Tr σ env G H σ env' G' H' → REnv X.K G' H' σ env' → W cls none σ H'
    | .no => False := q
  cases e1 : f env with
  | no => rw [e1] at q; exact q
  | ex c env1 => rw [e1] at q; exact q
  | ok z env1 => rw [e1] at q; exact q
def eC (d : D) : M D := fun env => .ok d env
theorem dv_c {v : V} {d : D} (h : PE X e (tC v)) (r : ∀ G, Rep X.K G v d) : DV X W e (eC d) := h.imp fun σ H Q ⟨G, env, re, q⟩ => q v G H .refl re (r G)
theorem dv_int {i j pos} : DV X W (.Constant (.int i) j pos) (eC (.int i)) := dv_c pe_int fun _ => .int i
theorem dv_bl {b j pos} : DV X W (.Constant (.bool b) j pos) (eC (.bl b)) := dv_c pe_bl fun _ => .bl b
theorem dv_non {j pos} : DV X W (.Constant .none j pos) (eC .non) := dv_c pe_non fun _ => .non
theorem dv_str {x j pos} : DV X W (.Constant (.str x) j pos) (eC (.str x)) := dv_c pe_str fun _ => .str x
/-- a name's data; what was the def's own is data from now on -/
def eVar (i : Nat) : M D := fun env => match env[i]? with
  | some (.val d) => .ok d env
  | some (.own d) => .ok d (env.set i (.val d))
  | _ => .no
theorem dv_var {i : Nat} (h : PE X e (tVar i)) : DV X W e (eVar i) := h.imp fun σ H Q ⟨G, env, r, q⟩ => by
  unfold eVar at q
  split at q
  · rename_i a env' hq
    split at hq
    · rename_i d hd; cases hq
      obtain ⟨v, e, rp⟩ := r.val i _ hd
      exact ⟨v, e, q v G H .refl r rp⟩
    · rename_i d hd; cases hq
      obtain ⟨G2, v, e, t, r2, rp⟩ := r.freeze hd
      exact ⟨v, e, q v G2 H t r2 rp⟩
    · cases hq
  · rename_i hq; split at hq <;> cases hq
  · exact q.elim
theorem do_n {i : Nat} (h : PE X e (tVar i)) : DO X W e (.n i) := h.imp fun σ H Q ⟨G, env, r, q⟩ => by
  have q : match (match peek env i with
    | some _ => R.ok (none : Option D) env
    | none => .no) with
    | .ok a env' => ∀ v G' H', Tr σ env G H σ env' G' H' → REnv X.K G' H' σ env' → RO X.K G' σ v (Opd.n i) a → Q v H'
    | .ex c env' => ∀ cls G' H', X.mg c = some cls → Tr σ env G H σ env' G' H' → REnv X.K G' H' σ env' → W cls none σ H'
    | .no => False := q
  cases hp : peek env i with
  | none => rw [hp] at q; exact q.elim
  | some d =>
    rw [hp] at q
    obtain ⟨v, e⟩ := peek_slot r hp
    exact ⟨v, e, q v G H .refl r e⟩
theorem de_bin {op : Operator} (ho : OpD X (binaryOp op) g) (ha : DO X W a o1) (hb : DO X W b o2) : DE X W (.BinOp a op b pos) (eBin g o1 o2) := (pe_op ho ha hb).imp fun _ _ _ h => T_bin h
theorem de_un {op : UnaryOp} {g : D → Option A} (ho : UnD X (unaryOp op) g) (ha : DO X W a o1) : DE X W (.UnaryOp op a pos) (eUn g o1) := (pe_un ho ha).imp fun _ _ _ h => T_un h
theorem de_cmp {op : CmpOp} (ho : OpD X (compareOp op) g) (ha : DO X W a o1) (hb : DO X W b o2) (hm : behindInMarks op b = false) : DE X W (.Compare a [op] [b] pos) (eBin g o1 o2) := (pe_cmpR ho ha hb hm).imp fun _ _ _ h => T_bin h
theorem de_ix (ho : IxR X (rD2 X.K g)) (ha : DO X W a o1) (hb : DO X W b o2) (hs : PlainIx b) : DE X W (.Subscript a b pos) (eBin g o1 o2) := (pe_ix ho ha hb hs).imp fun _ _ _ h => T_bin h

/-! tests -/
def bOf : A → Option Bool
  | .val (.bl b) => some b
  | _ => none
def tst (f : M A) : M Bool := fun env => match f env with
  | .ok a e => (match bOf a with
    | some b => .ok b e
    | none => .no)
  | .ex c e => .ex c e
  | .no => .no
theorem T_tst {f : M A} {σ : St} {H : Hp} {Q : Bool → Hp → Prop} (h : TB X W (tst f) σ H Q) : T X W f σ H fun x H1 => ∃ k, x = .bl k ∧ Q k H1 := by
  obtain ⟨G, env, r, q⟩ := h
  refine ⟨G, env, r, ?_⟩
  unfold tst at q
  cases e1 : f env with
  | no => rw [e1] at q; exact q
  | ex c env1 => rw [e1] at q; exact q
  | ok z env1 =>
    rw [e1] at q
    intro v G' H' t r' ra
    cases z with
    | own d => exact q.elim
    | val d =>
      cases d with
      | bl b =>
        cases ra
        exact ⟨b, rfl, q G' H' t r'⟩
      | _ => exact q.elim
theorem dt_val {f : M A} (h : DE X W e f) (he : ∀ whole, isTrue e X.env whole = (do let v ← whole; standAt e.pos; holding [v] (truthy v))) : DT X W e (tst f) := (pt_val h he).imp fun _ _ _ h => T_tst h
theorem dt_cmp {op : CmpOp} (ho : OpD X (compareOp op) g) (ha : DO X W a o1) (hb : DO X W b o2) (hm : behindInMarks op b = false) : DT X W (.Compare a [op] [b] pos) (tst (eBin g o1 o2)) :=
  (pt_cmpR ho ha hb hm).imp fun σ H Q h => T_bin (T_tst h)
def bNot (f : M Bool) : M Bool := fun env => (f env).map not
theorem dt_not {f : M Bool} (h : DT X W a f) : DT X W (.UnaryOp .Not a pos) (bNot f) := (pt_not h).imp fun σ H Q ⟨G, env, r, q⟩ => by
  refine ⟨G, env, r, ?_⟩
  unfold bNot at q
  cases e1 : f env with
  | no => rw [e1] at q; exact q
  | ex c env1 => rw [e1] at q; exact q
  | ok z env1 => rw [e1] at q; exact q
def bAnd (f g : M Bool) : M Bool := fun env => (f env).bind fun b env1 => if b then g env1 else .ok false env1
def bOr (f g : M Bool) : M Bool := fun env => (f env).bind fun b env1 => if b then .ok true env1 else g env1
abbrev DW (X : Cx) (W : WX) (e : Expr) (f : M Bool) : Prop := PW X e (TB X W f)
theorem _root_.L2.PW.imp {t u : TT} (h : PW X e t) (i : ∀ σ H Q, u σ H Q → t σ H Q) : PW X e u := ⟨fun wh pins s σ H Q I q => h.run wh pins s σ H Q I (i σ H Q q)⟩
variable {f1 f2 : M Bool} {rest : List Expr}
theorem dw_and1 (h : DT X W a f1) : DW X W (.BoolOp .And [a] pos) f1 := pw_and1 h
theorem dw_or1 (h : DT X W a f1) : DW X W (.BoolOp .Or [a] pos) f1 := pw_or1 h
theorem dw_and (ha : DT X W a f1) (hb : DW X W (.BoolOp .And (b :: rest) pos) f2) : DW X W (.BoolOp .And (a :: b :: rest) pos) (bAnd f1 f2) := (pw_and ha hb).imp fun σ H Q ⟨G, env, r, q⟩ => by
  refine ⟨G, env, r, ?_⟩
  unfold bAnd at q
  cases e1 : f1 env with
  | no => rw [e1] at q; exact q
  | ex c env1 => rw [e1] at q; exact q
  | ok z env1 =>
    rw [e1] at q
    intro G1 H1 t1 r1
    cases z with
    | false => exact q G1 H1 t1 r1
    | true =>
      refine ⟨G1, env1, r1, ?_⟩
      have q : match f2 env1 with
        | .ok a env' => ∀ G' H', Tr σ env G H σ env' G' H' → REnv X.K G' H' σ env' → Q a H'
        | .ex c env' => ∀ cls G' H', X.mg c = some cls → Tr σ env G H σ env' G' H' → REnv X.K G' H' σ env' → W cls none σ H'
        | .no => False := q
      cases e2 : f2 env1 with
      | no => rw [e2] at q; exact q
      | ex c env2 => rw [e2] at q; exact fun cls G' H' hc t2 r2 => q cls G' H' hc (t1.trans t2) r2
      | ok z env2 => rw [e2] at q; exact fun G' H' t2 r2 => q G' H' (t1.trans t2) r2
theorem dw_or (ha : DT X W a f1) (hb : DW X W (.BoolOp .Or (b :: rest) pos) f2) : DW X W (.BoolOp .Or (a :: b :: rest) pos) (bOr f1 f2) := (pw_or ha hb).imp fun σ H Q ⟨G, env, r, q⟩ => by
  refine ⟨G, env, r, ?_⟩
  unfold bOr at q
  cases e1 : f1 env with
  | no => rw [e1] at q; exact q
  | ex c env1 => rw [e1] at q; exact q
  | ok z env1 =>
    rw [e1] at q
    intro G1 H1 t1 r1
    cases z with
    | true => exact q G1 H1 t1 r1
    | false =>
      refine ⟨G1, env1, r1, ?_⟩
      have q : match f2 env1 with
        | .ok a env' => ∀ G' H', Tr σ env G H σ env' G' H' → REnv X.K G' H' σ env' → Q a H'
        | .ex c env' => ∀ cls G' H', X.mg c = some cls → Tr σ env G H σ env' G' H' → REnv X.K G' H' σ env' → W cls none σ H'
        | .no => False := q
      cases e2 : f2 env1 with
      | no => rw [e2] at q; exact q
      | ex c env2 => rw [e2] at q; exact fun cls G' H' hc t2 r2 => q cls G' H' hc (t1.trans t2) r2
      | ok z env2 => rw [e2] at q; exact fun G' H' t2 r2 => q G' H' (t1.trans t2) r2
theorem dt_w (h : DW X W e f1) : DT X W e f1 := h.pt
/-- and, or, not as values (of truth values) -/
def eAnd (f g : M A) : M A := fun env => (f env).bind fun a env1 => match bOf a with
  | some true => g env1
  | some false => .ok (.val (.bl false)) env1
  | none => .no
def eOr (f g : M A) : M A := fun env => (f env).bind fun a env1 => match bOf a with
  | some true => .ok (.val (.bl true)) env1
  | some false => g env1
  | none => .no
theorem T_later {f : M A} {σ : St} {env env1 : Env} {G H G1 H1 : Hp} {Q : VK} (t1 : Tr σ env G H σ env1 G1 H1) (r1 : REnv X.K G1 H1 σ env1)
    (q : match f env1 with
      | .ok a env' => ∀ v G' H', Tr σ env G H σ env' G' H' → REnv X.K G' H' σ env' → RA X.K σ env' H G' H' v a → Q v H'
      | .ex c env' => ∀ cls G' H', X.mg c = some cls → Tr σ env G H σ env' G' H' → REnv X.K G' H' σ env' → W cls none σ H'
      | .no => False) : T X W f σ H1 Q := by
  refine ⟨G1, env1, r1, ?_⟩
  cases e2 : f env1 with
  | no => rw [e2] at q; exact q
  | ex c env2 => rw [e2] at q; exact fun cls G' H' hc t2 r2 => q cls G' H' hc (t1.trans t2) r2
  | ok z env2 =>
    rw [e2] at q
    refine fun v G' H' t2 r2 ra => q v G' H' (t1.trans t2) r2 ?_
    cases z with
    | val d => exact ra
    | own d =>
      obtain ⟨p, e, n, no, o⟩ := ra
      exact ⟨p, e, t1.dom p n, no, o⟩
theorem de_one {op} {f : M A} (h : DE X W a f) : DE X W (.BoolOp op [a] pos) f := pe_one h
theorem de_and {f g : M A} (ha : DE X W a f) (hb : DE X W (.BoolOp .And (b :: rest) pos) g) : DE X W (.BoolOp .And (a :: b :: rest) pos) (eAnd f g) := (pe_and ha hb).imp fun σ H Q ⟨G, env, r, q⟩ => by
  refine ⟨G, env, r, ?_⟩
  unfold eAnd at q
  cases e1 : f env with
  | no => rw [e1] at q; exact q
  | ex c env1 => rw [e1] at q; exact q
  | ok z env1 =>
    rw [e1] at q
    intro v G1 H1 t1 r1 ra
    cases z with
    | own d => exact q.elim
    | val d =>
      cases d with
      | bl b =>
        cases ra
        refine ⟨b, rfl, ?_⟩
        cases b with
        | false => exact q _ G1 H1 t1 r1 (.bl false)
        | true => exact T_later t1 r1 q
      | _ => exact q.elim
theorem de_or {f g : M A} (ha : DE X W a f) (hb : DE X W (.BoolOp .Or (b :: rest) pos) g) : DE X W (.BoolOp .Or (a :: b :: rest) pos) (eOr f g) := (pe_or ha hb).imp fun σ H Q ⟨G, env, r, q⟩ => by
  refine ⟨G, env, r, ?_⟩
  unfold eOr at q
  cases e1 : f env with
  | no => rw [e1] at q; exact q
  | ex c env1 => rw [e1] at q; exact q
  | ok z env1 =>
    rw [e1] at q
    intro v G1 H1 t1 r1 ra
    cases z with
    | own d => exact q.elim
    | val d =>
      cases d with
      | bl b =>
        cases ra
        refine ⟨b, rfl, ?_⟩
        cases b with
        | true => exact q _ G1 H1 t1 r1 (.bl true)
        | false => exact T_later t1 r1 q
      | _ => exact q.elim
def eNot (f : M A) : M A := fun env => match f env with
  | .ok a e => (match bOf a with
    | some b => .ok (.val (.bl (!b))) e
    | none => .no)
  | .ex c e => .ex c e
  | .no => .no
theorem de_not {f : M A} (ha : DE X W a f) : DE X W (.UnaryOp .Not a pos) (eNot f) := (pe_not ha).imp fun σ H Q ⟨G, env, r, q⟩ => by
  refine ⟨G, env, r, ?_⟩
  unfold eNot at q
  cases e1 : f env with
  | no => rw [e1] at q; exact q
  | ex c env1 => rw [e1] at q; exact q
  | ok z env1 =>
    rw [e1] at q
    intro v G1 H1 t1 r1 ra
    cases z with
    | own d => exact q.elim
    | val d =>
      cases d with
      | bl b =>
        cases ra
        exact ⟨b, rfl, q _ G1 H1 t1 r1 (.bl _)⟩
      | _ => exact q.elim
def eIf (t : M Bool) (f g : M A) : M A := fun env => (t env).bind fun b env1 => if b then f env1 else g env1
theorem de_if {f g : M A} (hc : DT X W c f1) (ha : DE X W a f) (hb : DE X W b g) : DE X W (.IfExp c a b pos) (eIf f1 f g) := (pe_ifExp hc ha hb).imp fun σ H Q ⟨G, env, r, q⟩ => by
  refine ⟨G, env, r, ?_⟩
  unfold eIf at q
  cases e1 : f1 env with
  | no => rw [e1] at q; exact q
  | ex c env1 => rw [e1] at q; exact q
  | ok z env1 =>
    rw [e1] at q
    intro G1 H1 t1 r1
    cases z with
    | true => exact T_later t1 r1 q
    | false => exact T_later t1 r1 q
end
end DL

namespace DL
open PySem L2

/-! ## operations in data -/
section
variable {K : PySem.W.Frag} {G G' H H' : Hp} {v : V}
theorem RepP.non (h : RepP K G H v .non) : v = .non := by rcases h with h | ⟨_, _, h⟩ <;> cases h; rfl
theorem RepP.bl {b : Bool} (h : RepP K G H v (.bl b)) : v = .bl b := by rcases h with h | ⟨_, _, h⟩ <;> cases h; rfl
theorem RepP.int {i : Int} (h : RepP K G H v (.int i)) : v = .int i := by rcases h with h | ⟨_, _, h⟩ <;> cases h; rfl
theorem RepP.str {x : Str} (h : RepP K G H v (.str x)) : v = .str x := by rcases h with h | ⟨_, _, h⟩ <;> cases h; rfl
theorem RepP.tup {ds : List D} (h : RepP K G H v (.tup ds)) : ∃ a vs, v = .ref a ∧ SqT K G a vs ∧ Reps K G vs ds := by
  rcases h with h | ⟨_, _, h⟩
  · cases h with | tup a b => exact ⟨_, _, rfl, a, b⟩
  · exact h.elim
theorem RepP.lst {ds : List D} (e : Ex G H) (h : RepP K G H v (.lst ds)) : ∃ a vs, v = .ref a ∧ H a = some (.lst vs) ∧ Reps K G vs ds := by
  rcases h with h | ⟨p, rfl, h⟩
  · cases h with | lst a b => exact ⟨_, _, rfl, e _ _ a, b⟩
  · obtain ⟨_, vs, a, b⟩ := h; exact ⟨p, vs, rfl, a, b⟩
theorem RepP.dic {ks : List Key} {ds : List D} (e : Ex G H) (h : RepP K G H v (.dic ks ds)) : ∃ a kvs, v = .ref a ∧ H a = some (.dK kvs) ∧ kvs.map (·.1) = ks ∧ Reps K G (kvs.map (·.2)) ds := by
  rcases h with h | ⟨p, rfl, h⟩
  · cases h with | dic a b c => exact ⟨_, _, rfl, e _ _ a, b, c⟩
  · obtain ⟨_, vs, a, b⟩ := h; exact ⟨p, vs, rfl, a, b⟩
theorem RepP.scr {ns : List Int} (h : RepP K G H v (.scr ns)) : ∃ a, v = .ref a ∧ SqL K G a (ns.map V.int) := by
  rcases h with h | ⟨_, _, h⟩
  · cases h with | scr a => exact ⟨_, rfl, a⟩
  · exact h.elim
/-- a new list, a new tuple as answers -/
theorem new_list {p : Addr} {vs : List V} {ds : List D} (e : Ex G H) (n : H p = none) (r : Reps K G vs ds) : PTr G H G (upd H p (.lst vs)) ∧ RA0 K H G (upd H p (.lst vs)) (.ref p) (.own (.lst ds)) :=
  ⟨.made e n, p, rfl, n, Ex.free e n, vs, upd_same, r⟩
theorem new_tup {p : Addr} {vs : List V} {ds : List D} (e : Ex G H) (n : H p = none) (r : Reps K G vs ds) : PTr G H (upd G p (.tup vs)) (upd H p (.tup vs)) ∧ RA0 K H (upd G p (.tup vs)) (upd H p (.tup vs)) (.ref p) (.val (.tup ds)) :=
  ⟨.new e n, .tup (SqT.of upd_same) (r.up (Ex.new (Ex.free e n)))⟩
end

def cut {α : Type} (xs : List α) (lo hi : Option Int) : List α := (xs.drop (HT.sIx xs.length 0 lo)).take (HT.sIx xs.length xs.length hi - HT.sIx xs.length 0 lo)
theorem Reps.cut {K : PySem.W.Frag} {G : Hp} {vs : List V} {ds : List D} (h : Reps K G vs ds) (lo hi : Option Int) : Reps K G (cutV vs lo hi) (cut ds lo hi) := by
  unfold cutV DL.cut
  rw [h.len]
  exact (h.drop _).take _

/-! ### + - * // % ** -/
def addD : D → D → Option A
  | .int i, .int j => some (.val (.int (i + j)))
  | .str x, .str y => if x.length + y.length ≤ sizeLine then some (.val (.str (x ++ y))) else none
  | .lst a, .lst b => if a.length + b.length ≤ sizeLine then some (.own (.lst (a ++ b))) else none
  | .tup a, .tup b => if a.length + b.length ≤ sizeLine then some (.val (.tup (a ++ b))) else none
  | _, _ => none
def subD : D → D → Option A
  | .int i, .int j => some (.val (.int (i - j)))
  | _, _ => none
def mulOk (i j : Int) : Prop := i.natAbs < 2 ^ 64 ∨ j.natAbs < 2 ^ 64 ∨ i.natAbs.log2 + j.natAbs.log2 < 1000000
instance (i j : Int) : Decidable (mulOk i j) := by unfold mulOk; infer_instance
def mulD : D → D → Option A
  | .int i, .int j => if mulOk i j then some (.val (.int (i * j))) else none
  | .lst a, .int k => if -(2 ^ 63) ≤ k ∧ k < 2 ^ 63 ∧ a.length * k.toNat ≤ sizeLine then some (.own (.lst (List.replicate k.toNat a).flatten)) else none
  | _, _ => none
def fdivD : D → D → Option A
  | .int i, .int j => if 0 < j ∧ j.natAbs.log2 < 9000 then some (.val (.int (i / j))) else none
  | _, _ => none
def modD : D → D → Option A
  | .int i, .int j => if 0 < j then some (.val (.int (i % j))) else none
  | _, _ => none
def powD : D → D → Option A
  | .int i, .int j => if 0 ≤ j ∧ j ≤ 1000000 ∧ i.natAbs < 2 ^ 64 then some (.val (.int (i ^ j.toNat))) else none
  | _, _ => none
def negD : D → Option A
  | .int i => some (.val (.int (-i)))
  | _ => none
section
variable {X : Cx}
theorem od_add : OpD X (binaryOp .Add) addD := by
  refine OpR.imp (((op_add.or op_add_str).or op_cat).or op_catA) fun x y H Q ⟨G, d1, d2, a, e, r1, r2, hg, q⟩ => ?_
  unfold addD at hg
  split at hg
  · cases hg
    exact .inl (.inl (.inl ⟨_, _, r1.int, r2.int, q _ G H (.refl e) (.int _)⟩))
  · split at hg
    · rename_i hl; cases hg
      exact .inl (.inl (.inr ⟨_, _, r1.str, r2.str, hl, q _ G H (.refl e) (.str _)⟩))
    · cases hg
  · split at hg
    · rename_i hl; cases hg
      obtain ⟨p1, vs, rfl, h1, s1⟩ := r1.lst e
      obtain ⟨p2, us, rfl, h2, s2⟩ := r2.lst e
      refine .inl (.inr ⟨p1, p2, vs, us, rfl, rfl, h1, h2, by rw [s1.len, s2.len]; exact hl, fun p n => ?_⟩)
      obtain ⟨t, ra⟩ := new_list e n (s1.append s2)
      exact q _ _ _ t ra
    · cases hg
  · split at hg
    · rename_i hl; cases hg
      obtain ⟨p1, vs, rfl, h1, s1⟩ := r1.tup
      obtain ⟨p2, us, rfl, h2, s2⟩ := r2.tup
      refine .inr ⟨p1, p2, vs, us, rfl, rfl, ex_t e h1, ex_t e h2, by rw [s1.len, s2.len]; exact hl, fun z => ?_, fun z1 z2 => ?_, fun z1 z2 p n => ?_⟩
      · subst z; cases s1; exact q _ G H (.refl e) (.tup h2 s2)
      · subst z2; cases s2; rw [List.append_nil] at q; exact q _ G H (.refl e) (.tup h1 s1)
      · obtain ⟨t, ra⟩ := new_tup e n (s1.append s2)
        exact q _ _ _ t ra
    · cases hg
  · cases hg
theorem od_sub : OpD X (binaryOp .Sub) subD := by
  refine OpR.imp op_sub fun x y H Q ⟨G, d1, d2, a, e, r1, r2, hg, q⟩ => ?_
  unfold subD at hg
  split at hg
  · cases hg
    exact ⟨_, _, r1.int, r2.int, q _ G H (.refl e) (.int _)⟩
  · cases hg
theorem od_mul : OpD X (binaryOp .Mult) mulD := by
  refine OpR.imp ((op_mul.or op_mulW).or op_rep) fun x y H Q ⟨G, d1, d2, a, e, r1, r2, hg, q⟩ => ?_
  unfold mulD at hg
  split at hg
  · split at hg
    · rename_i i j hl; cases hg
      rcases hl with h | h | h
      · exact .inl (.inl ⟨_, _, r1.int, r2.int, .inl (by omega), q _ G H (.refl e) (.int _)⟩)
      · exact .inl (.inl ⟨_, _, r1.int, r2.int, .inr (by omega), q _ G H (.refl e) (.int _)⟩)
      · exact .inl (.inr ⟨_, _, r1.int, r2.int, h, q _ G H (.refl e) (.int _)⟩)
    · cases hg
  · split at hg
    · rename_i hl; cases hg
      obtain ⟨h1, h2, h3⟩ := hl
      obtain ⟨p1, vs, rfl, e1, s1⟩ := r1.lst e
      refine .inr ⟨p1, _, vs, rfl, r2.int, e1, h1, h2, by rw [s1.len]; exact h3, fun p n => ?_⟩
      have s : ∀ k : Nat, Reps X.K G (List.replicate k vs).flatten (List.replicate k _).flatten := fun k => by
        induction k with
        | zero => exact .nil
        | succ k ih =>
          rw [List.replicate_succ, List.replicate_succ, List.flatten_cons, List.flatten_cons]
          exact s1.append ih
      obtain ⟨t, ra⟩ := new_list e n (s _)
      exact q _ _ _ t ra
    · cases hg
  · cases hg
theorem od_fdiv : OpD X (binaryOp .FloorDiv) fdivD := by
  refine OpR.imp op_fdivW fun x y H Q ⟨G, d1, d2, a, e, r1, r2, hg, q⟩ => ?_
  unfold fdivD at hg
  split at hg
  · split at hg
    · rename_i hl; cases hg
      exact ⟨_, _, r1.int, r2.int, hl, q _ G H (.refl e) (.int _)⟩
    · cases hg
  · cases hg
theorem od_mod : OpD X (binaryOp .Mod) modD := by
  refine OpR.imp op_mod fun x y H Q ⟨G, d1, d2, a, e, r1, r2, hg, q⟩ => ?_
  unfold modD at hg
  split at hg
  · split at hg
    · rename_i hl; cases hg
      exact ⟨_, _, r1.int, r2.int, hl, q _ G H (.refl e) (.int _)⟩
    · cases hg
  · cases hg
theorem od_pow : OpD X (binaryOp .Pow) powD := by
  refine OpR.imp op_pow fun x y H Q ⟨G, d1, d2, a, e, r1, r2, hg, q⟩ => ?_
  unfold powD at hg
  split at hg
  · split at hg
    · rename_i hl; cases hg
      exact ⟨_, _, r1.int, r2.int, hl, q _ G H (.refl e) (.int _)⟩
    · cases hg
  · cases hg
theorem ud_neg : UnD X (unaryOp .USub) negD := by
  refine UnR.imp un_neg fun x H Q ⟨G, d1, a, e, r1, hg, q⟩ => ?_
  unfold negD at hg
  split at hg
  · cases hg
    exact ⟨_, r1.int, q _ G H (.refl e) (.int _)⟩
  · cases hg
end

/-! ### == and != -/
mutual
def D.py : D → PyData
  | .non => .none
  | .bl b => .bool b
  | .int i => .int i
  | .str x => .str x
  | .tup ds => .tuple (D.pys ds)
  | .lst ds => .list (D.pys ds)
  | .dic _ _ => .dict []
  | .scr ns => .list (ns.map PyData.int)
def D.pys : List D → List PyData
  | [] => []
  | d :: ds => D.py d :: D.pys ds
end
mutual
/-- no dict within -/
def D.plain : D → Bool
  | .tup ds => D.plains ds
  | .lst ds => D.plains ds
  | .dic _ _ => false
  | .scr _ => false
  | .str x => PyData.strOk x
  | _ => true
def D.plains : List D → Bool
  | [] => true
  | d :: ds => D.plain d && D.plains ds
end
mutual
def D.dep : D → Nat
  | .tup ds => D.deps ds + 1
  | .lst ds => D.deps ds + 1
  | _ => 0
def D.deps : List D → Nat
  | [] => 0
  | d :: ds => max (D.dep d) (D.deps ds)
end
mutual
/-- alike, as == says -/
def eqB : D → D → Bool
  | .non, .non => true
  | .bl a, .bl b => a == b
  | .bl a, .int j => (if a then 1 else 0) == j
  | .int i, .bl b => i == (if b then 1 else 0)
  | .int i, .int j => i == j
  | .str x, .str y => x == y
  | .lst xs, .lst ys => eqBs xs ys
  | .tup xs, .tup ys => eqBs xs ys
  | _, _ => false
def eqBs : List D → List D → Bool
  | [], [] => true
  | x :: xs, y :: ys => eqB x y && eqBs xs ys
  | _, _ => false
end
mutual
theorem eqB_py : ∀ (x y : D), x.plain = true → y.plain = true → PyData.eqv x.py y.py = eqB x y
  | .non, y, _, h => by cases y <;> first | rfl | cases h
  | .bl a, y, _, h => by cases y <;> first | rfl | cases h
  | .int a, y, _, h => by cases y <;> first | rfl | cases h
  | .str a, y, _, h => by cases y <;> first | rfl | cases h
  | .tup xs, y, h1, h => by
    cases y with
    | tup ys => exact eqBs_py xs ys h1 h
    | _ => first | rfl | cases h
  | .lst xs, y, h1, h => by
    cases y with
    | lst ys => exact eqBs_py xs ys h1 h
    | _ => first | rfl | cases h
theorem eqBs_py : ∀ (xs ys : List D), D.plains xs = true → D.plains ys = true → PyData.eqvAll (D.pys xs) (D.pys ys) = eqBs xs ys
  | [], [], _, _ => rfl
  | [], _ :: _, _, _ => rfl
  | _ :: _, [], _, _ => rfl
  | x :: xs, y :: ys, h1, h2 => by
    rw [D.plains, Bool.and_eq_true] at h1 h2
    show (PyData.eqv x.py y.py && PyData.eqvAll (D.pys xs) (D.pys ys)) = (eqB x y && eqBs xs ys)
    rw [eqB_py x y h1.1 h2.1, eqBs_py xs ys h1.2 h2.2]
end
mutual
theorem dep_py : ∀ (x : D), x.plain = true → PyData.depth x.py = x.dep
  | .non, _ => rfl
  | .bl a, _ => rfl
  | .int a, _ => rfl
  | .str a, _ => rfl
  | .tup xs, h => by
    show PyData.depthAll (D.pys xs) + 1 = D.deps xs + 1
    rw [deps_py xs h]
  | .lst xs, h => by
    show PyData.depthAll (D.pys xs) + 1 = D.deps xs + 1
    rw [deps_py xs h]
theorem deps_py : ∀ (xs : List D), D.plains xs = true → PyData.depthAll (D.pys xs) = D.deps xs
  | [], _ => rfl
  | x :: xs, h => by
    rw [D.plains, Bool.and_eq_true] at h
    show max (PyData.depth x.py) (PyData.depthAll (D.pys xs)) = max x.dep (D.deps xs)
    rw [dep_py x h.1, deps_py xs h.2]
end
mutual
theorem lay_py : ∀ (x : D), x.plain = true → PyData.canLay0 x.py = true
  | .non, _ => rfl
  | .bl a, _ => rfl
  | .int a, _ => rfl
  | .str a, h => h
  | .tup xs, h => lays_py xs h
  | .lst xs, h => lays_py xs h
theorem lays_py : ∀ (xs : List D), D.plains xs = true → PyData.canLayAll0 (D.pys xs) = true
  | [], _ => rfl
  | x :: xs, h => by
    rw [D.plains, Bool.and_eq_true] at h
    show (PyData.canLay0 x.py && PyData.canLayAll0 (D.pys xs)) = true
    rw [lay_py x h.1, lays_py xs h.2]; rfl
end
section
variable {K : PySem.W.Frag} {G G' H H' : Hp} {v : V}
mutual
theorem Rep.dp : ∀ (d : D) {v : V}, Rep K G v d → d.plain = true → Dp K G v d.py
  | .non, _, h, _ => by cases h; exact .non
  | .bl b, _, h, _ => by cases h; exact .bl b
  | .int i, _, h, _ => by cases h; exact .int i
  | .str x, _, h, _ => by cases h; exact .str x
  | .tup ds, _, h, p => by cases h with | tup a b => exact .tup a (Reps.dp ds b p)
  | .lst ds, _, h, p => by cases h with | lst a b => exact .lst (SqL.of a) (Reps.dp ds b p)
theorem Reps.dp : ∀ (ds : List D) {vs : List V}, Reps K G vs ds → D.plains ds = true → DpAll K G vs (D.pys ds)
  | [], _, h, _ => by cases h; exact .nil
  | d :: ds, _, h, p => by
    rw [D.plains, Bool.and_eq_true] at p
    cases h with | cons a b => exact .cons (Rep.dp d a p.1) (Reps.dp ds b p.2)
end
theorem RepP.dp {d : D} (e : Ex G H) (h : RepP K G H v d) (p : d.plain = true) : Dp K H v d.py := by
  rcases h with h | ⟨q, rfl, h⟩
  · exact Rep.dp d (h.up e) p
  · cases d with
    | lst ds =>
      obtain ⟨_, vs, a, b⟩ := h
      exact .lst (SqL.of a) (Reps.dp ds (b.up e) p)
    | dic ks ds => cases p
    | _ => exact h.elim
end
def eqOk (x y : D) : Bool := x.plain && y.plain && decide (min x.dep y.dep ≤ 64)
def eqD (x y : D) : Option A := if eqOk x y then some (.val (.bl (eqB x y))) else none
def neD (x y : D) : Option A := if eqOk x y then some (.val (.bl (!eqB x y))) else none
section
variable {X : Cx}
theorem od_eq (hu : X.A.units + 64 < cLine) : OpD X (compareOp .Eq) eqD := by
  intro pins s σ H x y v u Q I rx ry ⟨G, d1, d2, a, e, r1, r2, hg, q⟩
  unfold eqD at hg
  split at hg
  · rename_i hk; cases hg
    unfold eqOk at hk
    rw [Bool.and_eq_true, Bool.and_eq_true] at hk
    obtain ⟨⟨p1, p2⟩, h3⟩ := hk
    have h3 := of_decide_eq_true h3
    obtain ⟨as, z1⟩ := Dp.reads I d1.py x v (r1.dp e p1) rx
    obtain ⟨bs, z2⟩ := Dp.reads I d2.py y u (r2.dp e p2) ry
    refine PySem.SeqAt.compareEq_reads z1 z2 (lay_py d1 p1) (lay_py d2 p2) (by rw [dep_py d1 p1, dep_py d2 p2]; omega) ?_
    rw [eqB_py d1 d2 p1 p2]
    exact ⟨.bl _, H, I, rfl, q _ G H (.refl e) (.bl _)⟩
  · cases hg
theorem od_ne (hu : X.A.units + 64 < cLine) : OpD X (compareOp .NotEq) neD := by
  intro pins s σ H x y v u Q I rx ry ⟨G, d1, d2, a, e, r1, r2, hg, q⟩
  unfold neD at hg
  split at hg
  · rename_i hk; cases hg
    unfold eqOk at hk
    rw [Bool.and_eq_true, Bool.and_eq_true] at hk
    obtain ⟨⟨p1, p2⟩, h3⟩ := hk
    have h3 := of_decide_eq_true h3
    obtain ⟨as, z1⟩ := Dp.reads I d1.py x v (r1.dp e p1) rx
    obtain ⟨bs, z2⟩ := Dp.reads I d2.py y u (r2.dp e p2) ry
    refine PySem.SeqAt.compareNe_reads z1 z2 (lay_py d1 p1) (lay_py d2 p2) (by rw [dep_py d1 p1, dep_py d2 p2]; omega) ?_
    rw [eqB_py d1 d2 p1 p2]
    exact ⟨.bl _, H, I, rfl, q _ G H (.refl e) (.bl _)⟩
  · cases hg
end

/-! ### < <= > >=, is, in -/
def ltD : D → D → Option A
  | .int i, .int j => some (.val (.bl (decide (i < j))))
  | .str i, .str j => some (.val (.bl (decide (i.cps.toList < j.cps.toList))))
  | _, _ => none
def leD : D → D → Option A
  | .int i, .int j => some (.val (.bl (decide (i ≤ j))))
  | _, _ => none
def gtD : D → D → Option A
  | .int i, .int j => some (.val (.bl (decide (j < i))))
  | _, _ => none
def geD : D → D → Option A
  | .int i, .int j => some (.val (.bl (decide (j ≤ i))))
  | _, _ => none
def isNon : D → Bool
  | .non => true
  | _ => false
def isD : D → D → Option A
  | x, .non => some (.val (.bl (isNon x)))
  | .bl a, .bl b => some (.val (.bl (a == b)))
  | _, _ => none
def isnD : D → D → Option A
  | x, .non => some (.val (.bl (!isNon x)))
  | .bl a, .bl b => some (.val (.bl (!(a == b))))
  | _, _ => none
def D.flat : D → Bool
  | .non => true
  | .bl _ => true
  | .int _ => true
  | .str _ => true
  | _ => false
def inD : D → D → Option A
  | x, .lst ds => if x.flat && ds.all D.flat then some (.val (.bl (ds.any fun y => eqB y x))) else none
  | x, .tup ds => if x.flat && ds.all D.flat then some (.val (.bl (ds.any fun y => eqB y x))) else none
  | .str c, .str z => some (.val (.bl (!(Builtin.Str.occurrences z c 0 z.length 1).isEmpty)))
  | _, _ => none
def ninD (x y : D) : Option A := match inD x y with
  | some (.val (.bl b)) => some (.val (.bl (!b)))
  | _ => none
section
variable {X : Cx}
theorem flat_rep {K : PySem.W.Frag} {G : Hp} {v : V} {d : D} (h : Rep K G v d) (f : d.flat = true) : flatV v = true := by
  cases d <;> first | (cases h; rfl) | cases f
theorem eqV_rep {K : PySem.W.Frag} {G : Hp} {v u : V} {d c : D} (h : Rep K G v d) (q : Rep K G u c) (f : d.flat = true) (f2 : c.flat = true) : eqV v u = eqB d c := by
  cases d <;> cases c <;> first | (cases h; cases q; rfl) | cases f | cases f2
theorem flats_rep {K : PySem.W.Frag} {G : Hp} : ∀ {ds : List D} {vs : List V}, Reps K G vs ds → ds.all D.flat = true → vs.all flatV = true
  | [], _, h, _ => by cases h; rfl
  | d :: ds, _, h, f => by
    rw [List.all_cons, Bool.and_eq_true] at f
    cases h with
    | cons a b => rw [List.all_cons, flat_rep a f.1, flats_rep b f.2]; rfl
theorem inV_rep {K : PySem.W.Frag} {G : Hp} {u : V} {c : D} (q : Rep K G u c) (f2 : c.flat = true) : ∀ {ds : List D} {vs : List V}, Reps K G vs ds → ds.all D.flat = true → inV u vs = ds.any fun y => eqB y c
  | [], _, h, _ => by cases h; rfl
  | d :: ds, _, h, f => by
    rw [List.all_cons, Bool.and_eq_true] at f
    cases h with
    | cons a b =>
      have ih := inV_rep q f2 b f.2
      unfold inV at ih ⊢
      rw [List.any_cons, List.any_cons, eqV_rep a q f.1 f2, ih]
theorem RepP.flat {K : PySem.W.Frag} {G H : Hp} {v : V} {d : D} (h : RepP K G H v d) (f : d.flat = true) : Rep K G v d := by
  rcases h with h | ⟨p, rfl, h⟩
  · exact h
  · cases d <;> first | exact h.elim | cases f
theorem od_lt : OpD X (compareOp .Lt) ltD := by
  refine OpR.imp (op_lt.or op_lt_str) fun x y H Q ⟨G, d1, d2, a, e, r1, r2, hg, q⟩ => ?_
  unfold ltD at hg
  split at hg
  · cases hg; exact .inl ⟨_, _, r1.int, r2.int, q _ G H (.refl e) (.bl _)⟩
  · cases hg; exact .inr ⟨_, _, r1.str, r2.str, q _ G H (.refl e) (.bl _)⟩
  · cases hg
theorem od_le : OpD X (compareOp .LtE) leD := by
  refine OpR.imp op_le fun x y H Q ⟨G, d1, d2, a, e, r1, r2, hg, q⟩ => ?_
  unfold leD at hg
  split at hg
  · cases hg; exact ⟨_, _, r1.int, r2.int, q _ G H (.refl e) (.bl _)⟩
  · cases hg
theorem od_gt : OpD X (compareOp .Gt) gtD := by
  refine OpR.imp op_gt fun x y H Q ⟨G, d1, d2, a, e, r1, r2, hg, q⟩ => ?_
  unfold gtD at hg
  split at hg
  · cases hg; exact ⟨_, _, r1.int, r2.int, q _ G H (.refl e) (.bl _)⟩
  · cases hg
theorem od_ge : OpD X (compareOp .GtE) geD := by
  refine OpR.imp op_ge fun x y H Q ⟨G, d1, d2, a, e, r1, r2, hg, q⟩ => ?_
  unfold geD at hg
  split at hg
  · cases hg; exact ⟨_, _, r1.int, r2.int, q _ G H (.refl e) (.bl _)⟩
  · cases hg
theorem isNon_rep {K : PySem.W.Frag} {G H : Hp} {v : V} {d : D} (h : RepP K G H v d) : decide (v = .non) = isNon d := by
  rcases h with h | ⟨p, rfl, h⟩
  · cases h <;> rfl
  · cases d <;> first | rfl | exact h.elim
theorem od_is : OpD X (compareOp .Is) isD := by
  refine OpR.imp (op_isN.or op_is_bl) fun x y H Q ⟨G, d1, d2, a, e, r1, r2, hg, q⟩ => ?_
  unfold isD at hg
  split at hg
  · cases hg
    refine .inl ⟨r2.non, ?_⟩
    rw [isNon_rep r1]; exact q _ G H (.refl e) (.bl _)
  · cases hg
    refine .inr ⟨_, _, r1.bl, r2.bl, ?_⟩
    exact q _ G H (.refl e) (.bl _)
  · cases hg
theorem od_isn : OpD X (compareOp .IsNot) isnD := by
  refine OpR.imp (op_notN.or op_isnot_bl) fun x y H Q ⟨G, d1, d2, a, e, r1, r2, hg, q⟩ => ?_
  unfold isnD at hg
  split at hg
  · cases hg
    refine .inl ⟨r2.non, ?_⟩
    rw [isNon_rep r1]; exact q _ G H (.refl e) (.bl _)
  · cases hg
    refine .inr ⟨_, _, r1.bl, r2.bl, ?_⟩
    exact q _ G H (.refl e) (.bl _)
  · cases hg
theorem od_in : OpD X (compareOp .In) inD := by
  refine OpR.imp (op_in_seq.or op_in_str) fun x y H Q ⟨G, d1, d2, a, e, r1, r2, hg, q⟩ => ?_
  unfold inD at hg
  split at hg
  · split at hg
    · rename_i hk; cases hg
      rw [Bool.and_eq_true] at hk
      obtain ⟨p, vs, rfl, h2, s2⟩ := r2.lst e
      refine .inl ⟨p, vs, rfl, .inl (SqL.of h2), flat_rep (r1.flat hk.1) hk.1, flats_rep s2 hk.2, ?_⟩
      rw [inV_rep (r1.flat hk.1) hk.1 s2 hk.2]
      exact q _ G H (.refl e) (.bl _)
    · cases hg
  · split at hg
    · rename_i hk; cases hg
      rw [Bool.and_eq_true] at hk
      obtain ⟨p, vs, rfl, h2, s2⟩ := r2.tup
      refine .inl ⟨p, vs, rfl, .inr (ex_t e h2), flat_rep (r1.flat hk.1) hk.1, flats_rep s2 hk.2, ?_⟩
      rw [inV_rep (r1.flat hk.1) hk.1 s2 hk.2]
      exact q _ G H (.refl e) (.bl _)
    · cases hg
  · cases hg
    exact .inr ⟨_, _, r1.str, r2.str, q _ G H (.refl e) (.bl _)⟩
  · cases hg
theorem od_nin : OpD X (compareOp .NotIn) ninD := by
  refine OpR.imp (op_notIn_seq.or op_notin_str) fun x y H Q ⟨G, d1, d2, a, e, r1, r2, hg, q⟩ => ?_
  unfold ninD at hg
  split at hg
  · rename_i b hb
    cases hg
    unfold inD at hb
    split at hb
    · split at hb
      · rename_i hk; cases hb
        rw [Bool.and_eq_true] at hk
        obtain ⟨p, vs, rfl, h2, s2⟩ := r2.lst e
        refine .inl ⟨p, vs, rfl, .inl (SqL.of h2), flat_rep (r1.flat hk.1) hk.1, flats_rep s2 hk.2, ?_⟩
        rw [inV_rep (r1.flat hk.1) hk.1 s2 hk.2]
        exact q _ G H (.refl e) (.bl _)
      · cases hb
    · split at hb
      · rename_i hk; cases hb
        rw [Bool.and_eq_true] at hk
        obtain ⟨p, vs, rfl, h2, s2⟩ := r2.tup
        refine .inl ⟨p, vs, rfl, .inr (ex_t e h2), flat_rep (r1.flat hk.1) hk.1, flats_rep s2 hk.2, ?_⟩
        rw [inV_rep (r1.flat hk.1) hk.1 s2 hk.2]
        exact q _ G H (.refl e) (.bl _)
      · cases hb
    · cases hb
      exact .inr ⟨_, _, r1.str, r2.str, q _ G H (.refl e) (.bl _)⟩
    · cases hb
  · cases hg
end

/-! ### subscripts -/
def ixD : D → D → Option A
  | .lst ds, .int i => (atI ds i).map .val
  | .tup ds, .int i => (atI ds i).map .val
  | .str z, .int i => if z.length ≤ sizeLine then (atI z.cps.toList i).map fun c => .val (.str ⟨#[c]⟩) else none
  | _, _ => none
theorem atI_rep {K : PySem.W.Frag} {G : Hp} {ds : List D} {vs : List V} (h : Reps K G vs ds) {i : Int} {d : D} (e : atI ds i = some d) : ∃ v, atI vs i = some v ∧ Rep K G v d := by
  unfold atI at e ⊢
  rw [h.len]
  cases hx : ixN ds.length i with
  | none => rw [hx] at e; cases e
  | some j =>
    rw [hx] at e
    exact h.get' e
theorem ix_data {X : Cx} : IxR X (rD2 X.K ixD) := by
  refine IxR.imp ix_seq fun x y H Q ⟨G, d1, d2, a, e, r1, r2, hg, q⟩ => ?_
  unfold ixD at hg
  split at hg
  · rename_i ds i
    cases hx : atI ds i with
    | none => rw [hx] at hg; cases hg
    | some d =>
      rw [hx] at hg; cases hg
      obtain ⟨p, vs, rfl, h1, s1⟩ := r1.lst e
      obtain ⟨v, e1, rp⟩ := atI_rep s1 hx
      exact .inl ⟨p, vs, i, v, rfl, r2.int, SqL.of h1, e1, q _ G H (.refl e) rp⟩
  · rename_i ds i
    cases hx : atI ds i with
    | none => rw [hx] at hg; cases hg
    | some d =>
      rw [hx] at hg; cases hg
      obtain ⟨p, vs, rfl, h1, s1⟩ := r1.tup
      obtain ⟨v, e1, rp⟩ := atI_rep s1 hx
      exact .inr (.inl ⟨p, vs, i, v, rfl, r2.int, ex_t e h1, e1, q _ G H (.refl e) rp⟩)
  · rename_i z i
    split at hg
    · rename_i hl
      cases hx : atI z.cps.toList i with
      | none => rw [hx] at hg; cases hg
      | some c =>
        rw [hx] at hg; cases hg
        exact .inr (.inr ⟨z, i, c, r1.str, r2.int, hl, hx, q _ G H (.refl e) (.str _)⟩)
    · cases hg
  · cases hg
end DL

namespace DL
open PySem L2

/-! ## lists of arguments -/
def evs : List (M D) → M (List D)
  | [] => fun env => .ok [] env
  | f :: fs => fun env => (f env).bind fun d env1 => (evs fs env1).map (d :: ·)
def preAll : List Opd → M (List (Option D))
  | [] => fun env => .ok [] env
  | o :: os => fun env => (o.pre env).bind fun a env1 => (preAll os env1).map (a :: ·)
def finAll : List Opd → List (Option D) → Env → Option (List D)
  | [], [], _ => some []
  | o :: os, a :: as, env => match o.fin a env, finAll os as env with
    | some d, some ds => some (d :: ds)
    | _, _ => none
  | _, _, _ => none
inductive ROs (K : PySem.W.Frag) (G : Hp) (σ : St) : List V → List Opd → List (Option D) → Prop
  | nil : ROs K G σ [] [] []
  | cons {v : V} {o : Opd} {a : Option D} {vs : List V} {os : List Opd} {as : List (Option D)} : RO K G σ v o a → ROs K G σ vs os as → ROs K G σ (v :: vs) (o :: os) (a :: as)
inductive RepPs (K : PySem.W.Frag) (G H : Hp) : List V → List D → Prop
  | nil : RepPs K G H [] []
  | cons {v : V} {d : D} {vs : List V} {ds : List D} : RepP K G H v d → RepPs K G H vs ds → RepPs K G H (v :: vs) (d :: ds)
section
variable {K : PySem.W.Frag} {G G' H H' : Hp} {σ : St} {env env' : Env}
theorem ROs.up {vs : List V} {os : List Opd} {as : List (Option D)} (h : ROs K G σ vs os as) (e : Ex G G') : ROs K G' σ vs os as := by
  induction h with
  | nil => exact .nil
  | cons a _ ih => exact .cons (a.up e) ih
theorem ROs.fin (r : REnv K G H σ env) {vs : List V} {os : List Opd} {as : List (Option D)} (h : ROs K G σ vs os as) : ∀ {ds : List D}, finAll os as env = some ds → RepPs K G H vs ds := by
  induction h with
  | nil => intro ds e; cases e; exact .nil
  | @cons v o a vs os as ro _ ih =>
    intro ds e
    unfold finAll at e
    cases e1 : o.fin a env with
    | none => rw [e1] at e; cases e
    | some d =>
      cases e2 : finAll os as env with
      | none => rw [e1, e2] at e; cases e
      | some ds2 =>
        rw [e1, e2] at e; cases e
        exact .cons (RO.fin r ro e1) (ih e2)
end
/-- what a continuation asks, from an earlier start -/
theorem cont_shift {α : Type} {X : Cx} {W : WX} {σ : St} {env env1 : Env} {G H G1 H1 : Hp} {P : α → Env → Hp → Hp → Prop} {r : R α} (t1 : Tr σ env G H σ env1 G1 H1)
    (q : match r with
      | .ok a env' => ∀ G' H', Tr σ env G H σ env' G' H' → REnv X.K G' H' σ env' → P a env' G' H'
      | .ex c env' => ∀ cls G' H', X.mg c = some cls → Tr σ env G H σ env' G' H' → REnv X.K G' H' σ env' → W cls none σ H'
      | .no => False) :
    match r with
      | .ok a env' => ∀ G' H', Tr σ env1 G1 H1 σ env' G' H' → REnv X.K G' H' σ env' → P a env' G' H'
      | .ex c env' => ∀ cls G' H', X.mg c = some cls → Tr σ env1 G1 H1 σ env' G' H' → REnv X.K G' H' σ env' → W cls none σ H'
      | .no => False := by
  cases r with
  | no => exact q
  | ex c e => exact fun cls G' H' hc t2 r2 => q cls G' H' hc (t1.trans t2) r2
  | ok a e => exact fun G' H' t2 r2 => q G' H' (t1.trans t2) r2
def TPs (X : Cx) (W : WX) (os : List Opd) : TA := fun σ H Q => ∃ G env, REnv X.K G H σ env ∧ match preAll os env with
  | .ok a env' => ∀ vs G' H', Tr σ env G H σ env' G' H' → REnv X.K G' H' σ env' → ROs X.K G' σ vs os a → Q vs H'
  | .ex c env' => ∀ cls G' H', X.mg c = some cls → Tr σ env G H σ env' G' H' → REnv X.K G' H' σ env' → W cls none σ H'
  | .no => False
abbrev DOs (X : Cx) (W : WX) (es : List Expr) (os : List Opd) : Prop := PA X es (TPs X W os)
abbrev DVs (X : Cx) (W : WX) (es : List Expr) (fs : List (M D)) : Prop := PA X es (TA' X W (evs fs))
section
variable {X : Cx} {W : WX} {e : Expr} {es : List Expr} {pos : Pos} {o : Opd} {os : List Opd} {f : M D} {fs : List (M D)}
theorem dos_nil : DOs X W [] [] := pa_nil.imp fun σ H Q ⟨G, env, r, q⟩ => q [] G H .refl r .nil
theorem dvs_nil : DVs X W [] [] := pa_nil.imp fun σ H Q ⟨G, env, r, q⟩ => q [] G H .refl r .nil
theorem dos_cons (ha : DO X W e o) (hr : DOs X W es os) (hs : starEach (e :: es) X.env = (false, eval e X.env) :: starEach es X.env := by rfl) : DOs X W (e :: es) (o :: os) := (pa_cons ha hr hs).imp fun σ H Q ⟨G, env, r, q⟩ => by
  refine ⟨G, env, r, ?_⟩
  unfold preAll at q
  cases e1 : o.pre env with
  | no => rw [e1] at q; exact q
  | ex c env1 => rw [e1] at q; exact q
  | ok a env1 =>
    rw [e1] at q
    intro v G1 H1 t1 r1 ro
    refine ⟨G1, env1, r1, ?_⟩
    have q : match (preAll os env1).map (a :: ·) with
      | .ok a env' => ∀ vs G' H', Tr σ env G H σ env' G' H' → REnv X.K G' H' σ env' → ROs X.K G' σ vs (o :: os) a → Q vs H'
      | .ex c env' => ∀ cls G' H', X.mg c = some cls → Tr σ env G H σ env' G' H' → REnv X.K G' H' σ env' → W cls none σ H'
      | .no => False := q
    cases e2 : preAll os env1 with
    | no => rw [e2] at q; exact q
    | ex c env2 => rw [e2] at q; exact fun cls G' H' hc t2 r2 => q cls G' H' hc (t1.trans t2) r2
    | ok as env2 =>
      rw [e2] at q
      exact fun vs G' H' t2 r2 ros => q (v :: vs) G' H' (t1.trans t2) r2 (.cons (ro.up t2.ex) ros)
theorem dvs_cons (ha : DV X W e f) (hr : DVs X W es fs) (hs : starEach (e :: es) X.env = (false, eval e X.env) :: starEach es X.env := by rfl) : DVs X W (e :: es) (f :: fs) := (pa_cons ha hr hs).imp fun σ H Q ⟨G, env, r, q⟩ => by
  refine ⟨G, env, r, ?_⟩
  unfold evs at q
  cases e1 : f env with
  | no => rw [e1] at q; exact q
  | ex c env1 => rw [e1] at q; exact q
  | ok a env1 =>
    rw [e1] at q
    intro v G1 H1 t1 r1 ro
    refine ⟨G1, env1, r1, ?_⟩
    have q : match (evs fs env1).map (a :: ·) with
      | .ok a env' => ∀ vs G' H', Tr σ env G H σ env' G' H' → REnv X.K G' H' σ env' → Reps X.K G' vs a → Q vs H'
      | .ex c env' => ∀ cls G' H', X.mg c = some cls → Tr σ env G H σ env' G' H' → REnv X.K G' H' σ env' → W cls none σ H'
      | .no => False := q
    cases e2 : evs fs env1 with
    | no => rw [e2] at q; exact q
    | ex c env2 => rw [e2] at q; exact fun cls G' H' hc t2 r2 => q cls G' H' hc (t1.trans t2) r2
    | ok as env2 =>
      rw [e2] at q
      exact fun vs G' H' t2 r2 ros => q (v :: vs) G' H' (t1.trans t2) r2 (.cons (ro.up t2.ex) ros)

/-! ### displays -/
def eTup (fs : List (M D)) : M D := fun env => (evs fs env).map .tup
def eLst (fs : List (M D)) : M A := fun env => (evs fs env).map fun ds => .own (.lst ds)
theorem evs_len : ∀ {fs : List (M D)} {env env' : Env} {ds : List D}, evs fs env = .ok ds env' → ds.length = fs.length
  | [], _, _, _, h => by cases h; rfl
  | f :: fs, env, env', ds, h => by
    unfold evs at h
    cases e1 : f env with
    | no => rw [e1] at h; cases h
    | ex c env1 => rw [e1] at h; cases h
    | ok d env1 =>
      rw [e1] at h
      have h : (evs fs env1).map (d :: ·) = .ok ds env' := h
      cases e2 : evs fs env1 with
      | no => rw [e2] at h; cases h
      | ex c env2 => rw [e2] at h; cases h
      | ok as env2 =>
        rw [e2] at h; cases h
        rw [List.length_cons, List.length_cons, evs_len e2]
theorem dv_tup {x1} (h : DVs X W es fs) (hl : fs.length ≤ sizeLine := by decide) : DV X W (.Tuple es x1 pos) (eTup fs) := (pe_tup h).imp fun σ H Q ⟨G, env, r, q⟩ => by
  refine ⟨G, env, r, ?_⟩
  unfold eTup at q
  cases e1 : evs fs env with
  | no => rw [e1] at q; exact q
  | ex c env1 => rw [e1] at q; exact q
  | ok ds env1 =>
    rw [e1] at q
    intro vs G1 H1 t1 r1 rs
    refine ⟨by rw [rs.len, evs_len e1]; exact hl, fun p n => ?_⟩
    obtain ⟨pt, ra⟩ := new_tup r1.ex n rs
    obtain ⟨t2, r2⟩ := pt.on r1
    exact q _ _ _ (t1.trans t2) r2 ra
theorem de_lst (h : DVs X W es fs) (hl : fs.length ≤ sizeLine := by decide) : DE X W (.List es pos) (eLst fs) := (pe_lst h).imp fun σ H Q ⟨G, env, r, q⟩ => by
  refine ⟨G, env, r, ?_⟩
  unfold eLst at q
  cases e1 : evs fs env with
  | no => rw [e1] at q; exact q
  | ex c env1 => rw [e1] at q; exact q
  | ok ds env1 =>
    rw [e1] at q
    intro vs G1 H1 t1 r1 rs
    refine ⟨by rw [rs.len, evs_len e1]; exact hl, fun p n => ?_⟩
    obtain ⟨pt, ra⟩ := new_list r1.ex n rs
    exact op_end (W := W) t1 r1 pt ra q

/-! ### built-ins by values -/
def rDC (K : PySem.W.Frag) (g : List D → Option A) : List V → Hp → VK → Prop := fun xs H Q => ∃ G ds a, Ex G H ∧ RepPs K G H xs ds ∧ g ds = some a ∧
  ∀ v G' H', PTr G H G' H' → RA0 K H G' H' v a → Q v H'
abbrev CallD (X : Cx) (f : Value) (g : List D → Option A) : Prop := CallR X f (rDC X.K g)
def eCB (g : List D → Option A) (os : List Opd) : M A := fun env => (preAll os env).bind fun as env1 => match finAll os as env1 with
  | some ds => (match g ds with
    | some r => .ok r env1
    | none => .no)
  | none => .no
theorem T_cb {g : List D → Option A} {σ : St} {H : Hp} {Q : VK} (h : T X W (eCB g os) σ H Q) : TPs X W os σ H fun vs H1 => rDC X.K g vs H1 Q := by
  obtain ⟨G, env, r, h⟩ := h
  refine ⟨G, env, r, ?_⟩
  unfold eCB at h
  cases e1 : preAll os env with
  | no => rw [e1] at h; exact h
  | ex c env1 => rw [e1] at h; exact h
  | ok as env1 =>
    rw [e1] at h
    intro vs G1 H1 t1 r1 ros
    have h : match (match finAll os as env1 with
        | some d1 => (match g d1 with
          | some r => R.ok r env1
          | none => .no)
        | none => .no) with
        | .ok a env' => ∀ v G' H', Tr σ env G H σ env' G' H' → REnv X.K G' H' σ env' → RA X.K σ env' H G' H' v a → Q v H'
        | .ex c env' => ∀ cls G' H', X.mg c = some cls → Tr σ env G H σ env' G' H' → REnv X.K G' H' σ env' → W cls none σ H'
        | .no => False := h
    cases f1 : finAll os as env1 with
    | none => rw [f1] at h; exact h.elim
    | some ds =>
      rw [f1] at h
      cases eg : g ds with
      | none => simp only [eg] at h
      | some z =>
        simp only [eg] at h
        exact ⟨G1, ds, z, r1.ex, ros.fin r1 f1, eg, fun v G' H' p ra => op_end (W := W) t1 r1 p ra h⟩
theorem de_cb {x : Str} {p : Pos} {id : String} {g : List D → Option A} (hc : CallD X (.builtin id) g) (hg : Gl X x) (hm : X.mg x = none) (hv : bootBuiltins x = some (.builtin id)) (ha : DOs X W (e :: es) os)
    (hn : x ≠ "__name__" := by decide) (hdb : (x == ("__debug__" : Str)) = false := by decide)
    (he : starEach (e :: es) X.env = (false, eval e X.env) :: starEach es X.env := by rfl) (hpl : (backTo pos (starEach es X.env)).any (·.1) = false := by rfl) : DE X W (.Call (.Name x p) (e :: es) [] pos) (eCB g os) :=
  (pe_callB hc hg hm hv ha hn hdb he hpl).imp fun _ _ _ h => T_cb h
theorem de_ct {x : Str} {p : Pos} {id : String} {g : List D → Option A} (hc : CallD X (.type id) g) (hg : Gl X x) (hm : X.mg x = none) (hv : bootBuiltins x = some (.type id)) (ha : DOs X W (e :: es) os)
    (hn : x ≠ "__name__" := by decide) (hdb : (x == ("__debug__" : Str)) = false := by decide)
    (he : starEach (e :: es) X.env = (false, eval e X.env) :: starEach es X.env := by rfl) (hpl : (backTo pos (starEach es X.env)).any (·.1) = false := by rfl) : DE X W (.Call (.Name x p) (e :: es) [] pos) (eCB g os) :=
  (pe_callTy hc hg hm hv ha hn hdb he hpl).imp fun _ _ _ h => T_cb h

/-! ### a < b < c -/
def eChain (g g' : D → D → Option A) (o1 o2 o3 : Opd) : M A := fun env => (o1.pre env).bind fun a env1 => (o2.pre env1).bind fun b env2 =>
  match o1.fin a env2, o2.fin b env2 with
  | some d1, some d2 => (match g d1 d2 with
    | some r => (match bOf r with
      | some true => (o3.pre env2).bind fun c env3 => (match o2.fin b env3, o3.fin c env3 with
        | some d2', some d3 => (match g' d2' d3 with
          | some r => .ok r env3
          | none => .no)
        | _, _ => .no)
      | some false => .ok (.val (.bl false)) env2
      | none => .no)
    | none => .no)
  | _, _ => .no
/-- a comparison that changes nothing: its answer is a truth value at once -/
theorem T_chain {g g' : D → D → Option A} {o1 o2 o3 : Opd} {σ : St} {H : Hp} {Q : VK} (h : T X W (eChain g g' o1 o2 o3) σ H Q) :
    tChain (rD2 X.K g) (rD2 X.K g') (TP X W o1) (TP X W o2) (TP X W o3) σ H Q := by
  obtain ⟨G, env, r, h⟩ := h
  refine ⟨G, env, r, ?_⟩
  unfold eChain at h
  cases e1 : o1.pre env with
  | no => rw [e1] at h; exact h
  | ex c env1 => rw [e1] at h; exact h
  | ok a env1 =>
    rw [e1] at h
    intro x G1 H1 t1 r1 ro1
    refine ⟨G1, env1, r1, ?_⟩
    simp only [R.bind] at h
    cases e2 : o2.pre env1 with
    | no => rw [e2] at h; exact h
    | ex c env2 =>
      rw [e2] at h
      exact fun cls G' H' hc t2 r2 => h cls G' H' hc (t1.trans t2) r2
    | ok b env2 =>
      simp only [e2] at h
      intro y G2 H2 t2 r2 ro2
      cases f1 : o1.fin a env2 with
      | none => simp only [f1] at h
      | some d1 =>
        cases f2 : o2.fin b env2 with
        | none => simp only [f1, f2] at h
        | some d2 =>
          simp only [f1, f2] at h
          cases eg : g d1 d2 with
          | none => simp only [eg] at h
          | some z =>
            simp only [eg] at h
            refine ⟨G2, d1, d2, z, r2.ex, RO.fin r2 (ro1.up t2.ex) f1, RO.fin r2 ro2 f2, eg, fun v G3 H3 p ra => ?_⟩
            obtain ⟨t3, r3⟩ := p.on r2
            cases z with
            | own d => exact h.elim
            | val d =>
              cases d with
              | bl k =>
                cases ra
                refine ⟨k, rfl, ?_⟩
                cases k with
                | false => exact h _ _ _ ((t1.trans t2).trans t3) r3 (.bl false)
                | true =>
                  simp only [bOf] at h
                  refine ⟨G3, env2, r3, ?_⟩
                  cases e3 : o3.pre env2 with
                  | no => rw [e3] at h; exact h
                  | ex c env3 =>
                    rw [e3] at h
                    exact fun cls G' H' hc t4 r4 => h cls G' H' hc (((t1.trans t2).trans t3).trans t4) r4
                  | ok c env3 =>
                    simp only [e3] at h
                    intro w G4 H4 t4 r4 ro3
                    cases f3 : o2.fin b env3 with
                    | none => simp only [f3] at h
                    | some d2' =>
                      cases f4 : o3.fin c env3 with
                      | none => simp only [f3, f4] at h
                      | some d3 =>
                        simp only [f3, f4] at h
                        cases eg2 : g' d2' d3 with
                        | none => simp only [eg2] at h
                        | some z2 =>
                          simp only [eg2] at h
                          exact ⟨G4, d2', d3, z2, r4.ex, RO.fin r4 ((ro2.up t3.ex).up t4.ex) f3, RO.fin r4 ro3 f4, eg2, fun v G' H' p ra => op_end (W := W) (((t1.trans t2).trans t3).trans t4) r4 p ra h⟩
              | _ => exact h.elim
theorem de_chain {a b c : Expr} {op op' : CmpOp} {g g' : D → D → Option A} {o1 o2 o3 : Opd} (ho : OpD X (compareOp op) g) (ho' : OpD X (compareOp op') g') (ha : DO X W a o1) (hb : DO X W b o2) (hc : DO X W c o3)
    (hm : lastMarks [op, op'] [b, c] = false := by with_unfolding_all rfl) : DE X W (.Compare a [op, op'] [b, c] pos) (eChain g g' o1 o2 o3) := (pe_chain ho ho' ha hb hc hm).imp fun _ _ _ h => T_chain h
theorem dt_chain {a b c : Expr} {op op' : CmpOp} {g g' : D → D → Option A} {o1 o2 o3 : Opd} (ho : OpD X (compareOp op) g) (ho' : OpD X (compareOp op') g') (ha : DO X W a o1) (hb : DO X W b o2) (hc : DO X W c o3)
    (hm : lastMarks [op, op'] [b, c] = false := by with_unfolding_all rfl) : DT X W (.Compare a [op, op'] [b, c] pos) (tst (eChain g g' o1 o2 o3)) := (pt_chain ho ho' ha hb hc hm).imp fun σ H Q h => T_chain (T_tst h)

/-! ### slices -/
def part : Option (M D) → M (Option Int)
  | none => fun env => .ok none env
  | some f => fun env => match f env with
    | .ok (.int i) e => .ok (some i) e
    | .ok _ _ => .no
    | .ex c e => .ex c e
    | .no => .no
def TPart (X : Cx) (W : WX) (p : Option (M D)) : TO := fun σ H Q => ∃ G env, REnv X.K G H σ env ∧ match part p env with
  | .ok a env' => ∀ G' H', Tr σ env G H σ env' G' H' → REnv X.K G' H' σ env' → Q a H'
  | .ex c env' => ∀ cls G' H', X.mg c = some cls → Tr σ env G H σ env' G' H' → REnv X.K G' H' σ env' → W cls none σ H'
  | .no => False
theorem PO_imp {oe : Option Expr} {t u : TO} (h : PO X oe t) (i : ∀ σ H Q, u σ H Q → t σ H Q) : PO X oe u := ⟨fun pins s σ H Q I q => h.run pins s σ H Q I (i σ H Q q)⟩
theorem dp_none : PO X none (TPart X W none) := PO_imp po_none fun σ H Q ⟨G, env, r, q⟩ => q G H .refl r
theorem dp_some (h : DV X W e f) : PO X (some e) (TPart X W (some f)) := PO_imp (po_some h) fun σ H Q ⟨G, env, r, q⟩ => by
  refine ⟨G, env, r, ?_⟩
  unfold part at q
  cases e1 : f env with
  | no => simp only [e1] at q
  | ex c env1 => simp only [e1] at q; exact q
  | ok z env1 =>
    simp only [e1] at q
    intro v G1 H1 t1 r1 rp
    cases z with
    | int i => cases rp; exact ⟨i, rfl, q G1 H1 t1 r1⟩
    | _ => exact q.elim
def eSl (g : D → Option Int → Option Int → Option A) (o : Opd) (lo hi : Option (M D)) : M A := fun env => (o.pre env).bind fun a env1 => (part lo env1).bind fun l env2 => (part hi env2).bind fun h env3 =>
  match o.fin a env3 with
  | some d => (match g d l h with
    | some r => .ok r env3
    | none => .no)
  | none => .no
def rDS (K : PySem.W.Frag) (g : D → Option Int → Option Int → Option A) : V → Option Int → Option Int → Hp → VK → Prop := fun x l h H Q => ∃ G d a, Ex G H ∧ RepP K G H x d ∧ g d l h = some a ∧
  ∀ v G' H', PTr G H G' H' → RA0 K H G' H' v a → Q v H'
theorem T_sl {g : D → Option Int → Option Int → Option A} {lo hi : Option (M D)} {σ : St} {H : Hp} {Q : VK} (h : T X W (eSl g o lo hi) σ H Q) : tSl (rDS X.K g) (TP X W o) (TPart X W lo) (TPart X W hi) σ H Q := by
  obtain ⟨G, env, r, h⟩ := h
  refine ⟨G, env, r, ?_⟩
  unfold eSl at h
  cases e1 : o.pre env with
  | no => rw [e1] at h; exact h
  | ex c env1 => rw [e1] at h; exact h
  | ok a env1 =>
    simp only [e1, R.bind] at h
    intro x G1 H1 t1 r1 ro1
    refine ⟨G1, env1, r1, ?_⟩
    cases e2 : part lo env1 with
    | no => rw [e2] at h; exact h
    | ex c env2 => rw [e2] at h; exact fun cls G' H' hc t2 r2 => h cls G' H' hc (t1.trans t2) r2
    | ok l env2 =>
      simp only [e2] at h
      intro G2 H2 t2 r2
      refine ⟨G2, env2, r2, ?_⟩
      cases e3 : part hi env2 with
      | no => rw [e3] at h; exact h
      | ex c env3 => rw [e3] at h; exact fun cls G' H' hc t3 r3 => h cls G' H' hc ((t1.trans t2).trans t3) r3
      | ok u env3 =>
        simp only [e3] at h
        intro G3 H3 t3 r3
        cases f1 : o.fin a env3 with
        | none => simp only [f1] at h
        | some d =>
          simp only [f1] at h
          cases eg : g d l u with
          | none => simp only [eg] at h
          | some z =>
            simp only [eg] at h
            exact ⟨G3, d, z, r3.ex, RO.fin r3 ((ro1.up t2.ex).up t3.ex) f1, eg, fun v G' H' p ra => op_end (W := W) ((t1.trans t2).trans t3) r3 p ra h⟩
theorem de_sl {g : D → Option Int → Option Int → Option A} {lo hi : Option Expr} {l h : Option (M D)} {p2 : Pos} (hr : SlR X (rDS X.K g)) (he : DO X W e o) (hl : PO X lo (TPart X W l)) (hu : PO X hi (TPart X W h)) :
    DE X W (.Subscript e (.Slice lo hi none p2) pos) (eSl g o l h) := (pe_slice hr he hl hu).imp fun _ _ _ h => T_sl h
def slD : D → Option Int → Option Int → Option A
  | .lst ds, l, h => some (.own (.lst (cut ds l h)))
  | .scr ns, l, h => some (.own (.lst ((cut ns l h).map .int)))
  | .tup ds, l, h => some (.val (.tup (cut ds l h)))
  | .str z, l, h => if z.length ≤ sizeLine then some (.val (.str (cutS z l h))) else none
  | _, _, _ => none
theorem SlR_imp {r r' : V → Option Int → Option Int → Hp → VK → Prop} (h : SlR X r) (i : ∀ x l u H Q, r' x l u H Q → r x l u H Q) : SlR X r' :=
  fun pins s σ H x v vl vu lo hi sl Q I rx hs pl pu q => h pins s σ H x v vl vu lo hi sl Q I rx hs pl pu (i _ _ _ _ _ q)
theorem sl_data : SlR X (rDS X.K slD) := by
  refine SlR_imp ((sl_list.or sl_tupA).or sl_str) fun x l u H Q ⟨G, d, a, e, r1, hg, q⟩ => ?_
  cases d with
  | lst ds =>
    cases hg
    obtain ⟨p, vs, rfl, h1, s1⟩ := r1.lst e
    refine .inl (.inl ⟨p, vs, rfl, SqL.of h1, fun b n => ?_⟩)
    obtain ⟨t, ra⟩ := new_list e n (s1.cut l u)
    exact q _ _ _ t ra
  | scr ns =>
    cases hg
    obtain ⟨p, rfl, h1⟩ := r1.scr
    refine .inl (.inl ⟨p, _, rfl, ex_l e h1, fun b n => ?_⟩)
    have s1 := Reps.ints (K := X.K) (G := G)
    have ec : cutV (ns.map V.int) l u = (cut ns l u).map V.int := by
      unfold cutV cut
      rw [List.map_take, List.map_drop, List.length_map]
    rw [ec]
    obtain ⟨t, ra⟩ := new_list e n (s1 (cut ns l u))
    exact q _ _ _ t ra
  | tup ds =>
    cases hg
    obtain ⟨p, vs, rfl, h1, s1⟩ := r1.tup
    refine .inl (.inr ⟨p, vs, rfl, ex_t e h1, fun z => ?_, fun z b n => ?_⟩)
    · have ec : cut ds l u = ds := by
        unfold cut
        rw [← s1.len, z.1, z.2]
        simp [s1.len]
      rw [ec] at q
      exact q _ _ _ (.refl e) (.tup h1 s1)
    · obtain ⟨t, ra⟩ := new_tup e n (s1.cut l u)
      exact q _ _ _ t ra
  | str z =>
    have hg : (if z.length ≤ sizeLine then some (A.val (.str (cutS z l u))) else none) = some a := hg
    by_cases hl : z.length ≤ sizeLine
    · rw [if_pos hl] at hg; cases hg
      exact .inr ⟨_, r1.str, hl, q _ _ _ (.refl e) (.str _)⟩
    · rw [if_neg hl] at hg; cases hg
  | _ => cases hg
end
end DL

namespace DL
open PySem L2

/-! ## a def's promise: it computes F of its arguments -/
/-- no argument is a list of the def's own -/
def Lent (as : Env) : Prop := ∀ (i : Nat) (d : D), as[i]? ≠ some (.own d)
/-- F: from the arguments (data, or a lent list) to the answer and what the lent lists hold then -/
def spOf (K : PySem.W.Frag) (mg : Str → Option Value) (n : Nat) (F : M A) : Sp := fun vs H Q E => vs.length = n ∧ ∃ G as, REnv K G H (vs.map some) as ∧ Lent as ∧ match F as with
  | .ok a as' => ∀ v G' H', Tr (vs.map some) as G H (vs.map some) as' G' H' → REnv K G' H' (vs.map some) as' → RA K (vs.map some) as' H G' H' v a → Q v H'
  | .ex c as' => ∀ cls G' H', mg c = some cls → Tr (vs.map some) as G H (vs.map some) as' G' H' → REnv K G' H' (vs.map some) as' → E cls none H'
  | .no => False

/-! ### the caller's side -/
def argSlot : Opd → Option D → Env → Option Slot
  | .e _, some d, _ => some (.val d)
  | .e _, none, _ => none
  | .n i, _, env => match env[i]? with
    | some (.val d) => some (.val d)
    | some (.own d) => some (.io d)
    | some (.io d) => some (.io d)
    | _ => none
def argSlots : List Opd → List (Option D) → Env → Option Env
  | [], [], _ => some []
  | o :: os, a :: as, env => match argSlot o a env, argSlots os as env with
    | some s, some ss => some (s :: ss)
    | _, _ => none
  | _, _, _ => none
def lookIo : List Opd → Env → Nat → Option D
  | .n j :: os, .io d :: ss, i => if j = i then some d else lookIo os ss i
  | _ :: os, _ :: ss, i => lookIo os ss i
  | _, _, _ => none
def putS : Option D → Slot → Slot
  | some d, .own _ => .own d
  | some d, .io _ => .io d
  | _, s => s
def putB (os : List Opd) (ss : Env) : Nat → Env → Env
  | _, [] => []
  | i, s :: r => putS (lookIo os ss i) s :: putB os ss (i + 1) r
def idxs : List Opd → List Nat
  | [] => []
  | .n i :: os => i :: idxs os
  | .e _ :: os => idxs os
def eCF (F : M A) (os : List Opd) : M A := fun env => (preAll os env).bind fun as env1 => match argSlots os as env1 with
  | some ss => (match F ss with
    | .ok a ss' => .ok a (putB os ss' 0 env1)
    | .ex c ss' => .ex c (putB os ss' 0 env1)
    | .no => .no)
  | none => .no

theorem own_putS (o : Option D) (s : Slot) : isOwn (putS o s) = isOwn s := by cases o <;> cases s <;> rfl
theorem argSlot_n (i : Nat) (a : Option D) (env : Env) : argSlot (.n i) a env = (match env[i]? with
    | some (.val d) => some (.val d)
    | some (.own d) => some (.io d)
    | some (.io d) => some (.io d)
    | _ => none) := by cases a <;> rfl
theorem putB_get (os : List Opd) (ss : Env) : ∀ (i : Nat) (env : Env) (j : Nat), (putB os ss i env)[j]? = env[j]?.map (putS (lookIo os ss (i + j)))
  | i, [], j => by simp [putB]
  | i, s :: r, 0 => by simp [putB]
  | i, s :: r, j + 1 => by
    unfold putB
    rw [List.getElem?_cons_succ, List.getElem?_cons_succ, putB_get os ss (i + 1) r j, show i + 1 + j = i + (j + 1) by omega]
theorem putB_len (os : List Opd) (ss : Env) : ∀ (i : Nat) (env : Env), (putB os ss i env).length = env.length
  | i, [] => rfl
  | i, s :: r => congrArg (· + 1) (putB_len os ss (i + 1) r)
theorem idx_mem : ∀ {os : List Opd} {k i : Nat}, os[k]? = some (.n i) → i ∈ idxs os
  | [], k, i, h => by simp at h
  | .n j :: os, 0, i, h => by cases h; exact List.mem_cons_self
  | .e f :: os, 0, i, h => by cases h
  | .n j :: os, k + 1, i, h => List.mem_cons_of_mem _ (idx_mem (os := os) (by simpa using h))
  | .e f :: os, k + 1, i, h => idx_mem (os := os) (k := k) (by simpa using h)
theorem idx_one : ∀ {os : List Opd}, (idxs os).Nodup → ∀ {k l i : Nat}, os[k]? = some (.n i) → os[l]? = some (.n i) → k = l
  | [], _, k, l, i, h, _ => by simp at h
  | .e f :: os, nd, 0, l, i, h, _ => by cases h
  | .e f :: os, nd, k + 1, 0, i, _, h => by cases h
  | .e f :: os, nd, k + 1, l + 1, i, h, q => congrArg (· + 1) (idx_one (os := os) nd (by simpa using h) (by simpa using q))
  | .n j :: os, nd, 0, 0, i, h, q => rfl
  | .n j :: os, nd, 0, l + 1, i, h, q => by
    cases h
    exact absurd (idx_mem (os := os) (by simpa using q)) (List.nodup_cons.mp nd).1
  | .n j :: os, nd, k + 1, 0, i, q, h => by
    cases h
    exact absurd (idx_mem (os := os) (by simpa using q)) (List.nodup_cons.mp nd).1
  | .n j :: os, nd, k + 1, l + 1, i, h, q => congrArg (· + 1) (idx_one (os := os) (List.nodup_cons.mp nd).2 (by simpa using h) (by simpa using q))
theorem look_some : ∀ {os : List Opd} {ss : Env} {i : Nat} {d : D}, lookIo os ss i = some d → ∃ k : Nat, os[k]? = some (.n i) ∧ ss[k]? = some (.io d)
  | [], ss, i, d, h => by cases ss <;> cases h
  | .e f :: os, [], i, d, h => by cases h
  | .n j :: os, [], i, d, h => by cases h
  | .e f :: os, s :: ss, i, d, h => by
    obtain ⟨k, a, b⟩ := look_some (os := os) (ss := ss) (i := i) (d := d) h
    exact ⟨k + 1, by simpa using a, by simpa using b⟩
  | .n j :: os, s :: ss, i, d, h => by
    cases s with
    | io d' =>
      unfold lookIo at h
      split at h
      · rename_i e; cases h; subst e; exact ⟨0, rfl, rfl⟩
      · obtain ⟨k, a, b⟩ := look_some (os := os) (ss := ss) (i := i) (d := d) h
        exact ⟨k + 1, by simpa using a, by simpa using b⟩
    | un => obtain ⟨k, a, b⟩ := look_some (os := os) (ss := ss) (i := i) (d := d) h; exact ⟨k + 1, by simpa using a, by simpa using b⟩
    | val _ => obtain ⟨k, a, b⟩ := look_some (os := os) (ss := ss) (i := i) (d := d) h; exact ⟨k + 1, by simpa using a, by simpa using b⟩
    | own _ => obtain ⟨k, a, b⟩ := look_some (os := os) (ss := ss) (i := i) (d := d) h; exact ⟨k + 1, by simpa using a, by simpa using b⟩
theorem look_of {os : List Opd} (nd : (idxs os).Nodup) {ss : Env} {i k : Nat} {d : D} (h : os[k]? = some (.n i)) (q : ss[k]? = some (.io d)) : lookIo os ss i = some d := by
  induction os generalizing ss k with
  | nil => simp at h
  | cons o os ih =>
    cases ss with
    | nil => simp at q
    | cons s ss =>
      cases k with
      | zero =>
        cases h
        cases q
        unfold lookIo
        rw [if_pos rfl]
      | succ k =>
        have h' : os[k]? = some (.n i) := by simpa using h
        have q' : ss[k]? = some (.io d) := by simpa using q
        cases o with
        | e f => exact ih nd h' q'
        | n j =>
          have hj : j ≠ i := fun z => by
            subst z
            exact (List.nodup_cons.mp nd).1 (idx_mem h')
          have r := ih (List.nodup_cons.mp nd).2 h' q'
          cases s with
          | io d' =>
            unfold lookIo
            rw [if_neg hj]; exact r
          | un => exact r
          | val _ => exact r
          | own _ => exact r

section
variable {K : PySem.W.Frag} {G G' H H' : Hp} {σ : St} {env env' : Env}
theorem argS_get : ∀ {vs : List V} {os : List Opd} {as : List (Option D)} {ss : Env}, ROs K G σ vs os as → argSlots os as env = some ss → ∀ {k : Nat} {s : Slot}, ss[k]? = some s → ∃ (v : V) (o : Opd) (a : Option D), vs[k]? = some v ∧ os[k]? = some o ∧ RO K G σ v o a ∧ argSlot o a env = some s
  | _, _, _, _, .nil, h, k, s, e => by cases h; simp at e
  | _, _, _, _, .cons (v := v) (o := o) (a := a) (os := os) (as := as) ro r, h, k, s, e => by
    unfold argSlots at h
    cases e1 : argSlot o a env with
    | none => rw [e1] at h; cases h
    | some s1 =>
      cases e2 : argSlots os as env with
      | none => rw [e1, e2] at h; cases h
      | some ss1 =>
        rw [e1, e2] at h; cases h
        cases k with
        | zero => cases e; exact ⟨v, o, a, rfl, rfl, ro, e1⟩
        | succ k =>
          obtain ⟨v', o', a', z⟩ := argS_get r e2 (k := k) (s := s) (by simpa using e)
          exact ⟨v', o', a', by simpa using z.1, by simpa using z.2.1, z.2.2⟩
theorem argS_len : ∀ {vs : List V} {os : List Opd} {as : List (Option D)} {ss : Env}, ROs K G σ vs os as → argSlots os as env = some ss → vs.length = ss.length
  | _, _, _, _, .nil, h => by cases h; rfl
  | _, _, _, _, .cons (v := v) (o := o) (a := a) (os := os) (as := as) ro r, h => by
    unfold argSlots at h
    cases e1 : argSlot o a env with
    | none => rw [e1] at h; cases h
    | some s1 =>
      cases e2 : argSlots os as env with
      | none => rw [e1, e2] at h; cases h
      | some ss1 =>
        rw [e1, e2] at h; cases h
        exact congrArg (· + 1) (argS_len r e2)
theorem argSlot_own {o : Opd} {a : Option D} {s : Slot} (h : argSlot o a env = some s) (q : isOwn s = true) : ∃ i d, o = .n i ∧ s = .io d ∧ (env[i]? = some (.own d) ∨ env[i]? = some (.io d)) := by
  cases o with
  | e f => cases a <;> cases h; cases q
  | n i =>
    rw [argSlot_n] at h
    split at h
    · cases h; cases q
    · rename_i d e; cases h; exact ⟨i, _, rfl, rfl, .inl e⟩
    · rename_i d e; cases h; exact ⟨i, _, rfl, rfl, .inr e⟩
    · cases h
/-- the arguments as the callee's first slots -/
theorem argS_env (r : REnv K G H σ env) {vs : List V} {os : List Opd} {as : List (Option D)} {ss : Env} (ros : ROs K G σ vs os as) (h : argSlots os as env = some ss) (nd : (idxs os).Nodup) :
    REnv K G H (vs.map some) ss ∧ (∀ p, ownAt (vs.map some) ss p → ownAt σ env p) := by
  have key : ∀ (k : Nat) (s : Slot), ss[k]? = some s → isOwn s = true → ∃ (v : V) (i : Nat) (d : D), vs[k]? = some v ∧ os[k]? = some (.n i) ∧ s = .io d ∧ (env[i]? = some (.own d) ∨ env[i]? = some (.io d)) ∧ σ[i]? = some (some v) := fun k s e q => by
    obtain ⟨v, o, a, e1, e2, ro, e3⟩ := argS_get ros h e
    obtain ⟨i, d, rfl, e4, e5⟩ := argSlot_own e3 q
    exact ⟨v, i, d, e1, e2, e4, e5, ro⟩
  have oa : ∀ p, ownAt (vs.map some) ss p → ownAt σ env p := fun p ⟨k, s, e, q, e2⟩ => by
    obtain ⟨v, i, d, e1, _, _, e5, e6⟩ := key k s e q
    rw [List.getElem?_map, e1] at e2
    cases e2
    rcases e5 with e5 | e5
    · exact ⟨i, _, e5, rfl, e6⟩
    · exact ⟨i, _, e5, rfl, e6⟩
  refine ⟨⟨by rw [List.length_map]; exact argS_len ros h, r.ex, fun k d e => ?_, fun k d e => ?_, fun k l s t p e1 q1 e2 q2 z1 z2 => ?_⟩, oa⟩
  · obtain ⟨v, o, a, e1, e2, ro, e3⟩ := argS_get ros h e
    refine ⟨v, by rw [List.getElem?_map, e1]; rfl, ?_⟩
    cases o with
    | e f =>
      cases a with
      | none => cases e3
      | some d' => cases e3; exact ro
    | n i =>
      rw [argSlot_n] at e3
      split at e3
      · rename_i d' e4; cases e3
        obtain ⟨w, e5, rp⟩ := r.val i _ e4
        have ro : σ[i]? = some (some v) := ro
        rw [ro] at e5; cases e5; exact rp
      · cases e3
      · cases e3
      · cases e3
  · have hk : ∃ s, ss[k]? = some s ∧ isOwn s = true ∧ (s = .own d ∨ s = .io d) := by
      rcases e with e | e
      · exact ⟨_, e, rfl, .inl rfl⟩
      · exact ⟨_, e, rfl, .inr rfl⟩
    obtain ⟨s, es, qs, hs⟩ := hk
    obtain ⟨v, i, d', e1, e2, e3, e5, e6⟩ := key k s es qs
    have : d' = d := by rcases hs with hs | hs <;> rw [hs] at e3 <;> cases e3; rfl
    subst this
    obtain ⟨p, e7, o⟩ := r.own i d' e5
    rw [e6] at e7; cases e7
    exact ⟨p, by rw [List.getElem?_map, e1]; rfl, o⟩
  · obtain ⟨v, i, d, a1, a2, a3, a4, a5⟩ := key k s e1 q1
    obtain ⟨u, j, c, b1, b2, b3, b4, b5⟩ := key l t e2 q2
    rw [List.getElem?_map, a1] at z1
    rw [List.getElem?_map, b1] at z2
    cases z1; cases z2
    have : i = j := by
      rcases a4 with a4 | a4 <;> rcases b4 with b4 | b4 <;> exact r.dis i j _ _ p a4 rfl b4 rfl a5 b5
    subst this
    exact idx_one nd a2 b2
/-- what a call leaves, seen by the caller -/
theorem call_back (r : REnv K G H σ env) {vs : List V} {os : List Opd} {as : List (Option D)} {ss ss' : Env} (ros : ROs K G σ vs os as) (h : argSlots os as env = some ss) (nd : (idxs os).Nodup)
    (t : Tr (vs.map some) ss G H (vs.map some) ss' G' H') (r' : REnv K G' H' (vs.map some) ss') : Tr σ env G H σ (putB os ss' 0 env) G' H' ∧ REnv K G' H' σ (putB os ss' 0 env) := by
  obtain ⟨ra, oa⟩ := argS_env r ros h nd
  have get : ∀ j, (putB os ss' 0 env)[j]? = env[j]?.map (putS (lookIo os ss' j)) := fun j => by rw [putB_get, Nat.zero_add]
  have sep : ∀ (i : Nat) (s : Slot), (putB os ss' 0 env)[i]? = some s → isOwn s = true → ∃ s0, env[i]? = some s0 ∧ isOwn s0 = true := fun i s e q => by
    rw [get] at e
    cases e1 : env[i]? with
    | none => rw [e1] at e; cases e
    | some s0 =>
      rw [e1] at e
      refine ⟨s0, rfl, ?_⟩
      have e : putS (lookIo os ss' i) s0 = s := Option.some.inj e
      subst e
      rw [own_putS] at q; exact q
  have back : ∀ p, ownAt σ (putB os ss' 0 env) p → ownAt σ env p := fun p ⟨i, s, e, q, z⟩ => by
    obtain ⟨s0, e0, q0⟩ := sep i s e q
    exact ⟨i, s0, e0, q0, z⟩
  refine ⟨⟨t.ex, fun p hp => ?_, fun p o hp => ?_, fun p hp => .inl (back p hp), fun p hp => ?_, t.dom, rfl, fun i d e => ?_⟩, ⟨by rw [putB_len]; exact r.len, r'.ex, fun i d e => ?_, fun i d e => ?_, fun i j s u p e1 q1 e2 q2 z1 z2 => ?_⟩⟩
  · rcases t.g p hp with h | h | h
    · exact .inl h
    · exact .inr (.inl h)
    · exact .inr (.inr (oa p h))
  · rcases t.h p o hp with h | h
    · exact .inl (oa p h)
    · exact .inr h
  · obtain ⟨j, e, a1, a2⟩ := hp
    rw [get] at a1
    cases e1 : env[j]? with
    | none => rw [e1] at a1; cases a1
    | some s0 =>
      rw [e1] at a1
      have a1 : putS (lookIo os ss' j) s0 = .own e := Option.some.inj a1
      cases s0 with
      | own c => exact .inl ⟨j, c, e1, a2⟩
      | io c => cases hl : lookIo os ss' j <;> rw [hl] at a1 <;> cases a1
      | val c => cases hl : lookIo os ss' j <;> rw [hl] at a1 <;> cases a1
      | un => cases hl : lookIo os ss' j <;> rw [hl] at a1 <;> cases a1
  · refine ⟨rfl, ?_⟩
    rw [get, e]
    cases lookIo os ss' i with
    | none => exact ⟨d, rfl⟩
    | some d' => exact ⟨d', rfl⟩
  · rw [get] at e
    cases e1 : env[i]? with
    | none => rw [e1] at e; cases e
    | some s0 =>
      rw [e1] at e
      have e : putS (lookIo os ss' i) s0 = .val d := Option.some.inj e
      have e0 : s0 = .val d := by
        cases s0 with
        | val c => cases hl : lookIo os ss' i <;> rw [hl] at e <;> exact e
        | un => cases hl : lookIo os ss' i <;> rw [hl] at e <;> cases e
        | own c => cases hl : lookIo os ss' i <;> rw [hl] at e <;> cases e
        | io c => cases hl : lookIo os ss' i <;> rw [hl] at e <;> cases e
      subst e0
      obtain ⟨v, e2, rp⟩ := r.val i d e1
      exact ⟨v, e2, rp.up t.ex⟩
  · have hk : ∃ s, (putB os ss' 0 env)[i]? = some s ∧ isOwn s = true ∧ (s = .own d ∨ s = .io d) := by
      rcases e with e | e
      · exact ⟨_, e, rfl, .inl rfl⟩
      · exact ⟨_, e, rfl, .inr rfl⟩
    obtain ⟨s, es, qs, hs⟩ := hk
    obtain ⟨s0, e0, q0⟩ := sep i s es qs
    rw [get, e0] at es
    have es : putS (lookIo os ss' i) s0 = s := Option.some.inj es
    have old : ∃ d0 p, (env[i]? = some (.own d0) ∨ env[i]? = some (.io d0)) ∧ (s0 = .own d0 ∨ s0 = .io d0) ∧ σ[i]? = some (some (.ref p)) ∧ Own K G H p d0 := by
      cases s0 with
      | own c => obtain ⟨p, z, o⟩ := r.own i c (.inl e0); exact ⟨c, p, .inl e0, .inl rfl, z, o⟩
      | io c => obtain ⟨p, z, o⟩ := r.own i c (.inr e0); exact ⟨c, p, .inr e0, .inr rfl, z, o⟩
      | val c => cases q0
      | un => cases q0
    obtain ⟨d0, p, e3, e4, e5, o⟩ := old
    refine ⟨p, e5, ?_⟩
    cases hl : lookIo os ss' i with
    | some d1 =>
      have : d = d1 := by
        rw [hl] at es
        rcases e4 with rfl | rfl <;> rcases hs with rfl | rfl <;> cases es <;> rfl
      subst this
      obtain ⟨k, k1, k2⟩ := look_some hl
      obtain ⟨p', z1, o'⟩ := r'.own k d (.inr k2)
      -- the k-th argument is the value of slot i
      have hv : ∃ v, vs[k]? = some v ∧ σ[i]? = some (some v) := by
        have hlen : ss'.length = ss.length := by rw [← r'.len, ra.len]
        have hk' : k < ss.length := by rw [← hlen]; exact (List.getElem?_eq_some_iff.mp k2).1
        obtain ⟨v, o2, a, w1, w2, w3, w4⟩ := argS_get ros h (List.getElem?_eq_getElem hk')
        rw [k1] at w2; cases w2
        exact ⟨v, w1, w3⟩
      obtain ⟨v, v1, v2⟩ := hv
      rw [List.getElem?_map, v1] at z1
      rw [e5] at v2
      cases v2; cases z1
      exact o'
    | none =>
      have : d = d0 := by
        rw [hl] at es
        rcases e4 with rfl | rfl <;> rcases hs with rfl | rfl <;> cases es <;> rfl
      subst this
      obtain ⟨ng, w, hw⟩ := o.there
      have nown : ¬ ownAt (vs.map some) ss p := fun ⟨k, s1, a1, a2, a3⟩ => by
        obtain ⟨v, o2, a, w1, w2, w3, w4⟩ := argS_get ros h a1
        obtain ⟨j, c, rfl, rfl, b3⟩ := argSlot_own w4 a2
        rw [List.getElem?_map, w1] at a3
        cases a3
        have w3 : σ[j]? = some (some (.ref p)) := w3
        have : i = j := by
          rcases e3 with e3 | e3 <;> rcases b3 with b3 | b3 <;> exact r.dis i j _ _ p e3 rfl b3 rfl e5 w3
        subst this
        obtain ⟨_, d2, z⟩ := t.io k c a1
        rw [look_of nd w2 z] at hl
        cases hl
      have hH : H' p = some w := by
        rcases t.h p w hw with h | h
        · exact absurd h nown
        · exact h
      have hG : G' p = none := by
        rcases t.g p ng with h | h | h
        · exact h
        · rw [hw] at h; cases h
        · exact absurd h nown
      exact o.up t.ex hG (by rw [hH, hw])
  · obtain ⟨s1, a1, b1⟩ := sep i s e1 q1
    obtain ⟨s2, a2, b2⟩ := sep j u e2 q2
    exact r.dis i j s1 s2 p a1 b1 a2 b2 z1 z2
end

section
variable {X : Cx} {W : WX} {e : Expr} {es : List Expr} {os : List Opd} {pos : Pos}
theorem T_cf {F : M A} {n : Nat} {σ : St} {H : Hp} {Q : VK} (nd : (idxs os).Nodup) (hn : os.length = n) (h : T X W (eCF F os) σ H Q) : tCallS (spOf X.K X.mg n F) (WE W) (TPs X W os) σ H Q := by
  obtain ⟨G, env, r, h⟩ := h
  refine ⟨G, env, r, ?_⟩
  unfold eCF at h
  cases e1 : preAll os env with
  | no => rw [e1] at h; exact h
  | ex c env1 => rw [e1] at h; exact h
  | ok as env1 =>
    rw [e1] at h
    intro vs G1 H1 t1 r1 ros
    simp only [R.bind] at h
    cases e2 : argSlots os as env1 with
    | none => simp only [e2] at h
    | some ss =>
      simp only [e2] at h
      obtain ⟨ra, oa⟩ := argS_env r1 ros e2 nd
      have hl : vs.length = os.length := by
        have : ∀ {vs : List V} {os : List Opd} {as : List (Option D)}, ROs X.K G1 σ vs os as → vs.length = os.length := fun z => by
          induction z with
          | nil => rfl
          | cons _ _ ih => exact congrArg (· + 1) ih
        exact this ros
      refine ⟨hl.trans hn, G1, ss, ra, fun i d z => ?_, ?_⟩
      · obtain ⟨v, o, a, _, _, _, z4⟩ := argS_get ros e2 z
        obtain ⟨j, c, _, z5, _⟩ := argSlot_own z4 rfl
        cases z5
      cases e3 : F ss with
      | no => simp only [e3] at h
      | ex c ss' =>
        simp only [e3] at h
        intro cls G' H' hc t2 r2
        obtain ⟨t3, r3⟩ := call_back r1 ros e2 nd t2 r2
        exact h cls G' H' hc (t1.trans t3) r3
      | ok a ss' =>
        simp only [e3] at h
        intro v G' H' t2 r2 rr
        obtain ⟨t3, r3⟩ := call_back r1 ros e2 nd t2 r2
        refine h v G' H' (t1.trans t3) r3 ?_
        cases a with
        | val d => exact rr
        | own d =>
          obtain ⟨p, e, n, no, o⟩ := rr
          refine ⟨p, e, t1.dom p n, fun z => ?_, o⟩
          rcases t3.o p z with z | z
          · obtain ⟨_, w, hw⟩ := r1.oat z
            rw [n] at hw; cases hw
          · -- p would be an own slot of the caller's, which was there ahead of the call
            obtain ⟨i, s, a1, a2, a3⟩ := ‹ownAt σ (putB os ss' 0 env1) p›
            have : ownAt σ env1 p := by
              rw [putB_get, Nat.zero_add] at a1
              cases e5 : env1[i]? with
              | none => rw [e5] at a1; cases a1
              | some s0 =>
                rw [e5] at a1
                have a1 : putS (lookIo os ss' i) s0 = s := Option.some.inj a1
                refine ⟨i, s0, e5, ?_, a3⟩
                subst a1
                rw [own_putS] at a2; exact a2
            obtain ⟨_, w, hw⟩ := r1.oat this
            rw [n] at hw; cases hw
/-- a call of a def -/
theorem de_cf {k n : Nat} {f : Addr} {fd : FuncData} {ps : List Str} {x : Str} {p : Pos} {F : M A} (FF : FnOk X.prog X.w X.K X.mg X.base (L2.CX X.prog X.w) k f fd ps (spOf X.K X.mg n F)) (tk : Takes X W) (hr : Room k X.A) (hg : Gl X x) (hm : X.mg x = some (.ref f))
    (hk : PySem.W.keepIn X.K (.ref f) = true) (hb : Binds X.K fd ps []) (ha : DOs X W (e :: es) os) (nd : (idxs os).Nodup) (hn : os.length = n)
    (hdb : (x == ("__debug__" : Str)) = false := by decide) (he : starEach (e :: es) X.env = (false, eval e X.env) :: starEach es X.env := by rfl) (hpl : (backTo pos (starEach es X.env)).any (·.1) = false := by rfl) :
    DE X W (.Call (.Name x p) (e :: es) [] pos) (eCF F os) := (pe_callS FF hr hg hm hk hb (passAt tk) ha hdb he hpl).imp fun σ H Q h => T_cf nd hn h
end
end DL

namespace DL
open PySem L2

/-! ## statements -/
inductive S where
  | nx (e : Env) | ret (a : A) (e : Env) | brk (e : Env) | cont (e : Env) | ex (c : Str) (e : Env) | no
abbrev MS := Env → S
/-- an answer that a def gives back: new, or what was the def's own -/
def RR (K : PySem.W.Frag) (σ : St) (env : Env) (H : Hp) (σ' : St) (env' : Env) (G' H' : Hp) (v : V) : A → Prop
  | .val d => Rep K G' v d
  | .own d => ∃ p, v = .ref p ∧ (H p = none ∨ ownN σ env p) ∧ ¬ ownAt σ' env' p ∧ Own K G' H' p d
def Post (X : Cx) (W : WX) (B : Ends) (σ : St) (env : Env) (G H : Hp) : S → Prop
  | .nx e' => ∀ σ' G' H', Tr σ env G H σ' e' G' H' → REnv X.K G' H' σ' e' → B.nx σ' H'
  | .brk e' => ∀ σ' G' H', Tr σ env G H σ' e' G' H' → REnv X.K G' H' σ' e' → B.bk σ' H'
  | .cont e' => ∀ σ' G' H', Tr σ env G H σ' e' G' H' → REnv X.K G' H' σ' e' → B.ct σ' H'
  | .ret a e' => ∀ v σ' G' H', Tr σ env G H σ' e' G' H' → REnv X.K G' H' σ' e' → RR X.K σ env H σ' e' G' H' v a → B.rt v H'
  | .ex c e' => ∀ cls σ' G' H', X.mg c = some cls → Tr σ env G H σ' e' G' H' → REnv X.K G' H' σ' e' → W cls none σ' H'
  | .no => False
def TSof (X : Cx) (W : WX) (f : MS) : TS := fun B σ H => ∃ G env, REnv X.K G H σ env ∧ Post X W B σ env G H (f env)
abbrev DS (X : Cx) (W : WX) (st : Stmt) (f : MS) : Prop := PS X st (TSof X W f)
abbrev DSs (X : Cx) (W : WX) (st : List Stmt) (f : MS) : Prop := PSs X st (TSof X W f)
theorem _root_.L2.PS.imp {X : Cx} {st : Stmt} {t u : TS} (h : PS X st t) (i : ∀ B σ H, u B σ H → t B σ H) : PS X st u := ⟨fun pins s σ H B I q => h.run pins s σ H B I (i B σ H q)⟩
theorem _root_.L2.PSs.imp {X : Cx} {st : List Stmt} {t u : TS} (h : PSs X st t) (i : ∀ B σ H, u B σ H → t B σ H) : PSs X st u := ⟨fun pins s σ H B I q => h.run pins s σ H B I (i B σ H q)⟩
section
variable {X : Cx} {W : WX} {B : Ends} {σ σ1 : St} {env env1 : Env} {G H G1 H1 : Hp} {r : S}
theorem Post.shift (t1 : Tr σ env G H σ1 env1 G1 H1) (h : Post X W B σ env G H r) : Post X W B σ1 env1 G1 H1 r := by
  cases r with
  | no => exact h
  | nx e => exact fun σ' G' H' t r => h σ' G' H' (t1.trans t) r
  | brk e => exact fun σ' G' H' t r => h σ' G' H' (t1.trans t) r
  | cont e => exact fun σ' G' H' t r => h σ' G' H' (t1.trans t) r
  | ex c e => exact fun cls σ' G' H' hc t r => h cls σ' G' H' hc (t1.trans t) r
  | ret a e =>
    refine fun v σ' G' H' t r ra => h v σ' G' H' (t1.trans t) r ?_
    cases a with
    | val d => exact ra
    | own d =>
      obtain ⟨p, e1, n, no, o⟩ := ra
      refine ⟨p, e1, ?_, no, o⟩
      rcases n with n | n
      · exact .inl (t1.dom p n)
      · rcases t1.on p n with n | n
        · exact .inr n
        · exact .inl n
end
/-- an expression's result as a statement's -/
def R.s {α : Type} (r : R α) (k : α → Env → S) : S := match r with
  | .ok a e => k a e
  | .ex c e => .ex c e
  | .no => .no
def sNext : MS := fun env => .nx env
def S.seq (r : S) (g : MS) : S := match r with
  | .nx e => g e
  | r => r
def sSeq (f g : MS) : MS := fun env => (f env).seq g
def sIf (c : M Bool) (f g : MS) : MS := fun env => (c env).s fun b e => if b then f e else g e
def sRet (f : M A) : MS := fun env => (f env).s fun a e => .ret a e
def sRetN (i : Nat) : MS := fun env => match env[i]? with
  | some (.val d) => .ret (.val d) env
  | some (.own d) => .ret (.own d) (env.set i .un)
  | _ => .no
def sExpr (f : M A) : MS := fun env => (f env).s fun _ e => .nx e
def sBrk : MS := fun env => .brk env
def sCont : MS := fun env => .cont env

section
variable {X : Cx} {W : WX} {e c : Expr} {es : List Expr} {pos : Pos} {st : Stmt} {sts xs ys : List Stmt} {f g : MS}
theorem dss_nil : DSs X W [] sNext := pss_nil.imp fun B σ H ⟨G, env, r, q⟩ => q σ G H .refl r
theorem ds_pass : DS X W (.Pass pos) sNext := ps_pass.imp fun B σ H ⟨G, env, r, q⟩ => q σ G H .refl r
theorem ds_break : DS X W (.Break pos) sBrk := ps_break.imp fun B σ H ⟨G, env, r, q⟩ => q σ G H .refl r
theorem ds_continue : DS X W (.Continue pos) sCont := ps_continue.imp fun B σ H ⟨G, env, r, q⟩ => q σ G H .refl r
theorem dss_cons (h1 : DS X W st f) (h2 : DSs X W sts g) : DSs X W (st :: sts) (sSeq f g) := (pss_cons h1 h2).imp fun B σ H ⟨G, env, r, q⟩ => by
  refine ⟨G, env, r, ?_⟩
  unfold sSeq S.seq at q
  cases e1 : f env with
  | nx e => rw [e1] at q; exact fun σ' G' H' t r => ⟨G', e, r, q.shift t⟩
  | ret a e => rw [e1] at q; exact q
  | brk e => rw [e1] at q; exact q
  | cont e => rw [e1] at q; exact q
  | ex c e => rw [e1] at q; exact q
  | no => rw [e1] at q; exact q
theorem dss_one (h1 : DS X W st f) : DSs X W [st] f := pss_one h1
theorem ds_if {fc : M Bool} (hc : DT X W c fc) (ha : DSs X W xs f) (hb : DSs X W ys g) : DS X W (.If c xs ys pos) (sIf fc f g) := (ps_if hc ha hb).imp fun B σ H ⟨G, env, r, q⟩ => by
  refine ⟨G, env, r, ?_⟩
  unfold sIf R.s at q
  cases e1 : fc env with
  | no => rw [e1] at q; exact q
  | ex c e => rw [e1] at q; exact fun cls G' H' hc t r => q cls σ G' H' hc t r
  | ok b e =>
    rw [e1] at q
    intro G1 H1 t1 r1
    cases b with
    | true => exact ⟨G1, e, r1, q.shift t1⟩
    | false => exact ⟨G1, e, r1, q.shift t1⟩
theorem ds_ret {f : M A} (h : DE X W e f) : DS X W (.Return (some e) pos) (sRet f) := (ps_ret h).imp fun B σ H ⟨G, env, r, q⟩ => by
  refine ⟨G, env, r, ?_⟩
  unfold sRet R.s at q
  cases e1 : f env with
  | no => rw [e1] at q; exact q
  | ex c e => rw [e1] at q; exact fun cls G' H' hc t r => q cls σ G' H' hc t r
  | ok a e =>
    rw [e1] at q
    refine fun v G' H' t r ra => q v σ G' H' t r ?_
    cases a with
    | val d => exact ra
    | own d => obtain ⟨p, e, n, z⟩ := ra; exact ⟨p, e, .inl n, z⟩
theorem ds_ret0 : DS X W (.Return none pos) (sRet (asA (eC .non))) := ps_retN.imp fun B σ H ⟨G, env, r, q⟩ => q .non σ G H .refl r .non
theorem ds_retn {i : Nat} (h : PE X e (tVar i)) : DS X W (.Return (some e) pos) (sRetN i) := (ps_ret h).imp fun B σ H ⟨G, env, r, q⟩ => by
  unfold sRetN at q
  cases e1 : env[i]? with
  | none => rw [e1] at q; exact q.elim
  | some s =>
    rw [e1] at q
    cases s with
    | un => exact q.elim
    | io d => exact q.elim
    | val d =>
      obtain ⟨v, e, rp⟩ := r.val i d e1
      exact ⟨v, e, q v σ G H .refl r rp⟩
    | own d =>
      obtain ⟨p, e, o⟩ := r.own i d (.inl e1)
      have sub : ∀ q, ownAt σ (env.set i .un) q → ownAt σ env q ∧ q ≠ p := fun q ⟨j, s, a1, a2, a3⟩ => by
        rcases get_set a1 with ⟨_, z⟩ | ⟨ne, z⟩
        · subst z; cases a2
        · exact ⟨⟨j, s, z, a2, a3⟩, fun w => by subst w; exact ne (r.dis j i s _ q z a2 e1 rfl a3 e)⟩
      refine ⟨.ref p, e, q (.ref p) σ G H ⟨fun _ _ z => z, fun _ z => .inl z, fun _ _ z => .inr z, fun p z => .inl (sub p z).1, fun p z => ?_, fun _ z => z, rfl, fun j d' z => ⟨rfl, d', ?_⟩⟩
        ⟨by rw [List.length_set]; exact r.len, r.ex, fun j d' z => ?_, fun j d' z => ?_, fun j k s t p a1 a2 a3 a4 a5 a6 => ?_⟩ ⟨p, rfl, .inr ⟨i, d, e1, e⟩, fun z => (sub p z).2 rfl, o⟩⟩
      · obtain ⟨j, d', a1, a2⟩ := z
        rcases get_set a1 with ⟨_, z⟩ | ⟨ne, z⟩
        · cases z
        · exact .inl ⟨j, d', z, a2⟩
      · have ne : i ≠ j := fun w => by subst w; rw [e1] at z; cases z
        rw [List.getElem?_set_ne ne]; exact z
      · rcases get_set z with ⟨_, z⟩ | ⟨ne, z⟩
        · cases z
        · exact r.val j d' z
      · refine r.own j d' ?_
        rcases z with z | z
        · rcases get_set z with ⟨_, z⟩ | ⟨ne, z⟩
          · cases z
          · exact .inl z
        · rcases get_set z with ⟨_, z⟩ | ⟨ne, z⟩
          · cases z
          · exact .inr z
      · rcases get_set a1 with ⟨_, z⟩ | ⟨_, z1⟩
        · subst z; cases a2
        · rcases get_set a3 with ⟨_, z⟩ | ⟨_, z2⟩
          · subst z; cases a4
          · exact r.dis j k s t p z1 a2 z2 a4 a5 a6
theorem ds_expr {f : M A} (h : DE X W e f) (hs : swapsWith e none pos.line X.env = pure false := by rfl) : DS X W (.Expr e pos) (sExpr f) := (ps_expr h hs).imp fun B σ H ⟨G, env, r, q⟩ => by
  refine ⟨G, env, r, ?_⟩
  unfold sExpr R.s at q
  cases e1 : f env with
  | no => rw [e1] at q; exact q
  | ex c e => rw [e1] at q; exact fun cls G' H' hc t r => q cls σ G' H' hc t r
  | ok a e =>
    rw [e1] at q
    exact fun v G' H' t r ra => q σ G' H' t r
end

/-! ## stores -/
def slotOf : A → Slot
  | .val d => .val d
  | .own d => .own d
def ioAt (env : Env) (i : Nat) : Bool := match env[i]? with
  | some (.io _) => true
  | none => true
  | _ => false
section
variable {K : PySem.W.Frag} {σ0 σ : St} {env0 env : Env} {G0 H0 G H : Hp} {v : V} {a : A}
theorem store_env (t : Tr σ0 env0 G0 H0 σ env G H) (r : REnv K G H σ env) (ra : RA K σ env H0 G H v a) {i : Nat} (hio : ioAt env i = false) :
    Tr σ0 env0 G0 H0 (σ.set i (some v)) (env.set i (slotOf a)) G H ∧ REnv K G H (σ.set i (some v)) (env.set i (slotOf a)) := by
  have hi : i < env.length := by
    unfold ioAt at hio
    cases e : env[i]? with
    | none => rw [e] at hio; cases hio
    | some s => exact (List.getElem?_eq_some_iff.mp e).1
  have hiσ : i < σ.length := by rw [r.len]; exact hi
  have σi : (σ.set i (some v))[i]? = some (some v) := List.getElem?_set_self hiσ
  have σj : ∀ {j}, j ≠ i → (σ.set i (some v))[j]? = σ[j]? := fun h => List.getElem?_set_ne (Ne.symm h)
  have own : ∀ p, ownAt (σ.set i (some v)) (env.set i (slotOf a)) p → (ownAt σ env p) ∨ H0 p = none := fun p ⟨j, s, a1, a2, a3⟩ => by
    rcases get_set a1 with ⟨rfl, z⟩ | ⟨ne, z⟩
    · subst z
      cases a with
      | val d => cases a2
      | own d =>
        obtain ⟨q, e, n, _, _⟩ := ra
        rw [σi] at a3
        have : v = .ref p := Option.some.inj (Option.some.inj a3)
        rw [e] at this; cases this
        exact .inr n
    · rw [σj ne] at a3
      exact .inl ⟨j, s, z, a2, a3⟩
  refine ⟨⟨t.ex, t.g, t.h, fun p z => ?_, fun p z => ?_, t.dom, (by rw [List.length_set]; exact t.len), fun j d z => ?_⟩, ⟨by rw [List.length_set, List.length_set]; exact r.len, r.ex, fun j d z => ?_, fun j d z => ?_, fun j k s u p a1 a2 a3 a4 a5 a6 => ?_⟩⟩
  · rcases own p z with z | z
    · exact t.o p z
    · exact .inr z
  · obtain ⟨j, d, a1, a2⟩ := z
    rcases get_set a1 with ⟨rfl, z⟩ | ⟨ne, z⟩
    · cases a with
      | val d => cases z
      | own d =>
        obtain ⟨q, e, n, _, _⟩ := ra
        rw [σi] at a2
        have : v = .ref p := Option.some.inj (Option.some.inj a2)
        rw [e] at this; cases this
        exact .inr n
    · rw [σj ne] at a2
      exact t.on p ⟨j, d, z, a2⟩
  · obtain ⟨e1, d', e2⟩ := t.io j d z
    have ne : j ≠ i := fun w => by
      subst w
      unfold ioAt at hio
      rw [e2] at hio; cases hio
    exact ⟨(σj ne).trans e1, d', by rw [List.getElem?_set_ne (Ne.symm ne)]; exact e2⟩
  · rcases get_set z with ⟨rfl, z3⟩ | ⟨ne, z3⟩
    · cases a with
      | own d => cases z3
      | val d' => cases z3; exact ⟨v, σi, ra⟩
    · obtain ⟨w, e, rp⟩ := r.val j d z3
      exact ⟨w, (σj ne).trans e, rp⟩
  · have z' : ∃ s, (env.set i (slotOf a))[j]? = some s ∧ (s = .own d ∨ s = .io d) := by
      rcases z with z | z
      · exact ⟨_, z, .inl rfl⟩
      · exact ⟨_, z, .inr rfl⟩
    obtain ⟨s, z1, z2⟩ := z'
    rcases get_set z1 with ⟨rfl, z3⟩ | ⟨ne, z3⟩
    · cases a with
      | val d' => rw [z3] at z2; rcases z2 with z2 | z2 <;> cases z2
      | own d' =>
        obtain ⟨p, e, _, _, o⟩ := ra
        rw [z3] at z2
        rcases z2 with z2 | z2 <;> cases z2
        exact ⟨p, by rw [σi, e], o⟩
    · have : env[j]? = some (.own d) ∨ env[j]? = some (.io d) := by rcases z2 with rfl | rfl; exact .inl z3; exact .inr z3
      obtain ⟨p, e, o⟩ := r.own j d this
      exact ⟨p, (σj ne).trans e, o⟩
  · have key : ∀ (j : Nat) (s : Slot), (env.set i (slotOf a))[j]? = some s → isOwn s = true → (σ.set i (some v))[j]? = some (some (.ref p)) → (j = i ∧ ¬ ownAt σ env p) ∨ (j ≠ i ∧ env[j]? = some s ∧ σ[j]? = some (some (.ref p)) ∧ ownAt σ env p) := fun j s b1 b2 b3 => by
      rcases get_set b1 with ⟨rfl, z⟩ | ⟨ne, z⟩
      · subst z
        cases a with
        | val d => cases b2
        | own d =>
          obtain ⟨q, e, _, no, _⟩ := ra
          rw [σi] at b3
          have : v = .ref p := Option.some.inj (Option.some.inj b3)
          rw [e] at this; cases this
          exact .inl ⟨rfl, no⟩
      · rw [σj ne] at b3
        exact .inr ⟨ne, z, b3, j, s, z, b2, b3⟩
    rcases key j s a1 a2 a5 with ⟨z1, z2⟩ | ⟨z1, z2, z3, z4⟩ <;> rcases key k u a3 a4 a6 with ⟨w1, w2⟩ | ⟨w1, w2, w3, w4⟩
    · rw [z1, w1]
    · exact absurd w4 z2
    · exact absurd z4 w2
    · exact r.dis j k s u p z2 a2 w2 a4 z3 w3
end
/-! ### targets: names, and tuples of such -/
inductive Tgt where
  | nm (i : Nat) | tp (ts : List Tgt)
mutual
def sto : Tgt → D → Env → Option Env
  | .nm i, d, env => if ioAt env i then none else some (env.set i (.val d))
  | .tp ts, .tup ds, env => stos ts ds env
  | .tp _, _, _ => none
def stos : List Tgt → List D → Env → Option Env
  | [], [], env => some env
  | t :: ts, d :: ds, env => match sto t d env with
    | some env1 => stos ts ds env1
    | none => none
  | _, _, _ => none
end
mutual
def Tgt.ixs : Tgt → List Nat
  | .nm i => [i]
  | .tp ts => Tgt.ixss ts
def Tgt.ixss : List Tgt → List Nat
  | [] => []
  | t :: ts => Tgt.ixs t ++ Tgt.ixss ts
end
/-- the reading of a target: what is stored there is data -/
def TGof (X : Cx) (tg : Tgt) : TG := fun v σ H Q => ∃ σ0 env0 G0 H0 G env env' d, Tr σ0 env0 G0 H0 σ env G H ∧ REnv X.K G H σ env ∧ Rep X.K G v d ∧ sto tg d env = some env' ∧
  ∀ σ', Tr σ0 env0 G0 H0 σ' env' G H → REnv X.K G H σ' env' → (∀ j, j ∉ tg.ixs → σ'[j]? = σ[j]?) → Q σ' H
def TGsof (X : Cx) (tg : List Tgt) : TGs := fun vs σ H Q => ∃ σ0 env0 G0 H0 G env env' ds, Tr σ0 env0 G0 H0 σ env G H ∧ REnv X.K G H σ env ∧ Reps X.K G vs ds ∧ stos tg ds env = some env' ∧
  ∀ σ', Tr σ0 env0 G0 H0 σ' env' G H → REnv X.K G H σ' env' → (∀ j, j ∉ Tgt.ixss tg → σ'[j]? = σ[j]?) → Q σ' H
abbrev DG (X : Cx) (tg : Expr) (t : Tgt) : Prop := PG X tg (TGof X t)
abbrev DGs (X : Cx) (tg : List Expr) (t : List Tgt) : Prop := PGs X tg (TGsof X t)
theorem _root_.L2.PG.imp {X : Cx} {e : Expr} {t u : TG} (h : PG X e t) (i : ∀ v σ H Q, u v σ H Q → t v σ H Q) : PG X e u := ⟨fun pins s σ H v w Q I r q => h.run pins s σ H v w Q I r (i v σ H Q q)⟩
theorem _root_.L2.PGs.imp {X : Cx} {e : List Expr} {t u : TGs} (h : PGs X e t) (i : ∀ v σ H Q, u v σ H Q → t v σ H Q) : PGs X e u := ⟨fun pins s σ H v w Q I r q => h.run pins s σ H v w Q I r (i v σ H Q q)⟩
section
variable {X : Cx} {W : WX} {e c : Expr} {es : List Expr} {pos : Pos}
theorem dg_nm {i : Nat} (h : PG X e (gName i)) : DG X e (.nm i) := h.imp fun v σ H Q ⟨σ0, env0, G0, H0, G, env, env', d, t, r, rp, hs, q⟩ => by
  have hs : (if ioAt env i then none else some (env.set i (.val d))) = some env' := hs
  cases hio : ioAt env i with
  | true => rw [hio] at hs; cases hs
  | false =>
    rw [hio] at hs; cases hs
    obtain ⟨t', r'⟩ := store_env (a := .val d) t r rp hio
    exact q _ t' r' fun j hj => List.getElem?_set_ne fun z => hj (by rw [← z]; exact List.mem_singleton.mpr rfl)
theorem dgs_nil : DGs X [] [] := pgs_nil.imp fun v σ H Q ⟨σ0, env0, G0, H0, G, env, env', ds, t, r, rp, hs, q⟩ => by
  cases ds with
  | nil =>
    cases rp
    cases hs
    exact ⟨rfl, q σ t r fun _ _ => rfl⟩
  | cons d ds => cases hs
theorem dgs_cons {tg : Tgt} {tgs : List Tgt} (h1 : DG X e tg) (h2 : DGs X es tgs) (hs : (assignEach (e :: es) X.env).map (·.2) = assign e X.env :: (assignEach es X.env).map (·.2) := by rfl) : DGs X (e :: es) (tg :: tgs) :=
  (pgs_cons h1 h2 hs).imp fun v σ H Q ⟨σ0, env0, G0, H0, G, env, env', ds, t, r, rp, hs, q⟩ => by
    cases ds with
    | nil => cases hs
    | cons d ds =>
      cases rp with
      | cons a b =>
        unfold stos at hs
        cases e1 : sto tg d env with
        | none => rw [e1] at hs; cases hs
        | some env1 =>
          rw [e1] at hs
          refine ⟨_, _, rfl, σ0, env0, G0, H0, G, env, env1, d, t, r, a, e1, fun σ1 t1 r1 k1 => ?_⟩
          refine ⟨σ0, env0, G0, H0, G, env1, env', ds, t1, r1, b, hs, fun σ2 t2 r2 k2 => q σ2 t2 r2 fun j hj => ?_⟩
          have : j ∉ tg.ixs ∧ j ∉ Tgt.ixss tgs := by
            constructor
            · exact fun z => hj (List.mem_append_left _ z)
            · exact fun z => hj (List.mem_append_right _ z)
          exact (k2 j this.2).trans (k1 j this.1)
theorem dg_tp {tgs : List Tgt} {k n : Nat} (hc : X.calm = true) (h : DGs X es tgs) (hn : (assignEach es X.env).length = n) (hl : tgs.length = n) (hst : (assignEach es X.env).findIdx? (·.1) = none := by rfl) : DG X (.Tuple es k pos) (.tp tgs) :=
  (pg_tup hc h hn hst).imp fun v σ H Q ⟨σ0, env0, G0, H0, G, env, env', d, t, r, rp, hs, q⟩ => by
    cases d with
    | tup ds =>
      cases rp with
      | tup a b =>
        have len : ∀ {tgs : List Tgt} {ds : List D} {env : Env}, stos tgs ds env = some env' → ds.length = tgs.length := fun {tgs} => by
          induction tgs with
          | nil =>
            intro ds env z
            cases ds with
            | nil => rfl
            | cons d ds => cases z
          | cons t ts ih =>
            intro ds env z
            cases ds with
            | nil => cases z
            | cons d ds =>
              unfold stos at z
              cases e1 : sto t d env with
              | none => rw [e1] at z; cases z
              | some env1 => rw [e1] at z; exact congrArg (· + 1) (ih z)
        exact ⟨_, _, rfl, ex_t r.ex a, by rw [b.len, len hs, hl], σ0, env0, G0, H0, G, env, env', ds, t, r, b, hs, q⟩
    | _ => cases hs
/-- name = e; a new list is the def's own from then on -/
def sSet (i : Nat) (f : M A) : MS := fun env => (f env).s fun a e => if ioAt e i then .no else .nx (e.set i (slotOf a))
theorem ds_set {i : Nat} {x : Str} {pos' : Pos} {f : M A} (hN : X.N.Nodup) (hi : X.N[i]? = some x) (hx : Loc X.env.scope x) (he : DE X W e f) (hs : swapsWith e (some (.Name x pos')) pos.line X.env = pure false := by rfl) (hf : X.fn x = true ∨ X.env.scope.names.lookup x = some .local := by first | exact .inl rfl | exact .inr rfl | assumption) :
    DS X W (.Assign [.Name x pos'] e pos) (sSet i f) := (ps_set hN hi hx he hs hf).imp fun B σ H ⟨G, env, r, q⟩ => by
  refine ⟨G, env, r, ?_⟩
  unfold sSet R.s at q
  cases e1 : f env with
  | no => rw [e1] at q; exact q
  | ex c e => rw [e1] at q; exact fun cls G' H' hc t r => q cls σ G' H' hc t r
  | ok a e =>
    rw [e1] at q
    intro v G' H' t r' ra
    cases hio : ioAt e i with
    | true => simp only [hio, if_true] at q; exact q.elim
    | false =>
      have q : Post X W B σ env G H (if ioAt e i then .no else .nx (e.set i (slotOf a))) := q
      rw [hio] at q
      obtain ⟨t2, r2⟩ := store_env t r' ra hio
      exact q _ G' H' t2 r2
/-- target = e, the target a tuple of names -/
def sAsg (tg : Tgt) (f : M D) : MS := fun env => (f env).s fun d e => match sto tg d e with
  | some e2 => .nx e2
  | none => .no
theorem ds_asg {tg : Expr} {t : Tgt} {f : M D} (he : DV X W e f) (hg : DG X tg t) (hs : swapsWithSole [tg] e pos.line X.env = pure false := by rfl) (hw : swappedStores [tg] e X.env = pure none := by rfl)
    (h1 : (assignEach [tg] X.env).map (·.2) = [assign tg X.env] := by rfl) : DS X W (.Assign [tg] e pos) (sAsg t f) := (ps_asg he hg hs hw h1).imp fun B σ H ⟨G, env, r, q⟩ => by
  refine ⟨G, env, r, ?_⟩
  unfold sAsg R.s at q
  cases e1 : f env with
  | no => rw [e1] at q; exact q
  | ex c e => rw [e1] at q; exact fun cls G' H' hc t r => q cls σ G' H' hc t r
  | ok d e =>
    rw [e1] at q
    intro v G' H' tr r' rp
    have q : Post X W B σ env G H (match sto t d e with
      | some e2 => .nx e2
      | none => .no) := q
    cases e2 : sto t d e with
    | none => rw [e2] at q; exact q.elim
    | some e3 =>
      rw [e2] at q
      exact ⟨σ, env, G, H, G', e, e3, d, tr, r', rp, e2, fun σ' t2 r2 _ => q σ' G' H' t2 r2⟩
end
end DL

namespace DL
open PySem L2

/-! ## a, b = x, y: new lists stay the def's own -/
inductive RAs (K : PySem.W.Frag) (σ : St) (env : Env) (H G' H' : Hp) : List V → List A → Prop
  | nil : RAs K σ env H G' H' [] []
  | cons {v : V} {a : A} {vs : List V} {as : List A} : RA K σ env H G' H' v a → RAs K σ env H G' H' vs as → (∀ (p : Addr) (d : D), v = .ref p → a = .own d → ∀ (k : Nat) (d' : D), as[k]? = some (.own d') → vs[k]? ≠ some (.ref p)) →
      RAs K σ env H G' H' (v :: vs) (a :: as)
def evsA : List (M A) → M (List A)
  | [] => fun env => .ok [] env
  | f :: fs => fun env => (f env).bind fun d env1 => (evsA fs env1).map (d :: ·)
def TAA (X : Cx) (W : WX) (f : M (List A)) : TA := fun σ H Q => ∃ G env, REnv X.K G H σ env ∧ match f env with
  | .ok a env' => ∀ vs G' H', Tr σ env G H σ env' G' H' → REnv X.K G' H' σ env' → RAs X.K σ env' H G' H' vs a → Q vs H'
  | .ex c env' => ∀ cls G' H', X.mg c = some cls → Tr σ env G H σ env' G' H' → REnv X.K G' H' σ env' → W cls none σ H'
  | .no => False
abbrev DAs (X : Cx) (W : WX) (es : List Expr) (fs : List (M A)) : Prop := PA X es (TAA X W (evsA fs))
theorem RA.later {K : PySem.W.Frag} {σ : St} {env1 env2 : Env} {H G1 H1 G2 H2 : Hp} {v : V} {a : A} (t : Tr σ env1 G1 H1 σ env2 G2 H2) (ra : RA K σ env1 H G1 H1 v a) : RA K σ env2 H G2 H2 v a := by
  cases a with
  | val d => exact Rep.up t.ex ra
  | own d =>
    obtain ⟨p, e, n, no, o⟩ := ra
    obtain ⟨ng, w, hw⟩ := o.there
    refine ⟨p, e, n, fun z => ?_, o.up t.ex ?_ ?_⟩
    · rcases t.o p z with z | z
      · exact no z
      · rw [hw] at z; cases z
    · rcases t.g p ng with z | z | z
      · exact z
      · rw [hw] at z; cases z
      · exact absurd z no
    · rcases t.h p w hw with z | z
      · exact absurd z no
      · rw [z, hw]
section
variable {X : Cx} {W : WX} {e : Expr} {es : List Expr} {pos : Pos} {f : M A} {fs : List (M A)}
theorem das_nil : DAs X W [] [] := pa_nil.imp fun σ H Q ⟨G, env, r, q⟩ => q [] G H .refl r .nil
theorem RAs.own {K : PySem.W.Frag} {σ : St} {env : Env} {H G' H' : Hp} {vs : List V} {as : List A} (h : RAs K σ env H G' H' vs as) : ∀ {k : Nat} {d : D}, as[k]? = some (.own d) → ∃ p, vs[k]? = some (.ref p) ∧ H p = none ∧ ¬ ownAt σ env p ∧ Own K G' H' p d := by
  induction h with
  | nil => intro k d e; simp at e
  | @cons v a vs as ra _ _ ih =>
    intro k d e
    cases k with
    | zero =>
      cases e
      obtain ⟨p, e, n, no, o⟩ := ra
      exact ⟨p, by simp [e], n, no, o⟩
    | succ k => simpa using ih (by simpa using e)
theorem das_cons (ha : DE X W e f) (hr : DAs X W es fs) (hs : starEach (e :: es) X.env = (false, eval e X.env) :: starEach es X.env := by rfl) : DAs X W (e :: es) (f :: fs) := (pa_cons ha hr hs).imp fun σ H Q ⟨G, env, r, q⟩ => by
  refine ⟨G, env, r, ?_⟩
  unfold evsA at q
  cases e1 : f env with
  | no => rw [e1] at q; exact q
  | ex c env1 => rw [e1] at q; exact q
  | ok a env1 =>
    rw [e1] at q
    intro v G1 H1 t1 r1 ra
    refine ⟨G1, env1, r1, ?_⟩
    have q : match (evsA fs env1).map (a :: ·) with
      | .ok a env' => ∀ vs G' H', Tr σ env G H σ env' G' H' → REnv X.K G' H' σ env' → RAs X.K σ env' H G' H' vs a → Q vs H'
      | .ex c env' => ∀ cls G' H', X.mg c = some cls → Tr σ env G H σ env' G' H' → REnv X.K G' H' σ env' → W cls none σ H'
      | .no => False := q
    cases e2 : evsA fs env1 with
    | no => rw [e2] at q; exact q
    | ex c env2 => rw [e2] at q; exact fun cls G' H' hc t2 r2 => q cls G' H' hc (t1.trans t2) r2
    | ok as env2 =>
      rw [e2] at q
      refine fun vs G' H' t2 r2 ros => q (v :: vs) G' H' (t1.trans t2) r2 (.cons (RA.later t2 ra) ?_ fun p d hv ho k d' hk hp => ?_)
      · have : ∀ {vs : List V} {as : List A}, RAs X.K σ env2 H1 G' H' vs as → RAs X.K σ env2 H G' H' vs as := fun z => by
          induction z with
          | nil => exact .nil
          | cons a _ dj ih =>
            refine .cons ?_ ih dj
            rename_i a0 _ _ _
            cases a0 with
            | val d => exact a
            | own d => obtain ⟨p, e, n, z⟩ := a; exact ⟨p, e, t1.dom p n, z⟩
        exact this ros
      · subst ho; subst hv
        obtain ⟨q, z1, z2, _⟩ := ros.own hk
        rw [hp] at z1; cases z1
        obtain ⟨b, e, _, _, o⟩ := ra
        cases e
        obtain ⟨_, w, hw⟩ := o.there
        rw [z2] at hw; cases hw
def setN : List Nat → List V → St → St
  | i :: is, v :: vs, σ => setN is vs (σ.set i (some v))
  | _, _, σ => σ
def stoN : List Nat → List A → Env → Option Env
  | [], [], env => some env
  | i :: is, a :: as, env => if ioAt env i then none else stoN is as (env.set i (slotOf a))
  | _, _, _ => none
theorem stoN_env {K : PySem.W.Frag} {σ0 : St} {env0 : Env} {G0 H0 G H : Hp} : ∀ {is : List Nat} {as : List A} {vs : List V} {σ : St} {env env' : Env}, Tr σ0 env0 G0 H0 σ env G H → REnv K G H σ env → RAs K σ env H0 G H vs as → stoN is as env = some env' →
    Tr σ0 env0 G0 H0 (setN is vs σ) env' G H ∧ REnv K G H (setN is vs σ) env'
  | [], [], vs, σ, env, env', t, r, h, hs => by cases h; cases hs; exact ⟨t, r⟩
  | [], _ :: _, vs, σ, env, env', t, r, h, hs => by cases hs
  | _ :: _, [], vs, σ, env, env', t, r, h, hs => by cases hs
  | i :: is, a :: as, vs, σ, env, env', t, r, h, hs => by
    unfold stoN at hs
    cases hio : ioAt env i with
    | true => rw [hio] at hs; cases hs
    | false =>
      rw [hio] at hs
      have hs : stoN is as (env.set i (slotOf a)) = some env' := hs
      cases h with
      | @cons v _ vs _ ra rs dj =>
        obtain ⟨t1, r1⟩ := store_env t r ra hio
        refine stoN_env (σ := σ.set i (some v)) t1 r1 ?_ hs
        have hiσ : i < σ.length := by
          have hio := hio
          unfold ioAt at hio
          cases e : env[i]? with
          | none => rw [e] at hio; cases hio
          | some s => rw [r.len]; exact (List.getElem?_eq_some_iff.mp e).1
        -- the others' lists stand apart from the one that was stored
        have step : ∀ {vs : List V} {as : List A}, RAs K σ env H0 G H vs as → (∀ (p : Addr) (d : D), v = .ref p → a = .own d → ∀ (k : Nat) (d' : D), as[k]? = some (.own d') → vs[k]? ≠ some (.ref p)) → RAs K (σ.set i (some v)) (env.set i (slotOf a)) H0 G H vs as := fun {vs as} z => by
          induction z with
          | nil => intro _; exact .nil
          | @cons v2 a2 vs2 as2 ra2 rs2 dj2 ih =>
            intro dj
            refine .cons ?_ (ih fun p d h1 h2 k d' h3 => by simpa using dj p d h1 h2 (k + 1) d' (by simpa using h3)) dj2
            cases a2 with
            | val d => exact ra2
            | own d =>
              obtain ⟨p, e, n, no, o⟩ := ra2
              refine ⟨p, e, n, fun ⟨j, s, b1, b2, b3⟩ => ?_, o⟩
              rcases get_set b1 with ⟨rfl, z⟩ | ⟨ne, z⟩
              · subst z
                cases a with
                | val d' => cases b2
                | own d' =>
                  rw [List.getElem?_set_self hiσ] at b3
                  have hv : v = .ref p := Option.some.inj (Option.some.inj b3)
                  exact dj p d' hv rfl 0 d rfl (by simp [e])
              · rw [List.getElem?_set_ne (Ne.symm ne)] at b3
                exact no ⟨j, s, z, b2, b3⟩
        exact step rs dj
def sPar (is : List Nat) (fs : List (M A)) : MS := fun env => (evsA fs env).s fun as e => match stoN is as e with
  | some e2 => .nx e2
  | none => .no
theorem par_end {B : Ends} {is : List Nat} {σ : St} {H : Hp} (h : TSof X W (sPar is fs) B σ H) : TAA X W (evsA fs) σ H fun vs H1 => is.length = vs.length ∧ B.nx (setN is vs σ) H1 := by
  obtain ⟨G, env, r, q⟩ := h
  refine ⟨G, env, r, ?_⟩
  unfold sPar R.s at q
  cases e1 : evsA fs env with
  | no => rw [e1] at q; exact q
  | ex c e => rw [e1] at q; exact fun cls G' H' hc t r => q cls σ G' H' hc t r
  | ok as e =>
    rw [e1] at q
    intro vs G' H' t r' ras
    have q : Post X W B σ env G H (match stoN is as e with
      | some e2 => .nx e2
      | none => .no) := q
    cases e2 : stoN is as e with
    | none => rw [e2] at q; exact q.elim
    | some e3 =>
      rw [e2] at q
      obtain ⟨t2, r2⟩ := stoN_env t r' ras e2
      refine ⟨?_, q _ G' H' t2 r2⟩
      have l1 : ∀ {is : List Nat} {as : List A} {e : Env}, stoN is as e = some e3 → is.length = as.length := fun {is} => by
        induction is with
        | nil => intro as e z; cases as with
          | nil => rfl
          | cons _ _ => cases z
        | cons i is ih => intro as e z; cases as with
          | nil => cases z
          | cons a as =>
            unfold stoN at z
            split at z
            · cases z
            · exact congrArg (· + 1) (ih z)
      have l2 : ∀ {vs : List V} {as : List A}, RAs X.K σ e H G' H' vs as → vs.length = as.length := fun z => by
        induction z with
        | nil => rfl
        | cons _ _ _ ih => exact congrArg (· + 1) ih
      rw [l1 e2, l2 ras]
theorem ds_par2 {i j : Nat} {x y : Str} {a b : Expr} {px py pt : Pos} {kt k2 pt2} (hc : X.calm = true) (hN : X.N.Nodup) (hi : X.N[i]? = some x) (hj : X.N[j]? = some y) (hij : i ≠ j)
    (hx : X.env.scope.names.lookup x = some .local) (hy : X.env.scope.names.lookup y = some .local) (ha : DAs X W [a, b] fs)
    (hw : swappedStores [.Tuple [.Name x px, .Name y py] kt pt] (.Tuple [a, b] k2 pt2) X.env = pure (some [x, y]))
    (hs : swapsWithSole [.Tuple [.Name x px, .Name y py] kt pt] (.Tuple [a, b] k2 pt2) pos.line X.env = pure false := by rfl) :
    DS X W (.Assign [.Tuple [.Name x px, .Name y py] kt pt] (.Tuple [a, b] k2 pt2) pos) (sPar [i, j] fs) := (ps_par hc hN hi hj hij hx hy ha hw hs).imp fun B σ H h => by
  obtain ⟨G, env, r, q⟩ := par_end h
  refine ⟨G, env, r, ?_⟩
  cases e1 : evsA fs env with
  | no => rw [e1] at q; exact q
  | ex c e => rw [e1] at q; exact q
  | ok as e =>
    rw [e1] at q
    intro vs G' H' t r' ras
    obtain ⟨l, q⟩ := q vs G' H' t r' ras
    match vs, l with
    | [v, w], _ => exact ⟨v, w, rfl, q⟩
theorem ds_par3 {i j l : Nat} {x y z : Str} {a b c : Expr} {px py pz pt pos : Pos} {kt k2 pt2} (hc : X.calm = true) (hN : X.N.Nodup) (hi : X.N[i]? = some x) (hj : X.N[j]? = some y) (hl : X.N[l]? = some z) (hij : i ≠ j) (hil : i ≠ l) (hjl : j ≠ l)
    (hx : X.env.scope.names.lookup x = some .local) (hy : X.env.scope.names.lookup y = some .local) (hz : X.env.scope.names.lookup z = some .local) (ha : DAs X W [a, b, c] fs)
    (hw : swappedStores [.Tuple [.Name x px, .Name y py, .Name z pz] kt pt] (.Tuple [a, b, c] k2 pt2) X.env = pure (some [x, y, z]))
    (hs : swapsWithSole [.Tuple [.Name x px, .Name y py, .Name z pz] kt pt] (.Tuple [a, b, c] k2 pt2) pos.line X.env = pure false := by rfl) :
    DS X W (.Assign [.Tuple [.Name x px, .Name y py, .Name z pz] kt pt] (.Tuple [a, b, c] k2 pt2) pos) (sPar [i, j, l] fs) := (ps_par3 hc hN hi hj hl hij hil hjl hx hy hz ha hw hs).imp fun B σ H h => by
  obtain ⟨G, env, r, q⟩ := par_end h
  refine ⟨G, env, r, ?_⟩
  cases e1 : evsA fs env with
  | no => rw [e1] at q; exact q
  | ex c e => rw [e1] at q; exact q
  | ok as e =>
    rw [e1] at q
    intro vs G' H' t r' ras
    obtain ⟨l, q⟩ := q vs G' H' t r' ras
    match vs, l with
    | [u, v, w], _ => exact ⟨u, v, w, rfl, q⟩
/-- names as targets, one behind the other -/
inductive PNs (X : Cx) : List Expr → List Nat → Prop
  | nil : PNs X [] []
  | cons {e : Expr} {es : List Expr} {i : Nat} {is : List Nat} (h : PG X e (gName i)) (r : PNs X es is) (hs : (assignEach (e :: es) X.env).map (·.2) = assign e X.env :: (assignEach es X.env).map (·.2)) : PNs X (e :: es) (i :: is)
theorem PNs.pgs {es : List Expr} {is : List Nat} (h : PNs X es is) : PGs X es (fun vs σ H Q => vs.length = is.length ∧ Q (setN is vs σ) H) := by
  induction h with
  | nil => exact pgs_nil.imp fun vs σ H Q ⟨l, q⟩ => (by
      match vs, l with
      | [], _ => exact ⟨rfl, q⟩)
  | cons h r hs ih => exact (pgs_cons h ih hs).imp fun vs σ H Q ⟨l, q⟩ => (by
      match vs, l with
      | v :: vs, l => exact ⟨v, vs, rfl, Nat.succ.inj l, q⟩)
theorem ds_parN {es es2 : List Expr} {is : List Nat} {kt k2 : Nat} {n : Nat} {pt pt2 : Pos} (hc : X.calm = true) (hg : PNs X es is) (ha : DAs X W es2 fs) (hl : fs.length ≤ sizeLine)
    (hn : (assignEach es X.env).length = n) (hin : is.length = n) (hst : (assignEach es X.env).findIdx? (·.1) = none := by rfl)
    (hs : swapsWithSole [.Tuple es kt pt] (.Tuple es2 k2 pt2) pos.line X.env = pure false := by rfl) (hw : swappedStores [.Tuple es kt pt] (.Tuple es2 k2 pt2) X.env = pure none := by rfl)
    (h1 : (assignEach [.Tuple es kt pt] X.env).map (·.2) = [assign (.Tuple es kt pt) X.env] := by rfl) :
    DS X W (.Assign [.Tuple es kt pt] (.Tuple es2 k2 pt2) pos) (sPar is fs) := (ps_asg (pe_tup ha) (pg_tup hc hg.pgs hn hst) hs hw h1).imp fun B σ H ⟨G, env, r, q⟩ => by
  refine ⟨G, env, r, ?_⟩
  unfold sPar R.s at q
  cases e1 : evsA fs env with
  | no => rw [e1] at q; exact q
  | ex c e => rw [e1] at q; exact fun cls G' H' hc t r => q cls σ G' H' hc t r
  | ok as e =>
    rw [e1] at q
    intro vs G' H' t r' ras
    have q : Post X W B σ env G H (match stoN is as e with
      | some e2 => .nx e2
      | none => .no) := q
    cases e2 : stoN is as e with
    | none => rw [e2] at q; exact q.elim
    | some e3 =>
      rw [e2] at q
      have l1 : ∀ {is : List Nat} {as : List A} {e : Env}, stoN is as e = some e3 → is.length = as.length := fun {is} => by
        induction is with
        | nil => intro as e z; cases as with
          | nil => rfl
          | cons _ _ => cases z
        | cons i is ih => intro as e z; cases as with
          | nil => cases z
          | cons a as =>
            unfold stoN at z
            split at z
            · cases z
            · exact congrArg (· + 1) (ih z)
      have l2 : ∀ {vs : List V} {as : List A}, RAs X.K σ e H G' H' vs as → vs.length = as.length := fun z => by
        induction z with
        | nil => rfl
        | cons _ _ _ ih => exact congrArg (· + 1) ih
      have l3 : ∀ {fs : List (M A)} {env e : Env} {as : List A}, evsA fs env = .ok as e → as.length = fs.length := fun {fs} => by
        induction fs with
        | nil => intro env e as z; cases z; rfl
        | cons f fs ih =>
          intro env e as z
          unfold evsA at z
          cases z1 : f env with
          | no => rw [z1] at z; cases z
          | ex _ _ => rw [z1] at z; cases z
          | ok d e5 =>
            rw [z1] at z
            have z : (evsA fs e5).map (d :: ·) = .ok as e := z
            cases z2 : evsA fs e5 with
            | no => rw [z2] at z; cases z
            | ex _ _ => rw [z2] at z; cases z
            | ok ds e6 => rw [z2] at z; cases z; exact congrArg (· + 1) (ih z2)
      have hvl : vs.length = n := by rw [l2 ras, ← l1 e2, hin]
      refine ⟨by rw [l2 ras, l3 e1]; exact hl, fun p np => ?_⟩
      have pt := PTr.made r'.ex (o := .tup vs) np
      obtain ⟨tt, rr⟩ := pt.on r'
      obtain ⟨t2, r2⟩ := stoN_env (t.trans tt) rr (by
        -- the answers stand, beside the new pair
        have later : ∀ {vs : List V} {as : List A}, RAs X.K σ e H G' H' vs as → RAs X.K σ e H G' (upd H' p (.tup _)) vs as := fun z => by
          induction z with
          | nil => exact .nil
          | cons a _ dj ih => exact .cons (RA.later tt a) ih dj
        exact later ras) e2
      exact ⟨p, vs, rfl, SqT.of upd_same, hvl, hvl.trans hin.symm, q _ _ _ t2 r2⟩
end

/-! ## o[i] = e -/
def setSub (env : Env) (i : Nat) (k : Option D) (d : D) : Option Env := match env[i]?, k with
  | some (.own (.lst ds)), some (.int k) => (ixN ds.length k).map fun j => env.set i (.own (.lst (ds.set j d)))
  | some (.io (.lst ds)), some (.int k) => (ixN ds.length k).map fun j => env.set i (.io (.lst (ds.set j d)))
  | _, _ => none
def sSub (i : Nat) (o : Opd) (f : M D) : MS := fun env => (f env).s fun d e => match peek e i with
  | none => .no
  | some _ => (o.pre e).s fun a e1 => match setSub e1 i (o.fin a e1) d with
    | some e2 => .nx e2
    | none => .no
section
variable {X : Cx} {W : WX} {e c x : Expr} {pos pos' : Pos}
theorem setSub_env {K : PySem.W.Frag} {G H : Hp} {σ : St} {env env' : Env} (r : REnv K G H σ env) {i : Nat} {k : Option D} {d : D} {v u w : V} (hs : setSub env i k d = some env') (hv : σ[i]? = some (some v)) (hk : ∀ c, k = some c → RepP K G H u c) (hd : Rep K G w d) :
    ∃ H', rSetL v u w H (fun H2 => H2 = H') ∧ Tr σ env G H σ env' G H' ∧ REnv K G H' σ env' := by
  unfold setSub at hs
  split at hs
  · rename_i ds k' e1
    cases hx : ixN ds.length k' with
    | none => rw [hx] at hs; cases hs
    | some j =>
      rw [hx] at hs; cases hs
      obtain ⟨p, e2, n, vs, a, b⟩ := r.own i _ (.inl e1)
      rw [hv] at e2; cases e2
      have hu := (hk _ rfl).int
      subst hu
      obtain ⟨t, r'⟩ := r.write (o := .lst (vs.set j w)) (d' := .lst (ds.set j d)) e1 (.inl ⟨rfl, rfl⟩) hv ⟨n, _, upd_same, b.set j hd⟩
      exact ⟨_, ⟨p, vs, k', j, rfl, rfl, a, by rw [b.len]; exact hx, rfl⟩, t, r'⟩
  · rename_i ds k' e1
    cases hx : ixN ds.length k' with
    | none => rw [hx] at hs; cases hs
    | some j =>
      rw [hx] at hs; cases hs
      obtain ⟨p, e2, n, vs, a, b⟩ := r.own i _ (.inr e1)
      rw [hv] at e2; cases e2
      have hu := (hk _ rfl).int
      subst hu
      obtain ⟨t, r'⟩ := r.write (o := .lst (vs.set j w)) (d' := .lst (ds.set j d)) e1 (.inr ⟨rfl, rfl⟩) hv ⟨n, _, upd_same, b.set j hd⟩
      exact ⟨_, ⟨p, vs, k', j, rfl, rfl, a, by rw [b.len]; exact hx, rfl⟩, t, r'⟩
  · cases hs
theorem ds_sub {i : Nat} {o : Opd} {f : M D} (ho : PE X x (tVar i)) (hi : DO X W c o) (he : DV X W e f)
    (ha : ∀ v, assign (.Subscript x c pos') X.env v = (do
      let ov ← holding [v] (eval x X.env)
      let iv ← holding [v, ov] (eval c X.env)
      standAt pos'
      holding [v, ov, iv] (setItem ov iv v)
      release [v, ov, iv] []) := by intro _; rfl)
    (hs : swapsWithSole [.Subscript x c pos'] e pos.line X.env = pure false := by rfl) (hw : swappedStores [.Subscript x c pos'] e X.env = pure none := by rfl)
    (h1 : (assignEach [.Subscript x c pos'] X.env).map (·.2) = [assign (.Subscript x c pos') X.env] := by rfl) : DS X W (.Assign [.Subscript x c pos'] e pos) (sSub i o f) :=
  (ps_asg he (pg_sub ho hi set_list ha) hs hw h1).imp fun B σ H ⟨G, env, r, q⟩ => by
  refine ⟨G, env, r, ?_⟩
  unfold sSub R.s at q
  cases e1 : f env with
  | no => rw [e1] at q; exact q
  | ex c e => rw [e1] at q; exact fun cls G' H' hc t r => q cls σ G' H' hc t r
  | ok d e1' =>
    simp only [e1] at q
    intro v G1 H1 t1 r1 rp
    cases e2 : peek e1' i with
    | none => rw [e2] at q; exact q.elim
    | some dd =>
      simp only [e2] at q
      obtain ⟨v0, hv0⟩ := peek_slot r1 e2
      refine ⟨v0, hv0, G1, e1', r1, ?_⟩
      cases e3 : o.pre e1' with
      | no => rw [e3] at q; exact q
      | ex c e => rw [e3] at q; exact fun cls G' H' hc t r => q cls σ G' H' hc (t1.trans t) r
      | ok a e4 =>
        simp only [e3] at q
        intro u G2 H2 t2 r2 ro
        cases e5 : setSub e4 i (o.fin a e4) d with
        | none => rw [e5] at q; exact q.elim
        | some e6 =>
          rw [e5] at q
          obtain ⟨H3, ⟨p, xs, k, j, z1, z2, z3, z4, z5⟩, t3, r3⟩ := setSub_env r2 e5 hv0 (fun c hc => RO.fin r2 ro hc) (rp.up t2.ex)
          refine ⟨p, xs, k, j, z1, z2, z3, z4, ?_⟩
          rw [z5]
          exact q σ G2 H3 ((t1.trans t2).trans t3) r3

/-! ## name op= e -/
abbrev PIpD (X : Cx) (op : Operator) (g : D → D → Option A) : Prop := PIp X op (rD2 X.K g)
def sAug (i : Nat) (g : D → D → Option A) (f : M D) : MS := fun env => match env[i]? with
  | some (.val x) => (f env).s fun y e => (match g x y with
    | some a => if ioAt e i then .no else .nx (e.set i (slotOf a))
    | none => .no)
  | _ => .no
theorem ds_aug {i : Nat} {n : Str} {op : Operator} {g : D → D → Option A} {f : M D} (hN : X.N.Nodup) (hi : X.N[i]? = some n) (hx : Loc X.env.scope n) (he : DV X W e f) (ho : PIpD X op g) (hf : X.fn n = true ∨ X.env.scope.names.lookup n = some .local := by first | exact .inl rfl | exact .inr rfl | assumption) :
    DS X W (.AugAssign (.Name n pos') op e pos) (sAug i g f) := (ps_aug hN hi hx he ho hf).imp fun B σ H ⟨G, env, r, q⟩ => by
  unfold sAug R.s at q
  split at q
  · rename_i x hx
    obtain ⟨vx, hv, rx⟩ := r.val i x hx
    refine ⟨vx, hv, G, env, r, ?_⟩
    cases e1 : f env with
    | no => rw [e1] at q; exact q
    | ex c e => rw [e1] at q; exact fun cls G' H' hc t r => q cls σ G' H' hc t r
    | ok y e1' =>
      simp only [e1] at q
      intro v G1 H1 t1 r1 rp
      cases e2 : g x y with
      | none => rw [e2] at q; exact q.elim
      | some a =>
        simp only [e2] at q
        refine ⟨G1, x, y, a, r1.ex, .inl (rx.up t1.ex), .inl rp, e2, fun w G' H' pt ra => ?_⟩
        cases hio : ioAt e1' i with
        | true => rw [hio] at q; exact q.elim
        | false =>
          rw [hio] at q
          refine op_end (W := W) (Q := fun w H' => B.nx (σ.set i (some w)) H') t1 r1 pt ra fun w G' H' t2 r2 ra2 => ?_
          obtain ⟨t3, r3⟩ := store_env t2 r2 ra2 hio
          exact q _ G' H' t3 r3
  · exact q.elim
/-- the operators of op= upon data that never changes -/
def numOp (g : D → D → Option A) : D → D → Option A
  | .int i, .int j => g (.int i) (.int j)
  | .str i, .str j => g (.str i) (.str j)
  | _, _ => none
theorem ip_add : PIpD X .Add (numOp addD) := by
  refine OpR.imp (f := inplaceOp .Add) (iop_add.or iop_add_str) fun x y H Q ⟨G, d1, d2, a, e, r1, r2, hg, q⟩ => ?_
  cases d1 with
  | int i =>
    cases d2 with
    | int j => cases hg; exact .inl ⟨_, _, r1.int, r2.int, q _ G H (.refl e) (.int _)⟩
    | _ => cases hg
  | str i =>
    cases d2 with
    | str j =>
      have hg : (if i.length + j.length ≤ sizeLine then some (A.val (.str (i ++ j))) else none) = some a := hg
      by_cases hl : i.length + j.length ≤ sizeLine
      · rw [if_pos hl] at hg; cases hg
        exact .inr ⟨_, _, r1.str, r2.str, hl, q _ G H (.refl e) (.str _)⟩
      · rw [if_neg hl] at hg; cases hg
    | _ => cases hg
  | _ => cases hg
theorem ip_sub : PIpD X .Sub (numOp subD) := by
  refine OpR.imp (f := inplaceOp .Sub) iop_sub fun x y H Q ⟨G, d1, d2, a, e, r1, r2, hg, q⟩ => ?_
  unfold numOp at hg
  split at hg
  · cases hg; exact ⟨_, _, r1.int, r2.int, q _ G H (.refl e) (.int _)⟩
  · cases hg
  · cases hg

/-! ## while -/
def whileGo (fc : M Bool) (fb : MS) : Nat → MS
  | 0 => fun _ => .no
  | n + 1 => fun env => (fc env).s fun b e => if b then (match fb e with
      | .nx e2 => whileGo fc fb n e2
      | .cont e2 => whileGo fc fb n e2
      | .brk e2 => .nx e2
      | r => r) else .nx e
theorem ds_while {n : Nat} {fc : M Bool} {fb : MS} {body : List Stmt} (hp : PassesOwn (model X.prog X.w) X.A X.env X.xe) (hc : DT X W c fc) (hb : DSs X W body fb) : DS X W (.While c body [] pos) (whileGo fc fb n) := (ps_while hp hc hb).imp fun B σ H ⟨G, env, r, q⟩ => by
  refine ⟨fun m σ H => ∃ G env, REnv X.K G H σ env ∧ Post X W B σ env G H (whileGo fc fb m env), ⟨n, G, env, r, q⟩, fun m σ H ⟨G, env, r, q⟩ => ?_⟩
  refine ⟨G, env, r, ?_⟩
  cases m with
  | zero => exact q.elim
  | succ m =>
    unfold whileGo R.s at q
    cases e1 : fc env with
    | no => rw [e1] at q; exact q
    | ex c e => rw [e1] at q; exact fun cls G' H' hc t r => q cls σ G' H' hc t r
    | ok b e =>
      simp only [e1] at q
      intro G1 H1 t1 r1
      cases b with
      | false => exact q σ G1 H1 t1 r1
      | true =>
        simp only [if_true] at q ⊢
        refine ⟨fun σ' H' => ∃ G env, REnv X.K G H' σ' env ∧ Post X W B σ' env G H' (whileGo fc fb m env), fun σ' H' ⟨G, env, r, q⟩ => ⟨m, Nat.lt_succ_self m, G, env, r, q⟩, G1, e, r1, ?_⟩
        have q := q.shift t1
        cases e2 : fb e with
        | nx e3 => rw [e2] at q; exact fun σ' G' H' t r => ⟨G', e3, r, q.shift t⟩
        | cont e3 => rw [e2] at q; exact fun σ' G' H' t r => ⟨G', e3, r, q.shift t⟩
        | brk e3 => rw [e2] at q; exact q
        | ret a e3 => rw [e2] at q; exact q
        | ex c e3 => rw [e2] at q; exact q
        | no => rw [e2] at q; exact q

/-! ## for -/
/-- the iterator J yields just these -/
structure ItD (K : PySem.W.Frag) (G : Hp) (J : It) (ds : List D) : Prop where
  go : ∀ i H, Ex G H → i < ds.length → J.go i H
  stop : ∀ i H, Ex G H → ds.length ≤ i → J.stop i H
  yld : ∀ i G1 H x H', Ex G G1 → Ex G1 H → J.yld i H x H' → i < ds.length → ∃ d G', ds[i]? = some d ∧ PTr G1 H G' H' ∧ Rep K G' x d
def TIof (X : Cx) (W : WX) (f : M (List D)) : TI := fun σ H R => ∃ G env, REnv X.K G H σ env ∧ match f env with
  | .ok ds env' => ∀ J G' H', Tr σ env G H σ env' G' H' → REnv X.K G' H' σ env' → ItD X.K G' J ds → R J H'
  | .ex c env' => ∀ cls G' H', X.mg c = some cls → Tr σ env G H σ env' G' H' → REnv X.K G' H' σ env' → W cls none σ H'
  | .no => False
abbrev DI (X : Cx) (W : WX) (tg iter : Expr) (f : M (List D)) : Prop := PI X tg iter (TIof X W f)
theorem _root_.L2.PI.imp {X : Cx} {tg e : Expr} {t u : TI} (h : PI X tg e t) (i : ∀ σ H Q, u σ H Q → t σ H Q) : PI X tg e u := ⟨fun pins s σ H Q I q => h.run pins s σ H Q I (i σ H Q q)⟩
theorem PI_or {X : Cx} {tg e : Expr} {t u : TI} (h : PI X tg e t) (h2 : PI X tg e u) : PI X tg e (fun σ H R => t σ H R ∨ u σ H R) := ⟨fun pins s σ H Q I q => by
  rcases q with q | q
  · exact h.run pins s σ H Q I q
  · exact h2.run pins s σ H Q I q⟩
def forGo (tg : Tgt) (fb : MS) : List D → MS
  | [] => fun env => .nx env
  | d :: ds => fun env => match sto tg d env with
    | none => .no
    | some e1 => (match fb e1 with
      | .nx e2 => forGo tg fb ds e2
      | .cont e2 => forGo tg fb ds e2
      | .brk e2 => .nx e2
      | r => r)
def sFor (tg : Tgt) (fi : M (List D)) (fb : MS) : MS := fun env => (fi env).s fun ds e => forGo tg fb ds e
theorem ds_for {tg iter : Expr} {t : Tgt} {fi : M (List D)} {fb : MS} {body : List Stmt} (hp : PassesOwn (model X.prog X.w) X.A X.env X.xe) (hc : X.calm = true) (hi : DI X W tg iter fi) (hg : DG X tg t) (hb : DSs X W body fb)
    (hs : ∀ x, foldedSetIterable iter X.env x = pure x := by intro _; rfl) : DS X W (.For tg iter body [] pos) (sFor t fi fb) := (ps_for hp hc hi hg hb hs).imp fun B σ H ⟨G, env, r, q⟩ => by
  refine ⟨G, env, r, ?_⟩
  unfold sFor R.s at q
  cases e1 : fi env with
  | no => rw [e1] at q; exact q
  | ex c e => rw [e1] at q; exact fun cls G' H' hc t r => q cls σ G' H' hc t r
  | ok ds e =>
    simp only [e1] at q
    intro J G1 H1 t1 r1 it
    refine ⟨fun i m σ H => m + i = ds.length ∧ ∃ G env, REnv X.K G H σ env ∧ Ex G1 G ∧ Post X W B σ env G H (forGo t fb (ds.drop i) env), ⟨ds.length, rfl, G1, e, r1, fun _ _ h => h, q.shift t1⟩, fun i m σ H ⟨hm, G, env, r, ex, q⟩ => ?_⟩
    by_cases hi : i < ds.length
    · refine .inr ⟨it.go i H (Ex.tr ex r.ex) hi, fun σ' H' => ∃ G env, REnv X.K G H' σ' env ∧ Ex G1 G ∧ Post X W B σ' env G H' (forGo t fb (ds.drop (i + 1)) env), fun σ' H' z => ⟨m - 1, by omega, by omega, z⟩, fun x H' hy => ?_⟩
      obtain ⟨d, G', hd, pt, rp⟩ := it.yld i G H x H' ex r.ex hy hi
      obtain ⟨t2, r2⟩ := pt.on r
      have ed : ds.drop i = d :: ds.drop (i + 1) := by
        rw [List.drop_eq_getElem_cons hi]
        rw [List.getElem?_eq_getElem hi] at hd
        cases hd; rfl
      rw [ed] at q
      unfold forGo at q
      have q := q.shift t2
      cases e2 : sto t d env with
      | none => simp only [e2] at q; exact q.elim
      | some e3 =>
        simp only [e2] at q
        refine ⟨σ, env, G', H', G', env, e3, d, .refl, r2, rp, e2, fun σ2 t3 r3 _ => ?_⟩
        have q := q.shift t3
        refine ⟨G', e3, r3, ?_⟩
        have ex2 : Ex G1 G' := Ex.tr ex pt.g
        cases e4 : fb e3 with
        | nx e5 => rw [e4] at q; exact fun σ' G' H' t r => ⟨G', e5, r, Ex.tr ex2 t.ex, q.shift t⟩
        | cont e5 => rw [e4] at q; exact fun σ' G' H' t r => ⟨G', e5, r, Ex.tr ex2 t.ex, q.shift t⟩
        | brk e5 => rw [e4] at q; exact q
        | ret a e5 => rw [e4] at q; exact q
        | ex c e5 => rw [e4] at q; exact q
        | no => rw [e4] at q; exact q
    · refine .inl ⟨it.stop i H (Ex.tr ex r.ex) (by omega), ?_⟩
      rw [List.drop_eq_nil_of_le (by omega)] at q
      exact q σ G H .refl r

/-! ### what is walked -/
def signs (z : Str) : List D := z.cps.toList.map fun c => .str ⟨#[c]⟩
def itemsD : D → Option (List D)
  | .lst ds => some ds
  | .tup ds => some ds
  | .str z => some (signs z)
  | _ => none
def iSeq (f : M D) : M (List D) := fun env => (f env).bind fun d e => match itemsD d with
  | some ds => .ok ds e
  | none => .no
theorem it_list {K : PySem.W.Frag} {G : Hp} {a : Addr} {vs : List V} {ds : List D} (h : SqL K G a vs) (r : Reps K G vs ds) : ItD K G (Itl K a) ds where
  go := fun i H e hi => by
    obtain ⟨v, hv, _⟩ := r.get' (List.getElem?_eq_getElem hi)
    exact ⟨vs, v, ex_l e h, hv⟩
  stop := fun i H e hi => ⟨vs, ex_l e h, by rw [r.len]; exact hi⟩
  yld := fun i G1 H x H' e1 e2 ⟨eH, hx⟩ hi => by
    subst eH
    obtain ⟨v, hv, rp⟩ := r.get' (List.getElem?_eq_getElem hi)
    have := hx vs (ex_l (Ex.tr e1 e2) h)
    rw [hv] at this; cases this
    exact ⟨_, G1, List.getElem?_eq_getElem hi, .refl e2, rp.up e1⟩
theorem it_tup {K : PySem.W.Frag} {G : Hp} {a : Addr} {vs : List V} {ds : List D} (h : SqT K G a vs) (r : Reps K G vs ds) : ItD K G (Itt K a) ds where
  go := fun i H e hi => by
    obtain ⟨v, hv, _⟩ := r.get' (List.getElem?_eq_getElem hi)
    exact ⟨vs, v, ex_t e h, hv⟩
  stop := fun i H e hi => ⟨vs, ex_t e h, by rw [r.len]; exact hi⟩
  yld := fun i G1 H x H' e1 e2 ⟨eH, hx⟩ hi => by
    subst eH
    obtain ⟨v, hv, rp⟩ := r.get' (List.getElem?_eq_getElem hi)
    have := hx vs (ex_t (Ex.tr e1 e2) h)
    rw [hv] at this; cases this
    exact ⟨_, G1, List.getElem?_eq_getElem hi, .refl e2, rp.up e1⟩
theorem it_str {K : PySem.W.Frag} {G : Hp} {z : Str} : ItD K G (Its z) (signs z) where
  go := fun i H e hi => by unfold signs at hi; show i < z.cps.size; simpa using hi
  stop := fun i H e hi => by unfold signs at hi; show z.cps.size ≤ i; simpa using hi
  yld := fun i G1 H x H' e1 e2 ⟨eH, c, hc, hx⟩ hi => by
    subst eH; subst hx
    refine ⟨.str ⟨#[c]⟩, G1, ?_, .refl e2, .str _⟩
    unfold signs
    rw [List.getElem?_map, Array.getElem?_toList, hc]; rfl
def rangeD (lo : Int) (n : Nat) : List D := (List.range n).map fun (k : Nat) => D.int (lo + (k : Int))
theorem it_range {K : PySem.W.Frag} {G : Hp} {lo : Int} {n : Nat} : ItD K G (Itr lo n) (rangeD lo n) where
  go := fun i H e hi => by unfold rangeD at hi; show i < n; simpa using hi
  stop := fun i H e hi => by unfold rangeD at hi; show n ≤ i; simpa using hi
  yld := fun i G1 H x H' e1 e2 ⟨eH, hx⟩ hi => by
    subst eH; subst hx
    have hi' : i < n := by unfold rangeD at hi; simpa using hi
    refine ⟨.int (lo + i), G1, ?_, .refl e2, .int _⟩
    unfold rangeD
    rw [List.getElem?_map, List.getElem?_range hi']; rfl
theorem di_seq {tg : Expr} {f : M D} (h : DV X W e f) : DI X W tg e (iSeq f) := (PI_or (PI_or (pi_list h) (pi_tup h)) (pi_str h)).imp fun σ H Rr ⟨G, env, r, q⟩ => by
  unfold iSeq at q
  cases e1 : f env with
  | no => rw [e1] at q; exact q.elim
  | ex c env1 => rw [e1] at q; exact .inr ⟨G, env, r, by rw [e1]; exact q⟩
  | ok d env1 =>
    simp only [e1, R.bind] at q
    cases d with
    | lst ds =>
      refine .inl (.inl ⟨G, env, r, ?_⟩)
      rw [e1]
      intro v G1 H1 t1 r1 rp
      cases rp with
      | lst a b => exact ⟨_, rfl, ⟨_, SqL.of (r1.ex _ _ a)⟩, q _ G1 H1 t1 r1 (it_list (SqL.of a) b)⟩
    | tup ds =>
      refine .inl (.inr ⟨G, env, r, ?_⟩)
      rw [e1]
      intro v G1 H1 t1 r1 rp
      cases rp with
      | tup a b => exact ⟨_, rfl, ⟨_, ex_t r1.ex a⟩, q _ G1 H1 t1 r1 (it_tup a b)⟩
    | str z =>
      refine .inr ⟨G, env, r, ?_⟩
      rw [e1]
      intro v G1 H1 t1 r1 rp
      cases rp
      exact ⟨z, rfl, q _ G1 H1 t1 r1 it_str⟩
    | _ => exact q.elim
end
end DL

namespace DL
open PySem L2

/-! ## range -/
def rng1 : List D → Option (List D)
  | [.int j] => if -(2 ^ 62) ≤ j ∧ j < 2 ^ 62 then some (rangeD 0 j.toNat) else none
  | _ => none
def rng2 : List D → Option (List D)
  | [.int i, .int j] => if -(2 ^ 62) ≤ i ∧ i < 2 ^ 62 ∧ -(2 ^ 62) ≤ j ∧ j < 2 ^ 62 then some (rangeD i (j - i).toNat) else none
  | _ => none
def iOf (g : List D → Option (List D)) (fs : List (M D)) : M (List D) := fun env => (evs fs env).bind fun ds e => match g ds with
  | some xs => .ok xs e
  | none => .no
section
variable {X : Cx} {W : WX} {e a b c : Expr} {tg : Expr} {pos p : Pos} {f f1 f2 : M D}
theorem di_range1 (hg : Gl X "range") (hm : X.mg "range" = none) (ha : DVs X W [a] [f]) (hs : starEach [a] X.env = [(false, eval a X.env)] := by rfl) : DI X W tg (.Call (.Name "range" p) [a] [] pos) (iOf rng1 [f]) :=
  (pi_range1 hg hm ha hs).imp fun σ H Rr ⟨G, env, r, q⟩ => by
  refine ⟨G, env, r, ?_⟩
  unfold iOf at q
  cases e1 : evs [f] env with
  | no => rw [e1] at q; exact q
  | ex c env1 => rw [e1] at q; exact q
  | ok ds env1 =>
    simp only [e1, R.bind] at q
    intro vs G1 H1 t1 r1 rs
    cases e2 : rng1 ds with
    | none => rw [e2] at q; exact q.elim
    | some xs =>
      rw [e2] at q
      unfold rng1 at e2
      split at e2
      · split at e2
        · rename_i j hj; cases e2
          cases rs with
          | cons x y =>
            cases x; cases y
            exact ⟨j, rfl, hj.1, hj.2, q _ G1 H1 t1 r1 it_range⟩
        · cases e2
      · cases e2
theorem di_range2 (hg : Gl X "range") (hm : X.mg "range" = none) (ha : DVs X W [a, b] [f1, f2]) (hs : starEach [a, b] X.env = [(false, eval a X.env), (false, eval b X.env)] := by rfl) (hs2 : starEach [b] X.env = [(false, eval b X.env)] := by rfl) :
    DI X W tg (.Call (.Name "range" p) [a, b] [] pos) (iOf rng2 [f1, f2]) := (pi_range2 hg hm ha hs hs2).imp fun σ H Rr ⟨G, env, r, q⟩ => by
  refine ⟨G, env, r, ?_⟩
  unfold iOf at q
  cases e1 : evs [f1, f2] env with
  | no => rw [e1] at q; exact q
  | ex c env1 => rw [e1] at q; exact q
  | ok ds env1 =>
    simp only [e1, R.bind] at q
    intro vs G1 H1 t1 r1 rs
    cases e2 : rng2 ds with
    | none => rw [e2] at q; exact q.elim
    | some xs =>
      rw [e2] at q
      unfold rng2 at e2
      split at e2
      · split at e2
        · rename_i i j hj; cases e2
          cases rs with
          | cons x y =>
            cases x
            cases y with
            | cons x y =>
              cases x; cases y
              exact ⟨i, j, rfl, hj, q _ G1 H1 t1 r1 it_range⟩
        · cases e2
      · cases e2
end

/-! ## a comprehension -/
def wipeE : List Nat → Env → Option Env
  | [], env => some env
  | i :: is, env => match wipeE is env with
    | some e => (match e[i]? with
      | some (.own _) => none
      | some (.io _) => none
      | _ => some (e.set i .un))
    | none => none
def lcGo (vs : List Nat) (tg : Tgt) (ft : M Bool) (fe : M D) : List D → Env → List D → Option (List D × Env)
  | [], env, acc => some (acc, env)
  | d :: ds, env, acc => match sto tg d env with
    | none => none
    | some e1 => (match ft e1 with
      | .ok true e2 => (match fe e2 with
        | .ok x e3 => (match wipeE vs e3 with
          | some e4 => if acc.length < sizeLine then lcGo vs tg ft fe ds e4 (acc ++ [x]) else none
          | none => none)
        | _ => none)
      | .ok false e2 => (match wipeE vs e2 with
        | some e4 => lcGo vs tg ft fe ds e4 acc
        | none => none)
      | _ => none)
/-- the slots vs as they were in env, the others as in b -/
def unwipe (vs : List Nat) (env b : Env) : Env := vs.foldl (fun b i => match env[i]? with
  | some s => b.set i s
  | none => b) b
def eLc (vs : List Nat) (tg : Tgt) (fi : M (List D)) (ft : M Bool) (fe : M D) : M A := fun env => (fi env).bind fun ds e => match wipeE vs e with
  | none => .no
  | some b => (match lcGo vs tg ft fe ds b [] with
    | some (xs, b') => .ok (.own (.lst xs)) (unwipe vs e b')
    | none => .no)

section
variable {K : PySem.W.Frag} {G G' H H' : Hp} {σ σ' : St} {env env' : Env} {vs : List Nat}
theorem wipe_env (r : REnv K G H σ env) : ∀ {vs : List Nat} {env' : Env}, wipeE vs env = some env' → REnv K G H (wipe σ vs) env' ∧ Tr σ env G H (wipe σ vs) env' G H ∧
    (∀ i ∈ vs, ∀ s, env[i]? = some s → isOwn s = false) ∧ (∀ i, i ∉ vs → env'[i]? = env[i]?) ∧ (∀ p, ownAt σ env p → ownAt (wipe σ vs) env' p) ∧ env'.length = env.length
  | [], env', h => by
    cases h
    exact ⟨r, .refl, (fun i hi => by cases hi), fun _ _ => rfl, fun p h => h, rfl⟩
  | i :: is, env', h => by
    unfold wipeE at h
    cases e0 : wipeE is env with
    | none => rw [e0] at h; cases h
    | some e =>
      rw [e0] at h
      obtain ⟨r1, t1, a1, b1, c1, l1⟩ := wipe_env r e0
      have hno : (∀ s, e[i]? = some s → isOwn s = false) ∧ env' = e.set i .un := by
        have h : (match e[i]? with
          | some (.own _) => none
          | some (.io _) => none
          | _ => some (e.set i .un)) = some env' := h
        cases e2 : e[i]? with
        | none => rw [e2] at h; cases h; exact ⟨(fun s z => by cases z), rfl⟩
        | some s =>
          rw [e2] at h
          cases s with
          | own d => cases h
          | io d => cases h
          | un => cases h; exact ⟨(fun s z => by cases z; rfl), rfl⟩
          | val d => cases h; exact ⟨(fun s z => by cases z; rfl), rfl⟩
      obtain ⟨hno, rfl⟩ := hno
      have eo : ∀ {j : Nat} {s : Slot}, (e.set i .un)[j]? = some s → s ≠ .un → j ≠ i ∧ e[j]? = some s := fun z hs => by
        rcases get_set z with ⟨_, z⟩ | ⟨ne, z⟩
        · exact absurd z hs
        · exact ⟨ne, z⟩
      have σo : ∀ {j : Nat}, j ≠ i → (wipe σ (i :: is))[j]? = (wipe σ is)[j]? := fun ne => by
        show ((wipe σ is).set i none)[_]? = _
        rw [List.getElem?_set_ne (Ne.symm ne)]
      have fwd : ∀ p, ownAt (wipe σ is) e p → ownAt (wipe σ (i :: is)) (e.set i .un) p := fun p ⟨j, s, x, y, z⟩ => by
        have ne : j ≠ i := fun w => by subst w; rw [hno s x] at y; cases y
        exact ⟨j, s, by rw [List.getElem?_set_ne (Ne.symm ne)]; exact x, y, by rw [σo ne]; exact z⟩
      have bwd : ∀ p, ownAt (wipe σ (i :: is)) (e.set i .un) p → ownAt (wipe σ is) e p := fun p ⟨j, s, x, y, z⟩ => by
        obtain ⟨ne, x'⟩ := eo x (fun w => by subst w; cases y)
        rw [σo ne] at z
        exact ⟨j, s, x', y, z⟩
      refine ⟨⟨?_, r1.ex, fun j d z => ?_, fun j d z => ?_, fun j k s t p x1 x2 x3 x4 x5 x6 => ?_⟩, t1.trans ⟨fun _ _ z => z, fun _ z => .inl z, fun _ _ z => .inr z, fun p z => .inl (bwd p z), fun p z => ?_, fun _ z => z, (List.length_set (as := wipe σ is)), fun j d z => ?_⟩, fun j hj s hs => ?_, fun j hj => ?_, fun p z => fwd p (c1 p z), by rw [List.length_set]; exact l1⟩
      · show ((wipe σ is).set i none).length = _
        rw [List.length_set, List.length_set]; exact r1.len
      · obtain ⟨ne, z⟩ := eo z (fun w => by cases w)
        obtain ⟨v, e1, q⟩ := r1.val j d z
        exact ⟨v, by rw [σo ne]; exact e1, q⟩
      · have hz : j ≠ i ∧ (e[j]? = some (.own d) ∨ e[j]? = some (.io d)) := by
          rcases z with z | z
          · obtain ⟨ne, z⟩ := eo z (fun w => by cases w); exact ⟨ne, .inl z⟩
          · obtain ⟨ne, z⟩ := eo z (fun w => by cases w); exact ⟨ne, .inr z⟩
        obtain ⟨p, e1, q⟩ := r1.own j d hz.2
        exact ⟨p, by rw [σo hz.1]; exact e1, q⟩
      · obtain ⟨n1, y1⟩ := eo x1 (fun w => by subst w; cases x2)
        obtain ⟨n2, y2⟩ := eo x3 (fun w => by subst w; cases x4)
        rw [σo n1] at x5
        rw [σo n2] at x6
        exact r1.dis j k s t p y1 x2 y2 x4 x5 x6
      · obtain ⟨j, d, x, y⟩ := z
        obtain ⟨ne, x⟩ := eo x (fun w => by cases w)
        rw [σo ne] at y
        exact .inl ⟨j, d, x, y⟩
      · have ne : j ≠ i := fun w => by subst w; have := hno _ z; cases this
        exact ⟨σo ne, d, by rw [List.getElem?_set_ne (Ne.symm ne)]; exact z⟩
      · rcases List.mem_cons.mp hj with rfl | hj
        · by_cases hji : j ∈ is
          · exact a1 j hji s hs
          · rw [← b1 j hji] at hs; exact hno s hs
        · exact a1 j hj s hs
      · have h1 : j ≠ i ∧ j ∉ is := ⟨fun w => hj (w ▸ List.mem_cons_self), fun w => hj (List.mem_cons_of_mem _ w)⟩
        rw [List.getElem?_set_ne (Ne.symm h1.1)]; exact b1 j h1.2
theorem unwipe_get (env : Env) : ∀ (vs : List Nat) (b : Env) (j : Nat), b.length = env.length → (unwipe vs env b)[j]? = if j ∈ vs then env[j]? else b[j]?
  | [], b, j, h => by simp [unwipe]
  | i :: vs, b, j, h => by
    have step : unwipe (i :: vs) env b = unwipe vs env (match env[i]? with
      | some s => b.set i s
      | none => b) := rfl
    rw [step]
    cases e : env[i]? with
    | none =>
      simp only []
      rw [unwipe_get env vs b j h]
      by_cases hj : j ∈ vs
      · rw [if_pos hj, if_pos (List.mem_cons_of_mem _ hj)]
      · rw [if_neg hj]
        by_cases hji : j = i
        · subst hji
          rw [if_pos List.mem_cons_self, e]
          have : env.length ≤ j := List.getElem?_eq_none_iff.mp e
          exact List.getElem?_eq_none_iff.mpr (by omega)
        · rw [if_neg (fun z => by rcases List.mem_cons.mp z with z | z; exact hji z; exact hj z)]
    | some s =>
      simp only []
      rw [unwipe_get env vs (b.set i s) j (by rw [List.length_set]; exact h)]
      by_cases hj : j ∈ vs
      · rw [if_pos hj, if_pos (List.mem_cons_of_mem _ hj)]
      · rw [if_neg hj]
        by_cases hji : j = i
        · subst hji
          rw [if_pos List.mem_cons_self, e]
          exact List.getElem?_set_self (by have := (List.getElem?_eq_some_iff.mp e).1; omega)
        · rw [if_neg (fun z => by rcases List.mem_cons.mp z with z | z; exact hji z; exact hj z), List.getElem?_set_ne (Ne.symm hji)]
theorem unwipe_len (env : Env) : ∀ (vs : List Nat) (b : Env), (unwipe vs env b).length = b.length
  | [], b => rfl
  | i :: vs, b => by
    have step : unwipe (i :: vs) env b = unwipe vs env (match env[i]? with
      | some s => b.set i s
      | none => b) := rfl
    rw [step, unwipe_len env vs]
    cases env[i]? <;> simp
end
/-- behind the comprehension: the slots as they were -/
theorem unwipe_env {K : PySem.W.Frag} {G G' H H' : Hp} {σ : St} {env b0 b : Env} {vs : List Nat} (r : REnv K G H σ env) (hw : wipeE vs env = some b0) (t : Tr (wipe σ vs) b0 G H (wipe σ vs) b G' H') (r' : REnv K G' H' (wipe σ vs) b) :
    Tr σ env G H σ (unwipe vs env b) G' H' ∧ REnv K G' H' σ (unwipe vs env b) := by
  obtain ⟨r0, t0, a1, b1, c1, l1⟩ := wipe_env r hw
  have lb : b.length = env.length := by rw [← r'.len, wipe_length, r.len]
  have get : ∀ j, (unwipe vs env b)[j]? = if j ∈ vs then env[j]? else b[j]? := fun j => unwipe_get env vs b j lb
  have σo : ∀ {j : Nat}, j ∉ vs → (wipe σ vs)[j]? = σ[j]? := fun h => wipe_out h
  have nv : ∀ {j : Nat} {s : Slot}, (unwipe vs env b)[j]? = some s → isOwn s = true → j ∉ vs ∧ b[j]? = some s := fun {j s} z hs => by
    rw [get] at z
    by_cases hj : j ∈ vs
    · rw [if_pos hj] at z
      rw [a1 j hj s z] at hs; cases hs
    · rw [if_neg hj] at z; exact ⟨hj, z⟩
  have back : ∀ p, ownAt σ (unwipe vs env b) p → ownAt (wipe σ vs) b p := fun p ⟨j, s, x, y, z⟩ => by
    obtain ⟨h1, h2⟩ := nv x y
    exact ⟨j, s, h2, y, by rw [σo h1]; exact z⟩
  have up : ∀ p, ownAt (wipe σ vs) b0 p → ownAt σ env p := fun p z => by
    rcases t0.o p z with z | z
    · exact z
    · obtain ⟨_, w, hw⟩ := r0.oat ‹_›
      rw [z] at hw; cases hw
  refine ⟨⟨t.ex, fun p hp => ?_, fun p o hp => ?_, fun p z => ?_, fun p z => ?_, t.dom, rfl, fun j d z => ?_⟩, ⟨by rw [unwipe_len, lb]; exact r.len, r'.ex, fun j d z => ?_, fun j d z => ?_, fun j k s u p x1 x2 x3 x4 x5 x6 => ?_⟩⟩
  · rcases t.g p hp with h | h | h
    · exact .inl h
    · exact .inr (.inl h)
    · exact .inr (.inr (up p h))
  · rcases t.h p o hp with h | h
    · exact .inl (up p h)
    · exact .inr h
  · rcases t.o p (back p z) with h | h
    · exact .inl (up p h)
    · exact .inr h
  · obtain ⟨j, d, x, y⟩ := z
    obtain ⟨h1, h2⟩ := nv x rfl
    rcases t.on p ⟨j, d, h2, by rw [σo h1]; exact y⟩ with h | h
    · rcases t0.on p h with h | h
      · exact .inl h
      · exact .inr h
    · exact .inr h
  · have hj : j ∉ vs := fun w => by have := a1 j w _ z; cases this
    refine ⟨rfl, ?_⟩
    obtain ⟨_, d', e⟩ := t.io j d (by rw [b1 j hj]; exact z)
    exact ⟨d', by rw [get, if_neg hj]; exact e⟩
  · rw [get] at z
    by_cases hj : j ∈ vs
    · rw [if_pos hj] at z
      obtain ⟨v, e, q⟩ := r.val j d z
      exact ⟨v, e, q.up t.ex⟩
    · rw [if_neg hj] at z
      obtain ⟨v, e, q⟩ := r'.val j d z
      exact ⟨v, by rw [← σo hj]; exact e, q⟩
  · have hz : j ∉ vs ∧ (b[j]? = some (.own d) ∨ b[j]? = some (.io d)) := by
      rcases z with z | z
      · obtain ⟨h1, h2⟩ := nv z rfl; exact ⟨h1, .inl h2⟩
      · obtain ⟨h1, h2⟩ := nv z rfl; exact ⟨h1, .inr h2⟩
    obtain ⟨p, e, q⟩ := r'.own j d hz.2
    exact ⟨p, by rw [← σo hz.1]; exact e, q⟩
  · obtain ⟨h1, y1⟩ := nv x1 x2
    obtain ⟨h2, y2⟩ := nv x3 x4
    exact r'.dis j k s u p y1 x2 y2 x4 (by rw [σo h1]; exact x5) (by rw [σo h2]; exact x6)
theorem wipe_agree {σ σ2 : St} : ∀ {vs : List Nat}, σ2.length = σ.length → (∀ j, j ∉ vs → σ2[j]? = (wipe σ vs)[j]?) → wipe σ2 vs = wipe σ vs := fun {vs} hl h => by
  apply List.ext_getElem?
  intro j
  by_cases hj : j ∈ vs
  · have : ∀ (τ : St), τ.length = σ.length → (wipe τ vs)[j]? = if j < σ.length then some none else none := fun τ ht => by
      clear h
      induction vs with
      | nil => cases hj
      | cons v vs ih =>
        show ((wipe τ vs).set v none)[j]? = _
        by_cases e : v = j
        · subst e
          by_cases hjl : v < σ.length
          · rw [if_pos hjl, List.getElem?_set_self (by rw [wipe_length]; omega)]
          · rw [if_neg hjl, List.getElem?_eq_none (by rw [List.length_set, wipe_length]; omega)]
        · rw [List.getElem?_set_ne e]
          exact ih (by rcases List.mem_cons.mp hj with z | z; exact absurd z.symm e; exact z)
    rw [this σ2 hl, this σ rfl]
  · rw [wipe_out hj, h j hj]
abbrev W0 : WX := fun _ _ _ _ => False
/-- a comprehension's own list beside the slots -/
structure Acc (K : PySem.W.Frag) (σ : St) (b : Env) (G H : Hp) (p : Addr) (acc : List D) : Prop where
  n : G p = none
  no : ¬ ownAt σ b p
  ex : ∃ vs, H p = some (.lst vs) ∧ Reps K G vs acc
theorem Acc.later {K : PySem.W.Frag} {σ σ' : St} {b b' : Env} {G H G' H' : Hp} {p : Addr} {acc : List D} (a : Acc K σ b G H p acc) (t : Tr σ b G H σ' b' G' H') : Acc K σ' b' G' H' p acc := by
  obtain ⟨n, no, vs, h1, h2⟩ := a
  refine ⟨?_, fun z => ?_, vs, ?_, h2.up t.ex⟩
  · rcases t.g p n with z | z | z
    · exact z
    · rw [h1] at z; cases z
    · exact absurd z no
  · rcases t.o p z with z | z
    · exact no z
    · rw [h1] at z; cases z
  · rcases t.h p _ h1 with z | z
    · exact absurd z no
    · exact z
/-- the accumulated list is written: the slots don't see it -/
theorem Acc.push {K : PySem.W.Frag} {σ : St} {b : Env} {G H : Hp} {p : Addr} {acc : List D} {vs : List V} {v : V} {d : D} (r : REnv K G H σ b) (a : Acc K σ b G H p acc) (h1 : H p = some (.lst vs)) (h2 : Reps K G vs acc) (rp : Rep K G v d) :
    REnv K G (upd H p (.lst (vs ++ [v]))) σ b ∧ Acc K σ b G (upd H p (.lst (vs ++ [v]))) p (acc ++ [d]) := by
  refine ⟨⟨r.len, fun c o e => ?_, r.val, fun i e hi => ?_, r.dis⟩, a.n, a.no, _, upd_same, h2.append (.cons rp .nil)⟩
  · have hc : c ≠ p := fun z => by subst z; rw [a.n] at e; cases e
    rw [upd_ne hc]; exact r.ex c o e
  · obtain ⟨q, e1, o⟩ := r.own i e hi
    have hq : q ≠ p := fun z => by
      subst z
      rcases hi with hi | hi
      · exact a.no ⟨i, _, hi, rfl, e1⟩
      · exact a.no ⟨i, _, hi, rfl, e1⟩
    exact ⟨q, e1, o.up (fun _ _ z => z) o.there.1 (upd_ne hq)⟩

section
variable {X : Cx} {W : WX} {elt tg iter : Expr} {ifs : List Expr} {scope : Scope} {own : List (Str × Nat)} {pos : Pos} {t : Tgt} {fi : M (List D)} {ft : M Bool} {fe : M D}
abbrev TBs (X : Cx) (ft : M Bool) : TT := TB X W0 ft
/-- from the beginning of the comprehension: all that was tracked but the slots' own and the new list stands -/
structure TrC (σ : St) (b : Env) (G H : Hp) (b' : Env) (G' H' : Hp) (p : Addr) : Prop where
  ex : Ex G G'
  g : ∀ q, G q = none → G' q = none ∨ H q = none ∨ ownAt σ b q
  h : ∀ q o, H q = some o → ownAt σ b q ∨ H' q = some o
  o : ∀ q, ownAt σ b' q → ownAt σ b q ∨ H q = none
  on : ∀ q, ownN σ b' q → ownN σ b q ∨ H q = none
  dom : ∀ q, H' q = none → H q = none
  io : ∀ (i : Nat) (d : D), b[i]? = some (.io d) → ∃ d', b'[i]? = some (.io d')
theorem lc_T {σ : St} {H : Hp} {Q : VK} (hix : ∀ j, j ∈ t.ixs → j ∈ own.map (·.2)) (h : T X W (eLc (own.map (·.2)) t fi ft fe) σ H Q) : tLc (TIof X W fi) (TGof X t) (TB X W0 ft) (TD X W0 fe) (own.map (·.2)) σ H Q := by
  obtain ⟨G, env, r, q⟩ := h
  refine ⟨G, env, r, ?_⟩
  unfold eLc at q
  cases e1 : fi env with
  | no => rw [e1] at q; exact q
  | ex c e => rw [e1] at q; exact q
  | ok ds e =>
    simp only [e1, R.bind] at q
    intro J G1 H1 t1 r1 it D0 hD
    cases e2 : wipeE (own.map (·.2)) e with
    | none => rw [e2] at q; exact q.elim
    | some b0 =>
      simp only [e2] at q
      obtain ⟨r0, t0, a1, b1, c1, l1⟩ := wipe_env r1 e2
      -- the new list
      have pm := PTr.made r0.ex (o := .lst []) hD
      obtain ⟨tm, rm⟩ := pm.on r0
      have acc0 : Acc X.K (wipe σ (own.map (·.2))) b0 G1 (upd H1 D0 (.lst [])) D0 [] := ⟨Ex.free r0.ex hD, (fun z => by obtain ⟨_, w, hw⟩ := r0.oat z; rw [hD] at hw; cases hw), [], upd_same, .nil⟩
      refine ⟨fun i m H => m + i = ds.length ∧ ∃ G b acc, REnv X.K G H (wipe σ (own.map (·.2))) b ∧ Ex G1 G ∧ Acc X.K (wipe σ (own.map (·.2))) b G H D0 acc ∧ TrC (wipe σ (own.map (·.2))) b0 G1 H1 b G H D0 ∧
        (match lcGo (own.map (·.2)) t ft fe (ds.drop i) b acc with
          | some (xs, b') => ∀ G' H', REnv X.K G' H' (wipe σ (own.map (·.2))) b' → Acc X.K (wipe σ (own.map (·.2))) b' G' H' D0 xs → TrC (wipe σ (own.map (·.2))) b0 G1 H1 b' G' H' D0 → Q (.ref D0) H'
          | none => False), ⟨ds.length, rfl, G1, b0, [], rm, fun _ _ z => z, acc0, ⟨tm.ex, tm.g, tm.h, tm.o, tm.on, tm.dom, fun i d z => ⟨d, z⟩⟩, ?_⟩, ?_⟩
      · cases e3 : lcGo (own.map (·.2)) t ft fe ds b0 [] with
        | none => rw [e3] at q; exact q.elim
        | some z =>
          obtain ⟨xs, b'⟩ := z
          simp only [e3] at q
          show match lcGo (own.map (·.2)) t ft fe ds b0 [] with
            | some (xs, b') => _
            | none => False
          rw [e3]
          intro G' H' r' ac tc
          have tt : Tr (wipe σ (own.map (·.2))) b0 G1 H1 (wipe σ (own.map (·.2))) b' G' H' := ⟨tc.ex, tc.g, tc.h, tc.o, tc.on, tc.dom, rfl, fun i d z => ⟨rfl, tc.io i d z⟩⟩
          obtain ⟨t3, r3⟩ := unwipe_env r1 e2 tt r'
          obtain ⟨n, no, ws, h1, h2⟩ := ac
          refine q (.ref D0) G' H' (t1.trans t3) r3 ⟨D0, rfl, t1.dom _ hD, fun z => ?_, n, ws, h1, h2⟩
          rcases t3.o _ z with z | z
          · obtain ⟨_, w, hw⟩ := r1.oat z
            rw [hD] at hw; cases hw
          · have lb : b'.length = e.length := by rw [← r'.len, wipe_length, r1.len]
            obtain ⟨j, s, x, y, w⟩ := ‹ownAt σ (unwipe (own.map (·.2)) e b') D0›
            rw [unwipe_get e _ b' j lb] at x
            by_cases hj : j ∈ own.map (·.2)
            · rw [if_pos hj] at x
              rw [a1 j hj s x] at y; cases y
            · rw [if_neg hj] at x
              exact no ⟨j, s, x, y, by rw [wipe_out hj]; exact w⟩
      · rintro i m H ⟨hm, G, b, acc, r, ex, ac, tc, q⟩
        by_cases hi : i < ds.length
        · refine .inr ⟨it.go i H (Ex.tr ex r.ex) hi, fun H' => ∃ G b acc, REnv X.K G H' (wipe σ (own.map (·.2))) b ∧ Ex G1 G ∧ Acc X.K (wipe σ (own.map (·.2))) b G H' D0 acc ∧ TrC (wipe σ (own.map (·.2))) b0 G1 H1 b G H' D0 ∧
            (match lcGo (own.map (·.2)) t ft fe (ds.drop (i + 1)) b acc with
              | some (xs, b') => ∀ G' H', REnv X.K G' H' (wipe σ (own.map (·.2))) b' → Acc X.K (wipe σ (own.map (·.2))) b' G' H' D0 xs → TrC (wipe σ (own.map (·.2))) b0 G1 H1 b' G' H' D0 → Q (.ref D0) H'
              | none => False), fun H' z => ⟨m - 1, by omega, by omega, z⟩, fun x H' hy => ?_⟩
          obtain ⟨d, G', hd, pt, rp⟩ := it.yld i G H x H' ex r.ex hy hi
          obtain ⟨t2, r2⟩ := pt.on r
          have ed : ds.drop i = d :: ds.drop (i + 1) := by
            rw [List.drop_eq_getElem_cons hi]
            rw [List.getElem?_eq_getElem hi] at hd
            cases hd; rfl
          rw [ed] at q
          unfold lcGo at q
          cases e3 : sto t d b with
          | none => simp only [e3] at q
          | some e4 =>
            simp only [e3] at q
            refine ⟨wipe σ (own.map (·.2)), b, G', H', G', b, e4, d, .refl, r2, rp, e3, fun σ2 t3 r3 agree => ?_⟩
            have hlen : σ2.length = σ.length := by
              rw [r3.len]
              have : e4.length = b.length := by
                have key : (∀ (tg : Tgt) (d : D) (a b : Env), sto tg d a = some b → b.length = a.length) := by
                  intro tg
                  refine Tgt.rec (motive_1 := fun tg => ∀ (d : D) (a b : Env), sto tg d a = some b → b.length = a.length) (motive_2 := fun ts => ∀ (ds : List D) (a b : Env), stos ts ds a = some b → b.length = a.length) ?_ ?_ ?_ ?_ tg
                  · intro i d a b z
                    have z : (if ioAt a i then none else some (a.set i (.val d))) = some b := z
                    split at z
                    · cases z
                    · cases z; rw [List.length_set]
                  · intro ts ih d a b z
                    cases d with
                    | tup ds => exact ih ds a b z
                    | _ => cases z
                  · intro ds a b z
                    cases ds with
                    | nil => cases z; rfl
                    | cons _ _ => cases z
                  · intro t ts ih1 ih2 ds a b z
                    cases ds with
                    | nil => cases z
                    | cons d ds =>
                      unfold stos at z
                      cases z1 : sto t d a with
                      | none => rw [z1] at z; cases z
                      | some e => rw [z1] at z; rw [ih2 ds e b z, ih1 d a e z1]
                exact key t d b e4 e3
              rw [this, ← r2.len, wipe_length]
            have ag : ∀ j, j ∉ own.map (·.2) → σ2[j]? = (wipe σ (own.map (·.2)))[j]? := fun j hj => agree j fun z => hj (hix j z)
            have weq : wipe σ2 (own.map (·.2)) = wipe σ (own.map (·.2)) := wipe_agree hlen ag
            refine ⟨weq, G', e4, r3, ?_⟩
            have tcs : ∀ {b2 : Env} {G2 H2 : Hp}, Tr (wipe σ (own.map (·.2))) b G H (wipe σ (own.map (·.2))) b2 G2 H2 → TrC (wipe σ (own.map (·.2))) b0 G1 H1 b2 G2 H2 D0 := fun {b2 G2 H2} t => by
              refine ⟨Ex.tr tc.ex t.ex, fun q hq => ?_, fun q o hq => ?_, fun q hq => ?_, fun q hq => ?_, fun q hq => tc.dom q (t.dom q hq), fun i d hq => ?_⟩
              · rcases tc.g q hq with z | z | z
                · rcases t.g q z with z | z | z
                  · exact .inl z
                  · exact .inr (.inl (tc.dom q z))
                  · rcases tc.o q z with z | z
                    · exact .inr (.inr z)
                    · exact .inr (.inl z)
                · exact .inr (.inl z)
                · exact .inr (.inr z)
              · rcases tc.h q o hq with z | z
                · exact .inl z
                · rcases t.h q o z with z | z
                  · rcases tc.o q z with z | z
                    · exact .inl z
                    · rw [z] at hq; cases hq
                  · exact .inr z
              · rcases t.o q hq with z | z
                · exact tc.o q z
                · exact .inr (tc.dom q z)
              · rcases t.on q hq with z | z
                · exact tc.on q z
                · exact .inr (tc.dom q z)
              · obtain ⟨d1, z⟩ := tc.io i d hq
                exact (t.io i d1 z).2
            cases e5 : ft e4 with
            | no => simp only [e5] at q
            | ex c e5' => simp only [e5] at q
            | ok bb e6 =>
              intro G2 H2 t4 r4
              cases bb with
              | false =>
                simp only [e5] at q
                cases e7 : wipeE (own.map (·.2)) e6 with
                | none => simp only [e7] at q
                | some e8 =>
                  simp only [e7] at q
                  obtain ⟨r5, t5, _⟩ := wipe_env r4 e7
                  rw [weq] at r5 t5
                  have tall := ((t2.trans t3).trans t4).trans t5
                  exact ⟨G2, e8, acc, r5, Ex.tr ex tall.ex, ac.later tall, tcs tall, q⟩
              | true =>
                simp only [e5] at q
                refine ⟨G2, e6, r4, ?_⟩
                cases e7 : fe e6 with
                | no => simp only [e7] at q
                | ex c e8 => simp only [e7] at q
                | ok x e8 =>
                  simp only [e7] at q
                  intro v G3 H3 t5 r5 rpx
                  cases e9 : wipeE (own.map (·.2)) e8 with
                  | none => simp only [e9] at q
                  | some e10 =>
                    simp only [e9] at q
                    obtain ⟨r6, t6, _⟩ := wipe_env r5 e9
                    rw [weq] at r6 t6
                    have tall := (((t2.trans t3).trans t4).trans t5).trans t6
                    have ac' := ac.later tall
                    obtain ⟨n', no', ws, h1, h2⟩ := id ac'
                    by_cases hl : acc.length < sizeLine
                    · rw [if_pos hl] at q
                      obtain ⟨r7, ac7⟩ := ac'.push r6 h1 h2 rpx
                      refine ⟨ws, h1, by rw [h2.len]; exact hl, G3, e10, acc ++ [x], r7, Ex.tr ex tall.ex, ac7, ?_, q⟩
                      have tc' := tcs tall
                      refine ⟨tc'.ex, tc'.g, fun q o hq => ?_, tc'.o, tc'.on, fun q hq => ?_, tc'.io⟩
                      · by_cases hqD : q = D0
                        · subst hqD; rw [hD] at hq; cases hq
                        · rw [upd_ne hqD]; exact tc'.h q o hq
                      · by_cases hqD : q = D0
                        · subst hqD; exact hD
                        · rw [upd_ne hqD] at hq; exact tc'.dom q hq
                    · rw [if_neg hl] at q; exact q.elim
        · refine .inl ⟨it.stop i H (Ex.tr ex r.ex) (by omega), ?_⟩
          rw [List.drop_eq_nil_of_le (by omega)] at q
          exact q G H r ac tc
theorem de_lc (hc : X.calm = true) (hN : X.N.Nodup) (hi : DI X W tg iter fi) (ok : BlkOk X.N X.env.scope scope own) (hix : ∀ j, j ∈ t.ixs → j ∈ own.map (·.2))
    (hg : ∀ (s : Shared) (H : Hp) (C : Addr) (cl : List (Str × Addr)) (fp : List Addr), DG (X.blk s H scope (compEnvC scope cl C X.env) fp) tg t)
    (ht : ∀ (s : Shared) (H : Hp) (C : Addr) (cl : List (Str × Addr)) (fp : List Addr), PTs (X.blk s H scope (compEnvC scope cl C X.env) fp) ifs (TB (X.blk s H scope (compEnvC scope cl C X.env) fp) W0 ft))
    (he : ∀ (s : Shared) (H : Hp) (C : Addr) (cl : List (Str × Addr)) (fp : List Addr), DV (X.blk s H scope (compEnvC scope cl C X.env) fp) W0 elt fe) (hs : ∀ x, foldedSetIterable iter X.env x = pure x := by intro _; rfl) :
    DE X W (.ListComp elt [⟨tg, iter, ifs, 0⟩] scope pos) (eLc (own.map (·.2)) t fi ft fe) := (pe_lc hc hN hi ok hg ht he hs).imp fun σ H Q h => lc_T hix h
def bYes : M Bool := fun env => .ok true env
theorem dts_nil : PTs X [] (TB X W bYes) := ⟨fun pins s σ H Q I ⟨G, env, r, q⟩ => pts_nil.run pins s σ H Q I (q G H .refl r)⟩
theorem dts_one {c : Expr} {f : M Bool} (h : DT X W c f) : PTs X [c] (TB X W f) := pts_one h
end
end DL

namespace DL
open PySem L2

/-! ## a def's body, as a promise -/
def fin : Env → Env → Env
  | .io _ :: as, s :: e => s :: fin as e
  | _ :: as, _ :: e => .un :: fin as e
  | _, _ => []
/-- what a def of n parameters and k other names computes -/
def mkF (k : Nat) (f : MS) : M A := fun as => match f (as ++ List.replicate k .un) with
  | .ret a e => .ok a (fin as e)
  | .nx e => .ok (.val .non) (fin as e)
  | .ex c e => .ex c (fin as e)
  | _ => .no
theorem fin_get : ∀ (as e : Env) (i : Nat), as.length ≤ e.length → (fin as e)[i]? = match as[i]? with
    | some (.io _) => e[i]?
    | some _ => some .un
    | none => none
  | [], e, i, h => by simp [fin]
  | a :: as, [], i, h => by simp at h
  | a :: as, s :: e, 0, h => by cases a <;> simp [fin]
  | a :: as, s :: e, i + 1, h => by
    have ih := fin_get as e i (by simpa using h)
    cases a <;> simpa [fin] using ih
theorem fin_len : ∀ (as e : Env), as.length ≤ e.length → (fin as e).length = as.length
  | [], e, h => by simp [fin]
  | a :: as, [], h => by simp at h
  | a :: as, s :: e, h => by
    have ih := fin_len as e (by simpa using h)
    cases a <;> simpa [fin] using ih
section
variable {K : PySem.W.Frag} {G G' H H' : Hp} {vs : List V} {as : Env} {k : Nat}
theorem start_get {i : Nat} {x : Option V} (h : (vs.map some ++ List.replicate k none)[i]? = some x) : (∃ v, vs[i]? = some v ∧ x = some v) ∨ x = none := by
  by_cases hi : i < vs.length
  · rw [List.getElem?_append_left (by simpa using hi), List.getElem?_map, List.getElem?_eq_getElem hi] at h
    cases h; exact .inl ⟨_, List.getElem?_eq_getElem hi, rfl⟩
  · rw [List.getElem?_append_right (by simpa using Nat.le_of_not_lt hi), List.getElem?_replicate] at h
    split at h
    · cases h; exact .inr rfl
    · cases h
theorem env_get {i : Nat} {s : Slot} (h : (as ++ List.replicate k Slot.un)[i]? = some s) (hs : s ≠ .un) : as[i]? = some s := by
  by_cases hi : i < as.length
  · rwa [List.getElem?_append_left hi] at h
  · rw [List.getElem?_append_right (Nat.le_of_not_lt hi), List.getElem?_replicate] at h
    split at h
    · cases h; exact absurd rfl hs
    · cases h
theorem env_get' {i : Nat} {s : Slot} (h : as[i]? = some s) : (as ++ List.replicate k Slot.un)[i]? = some s := by
  rw [List.getElem?_append_left (List.getElem?_eq_some_iff.mp h).1]; exact h
theorem start_val (r : REnv K G H (vs.map some) as) {i : Nat} {s : Slot} (h : as[i]? = some s) : (vs.map some ++ List.replicate k none)[i]? = (vs.map some)[i]? := by
  have : i < (vs.map some).length := by rw [r.len]; exact (List.getElem?_eq_some_iff.mp h).1
  rw [List.getElem?_append_left this]
theorem start_env (r : REnv K G H (vs.map some) as) : REnv K G H (vs.map some ++ List.replicate k none) (as ++ List.replicate k .un) ∧ (∀ p, ownAt (vs.map some ++ List.replicate k none) (as ++ List.replicate k .un) p → ownAt (vs.map some) as p) ∧
    (∀ p, ownN (vs.map some ++ List.replicate k none) (as ++ List.replicate k .un) p → ownN (vs.map some) as p) := by
  have un : ∀ {s : Slot}, isOwn s = true → s ≠ .un := fun h e => by subst e; cases h
  refine ⟨⟨by rw [List.length_append, List.length_append, r.len]; simp, r.ex, fun i d h => ?_, fun i d h => ?_, fun i j s t p h1 h2 h3 h4 h5 h6 => ?_⟩, fun p ⟨i, s, h1, h2, h3⟩ => ?_, fun p ⟨i, d, h1, h3⟩ => ?_⟩
  · have h := env_get h (fun z => by cases z)
    obtain ⟨v, e, q⟩ := r.val i d h
    exact ⟨v, by rw [start_val r h]; exact e, q⟩
  · have h : as[i]? = some (.own d) ∨ as[i]? = some (.io d) := by
      rcases h with h | h
      · exact .inl (env_get h (fun z => by cases z))
      · exact .inr (env_get h (fun z => by cases z))
    obtain ⟨p, e, q⟩ := r.own i d h
    refine ⟨p, ?_, q⟩
    rcases h with h | h
    · rw [start_val r h]; exact e
    · rw [start_val r h]; exact e
  · have h1 := env_get h1 (un h2)
    have h3 := env_get h3 (un h4)
    rw [start_val r h1] at h5
    rw [start_val r h3] at h6
    exact r.dis i j s t p h1 h2 h3 h4 h5 h6
  · have h1 := env_get h1 (un h2)
    exact ⟨i, s, h1, h2, by rw [← start_val r h1]; exact h3⟩
  · have h1 := env_get h1 (fun z => by cases z)
    exact ⟨i, d, h1, by rw [← start_val r h1]; exact h3⟩
/-- at the end: what the lent lists hold -/
theorem end_env {σ' : St} {e : Env} (r : REnv K G H (vs.map some) as) (t : Tr (vs.map some ++ List.replicate k none) (as ++ List.replicate k .un) G H σ' e G' H') (r' : REnv K G' H' σ' e) (hl : as.length ≤ e.length) :
    Tr (vs.map some) as G H (vs.map some) (fin as e) G' H' ∧ REnv K G' H' (vs.map some) (fin as e) := by
  obtain ⟨r0, oa, on⟩ := start_env (k := k) r
  have get : ∀ {i : Nat} {s : Slot}, (fin as e)[i]? = some s → s ≠ .un → ∃ d, as[i]? = some (.io d) ∧ e[i]? = some s ∧ σ'[i]? = (vs.map some)[i]? := fun {i s} h hs => by
    rw [fin_get as e i hl] at h
    cases ha : as[i]? with
    | none => rw [ha] at h; cases h
    | some a =>
      rw [ha] at h
      cases a with
      | io d => exact ⟨d, rfl, h, by rw [(t.io i d (env_get' ha)).1, start_val r ha]⟩
      | un => cases h; exact absurd rfl hs
      | val d => cases h; exact absurd rfl hs
      | own d => cases h; exact absurd rfl hs
  have back : ∀ p, ownAt (vs.map some) (fin as e) p → ownAt (vs.map some) as p := fun p ⟨i, s, h1, h2, h3⟩ => by
    obtain ⟨d, h4, _, _⟩ := get h1 (fun z => by subst z; cases h2)
    exact ⟨i, _, h4, rfl, h3⟩
  have un : ∀ {s : Slot}, isOwn s = true → s ≠ .un := fun h e => by subst e; cases h
  refine ⟨⟨t.ex, fun p h => ?_, fun p o h => ?_, fun p h => .inl (back p h), fun p ⟨i, d, h1, h2⟩ => ?_, t.dom, rfl, fun i d h => ?_⟩, ⟨by rw [fin_len as e hl]; exact r.len, r'.ex, fun i d h => ?_, fun i d h => ?_, fun i j s u p h1 h2 h3 h4 h5 h6 => ?_⟩⟩
  · rcases t.g p h with z | z | z
    · exact .inl z
    · exact .inr (.inl z)
    · exact .inr (.inr (oa p z))
  · rcases t.h p o h with z | z
    · exact .inl (oa p z)
    · exact .inr z
  · obtain ⟨d', h4, h5, h6⟩ := get h1 (fun z => by cases z)
    obtain ⟨_, d2, z⟩ := t.io i d' (env_get' h4)
    rw [h5] at z; cases z
  · refine ⟨rfl, ?_⟩
    obtain ⟨_, d', z⟩ := t.io i d (env_get' h)
    exact ⟨d', by rw [fin_get as e i hl, h]; exact z⟩
  · obtain ⟨d', h4, h5, h6⟩ := get h (fun z => by cases z)
    obtain ⟨_, d2, z⟩ := t.io i d' (env_get' h4)
    rw [h5] at z; cases z
  · have hk : ∃ s, (fin as e)[i]? = some s ∧ s ≠ .un ∧ (s = .own d ∨ s = .io d) := by
      rcases h with h | h
      · exact ⟨_, h, (fun z => by cases z), .inl rfl⟩
      · exact ⟨_, h, (fun z => by cases z), .inr rfl⟩
    obtain ⟨s, h1, h2, h3⟩ := hk
    obtain ⟨d', h4, h5, h6⟩ := get h1 h2
    have : e[i]? = some (.own d) ∨ e[i]? = some (.io d) := by rcases h3 with rfl | rfl; exact .inl h5; exact .inr h5
    obtain ⟨p, z, o⟩ := r'.own i d this
    exact ⟨p, by rw [← h6]; exact z, o⟩
  · obtain ⟨d1, a1, a2, a3⟩ := get h1 (un h2)
    obtain ⟨d2, b1, b2, b3⟩ := get h3 (un h4)
    exact r'.dis i j s u p a2 h2 b2 h4 (by rw [a3]; exact h5) (by rw [b3]; exact h6)
end
/-- THE RULE: a def keeps the promise that its body's reading makes -/
theorem def_ok {P : Program} {w : World} {K : PySem.W.Frag} {mg : Str → Option Value} {base : Heap} {x qual : Str} {st : Stmt} {f : Addr} {fd : FuncData} {N ps : List Str} {k n m : Nat} {B : MS} (F : Fun K x qual st f fd) (S : FnScope N ps (defScope st)) (hn : ps.length = n) (hm : N.length - n = m)
    (hbody : ∀ (cdv : Value) (A : Around) (outer : List PySem.Env) (s : Shared) (H : Hp) (E : XK), Room k (A.deeper (PyProof.Rows.envOfC qual (defScope st) s.heap.objs.size f cdv)) →
      DSs (cxOf (L2.CX P w) P w K mg base N qual (defScope st) f cdv A outer s H E) (fun cls d _ H => E cls d H) (defBody st) B) :
    FnOk P w K mg base (L2.CX P w) (k + 1) f fd ps (spOf K mg n (mkF m B)) := by
  refine F.okX S (fun vs H Q E h => h.1.trans hn.symm) (fun cdv A outer s H vs Q E hr h => ?_)
  obtain ⟨hl, G, as, r, lent, h⟩ := h
  refine ⟨_, hbody cdv A outer s H E hr, ?_⟩
  have hk : N.length - vs.length = m := by rw [hl]; exact hm
  obtain ⟨r0, oa, on⟩ := start_env (k := m) r
  have hstart : L2.start N vs = vs.map some ++ List.replicate m none := by unfold L2.start; rw [hk]
  rw [hstart]
  refine ⟨G, as ++ List.replicate m Slot.un, r0, ?_⟩
  unfold mkF at h
  have el : ∀ {σ' : St} {e : Env} {G' H' : Hp}, Tr (vs.map some ++ List.replicate m none) (as ++ List.replicate m .un) G H σ' e G' H' → REnv K G' H' σ' e → as.length ≤ e.length := fun t r' => by
    rw [← r'.len, t.len, ← r.len, List.length_append]; omega
  cases e1 : B (as ++ List.replicate m .un) with
  | no => rw [e1] at h; exact h
  | brk e => rw [e1] at h; exact h.elim
  | cont e => rw [e1] at h; exact h.elim
  | ex c e =>
    rw [e1] at h
    intro cls σ' G' H' hc t r'
    obtain ⟨t2, r2⟩ := end_env r t r' (el t r')
    exact h cls G' H' hc t2 r2
  | nx e =>
    rw [e1] at h
    intro σ' G' H' t r'
    obtain ⟨t2, r2⟩ := end_env r t r' (el t r')
    exact h .non G' H' t2 r2 .non
  | ret a e =>
    rw [e1] at h
    intro v σ' G' H' t r' ra
    obtain ⟨t2, r2⟩ := end_env r t r' (el t r')
    refine h v G' H' t2 r2 ?_
    cases a with
    | val d => exact ra
    | own d =>
      obtain ⟨p, e2, n, no, o⟩ := ra
      have hp : H p = none := by
        rcases n with n | n
        · exact n
        · obtain ⟨i, d, z, _⟩ := on p n
          exact absurd z (lent i d)
      refine ⟨p, e2, hp, fun z => ?_, o⟩
      rcases t2.o p z with z | z
      · obtain ⟨_, w, hw⟩ := r.oat z
        rw [hp] at hw; cases hw
      · obtain ⟨i, s, z1, z2, z3⟩ := ‹ownAt (vs.map some) (fin as e) p›
        rw [fin_get as e i (el t r')] at z1
        cases ha : as[i]? with
        | none => rw [ha] at z1; cases z1
        | some a =>
          rw [ha] at z1
          cases a with
          | io d =>
            obtain ⟨_, w, hw⟩ := r.oat ⟨i, _, ha, rfl, z3⟩
            rw [hp] at hw; cases hw
          | un => cases z1; cases z2
          | val d => cases z1; cases z2
          | own d => cases z1; cases z2
end DL

/-! sorted(t) of a tuple of ints: as of a list, the collecting step over a tuple -/
namespace DL
open PySem L2 PyProof.Rows
section
variable {prog : Program} {w : World} {A : Around} {E : Value → Shared → Prop} {s : Shared}
abbrev gath (h : Heap) (vs : List Value) : Heap :=
  (h.push (seqObj "list" #[] 0)).update h.objs.size (Obj.mapSeq fun xs => xs ++ vs.toArray)
theorem collect_tuple {a : Addr} {vs : List Value} {Q : List Value → Shared → Prop}
    (ht : IsTup s.heap a vs.toArray) (hz : vs.length ≤ sizeLine) (h : Q vs { s with heap := gath s.heap vs }) :
    wpAny (model prog w) A (collect (.ref a)) Q E s := by
  obtain ⟨o, ho, hc, hdict, n, hd⟩ : ∃ o, s.heap.get? a = some o ∧ o.cls = .type "tuple" ∧ True ∧ ∃ n, o.data = .seq vs.toArray n := by
    obtain ⟨o, q, c, n, e⟩ := (show s.heap.IsTuple a vs.toArray from ht)
    exact ⟨o, q, c, trivial, n, e⟩
  unfold collect
  refine wpAny_bind (wpAny_runValue
    (codeAny_builtin entry_proto_collect' ?_))
  show wpAny _ _
    (do again (.builtin "list.__iadd__" ⟨[← newList [], .ref a], []⟩)) _ _ s
  refine wpAny_bind (wpAny_newList (wpAny_pure
    ⟨Code.quiet_builtin _ (by decide +kernel), codeAny_builtin entry_list_iadd' ?_⟩))
  show wpAny _ _ (Builtin.List.listExtendWith (.ref s.heap.objs.size) (.ref a)
    (.ref s.heap.objs.size)) _ _ { s with heap := s.heap.push (seqObj "list" #[] 0) }
  unfold Builtin.List.listExtendWith
  have hoa : (s.heap.push (seqObj "list" #[] 0)).get? a = some o :=
    Heap.get?_push_of_some _ ho
  have hnew : (s.heap.push (seqObj "list" #[] 0)).get? s.heap.objs.size = some (seqObj "list" #[] 0) :=
    Heap.get?_push_size _ rfl
  refine wpAny_bind (wpAny_typeOf
    (T := "tuple") ⟨o, hoa, hc⟩ ?_)
  have htt : (Value.type "tuple" == Value.type "tuple") = true := rfl
  rw [if_pos (by rw [htt]; simp)]
  refine wpAny_bind (listItems_at hoa hd ?_)
  refine wpAny_bind (listItems_at
    (xs := #[]) (n := 0) hnew rfl ?_)
  rw [if_neg (by simp)]
  have hsz2 : (#[] ++ vs.toArray).size ≤ sizeLine + 1 := by
    simp only [Array.size_append, List.size_toArray]
    show 0 + vs.length ≤ _
    omega
  refine wpAny_bind (listUpdate_at (xs := #[]) (n := 0)
    hnew rfl ?_ (Nat.zero_le _) hsz2)
  refine wpAny_pure ?_
  show wpAny (model prog w) A (load s.heap.objs.size >>= fun o =>
      match o.data with
      | .seq xs _ => pure xs.toList
      | _ => unsupported "internal:collect") Q E { s with heap := gath s.heap vs }
  refine wpAny_bind (wpAny_load
    (get?_update_seq hnew _) ?_)
  show wpAny _ _ (pure ((#[] : Array Value) ++ vs.toArray).toList)
    Q E _
  have el : ((#[] : Array Value) ++ vs.toArray).toList = vs := by simp
  rw [el]
  exact wpAny_pure h
theorem sorted_tuple {l : Addr} {vs : List Value} {ltv : Value → Value → Bool} {Q : Value → Shared → Prop} (O : SrtO.Swo ltv) (hl : IsTup s.heap l vs.toArray)
    (hz : vs.length ≤ sizeLine) (hS : 2 ≤ vs.length → ∀ (h₁ : Heap) (a : Addr), h₁.get? a = some (seqObj "list" vs.toArray 0) →
      (∀ b o, s.heap.get? b = some o → b ≠ a ∧ h₁.get? b = some o) → SrtO.SortableO prog w A.in1.in1 { s with heap := h₁ } a vs ltv)
    (h : ∀ out : List Value, SrtO.Srtd ltv out → SrtO.Stb ltv out vs → Q (.ref (s.heap.objs.size + 1)) { s with heap := sortedAll s.heap vs out.toArray }) :
    wpAny (model prog w) A (call (.builtin "sorted") [.ref l]) Q E s := by
  refine Calls.call_function_entry kind_sorted plain_sorted
    entry_sorted (args_sorted1 _) ?_
  unfold Builtin.«sorted»
  refine wpAny_bind (m := checkCount "sorted" 1 1 _)
    (wpAny_pure ?_)
  refine wpAny_bind (collect_tuple hl hz ?_)
  refine wpAny_bind (wpAny_newList ?_ hz)
  have e1 : (gath s.heap vs).objs.size = s.heap.objs.size + 1 := by
    show (Heap.update _ _ _).objs.size = _
    rw [Heap.size_update, size_push']
  have hoL : ((gath s.heap vs).push (seqObj "list" vs.toArray 0)).get? (s.heap.objs.size + 1) = some (seqObj "list" vs.toArray 0) := by
    rw [← e1]
    exact Heap.get?_push_size _ rfl
  have kept : ∀ b o, s.heap.get? b = some o →
      b ≠ s.heap.objs.size + 1 ∧ ((gath s.heap vs).push (seqObj "list" vs.toArray 0)).get? b = some o := by
    intro b o q
    have lt : b < s.heap.objs.size := Heap.lt_size q
    refine ⟨Nat.ne_of_lt (Nat.lt_succ_of_lt lt),
      Heap.get?_push_of_some _ ?_⟩
    show (Heap.update _ _ _).get? b = some o
    rw [Heap.get?_update_ne _ _ _ _ (Nat.ne_of_lt lt)]
    exact Heap.get?_push_of_some _ q
  show wpAny _ _ _ _ _ { s with heap := (gath s.heap vs).push (seqObj "list" vs.toArray 0) }
  rw [e1]
  refine wpAny_bind (wpAny_holding (wpAny_call_entry slot_list_sort ⟨_, hoL, rfl⟩ entry_list_sort
    (SrtO.list_sort_ord O hoL hz (fun h2 => hS h2 _ _ hoL kept) fun out hs hb => ⟨_, rfl, ?_⟩)
    (args_list_sort _)))
  exact wpAny_pure ⟨_, rfl, h out hs hb⟩
end
def rSortT (K : PySem.W.Frag) : List V → Hp → VK → Prop := fun vs H Q => ∃ (a : Addr) (ns : List Int),
  vs = [V.ref a] ∧ SqT K H a (ns.map V.int) ∧ ∀ (ns' : List Int) (p : Addr), ns'.Perm ns → ns'.Pairwise (· ≤ ·) →
    H p = none → Q (.ref p) (upd H p (.lst (ns'.map V.int)))
theorem cr_sortT {X : Cx} : CallR X (.builtin "sorted") (rSortT X.K) := by
  intro pins s σ H vs us Q I r ⟨a, ns, e, hs, q⟩
  subst e
  obtain ⟨its, rv, hl, hz⟩ := I.tuple hs
  rw [Vals.ref1 r]
  have hi := rv.ints
  have hz' : its.length ≤ sizeLine := by rw [← rv.length]; exact hz
  refine sorted_tuple SrtO.swo_int hl hz' (fun h2 h₁ a' _ _ => SrtO.ints_sortable hi h2) ?_
  intro out h1 h2
  obtain ⟨k1, k2, k3⟩ := SrtO.ints_out hi h1 h2
  obtain ⟨ep, he⟩ := sortedAll_at s.heap its out.toArray
  have hlen : ((out.map SrtO.iv).map V.int).length ≤ sizeLine := by
    rw [List.length_map, k2.length_eq, ← List.length_map (f := V.int)]
    exact hz
  have I2 := I.laid (t' := s.toks) (a := s.heap.objs.size + 1)
    (o := .lst ((out.map SrtO.iv).map V.int)) (fun _ _ => sortedAll_old) (Nat.le_succ _) ⟨hlen, out, ep, vals_of_ints k1, he⟩
  exact ⟨.ref _, _, I2, rfl, q _ _ k2 k3 (I.hok.fresh (Nat.le_succ _))⟩
end DL

namespace DL
open PySem L2

section
variable {K : PySem.W.Frag} {G H : Hp}
theorem reps1 {vs : List V} {d : D} (h : RepPs K G H vs [d]) : ∃ v, vs = [v] ∧ RepP K G H v d := by
  cases h with | cons a b => cases b; exact ⟨_, rfl, a⟩
theorem reps2 {vs : List V} {d e : D} (h : RepPs K G H vs [d, e]) : ∃ v u, vs = [v, u] ∧ RepP K G H v d ∧ RepP K G H u e := by
  cases h with | cons a b => cases b with | cons b c => cases c; exact ⟨_, _, rfl, a, b⟩
end

/-! ## built-ins in data -/
def lenD : List D → Option A
  | [.lst ds] => some (.val (.int ds.length))
  | [.tup ds] => some (.val (.int ds.length))
  | [.str z] => if z.length ≤ sizeLine then some (.val (.int z.length)) else none
  | _ => none
def tupleD : List D → Option A
  | [.lst ds] => some (.val (.tup ds))
  | [.tup ds] => some (.val (.tup ds))
  | _ => none
def listD : List D → Option A
  | [.lst ds] => some (.own (.lst ds))
  | [.tup ds] => some (.own (.lst ds))
  | _ => none
def absD : List D → Option A
  | [.int i] => some (.val (.int (if i < 0 then -i else i)))
  | _ => none
def intD : List D → Option A
  | [.int i] => some (.val (.int i))
  | [.bl b] => some (.val (.int (if b then 1 else 0)))
  | _ => none
/-- a list of ints -/
def intsOf : List D → Option (List Int)
  | [] => some []
  | .int i :: ds => (intsOf ds).map (i :: ·)
  | _ :: _ => none
theorem intsOf_map (ns : List Int) : intsOf (ns.map D.int) = some ns := by
  induction ns with
  | nil => rfl
  | cons n ns ih => show (intsOf (ns.map D.int)).map (n :: ·) = _; rw [ih]; rfl
theorem intsOf_some : ∀ {ds : List D} {ns : List Int}, intsOf ds = some ns → ds = ns.map D.int
  | [], ns, h => by cases h; rfl
  | .int i :: ds, ns, h => by
    have h : (intsOf ds).map (i :: ·) = some ns := h
    cases e : intsOf ds with
    | none => rw [e] at h; cases h
    | some ms => rw [e] at h; cases h; rw [intsOf_some e]; rfl
  | .non :: _, _, h => by cases h
  | .bl _ :: _, _, h => by cases h
  | .str _ :: _, _, h => by cases h
  | .tup _ :: _, _, h => by cases h
  | .lst _ :: _, _, h => by cases h
  | .dic _ _ :: _, _, h => by cases h
  | .scr _ :: _, _, h => by cases h
def isort (ns : List Int) : List Int := ns.mergeSort (fun a b => decide (a ≤ b))
theorem isort_perm (ns : List Int) : (isort ns).Perm ns := List.mergeSort_perm ns _
theorem isort_sorted (ns : List Int) : (isort ns).Pairwise (· ≤ ·) := by
  have := List.pairwise_mergeSort (le := fun a b : Int => decide (a ≤ b)) (fun a b c h1 h2 => by simp at *; omega) (fun a b => by simp; omega) ns
  exact this.imp fun h => of_decide_eq_true h
theorem isort_of {ns ms : List Int} (hp : ms.Perm ns) (hs : ms.Pairwise (· ≤ ·)) : ms = isort ns := PySem.W.ksm_same (hp.trans (isort_perm ns).symm) hs (isort_sorted ns)
def sortedD : List D → Option A
  | [.lst ds] => (intsOf ds).map fun ns => .own (.lst ((isort ns).map .int))
  | [.tup ds] => (intsOf ds).map fun ns => .own (.lst ((isort ns).map .int))
  | _ => none
def sumD : List D → Option A
  | [.lst ds] => (intsOf ds).map fun ns => .val (.int ns.sum)
  | _ => none
/-- the least, the greatest of a list of ints -/
def maxI : List Int → Option Int
  | [] => none
  | n :: ns => some (ns.foldl (fun a b => if a < b then b else a) n)
def minI : List Int → Option Int
  | [] => none
  | n :: ns => some (ns.foldl (fun a b => if b < a then b else a) n)
theorem maxI_of : ∀ {ns : List Int} {m k : Int}, maxI ns = some m → k ∈ ns → (∀ y ∈ ns, y ≤ k) → k = m := fun {ns m k} h hk hle => by
  cases ns with
  | nil => cases h
  | cons n ns =>
    have h : ns.foldl (fun a b => if a < b then b else a) n = m := Option.some.inj h
    have key : ∀ (l : List Int) (a : Int), (∀ y ∈ l, y ≤ l.foldl (fun a b => if a < b then b else a) a) ∧ a ≤ l.foldl (fun a b => if a < b then b else a) a ∧ (l.foldl (fun a b => if a < b then b else a) a = a ∨ l.foldl (fun a b => if a < b then b else a) a ∈ l) := by
      intro l
      induction l with
      | nil => intro a; exact ⟨(fun y hy => by cases hy), Int.le_refl _, .inl rfl⟩
      | cons x l ih =>
        intro a
        obtain ⟨h1, h2, h3⟩ := ih (if a < x then x else a)
        rw [List.foldl_cons]
        have hax : a ≤ (if a < x then x else a) ∧ x ≤ (if a < x then x else a) ∧ ((if a < x then x else a) = a ∨ (if a < x then x else a) = x) := by
          split <;> omega
        refine ⟨fun y hy => ?_, by omega, ?_⟩
        · rcases List.mem_cons.mp hy with rfl | hy
          · omega
          · exact h1 y hy
        · rcases h3 with h3 | h3
          · rw [h3]
            rcases hax.2.2 with e | e
            · exact .inl e
            · rw [e]; exact .inr List.mem_cons_self
          · exact .inr (List.mem_cons_of_mem _ h3)
    obtain ⟨h1, h2, h3⟩ := key ns n
    rw [h] at h1 h2 h3
    have a1 : k ≤ m := by
      rcases List.mem_cons.mp hk with rfl | hk
      · exact h2
      · exact h1 k hk
    have a2 : m ≤ k := by
      rcases h3 with e | e
      · exact hle m (by rw [e]; exact List.mem_cons_self)
      · exact hle m (List.mem_cons_of_mem _ e)
    omega
theorem minI_of : ∀ {ns : List Int} {m k : Int}, minI ns = some m → k ∈ ns → (∀ y ∈ ns, k ≤ y) → k = m := fun {ns m k} h hk hle => by
  cases ns with
  | nil => cases h
  | cons n ns =>
    have h : ns.foldl (fun a b => if b < a then b else a) n = m := Option.some.inj h
    have key : ∀ (l : List Int) (a : Int), (∀ y ∈ l, l.foldl (fun a b => if b < a then b else a) a ≤ y) ∧ l.foldl (fun a b => if b < a then b else a) a ≤ a ∧ (l.foldl (fun a b => if b < a then b else a) a = a ∨ l.foldl (fun a b => if b < a then b else a) a ∈ l) := by
      intro l
      induction l with
      | nil => intro a; exact ⟨(fun y hy => by cases hy), Int.le_refl _, .inl rfl⟩
      | cons x l ih =>
        intro a
        obtain ⟨h1, h2, h3⟩ := ih (if x < a then x else a)
        rw [List.foldl_cons]
        have hax : (if x < a then x else a) ≤ a ∧ (if x < a then x else a) ≤ x ∧ ((if x < a then x else a) = a ∨ (if x < a then x else a) = x) := by
          split <;> omega
        refine ⟨fun y hy => ?_, by omega, ?_⟩
        · rcases List.mem_cons.mp hy with rfl | hy
          · omega
          · exact h1 y hy
        · rcases h3 with h3 | h3
          · rw [h3]
            rcases hax.2.2 with e | e
            · exact .inl e
            · rw [e]; exact .inr List.mem_cons_self
          · exact .inr (List.mem_cons_of_mem _ h3)
    obtain ⟨h1, h2, h3⟩ := key ns n
    rw [h] at h1 h2 h3
    have a1 : m ≤ k := by
      rcases List.mem_cons.mp hk with rfl | hk
      · exact h2
      · exact h1 k hk
    have a2 : k ≤ m := by
      rcases h3 with e | e
      · exact hle m (by rw [e]; exact List.mem_cons_self)
      · exact hle m (List.mem_cons_of_mem _ e)
    omega
def maxD : List D → Option A
  | [.lst ds] => (intsOf ds).bind fun ns => (maxI ns).map fun m => .val (.int m)
  | [.int i, .int j] => some (.val (.int (if j > i then j else i)))
  | _ => none
def minD : List D → Option A
  | [.lst ds] => (intsOf ds).bind fun ns => (minI ns).map fun m => .val (.int m)
  | [.int i, .int j] => some (.val (.int (if j < i then j else i)))
  | _ => none
def blsOf : List D → Option (List Bool)
  | [] => some []
  | .bl i :: ds => (blsOf ds).map (i :: ·)
  | _ :: _ => none
theorem blsOf_rep {K : PySem.W.Frag} {G : Hp} : ∀ {ds : List D} {bs : List Bool} {vs : List V}, blsOf ds = some bs → Reps K G vs ds → vs = bs.map V.bl
  | [], bs, vs, h, r => by cases h; cases r; rfl
  | .bl i :: ds, bs, vs, h, r => by
    have h : (blsOf ds).map (i :: ·) = some bs := h
    cases e : blsOf ds with
    | none => rw [e] at h; cases h
    | some ms =>
      rw [e] at h; cases h
      cases r with | cons a b => cases a; rw [blsOf_rep e b]; rfl
  | .non :: _, _, _, h, _ => by cases h
  | .int _ :: _, _, _, h, _ => by cases h
  | .str _ :: _, _, _, h, _ => by cases h
  | .tup _ :: _, _, _, h, _ => by cases h
  | .lst _ :: _, _, _, h, _ => by cases h
  | .dic _ _ :: _, _, _, h, _ => by cases h
  | .scr _ :: _, _, _, h, _ => by cases h
def allD : List D → Option A
  | [.lst ds] => (blsOf ds).map fun bs => .val (.bl (bs.all id))
  | _ => none
def anyD : List D → Option A
  | [.lst ds] => (blsOf ds).map fun bs => .val (.bl (bs.any id))
  | _ => none
section
variable {X : Cx}
theorem cd_len : CallD X (.builtin "len") lenD := by
  refine CallR.imp (call_len_seq.or call_len_str) fun xs H Q ⟨G, ds, a, e, r, hg, q⟩ => ?_
  unfold lenD at hg
  split at hg
  · cases hg
    obtain ⟨v, rfl, r1⟩ := reps1 r
    obtain ⟨p, vs, rfl, h1, s1⟩ := r1.lst e
    exact .inl ⟨p, vs, rfl, .inl (SqL.of h1), by rw [s1.len]; exact q _ G H (.refl e) (.int _)⟩
  · cases hg
    obtain ⟨v, rfl, r1⟩ := reps1 r
    obtain ⟨p, vs, rfl, h1, s1⟩ := r1.tup
    exact .inl ⟨p, vs, rfl, .inr (ex_t e h1), by rw [s1.len]; exact q _ G H (.refl e) (.int _)⟩
  · split at hg
    · rename_i hl; cases hg
      obtain ⟨v, rfl, r1⟩ := reps1 r
      have := r1.str
      subst this
      exact .inr ⟨_, rfl, hl, q _ G H (.refl e) (.int _)⟩
    · cases hg
  · cases hg
theorem cd_tuple : CallD X (.type "tuple") tupleD := by
  refine CallR.imp call_tuple_of fun xs H Q ⟨G, ds, a, e, r, hg, q⟩ => ?_
  unfold tupleD at hg
  split at hg
  · cases hg
    obtain ⟨v, rfl, r1⟩ := reps1 r
    obtain ⟨p, vs, rfl, h1, s1⟩ := r1.lst e
    refine ⟨p, vs, rfl, .inl ⟨SqL.of h1, fun l n => ?_⟩⟩
    obtain ⟨t, ra⟩ := new_tup e n s1
    exact q _ _ _ t ra
  · cases hg
    obtain ⟨v, rfl, r1⟩ := reps1 r
    obtain ⟨p, vs, rfl, h1, s1⟩ := r1.tup
    exact ⟨p, vs, rfl, .inr ⟨ex_t e h1, q _ G H (.refl e) (.tup h1 s1)⟩⟩
  · cases hg
theorem cd_list : CallD X (.type "list") listD := by
  refine CallR.imp call_list_of fun xs H Q ⟨G, ds, a, e, r, hg, q⟩ => ?_
  unfold listD at hg
  split at hg
  · cases hg
    obtain ⟨v, rfl, r1⟩ := reps1 r
    obtain ⟨p, vs, rfl, h1, s1⟩ := r1.lst e
    refine ⟨p, vs, rfl, .inl (SqL.of h1), fun l n => ?_⟩
    obtain ⟨t, ra⟩ := new_list e n s1
    exact q _ _ _ t ra
  · cases hg
    obtain ⟨v, rfl, r1⟩ := reps1 r
    obtain ⟨p, vs, rfl, h1, s1⟩ := r1.tup
    refine ⟨p, vs, rfl, .inr (ex_t e h1), fun l n => ?_⟩
    obtain ⟨t, ra⟩ := new_list e n s1
    exact q _ _ _ t ra
  · cases hg
theorem cd_abs : CallD X (.builtin "abs") absD := by
  refine CallR.imp call_abs fun xs H Q ⟨G, ds, a, e, r, hg, q⟩ => ?_
  unfold absD at hg
  split at hg
  · cases hg
    obtain ⟨v, rfl, r1⟩ := reps1 r
    have := r1.int
    subst this
    exact ⟨_, rfl, q _ G H (.refl e) (.int _)⟩
  · cases hg
theorem cd_int : CallD X (.type "int") intD := by
  refine CallR.imp call_int1 fun xs H Q ⟨G, ds, a, e, r, hg, q⟩ => ?_
  unfold intD at hg
  split at hg
  · cases hg
    obtain ⟨v, rfl, r1⟩ := reps1 r
    have := r1.int
    subst this
    exact .inl ⟨_, rfl, q _ G H (.refl e) (.int _)⟩
  · cases hg
    obtain ⟨v, rfl, r1⟩ := reps1 r
    have := r1.bl
    subst this
    exact .inr ⟨_, rfl, q _ G H (.refl e) (.int _)⟩
  · cases hg
theorem cd_sorted : CallD X (.builtin "sorted") sortedD := by
  refine CallR.imp (cr_sortedI.or cr_sortT) fun xs H Q ⟨G, ds, a, e, r, hg, q⟩ => ?_
  unfold sortedD at hg
  split at hg
  · rename_i ds
    cases hi : intsOf ds with
    | none => rw [hi] at hg; cases hg
    | some ns =>
      rw [hi] at hg; cases hg
      have := intsOf_some hi
      subst this
      obtain ⟨v, rfl, r1⟩ := reps1 r
      obtain ⟨p, vs, rfl, h1, s1⟩ := r1.lst e
      rw [s1.vints] at h1
      refine .inl ⟨p, ns, rfl, SqL.of h1, fun ns' l hp hs n => ?_⟩
      rw [isort_of hp hs]
      obtain ⟨t, ra⟩ := new_list e n (Reps.ints (K := X.K) (isort ns))
      exact q _ _ _ t ra
  · rename_i ds
    cases hi : intsOf ds with
    | none => rw [hi] at hg; cases hg
    | some ns =>
      rw [hi] at hg; cases hg
      have := intsOf_some hi
      subst this
      obtain ⟨v, rfl, r1⟩ := reps1 r
      obtain ⟨p, vs, rfl, h1, s1⟩ := r1.tup
      rw [s1.vints] at h1
      refine .inr ⟨p, ns, rfl, ex_t e h1, fun ns' l hp hs n => ?_⟩
      rw [isort_of hp hs]
      obtain ⟨t, ra⟩ := new_list e n (Reps.ints (K := X.K) (isort ns))
      exact q _ _ _ t ra
  · cases hg
theorem cd_sum (hc : X.calm = true) : CallD X (.builtin "sum") sumD := by
  refine CallR.imp (cr_sum hc) fun xs H Q ⟨G, ds, a, e, r, hg, q⟩ => ?_
  unfold sumD at hg
  split at hg
  · rename_i ds
    cases hi : intsOf ds with
    | none => rw [hi] at hg; cases hg
    | some ns =>
      rw [hi] at hg; cases hg
      have := intsOf_some hi
      subst this
      obtain ⟨v, rfl, r1⟩ := reps1 r
      obtain ⟨p, vs, rfl, h1, s1⟩ := r1.lst e
      rw [s1.vints] at h1
      exact ⟨p, ns, rfl, SqL.of h1, q _ G H (.refl e) (.int _)⟩
  · cases hg
theorem cd_max (hc : X.calm = true) : CallD X (.builtin "max") maxD := by
  refine CallR.imp ((cr_max hc).or (call_max2 hc)) fun xs H Q ⟨G, ds, a, e, r, hg, q⟩ => ?_
  unfold maxD at hg
  split at hg
  · rename_i ds
    cases hi : intsOf ds with
    | none => rw [hi] at hg; cases hg
    | some ns =>
      rw [hi] at hg
      have := intsOf_some hi
      subst this
      obtain ⟨v, rfl, r1⟩ := reps1 r
      obtain ⟨p, vs, rfl, h1, s1⟩ := r1.lst e
      rw [s1.vints] at h1
      cases hm : maxI ns with
      | none => simp [hm] at hg
      | some m =>
        simp only [Option.bind_some, hm, Option.map_some, Option.some.injEq] at hg
        subst hg
        refine .inl ⟨p, ns, rfl, SqL.of h1, ?_, fun k hk hle => ?_⟩
        · cases ns with
          | nil => cases hm
          | cons _ _ => simp
        · rw [maxI_of hm hk hle]; exact q _ G H (.refl e) (.int _)
  · cases hg
    obtain ⟨v, u, rfl, r1, r2⟩ := reps2 r
    have h1 := r1.int
    have h2 := r2.int
    subst h1; subst h2
    exact .inr ⟨_, _, rfl, q _ G H (.refl e) (.int _)⟩
  · cases hg
theorem cd_min (hc : X.calm = true) : CallD X (.builtin "min") minD := by
  refine CallR.imp ((cr_min hc).or (call_min2 hc)) fun xs H Q ⟨G, ds, a, e, r, hg, q⟩ => ?_
  unfold minD at hg
  split at hg
  · rename_i ds
    cases hi : intsOf ds with
    | none => rw [hi] at hg; cases hg
    | some ns =>
      rw [hi] at hg
      have := intsOf_some hi
      subst this
      obtain ⟨v, rfl, r1⟩ := reps1 r
      obtain ⟨p, vs, rfl, h1, s1⟩ := r1.lst e
      rw [s1.vints] at h1
      cases hm : minI ns with
      | none => simp [hm] at hg
      | some m =>
        simp only [Option.bind_some, hm, Option.map_some, Option.some.injEq] at hg
        subst hg
        refine .inl ⟨p, ns, rfl, SqL.of h1, ?_, fun k hk hle => ?_⟩
        · cases ns with
          | nil => cases hm
          | cons _ _ => simp
        · rw [minI_of hm hk hle]; exact q _ G H (.refl e) (.int _)
  · cases hg
    obtain ⟨v, u, rfl, r1, r2⟩ := reps2 r
    have h1 := r1.int
    have h2 := r2.int
    subst h1; subst h2
    exact .inr ⟨_, _, rfl, q _ G H (.refl e) (.int _)⟩
  · cases hg
theorem cd_all (hc : X.calm = true) : CallD X (.builtin "all") allD := by
  refine CallR.imp (cr_all hc) fun xs H Q ⟨G, ds, a, e, r, hg, q⟩ => ?_
  unfold allD at hg
  split at hg
  · rename_i ds
    cases hi : blsOf ds with
    | none => rw [hi] at hg; cases hg
    | some bs =>
      rw [hi] at hg; cases hg
      obtain ⟨v, rfl, r1⟩ := reps1 r
      obtain ⟨p, vs, rfl, h1, s1⟩ := r1.lst e
      rw [blsOf_rep hi s1] at h1
      exact ⟨p, bs, rfl, SqL.of h1, q _ G H (.refl e) (.bl _)⟩
  · cases hg
theorem cd_any (hc : X.calm = true) : CallD X (.builtin "any") anyD := by
  refine CallR.imp (cr_any hc) fun xs H Q ⟨G, ds, a, e, r, hg, q⟩ => ?_
  unfold anyD at hg
  split at hg
  · rename_i ds
    cases hi : blsOf ds with
    | none => rw [hi] at hg; cases hg
    | some bs =>
      rw [hi] at hg; cases hg
      obtain ⟨v, rfl, r1⟩ := reps1 r
      obtain ⟨p, vs, rfl, h1, s1⟩ := r1.lst e
      rw [blsOf_rep hi s1] at h1
      exact ⟨p, bs, rfl, SqL.of h1, q _ G H (.refl e) (.bl _)⟩
  · cases hg
end

/-! ## isinstance(x, T), T a built-in class -/
def D.ty : D → String
  | .non => "NoneType"
  | .bl _ => "bool"
  | .int _ => "int"
  | .str _ => "str"
  | .tup _ => "tuple"
  | .lst _ => "list"
  | .dic _ _ => "dict"
  | .scr _ => "list"
theorem ty_rep {K : PySem.W.Frag} {G H : Hp} {v : V} {d : D} (e : Ex G H) (h : RepP K G H v d) : TyX K H v (.type d.ty) := by
  cases d with
  | non => rw [h.non]; exact .base .non
  | bl b => rw [h.bl]; exact .base (.bl b)
  | int b => rw [h.int]; exact .base (.int b)
  | str b => rw [h.str]; exact .base (.str b)
  | lst ds => obtain ⟨p, vs, rfl, h1, _⟩ := h.lst e; exact .base (.lst h1)
  | dic ks ds => obtain ⟨p, vs, rfl, h1, _⟩ := h.dic e; exact .base (.dK h1)
  | tup ds =>
    obtain ⟨p, vs, rfl, h1, _⟩ := h.tup
    rcases h1 with (h1 | ⟨o, h1⟩) | ⟨o, its, n, h1, h2, _⟩
    · exact .base (.tup (e _ _ h1))
    · exact .fTuple (e _ _ h1)
    · exact .kTuple h1 h2
  | scr ns =>
    obtain ⟨p, rfl, h1⟩ := h.scr
    rcases h1 with (h1 | ⟨o, h1⟩) | ⟨o, its, n, h1, h2, _⟩
    · exact .base (.lst (e _ _ h1))
    · exact .base (.frz (e _ _ h1))
    · exact .kList h1 h2
def isiB (d : D) (T : String) : Option Bool := kitB d.ty T
def eIsi (o : Opd) (T : String) : M A := eUn (fun d => (isiB d T).map fun b => .val (.bl b)) o
section
variable {X : Cx} {W : WX} {e : Expr} {pos p q : Pos} {o : Opd}
theorem de_isi {T : Str} {Tn : String} (hg : Gl X "isinstance") (hm : X.mg "isinstance" = none) (hv : bootBuiltins "isinstance" = some (.builtin "isinstance")) (hgT : Gl X T) (hmT : X.mg T = none) (hvT : bootBuiltins T = some (.type Tn)) (ha : DO X W e o)
    (hn : T ≠ "__name__" := by decide) (hd : (T == ("__debug__" : Str)) = false := by decide)
    (he : starEach [e, .Name T q] X.env = (false, eval e X.env) :: starEach [.Name T q] X.env := by rfl) (he2 : starEach [.Name T q] X.env = (false, eval (.Name T q) X.env) :: starEach [] X.env := by rfl) (hpl : (backTo pos (starEach [.Name T q] X.env)).any (·.1) = false := by rfl) :
    DE X W (.Call (.Name "isinstance" p) [e, .Name T q] [] pos) (eIsi o Tn) :=
  (pe_callB call_isi hg hm hv (pa_cons ha (pa_cons (pe_bltn (v := .ty Tn) hgT hmT hvT rfl hn hd) pa_nil he2) he) (by decide) (by decide) he hpl).imp fun σ H Q h => by
    have h2 := T_un h
    obtain ⟨G, env, r, h2⟩ := h2
    refine ⟨G, env, r, ?_⟩
    cases e1 : o.pre env with
    | no => rw [e1] at h2; exact h2
    | ex c e => rw [e1] at h2; exact h2
    | ok a e2 =>
      rw [e1] at h2
      intro v G1 H1 t1 r1 ro
      obtain ⟨G2, d, a, ex, rp, hg, k⟩ := h2 v G1 H1 t1 r1 ro
      have hg : (isiB d Tn).map (fun b => A.val (.bl b)) = some a := hg
      cases hb : isiB d Tn with
      | none => rw [hb] at hg; cases hg
      | some b =>
        rw [hb] at hg; cases hg
        exact ⟨v, .ty Tn, _, _, b, rfl, .ty Tn, ty_rep ex rp, kit_ty hb, k _ G2 H1 (.refl ex) (.bl b)⟩
end

/-! ## methods of the def's own list -/
def pushE (env : Env) (i : Nat) (d : D) : Option Env := match env[i]? with
  | some (.own (.lst ds)) => if ds.length < sizeLine then some (env.set i (.own (.lst (ds ++ [d])))) else none
  | some (.io (.lst ds)) => if ds.length < sizeLine then some (env.set i (.io (.lst (ds ++ [d])))) else none
  | _ => none
def ownL (env : Env) (i : Nat) : Bool := match env[i]? with
  | some (.own (.lst _)) => true
  | some (.io (.lst _)) => true
  | _ => false
def eApp (i : Nat) (f : M D) : M A := fun env => if ownL env i then (f env).bind fun d e => (match pushE e i d with
  | some e2 => .ok (.val .non) e2
  | none => .no) else .no
def popE (env : Env) (i : Nat) : Option (D × Env) := match env[i]? with
  | some (.own (.lst ds)) => ds.getLast?.map fun d => (d, env.set i (.own (.lst ds.dropLast)))
  | some (.io (.lst ds)) => ds.getLast?.map fun d => (d, env.set i (.io (.lst ds.dropLast)))
  | _ => none
def ePop (i : Nat) : M A := fun env => match popE env i with
  | some (d, e) => .ok (.val d) e
  | none => .no
theorem ownL_slot {K : PySem.W.Frag} {G H : Hp} {σ : St} {env : Env} {i : Nat} (r : REnv K G H σ env) (h : ownL env i = true) : ∃ p vs, σ[i]? = some (some (.ref p)) ∧ H p = some (.lst vs) := by
  unfold ownL at h
  split at h
  · rename_i ds e
    obtain ⟨p, z, n, vs, a, b⟩ := r.own i _ (.inl e); exact ⟨p, vs, z, a⟩
  · rename_i ds e
    obtain ⟨p, z, n, vs, a, b⟩ := r.own i _ (.inr e); exact ⟨p, vs, z, a⟩
  · cases h
section
variable {X : Cx} {W : WX} {e c : Expr} {pos apos cpos : Pos}
theorem de_append {i : Nat} {f : M D} (ho : PE X e (tVar i)) (ha : DV X W c f)
    (hbase : attributeBase e "append" X.env (eval e X.env) = eval e X.env := by rfl)
    (hfew : ((backTo cpos (starEach [c] X.env)).all (fun x => !x.1) && (backToKw cpos (keywordEach [] X.env)).all (fun x => x.1.isSome)
      && decide ([c].length + ([] : List Keyword).length + (if ([] : List Keyword).isEmpty then 0 else 1) < 30)) = true := by rfl)
    (hline : (apos.endLine == cpos.line) = true := by rfl) (hs : starEach [c] X.env = (false, eval c X.env) :: starEach [] X.env := by rfl) (hplain : (backTo cpos (starEach [] X.env)).any (·.1) = false := by rfl) :
    DE X W (.Call (.Attribute e "append" apos) [c] [] cpos) (eApp i f) :=
  (pe_bm PySem.F.plainAttrs_list PySem.F.slot_list_append PySem.F.type_list_append mt_append ho (pa_cons ha pa_nil hs) hbase hfew hline hs hplain).imp fun σ H Q ⟨G, env, r, q⟩ => by
    unfold eApp at q
    cases e0 : ownL env i with
    | false => rw [e0] at q; exact q.elim
    | true =>
      rw [e0] at q
      obtain ⟨p, vs, hp, hH⟩ := ownL_slot r e0
      refine ⟨.ref p, hp, .inl ⟨rfl, vs, SqL.of hH⟩, G, env, r, ?_⟩
      simp only [if_true] at q
      cases e1 : f env with
      | no => rw [e1] at q; exact q
      | ex c e => rw [e1] at q; exact q
      | ok d e2 =>
        simp only [e1, R.bind] at q
        intro v G1 H1 t1 r1 rp
        cases e3 : pushE e2 i d with
        | none => rw [e3] at q; exact q.elim
        | some e4 =>
          rw [e3] at q
          unfold pushE at e3
          split at e3
          · rename_i ds hds
            split at e3
            · rename_i hl; cases e3
              obtain ⟨p', z, n, us, a, b⟩ := r1.own i _ (.inl hds)
              rw [hp] at z; cases z
              obtain ⟨t2, r2⟩ := r1.write (o := .lst (us ++ [v])) (d' := .lst (ds ++ [d])) hds (.inl ⟨rfl, rfl⟩) hp ⟨n, _, upd_same, b.append (.cons rp .nil)⟩
              exact ⟨p, us, v, rfl, rfl, a, by rw [b.len]; exact hl, q .non G1 _ (t1.trans t2) r2 .non⟩
            · cases e3
          · rename_i ds hds
            split at e3
            · rename_i hl; cases e3
              obtain ⟨p', z, n, us, a, b⟩ := r1.own i _ (.inr hds)
              rw [hp] at z; cases z
              obtain ⟨t2, r2⟩ := r1.write (o := .lst (us ++ [v])) (d' := .lst (ds ++ [d])) hds (.inr ⟨rfl, rfl⟩) hp ⟨n, _, upd_same, b.append (.cons rp .nil)⟩
              exact ⟨p, us, v, rfl, rfl, a, by rw [b.len]; exact hl, q .non G1 _ (t1.trans t2) r2 .non⟩
            · cases e3
          · cases e3
theorem last_rep {K : PySem.W.Frag} {G : Hp} {ds : List D} {vs : List V} {d : D} (r : Reps K G vs ds) (h : ds.getLast? = some d) : ∃ v, vs[vs.length - 1]? = some v ∧ Rep K G v d := by
  rw [List.getLast?_eq_getElem?] at h
  rw [r.len]
  exact r.get' h
theorem de_pop {i : Nat} (ho : PE X e (tVar i)) (hbase : attributeBase e "pop" X.env (eval e X.env) = eval e X.env := by rfl) (hline : (apos.endLine == cpos.line) = true := by rfl) :
    DE X W (.Call (.Attribute e "pop" apos) [] [] cpos) (ePop i) :=
  (pe_bm0 PySem.F.plainAttrs_list PySem.F.slot_list_pop PySem.F.type_list_pop mt_pop ho hbase hline).imp fun σ H Q ⟨G, env, r, q⟩ => by
    unfold ePop at q
    cases e1 : popE env i with
    | none => rw [e1] at q; exact q.elim
    | some z =>
      obtain ⟨d, e2⟩ := z
      rw [e1] at q
      unfold popE at e1
      split at e1
      · rename_i ds hds
        cases hl : ds.getLast? with
        | none => rw [hl] at e1; cases e1
        | some d' =>
          rw [hl] at e1; cases e1
          obtain ⟨p, z, n, us, a, b⟩ := r.own i _ (.inl hds)
          obtain ⟨v, hv, rp⟩ := last_rep b hl
          obtain ⟨t2, r2⟩ := r.write (o := .lst us.dropLast) (d' := .lst ds.dropLast) hds (.inl ⟨rfl, rfl⟩) z ⟨n, _, upd_same, b.dropLast⟩
          exact ⟨.ref p, z, .inl ⟨rfl, us, SqL.of a⟩, p, us, v, rfl, rfl, a, hv, q v G _ t2 r2 rp⟩
      · rename_i ds hds
        cases hl : ds.getLast? with
        | none => rw [hl] at e1; cases e1
        | some d' =>
          rw [hl] at e1; cases e1
          obtain ⟨p, z, n, us, a, b⟩ := r.own i _ (.inr hds)
          obtain ⟨v, hv, rp⟩ := last_rep b hl
          obtain ⟨t2, r2⟩ := r.write (o := .lst us.dropLast) (d' := .lst ds.dropLast) hds (.inr ⟨rfl, rfl⟩) z ⟨n, _, upd_same, b.dropLast⟩
          exact ⟨.ref p, z, .inl ⟨rfl, us, SqL.of a⟩, p, us, v, rfl, rfl, a, hv, q v G _ t2 r2 rp⟩
      · cases e1
end

/-! ## name = [..] -/
section
variable {X : Cx} {W : WX} {elt tg iter : Expr} {ifs : List Expr} {scope : Scope} {own : List (Str × Nat)} {pos spos py : Pos} {t : Tgt} {fi : M (List D)} {ft : M Bool} {fe : M D}
theorem set_T {i : Nat} {f : M A} {B : Ends} {σ : St} {H : Hp} (h : TSof X W (sSet i f) B σ H) : T X W f σ H fun v H1 => B.nx (σ.set i (some v)) H1 := by
  obtain ⟨G, env, r, q⟩ := h
  refine ⟨G, env, r, ?_⟩
  unfold sSet R.s at q
  cases e1 : f env with
  | no => rw [e1] at q; exact q
  | ex c e => rw [e1] at q; exact fun cls G' H' hc t r => q cls σ G' H' hc t r
  | ok a e =>
    rw [e1] at q
    intro v G' H' t r' ra
    have q : Post X W B σ env G H (if ioAt e i then .no else .nx (e.set i (slotOf a))) := q
    cases hio : ioAt e i with
    | true => rw [hio] at q; exact q.elim
    | false =>
      rw [hio] at q
      obtain ⟨t2, r2⟩ := store_env t r' ra hio
      exact q _ G' H' t2 r2
theorem ds_setLc {i : Nat} {y : Str} (hc : X.calm = true) (hN : X.N.Nodup) (hy : X.N[i]? = some y) (hyl : X.env.scope.names.lookup y = some .local)
    (hsw : swapsWith (.ListComp elt [⟨tg, iter, ifs, 0⟩] scope pos) (some (.Name y py)) spos.line X.env = pure true) (hi : DI X W tg iter fi) (ok : BlkOk X.N X.env.scope scope own) (hix : ∀ j, j ∈ t.ixs → j ∈ own.map (·.2))
    (hg : ∀ (s : Shared) (H : Hp) (C : Addr) (cl : List (Str × Addr)) (fp : List Addr), DG (X.blk s H scope (compEnvC scope cl C X.env) fp) tg t)
    (ht : ∀ (s : Shared) (H : Hp) (C : Addr) (cl : List (Str × Addr)) (fp : List Addr), PTs (X.blk s H scope (compEnvC scope cl C X.env) fp) ifs (TB (X.blk s H scope (compEnvC scope cl C X.env) fp) W0 ft))
    (he : ∀ (s : Shared) (H : Hp) (C : Addr) (cl : List (Str × Addr)) (fp : List Addr), DV (X.blk s H scope (compEnvC scope cl C X.env) fp) W0 elt fe) (hs : ∀ x, foldedSetIterable iter X.env x = pure x := by intro _; rfl) :
    DS X W (.Assign [.Name y py] (.ListComp elt [⟨tg, iter, ifs, 0⟩] scope pos) spos) (sSet i (eLc (own.map (·.2)) t fi ft fe)) := (ps_setLc hc hN hy hyl hsw hi ok hg ht he hs).imp fun B σ H h => lc_T hix (set_T h)
end
end DL

namespace DL
open PySem L2

/-! ## dict([(k, v), ..]) -/
abbrev KD := List (Key × D)
def putD (m : KD) (k : Key) (d : D) : KD :=
  if (m.any fun kv => decide (kv.1 = k)) = true then m.map (fun kv => if kv.1 = k then (kv.1, d) else kv) else m ++ [(k, d)]
def mergeD (m more : KD) : KD := more.foldl (fun acc kv => putD acc kv.1 kv.2) m
def dicOf (m : KD) : D := .dic (m.map (·.1)) (m.map (·.2))
def keyD : Key → D
  | .inl i => .int i
  | .inr x => .str x
def pairOf : D → Option (Key × D)
  | .tup [.int i, d] => some (.inl i, d)
  | .tup [.str x, d] => some (.inr x, d)
  | _ => none
def pairsOf : List D → Option KD
  | [] => some []
  | d :: ds => match pairOf d, pairsOf ds with
    | some p, some ps => some (p :: ps)
    | _, _ => none
def dictD : List D → Option A
  | [.lst ds] => (pairsOf ds).map fun ps => .own (dicOf (mergeD [] ps))
  | _ => none
/-- a dict's pairs, by values and by data -/
inductive RepK (K : PySem.W.Frag) (G : Hp) : List (Key × V) → KD → Prop
  | nil : RepK K G [] []
  | cons {k : Key} {v : V} {d : D} {kvs : List (Key × V)} {m : KD} : Rep K G v d → RepK K G kvs m → RepK K G ((k, v) :: kvs) ((k, d) :: m)
section
variable {K : PySem.W.Frag} {G G' H : Hp}
theorem RepK.keys {kvs : List (Key × V)} {m : KD} (h : RepK K G kvs m) : kvs.map (·.1) = m.map (·.1) := by
  induction h with
  | nil => rfl
  | cons _ _ ih => rw [List.map_cons, List.map_cons, ih]
theorem RepK.vals {kvs : List (Key × V)} {m : KD} (h : RepK K G kvs m) : Reps K G (kvs.map (·.2)) (m.map (·.2)) := by
  induction h with
  | nil => exact .nil
  | cons a _ ih => exact .cons a ih
theorem RepK.up (e : Ex G G') {kvs : List (Key × V)} {m : KD} (h : RepK K G kvs m) : RepK K G' kvs m := by
  induction h with
  | nil => exact .nil
  | cons a _ ih => exact .cons (a.up e) ih
theorem RepK.anyk {kvs : List (Key × V)} {m : KD} (k : Key) (h : RepK K G kvs m) : (kvs.any fun kv => decide (kv.1 = k)) = m.any fun kv => decide (kv.1 = k) := by
  induction h with
  | nil => rfl
  | cons _ _ ih => rw [List.any_cons, List.any_cons, ih]
theorem RepK.append {kvs us : List (Key × V)} {m n : KD} (h : RepK K G kvs m) (q : RepK K G us n) : RepK K G (kvs ++ us) (m ++ n) := by
  induction h with
  | nil => exact q
  | cons a _ ih => exact .cons a ih
theorem RepK.put {kvs : List (Key × V)} {m : KD} {k : Key} {v : V} {d : D} (h : RepK K G kvs m) (r : Rep K G v d) : RepK K G (putK kvs k v) (putD m k d) := by
  unfold putK putD
  rw [h.anyk k]
  split
  · have key : ∀ {kvs : List (Key × V)} {m : KD}, RepK K G kvs m → RepK K G (kvs.map fun kv => if kv.1 = k then (kv.1, v) else kv) (m.map fun kv => if kv.1 = k then (kv.1, d) else kv) := fun h => by
      induction h with
      | nil => exact .nil
      | @cons k' v' d' kvs m a _ ih =>
        rw [List.map_cons, List.map_cons]
        by_cases e : k' = k
        · rw [if_pos e, if_pos e]; exact .cons r ih
        · rw [if_neg e, if_neg e]; exact .cons a ih
    exact key h
  · exact h.append (.cons r .nil)
theorem RepK.merge {kvs us : List (Key × V)} {m n : KD} (h : RepK K G kvs m) (q : RepK K G us n) : RepK K G (mergeK kvs us) (mergeD m n) := by
  unfold mergeK mergeD
  induction q generalizing kvs m with
  | nil => exact h
  | cons a _ ih => rw [List.foldl_cons, List.foldl_cons]; exact ih (h.put a)
theorem pairs_rep : ∀ {ds : List D} {m : KD} {vs : List V}, pairsOf ds = some m → Reps K G vs ds → ∃ (ps : List Addr) (kvs : List (Key × V)), vs = ps.map V.ref ∧ Paired (fun p (kv : Key × V) => SqT K G p [kV kv.1, kv.2]) ps kvs ∧ RepK K G kvs m
  | [], m, vs, h, r => by cases h; cases r; exact ⟨[], [], rfl, .nil, .nil⟩
  | d :: ds, m, vs, h, r => by
    unfold pairsOf at h
    cases e1 : pairOf d with
    | none => rw [e1] at h; cases h
    | some p =>
      cases e2 : pairsOf ds with
      | none => rw [e1, e2] at h; cases h
      | some ps =>
        rw [e1, e2] at h; cases h
        cases r with
        | cons a b =>
          obtain ⟨qs, kvs, rfl, h1, h2⟩ := pairs_rep e2 b
          unfold pairOf at e1
          split at e1
          · cases e1
            cases a with
            | tup x y =>
              cases y with
              | cons y1 y2 =>
                cases y1
                cases y2 with
                | cons y2 y3 =>
                  cases y3
                  exact ⟨_ :: qs, (.inl _, _) :: kvs, rfl, .cons x h1, .cons y2 h2⟩
          · cases e1
            cases a with
            | tup x y =>
              cases y with
              | cons y1 y2 =>
                cases y1
                cases y2 with
                | cons y2 y3 =>
                  cases y3
                  exact ⟨_ :: qs, (.inr _, _) :: kvs, rfl, .cons x h1, .cons y2 h2⟩
          · cases e1
end
section
variable {X : Cx} {W : WX} {e tg : Expr}
theorem cd_dict (hc : X.calm = true) : CallD X (.type "dict") dictD := by
  refine CallR.imp (call_dictP hc) fun xs H Q ⟨G, ds, a, e, r, hg, q⟩ => ?_
  unfold dictD at hg
  split at hg
  · rename_i ds
    cases hi : pairsOf ds with
    | none => rw [hi] at hg; cases hg
    | some m =>
      rw [hi] at hg; cases hg
      obtain ⟨v, rfl, r1⟩ := reps1 r
      obtain ⟨p, vs, rfl, h1, s1⟩ := r1.lst e
      obtain ⟨ps, kvs, rfl, h2, h3⟩ := pairs_rep hi s1
      have h2' : Paired (fun p (kv : Key × V) => SqT X.K H p [kV kv.1, kv.2]) ps kvs := Paired.mapP h2 fun _ _ z => ex_t e z
      refine ⟨p, ps, kvs, rfl, SqL.of h1, h2', fun l n => ?_⟩
      have h4 := RepK.merge (K := X.K) (G := G) .nil h3
      exact q _ _ _ (.made e n) ⟨l, rfl, n, Ex.free e n, _, upd_same, h4.keys, h4.vals⟩
  · cases hg
/-- the keys of a dict that was made for the walk alone -/
def iKeysN (f : M A) : M (List D) := fun env => (f env).bind fun a e => match a with
  | .own (.dic ks _) => .ok (ks.map keyD) e
  | _ => .no
theorem pi_keysNew {td : TE} (he : PE X e td) : PI X tg e (fun σ H R => td σ H fun x H1 => ∃ d kvs, x = .ref d ∧ H1 d = some (.dK kvs) ∧ ∀ o, R (Itk d o kvs) (upd H1 d (.frz o (.dK kvs)))) := by
  refine ⟨fun pins s σ H R I h => ?_⟩
  refine thn (he.run pins s σ H _ I h) fun u s1 ⟨x, H1, I1, rx, d, kvs, ex, hd, q⟩ => ?_
  subst ex
  obtain rfl : u = Value.ref d := rx
  obtain ⟨o, I2⟩ := I1.lock hd (show Mut (some (.dK kvs)) from trivial)
  obtain ⟨hs, hgd, hx, es, ep, vs, hdt, hsz, kv, hm⟩ := I2.frzK upd_same
  refine iter_keys hs hgd hx hdt (pi_one (tk := s1.toks) I2 _ (turn_keys _ hdt) ⟨_, Heap.get?_push_size _ rfl, rfl, ?_⟩ (q o))
  rw [hsz] <;> rfl
theorem it_keys {K : PySem.W.Frag} {G : Hp} {d : Addr} {o : Obj} {kvs : List (Key × V)} (h : G d = some (.frz o (.dK kvs))) : ItD K G (Itk d o kvs) ((kvs.map (·.1)).map keyD) where
  go := fun i H e hi => ⟨e _ _ h, by simpa using hi⟩
  stop := fun i H e hi => ⟨e _ _ h, by simpa using hi⟩
  yld := fun i G1 H x H' e1 e2 ⟨eH, k, v, hk, hx⟩ hi => by
    subst eH; subst hx
    refine ⟨keyD k, G1, ?_, .refl e2, ?_⟩
    · rw [List.getElem?_map, List.getElem?_map, hk]; rfl
    · cases k with
      | inl i => exact .int i
      | inr x => exact .str x
theorem di_keysN {f : M A} (h : DE X W e f) : DI X W tg e (iKeysN f) := (pi_keysNew h).imp fun σ H Rr ⟨G, env, r, q⟩ => by
  refine ⟨G, env, r, ?_⟩
  unfold iKeysN at q
  cases e1 : f env with
  | no => rw [e1] at q; exact q
  | ex c env1 => rw [e1] at q; exact q
  | ok a env1 =>
    simp only [e1, R.bind] at q
    intro v G1 H1 t1 r1 ra
    cases a with
    | val d => exact q.elim
    | own d =>
      cases d with
      | dic ks ds =>
        obtain ⟨p, rfl, n, no, ng, kvs, hp, hk, hv⟩ := ra
        refine ⟨p, kvs, rfl, hp, fun o => ?_⟩
        have hk : ks = kvs.map (·.1) := hk.symm
        subst hk
        -- the dict is data from now on, locked
        have ne : ∀ b u, G1 b = some u → b ≠ p := fun b u z w => by subst w; rw [ng] at z; cases z
        have exG : Ex G1 (upd G1 p (.frz o (.dK kvs))) := Ex.new ng
        refine q (Itk p o kvs) (upd G1 p (.frz o (.dK kvs))) (upd H1 p (.frz o (.dK kvs))) ⟨Ex.tr t1.ex exG, fun b hb => ?_, fun b u hb => ?_, t1.o, t1.on, fun b hb => ?_, rfl, t1.io⟩ ⟨r1.len, fun b u hb => ?_, fun i d hi => ?_, fun i d hi => ?_, r1.dis⟩ (it_keys upd_same)
        · by_cases hbp : b = p
          · subst hbp; exact .inr (.inl n)
          · rw [upd_ne hbp]; exact t1.g b hb
        · by_cases hbp : b = p
          · subst hbp; rw [n] at hb; cases hb
          · rw [upd_ne hbp]; exact t1.h b u hb
        · by_cases hbp : b = p
          · subst hbp; exact n
          · rw [upd_ne hbp] at hb; exact t1.dom b hb
        · by_cases hbp : b = p
          · subst hbp; rw [upd_same] at hb ⊢; exact hb
          · rw [upd_ne hbp] at hb ⊢; exact r1.ex b u hb
        · obtain ⟨w, e2, q2⟩ := r1.val i d hi
          exact ⟨w, e2, q2.up exG⟩
        · obtain ⟨b, e2, o2⟩ := r1.own i d hi
          have hb : b ≠ p := fun z => by
            subst z
            rcases hi with hi | hi
            · exact no ⟨i, _, hi, rfl, e2⟩
            · exact no ⟨i, _, hi, rfl, e2⟩
          exact ⟨b, e2, o2.up exG (by rw [upd_ne hb]; exact o2.there.1) (upd_ne hb)⟩
      | _ => exact q.elim
end
end DL

namespace DL
open PySem L2

/-! ## o[i], p[j] = x, y -/
/-- targets o[i] alone: slot and index -/
def stoS : List (Nat × Opd) → List D → Env → R Unit
  | [], [], env => .ok () env
  | (i, o) :: ts, d :: ds, env => match peek env i with
    | none => .no
    | some _ => (o.pre env).bind fun a e1 => match setSub e1 i (o.fin a e1) d with
      | some e2 => stoS ts ds e2
      | none => .no
  | _, _, _ => .no
def sParS (ts : List (Nat × Opd)) (fs : List (M D)) : MS := fun env => (evs fs env).s fun ds e => (stoS ts ds e).s fun _ e2 => .nx e2
section
variable {X : Cx} {W : WX} {e c x : Expr} {es : List Expr} {pos : Pos} {fs : List (M D)}
def TSub (X : Cx) (W : WX) (B : St → Hp → Prop) (ts : List (Nat × Opd)) : List V → St → Hp → Prop := fun vs σ H => ∃ G env ds, REnv X.K G H σ env ∧ Reps X.K G vs ds ∧ match stoS ts ds env with
  | .ok _ env' => ∀ G' H', Tr σ env G H σ env' G' H' → REnv X.K G' H' σ env' → B σ H'
  | .ex c env' => ∀ cls G' H', X.mg c = some cls → Tr σ env G H σ env' G' H' → REnv X.K G' H' σ env' → W cls none σ H'
  | .no => False
abbrev DSub (X : Cx) (W : WX) (es : List Expr) (ts : List (Nat × Opd)) : Prop := PGs X es (fun vs σ H Q => TSub X W Q ts vs σ H)
theorem dsub_nil : DSub X W [] [] := pgs_nil.imp fun vs σ H Q ⟨G, env, ds, r, rs, q⟩ => by
  cases ds with
  | nil => cases rs; exact ⟨rfl, q G H .refl r⟩
  | cons _ _ => exact q.elim
theorem dsub_cons {i : Nat} {o : Opd} {ts : List (Nat × Opd)} {pos' : Pos} (ho : PE X x (tVar i)) (hi : DO X W c o) (h2 : DSub X W es ts)
    (ha : ∀ v, assign (.Subscript x c pos') X.env v = (do
      let ov ← holding [v] (eval x X.env)
      let iv ← holding [v, ov] (eval c X.env)
      standAt pos'
      holding [v, ov, iv] (setItem ov iv v)
      release [v, ov, iv] []) := by intro _; rfl)
    (hs : (assignEach (.Subscript x c pos' :: es) X.env).map (·.2) = assign (.Subscript x c pos') X.env :: (assignEach es X.env).map (·.2) := by rfl) : DSub X W (.Subscript x c pos' :: es) ((i, o) :: ts) :=
  (pgs_cons (pg_sub ho hi set_list ha) h2 hs).imp fun vs σ H Q ⟨G, env, ds, r, rs, q⟩ => by
  cases ds with
  | nil => exact q.elim
  | cons d ds =>
    cases rs with
    | @cons v vs _ _ rp rs =>
      refine ⟨v, vs, rfl, ?_⟩
      unfold stoS at q
      cases e2 : peek env i with
      | none => rw [e2] at q; exact q.elim
      | some dd =>
        simp only [e2] at q
        obtain ⟨v0, hv0⟩ := peek_slot r e2
        refine ⟨v0, hv0, G, env, r, ?_⟩
        cases e3 : o.pre env with
        | no => rw [e3] at q; exact q
        | ex c e => rw [e3] at q; exact q
        | ok a e4 =>
          simp only [e3, R.bind] at q
          intro u G2 H2 t2 r2 ro
          cases e5 : setSub e4 i (o.fin a e4) d with
          | none => rw [e5] at q; exact q.elim
          | some e6 =>
            simp only [e5] at q
            obtain ⟨H3, ⟨p, xs, k, j, z1, z2, z3, z4, z5⟩, t3, r3⟩ := setSub_env r2 e5 hv0 (fun c hc => RO.fin r2 ro hc) (rp.up t2.ex)
            refine ⟨p, xs, k, j, z1, z2, z3, z4, ?_⟩
            rw [z5]
            refine ⟨G2, e6, ds, r3, rs.up t2.ex, ?_⟩
            have t := t2.trans t3
            cases e7 : stoS ts ds e6 with
            | no => rw [e7] at q; exact q
            | ex c e8 => rw [e7] at q; exact fun cls G' H' hc t4 r4 => q cls G' H' hc (t.trans t4) r4
            | ok z e8 => rw [e7] at q; exact fun G' H' t4 r4 => q G' H' (t.trans t4) r4
theorem stoS_len : ∀ {ts : List (Nat × Opd)} {ds : List D} {e : Env}, stoS ts ds e ≠ .no → ds.length = ts.length ∨ ∃ c e2, stoS ts ds e = .ex c e2
  | [], [], e, h => .inl rfl
  | [], _ :: _, e, h => absurd rfl h
  | _ :: _, [], e, h => absurd rfl h
  | (i, o) :: ts, d :: ds, e, h => by
    unfold stoS at h ⊢
    cases e2 : peek e i with
    | none => rw [e2] at h; exact absurd rfl h
    | some dd =>
      simp only [e2] at h ⊢
      cases e3 : o.pre e with
      | no => rw [e3] at h; exact absurd rfl h
      | ex c e => exact .inr ⟨_, _, rfl⟩
      | ok a e4 =>
        simp only [e3, R.bind] at h ⊢
        cases e5 : setSub e4 i (o.fin a e4) d with
        | none => simp only [e5] at h; exact absurd rfl h
        | some e6 =>
          simp only [e5] at h ⊢
          rcases stoS_len (ts := ts) (ds := ds) (e := e6) h with z | z
          · exact .inl (congrArg (· + 1) z)
          · exact .inr z
theorem ds_parS {es2 : List Expr} {ts : List (Nat × Opd)} {kt k2 : Nat} {n : Nat} {pt pt2 : Pos} (hc : X.calm = true) (hg : DSub X W es ts) (ha : DVs X W es2 fs) (hl : fs.length ≤ sizeLine)
    (hn : (assignEach es X.env).length = n) (hf : fs.length = n) (hst : (assignEach es X.env).findIdx? (·.1) = none := by rfl)
    (hs : swapsWithSole [.Tuple es kt pt] (.Tuple es2 k2 pt2) pos.line X.env = pure false := by rfl) (hw : swappedStores [.Tuple es kt pt] (.Tuple es2 k2 pt2) X.env = pure none := by rfl)
    (h1 : (assignEach [.Tuple es kt pt] X.env).map (·.2) = [assign (.Tuple es kt pt) X.env] := by rfl) :
    DS X W (.Assign [.Tuple es kt pt] (.Tuple es2 k2 pt2) pos) (sParS ts fs) := (ps_asg (pe_tup ha) (pg_tup hc hg hn hst) hs hw h1).imp fun B σ H ⟨G, env, r, q⟩ => by
  refine ⟨G, env, r, ?_⟩
  unfold sParS R.s at q
  cases e1 : evs fs env with
  | no => rw [e1] at q; exact q
  | ex c e => rw [e1] at q; exact fun cls G' H' hc t r => q cls σ G' H' hc t r
  | ok ds e =>
    simp only [e1] at q
    intro vs G' H' t r' rs
    have hvl : vs.length = n := by rw [rs.len, evs_len e1, hf]
    refine ⟨by rw [rs.len, evs_len e1]; exact hl, fun p np => ?_⟩
    have pt := PTr.made r'.ex (o := .tup vs) np
    obtain ⟨tt, rr⟩ := pt.on r'
    refine ⟨p, vs, rfl, SqT.of upd_same, hvl, G', e, ds, rr, rs, ?_⟩
    cases e7 : stoS ts ds e with
    | no => rw [e7] at q; exact q
    | ex c e8 => rw [e7] at q; exact fun cls G2 H2 hc t4 r4 => q cls σ G2 H2 hc ((t.trans tt).trans t4) r4
    | ok z e8 => rw [e7] at q; exact fun G2 H2 t4 r4 => q σ G2 H2 ((t.trans tt).trans t4) r4
end
/-- a def of the top: where it stands, how it is called -/
structure Dn (K : PySem.W.Frag) (mg : Str → Option Value) (x : Str) (st : Stmt) (ps : List Str) (a : Addr) (fd : FuncData) : Prop where
  F : Fun K x x st a fd
  m : mg x = some (.ref a)
  b : Binds K fd ps []
end DL

namespace LW
open PySem L2 DL
/-! ### the text, and what each def of it computes (printed by gen.py) -/
def topS (i : Nat) : Stmt := PySem.Challenge.pw_lotshown_k38_whole_numbers_that_are_sold.main.body.getD i (.Pass ⟨0, 0, 0, 0⟩)

abbrev s_is_number : Stmt := topS 3
theorem sc_is_number : FnScope ["value", "least", "most"] ["value", "least", "most"] (defScope s_is_number) := ⟨rfl, rfl, rfl, by decide +kernel, rfl, by decide +kernel, by decide +kernel⟩
def B_is_number : MS := (sSeq (sIf (bOr (tst (eIsi (.n 0) "bool")) (bNot (tst (eIsi (.n 0) "int")))) (sRet (asA (eC (.bl false)))) sNext)
  (sRet (eChain leD leD (.n 1) (.n 0) (.n 2))))
def F_is_number : M A := mkF 0 (B_is_number)
abbrev s_is_name : Stmt := topS 4
theorem sc_is_name : FnScope ["value", "sign"] ["value"] (defScope s_is_name) := ⟨rfl, rfl, rfl, by decide +kernel, rfl, by decide +kernel, by decide +kernel⟩
def C_is_name_1e : M D := (asD (eBin inD (.n 1) (.e (eC (.str "abcdefghijklmnopqrstuvwxyz")))))
def B_is_name : MS := (sSeq (sIf (bOr (bNot (tst (eIsi (.n 0) "str"))) (bNot (tst (eChain leD leD (.e (eC (.int 1))) (.e (asD (eCB lenD [(.n 0)]))) (.e (eC (.int (16)))))))) (sRet (asA (eC (.bl false)))) sNext)
  (sRet (eCB allD [(.e (asD (eLc [1] (.nm 1) (iSeq (eVar 0)) bYes C_is_name_1e)))])))
def F_is_name : M A := mkF 1 (B_is_name)
abbrev s_is_blocks : Stmt := topS 8
theorem sc_is_blocks : FnScope ["value", "last", "row", "first", "behind", "_"] ["value"] (defScope s_is_blocks) := ⟨rfl, rfl, rfl, by decide +kernel, rfl, by decide +kernel, by decide +kernel⟩
def L_is_blocks_1 : MS := (sSeq (sIf (bOr (bNot (tst (eIsi (.n 2) "tuple"))) (bOr (tst (eBin neD (.e (asD (eCB lenD [(.n 2)]))) (.e (eC (.int 3))))) (bNot (tst (eCF F_is_name [(.e (asD (eBin ixD (.n 2) (.e (eC (.int 2))))))]))))) (sRet (asA (eC (.bl false)))) sNext)
  (sSeq (sAsg (.tp [(.nm 3), (.nm 4), (.nm 5)]) (eVar 2))
  (sSeq (sIf (bOr (bNot (tst (eCF F_is_number [(.e (eVar 3)), (.e (eVar 1)), (.e (eC (.int (1000000000000000))))]))) (bNot (tst (eCF F_is_number [(.e (eVar 4)), (.e (asD (eBin addD (.n 3) (.e (eC (.int 1)))))), (.e (eC (.int (1000000000000000))))])))) (sRet (asA (eC (.bl false)))) sNext)
  (sSet 1 (asA (eVar 4))))))
def B_is_blocks : MS := (sSeq (sIf (bOr (bNot (tst (eIsi (.n 0) "tuple"))) (tst (eBin gtD (.e (asD (eCB lenD [(.n 0)]))) (.e (eC (.int (100))))))) (sRet (asA (eC (.bl false)))) sNext)
  (sSeq (sSet 1 (asA (eC (.int 0))))
  (sSeq (sFor (.nm 2) (iSeq (eVar 0)) L_is_blocks_1)
  (sRet (asA (eC (.bl true)))))))
def F_is_blocks : M A := mkF 5 (B_is_blocks)
abbrev s_seller_of : Stmt := topS 9
theorem sc_seller_of : FnScope ["blocks", "number", "first", "behind", "seller"] ["blocks", "number"] (defScope s_seller_of) := ⟨rfl, rfl, rfl, by decide +kernel, rfl, by decide +kernel, by decide +kernel⟩
def L_seller_of_1 : MS := (sIf (tst (eChain leD ltD (.n 2) (.n 1) (.n 3))) (sRetN 4) sNext)
def B_seller_of : MS := (sSeq (sFor (.tp [(.nm 2), (.nm 3), (.nm 4)]) (iSeq (eVar 0)) L_seller_of_1)
  (sRet (asA (eC .non))))
def F_seller_of : M A := mkF 3 (B_seller_of)
abbrev s_may_sell : Stmt := topS 10
theorem sc_may_sell : FnScope ["blocks", "sold", "seller", "number"] ["blocks", "sold", "seller", "number"] (defScope s_may_sell) := ⟨rfl, rfl, rfl, by decide +kernel, rfl, by decide +kernel, by decide +kernel⟩
def B_may_sell : MS := (sRet (eAnd (eBin eqD (.e (asD (eCF F_seller_of [(.e (eVar 0)), (.e (eVar 3))]))) (.n 2)) (eBin ninD (.n 3) (.n 1))))
def F_may_sell : M A := mkF 0 (B_may_sell)
abbrev s_left : Stmt := topS 11
theorem sc_left : FnScope ["blocks", "sold", "seller", "found", "first", "behind", "other", "begin", "number", "joined"] ["blocks", "sold", "seller"] (defScope s_left) := ⟨rfl, rfl, rfl, by decide +kernel, rfl, by decide +kernel, by decide +kernel⟩
def C_left_1t : M Bool := (tst (eChain leD ltD (.n 4) (.n 8) (.n 5)))
def C_left_1e : M D := (eVar 8)
def L_left_2 : MS := (sSeq (sIf (tst (eBin ltD (.n 7) (.n 8))) (sExpr (eApp 3 (eTup [(eVar 7), (eVar 8)]))) sNext)
  (sSet 7 (eBin addD (.n 8) (.e (eC (.int 1))))))
def L_left_1 : MS := (sSeq (sIf (tst (eBin neD (.n 6) (.n 2))) sCont sNext)
  (sSeq (sSet 7 (asA (eVar 4)))
  (sFor (.nm 8) (iSeq (asD (eBin addD (.e (asD (eLc [8] (.nm 8) (iSeq (eVar 1)) C_left_1t C_left_1e))) (.e (asD (eLst [(eVar 5)])))))) L_left_2)))
def L_left_3 : MS := (sSeq (sIf (bAnd (tst (eBin gtD (.e (asD (eCB lenD [(.n 9)]))) (.e (eC (.int 0))))) (tst (eBin eqD (.e (asD (eBin ixD (.e (asD (eBin ixD (.n 9) (.e (asD (eUn negD (.e (eC (.int 1))))))))) (.e (eC (.int 1)))))) (.n 4)))) (sSet 4 (eBin ixD (.e (asD (ePop 9))) (.e (eC (.int 0))))) sNext)
  (sExpr (eApp 9 (eTup [(eVar 4), (eVar 5)]))))
def B_left : MS := (sSeq (sSet 3 (eLst []))
  (sSeq (sFor (.tp [(.nm 4), (.nm 5), (.nm 6)]) (iSeq (eVar 0)) L_left_1)
  (sSeq (sSet 9 (eLst []))
  (sSeq (sFor (.tp [(.nm 4), (.nm 5)]) (iSeq (eVar 3)) L_left_3)
  (sRetN 9)))))
def F_left : M A := mkF 7 (B_left)
abbrev s__law_start : Stmt := topS 13
theorem sc__law_start : FnScope ["script", "seed", "cell"] ["script"] (defScope s__law_start) := ⟨rfl, rfl, rfl, by decide +kernel, rfl, by decide +kernel, by decide +kernel⟩
def L__law_start_1 : MS := (sSet 1 (eBin addD (.e (asD (eBin modD (.e (asD (eCB intD [(.e (asD (eBin addD (.e (asD (eBin mulD (.n 1) (.e (eC (.int 48271)))))) (.n 2))))]))) (.e (eC (.int 2147483629)))))) (.e (eC (.int 1)))))
def C__law_start_1e : M D := (asD (eCB absD [(.e (asD (eCB intD [(.n 2)])))]))
def B__law_start : MS := (sSeq (sSet 1 (asA (eC (.int 7))))
  (sSeq (sFor (.nm 2) (iSeq (asD (eSl slD (.n 0) none (some (eC (.int 63)))))) L__law_start_1)
  (sRet (eLst [(asD (eLc [2] (.nm 2) (iSeq (asD (eSl slD (.n 0) none (some (eC (.int 63)))))) bYes C__law_start_1e)), (eC (.int 0)), (eC (.int 0)), (eC (.int 0)), (eVar 1), (eC (.int 0))]))))
def F__law_start : M A := mkF 2 (B__law_start)
abbrev s__law_draw : Stmt := topS 14
theorem sc__law_draw : FnScope ["state", "limit", "found"] ["state", "limit"] (defScope s__law_draw) := ⟨rfl, rfl, rfl, by decide +kernel, rfl, by decide +kernel, by decide +kernel⟩
def B__law_draw : MS := (sSeq (sIf (bAnd (tst (eBin eqD (.e (asD (eBin ixD (.n 0) (.e (eC (.int 3)))))) (.e (eC (.int 0))))) (tst (eBin ltD (.e (asD (eBin ixD (.n 0) (.e (eC (.int 1)))))) (.e (asD (eCB lenD [(.e (asD (eBin ixD (.n 0) (.e (eC (.int 0))))))])))))) (sParS [(0, (.e (eC (.int 2)))), (0, (.e (eC (.int 3)))), (0, (.e (eC (.int 1))))] [(asD (eBin ixD (.e (asD (eBin ixD (.n 0) (.e (eC (.int 0)))))) (.e (asD (eBin ixD (.n 0) (.e (eC (.int 1)))))))), (eC (.int 60)), (asD (eBin addD (.e (asD (eBin ixD (.n 0) (.e (eC (.int 1)))))) (.e (eC (.int 1)))))]) sNext)
  (sSeq (sIf (tst (eBin gtD (.e (asD (eBin ixD (.n 0) (.e (eC (.int 3)))))) (.e (eC (.int 0))))) (sSeq (sSet 2 (eBin modD (.e (asD (eCB intD [(.e (asD (eBin ixD (.n 0) (.e (eC (.int 2))))))]))) (.n 1)))
  (sSeq (sSub 0 (.e (eC (.int 2))) (asD (eBin fdivD (.e (asD (eBin ixD (.n 0) (.e (eC (.int 2)))))) (.n 1))))
  (sSeq (sSub 0 (.e (eC (.int 3))) (asD (eIf (tst (eBin gtD (.e (asD (eBin ixD (.n 0) (.e (eC (.int 2)))))) (.e (eC (.int 0))))) (eBin subD (.e (asD (eBin ixD (.n 0) (.e (eC (.int 3)))))) (.e (eC (.int 1)))) (asA (eC (.int 0))))))
  (sRetN 2)))) sNext)
  (sSeq (sSub 0 (.e (eC (.int 5))) (asD (eBin addD (.e (asD (eBin ixD (.n 0) (.e (eC (.int 5)))))) (.e (eC (.int 1))))))
  (sSeq (sSub 0 (.e (eC (.int 4))) (asD (eBin modD (.e (asD (eCB intD [(.e (asD (eBin addD (.e (asD (eBin addD (.e (asD (eBin mulD (.e (asD (eBin ixD (.n 0) (.e (eC (.int 4)))))) (.e (eC (.int 48271)))))) (.e (asD (eBin mulD (.e (asD (eBin mulD (.e (asD (eBin ixD (.n 0) (.e (eC (.int 5)))))) (.e (asD (eBin ixD (.n 0) (.e (eC (.int 5))))))))) (.e (eC (.int 69621))))))))) (.e (eC (.int 11))))))]))) (.e (eC (.int 2147483647))))))
  (sRet (eBin modD (.e (asD (eCB intD [(.e (asD (eBin fdivD (.e (asD (eBin ixD (.n 0) (.e (eC (.int 4)))))) (.e (eC (.int 13))))))]))) (.n 1)))))))
def F__law_draw : M A := mkF 1 (B__law_draw)
abbrev s__law_alike : Stmt := topS 15
theorem sc__law_alike : FnScope ["found", "due", "k"] ["found", "due"] (defScope s__law_alike) := ⟨rfl, rfl, rfl, by decide +kernel, rfl, by decide +kernel, by decide +kernel⟩
def C__law_alike_1t (rec : M A) : M Bool := (bNot (tst (eCF rec [(.e (asD (eBin ixD (.n 0) (.n 2)))), (.e (asD (eBin ixD (.n 1) (.n 2))))])))
def C__law_alike_1e (rec : M A) : M D := (eVar 2)
def B__law_alike (rec : M A) : MS := (sSeq (sIf (bOr (tst (eIsi (.n 1) "list")) (tst (eIsi (.n 1) "tuple"))) (sSeq (sIf (bOr (tst (eBin neD (.e (asD (eIsi (.n 0) "list"))) (.e (asD (eIsi (.n 1) "list"))))) (tst (eBin neD (.e (asD (eIsi (.n 0) "tuple"))) (.e (asD (eIsi (.n 1) "tuple")))))) (sRet (asA (eC (.bl false)))) sNext)
  (sRet (eAnd (eBin eqD (.e (asD (eCB lenD [(.n 0)]))) (.e (asD (eCB lenD [(.n 1)])))) (eBin eqD (.e (asD (eLc [2] (.nm 2) (iOf rng1 [(asD (eCB lenD [(.n 1)]))]) (C__law_alike_1t rec) (C__law_alike_1e rec)))) (.e (asD (eLst []))))))) sNext)
  (sSeq (sIf (tst (eBin isD (.n 1) (.e (eC .non)))) (sRet (eBin isD (.n 0) (.e (eC .non)))) sNext)
  (sSeq (sIf (bOr (tst (eIsi (.n 1) "bool")) (tst (eIsi (.n 0) "bool"))) (sRet (eAnd (eIsi (.n 0) "bool") (eAnd (eIsi (.n 1) "bool") (eBin eqD (.n 0) (.n 1))))) sNext)
  (sSeq (sIf (tst (eIsi (.n 1) "int")) (sRet (eAnd (eIsi (.n 0) "int") (eBin eqD (.n 0) (.n 1)))) sNext)
  (sRet (eAnd (eIsi (.n 0) "str") (eBin eqD (.n 0) (.n 1))))))))
def F__law_alike : Nat → M A
  | 0 => fun _ => .no
  | dp + 1 => mkF 1 (B__law_alike (F__law_alike dp))
abbrev s__law_blocks : Stmt := topS 16
theorem sc__law_blocks : FnScope ["state", "found", "at", "turn", "first", "behind_it"] ["state"] (defScope s__law_blocks) := ⟨rfl, rfl, rfl, by decide +kernel, rfl, by decide +kernel, by decide +kernel⟩
def L__law_blocks_1 : MS := (sSeq (sSet 4 (eBin addD (.n 2) (.e (asD (eBin ixD (.e (asD (eLst [(eC (.int 0)), (eC (.int 0)), (eC (.int 1)), (asD (eCF F__law_draw [(.n 0), (.e (eC (.int 9)))]))]))) (.e (asD (eCF F__law_draw [(.n 0), (.e (eC (.int 4)))]))))))))
  (sSeq (sSet 5 (eBin addD (.e (asD (eBin addD (.n 4) (.e (eC (.int 1)))))) (.e (asD (eCF F__law_draw [(.n 0), (.e (eC (.int 12)))])))))
  (sSeq (sExpr (eApp 1 (eTup [(eVar 4), (eVar 5), (asD (eBin ixD (.e (asD (eLst [(eC (.str "ann")), (eC (.str "bob")), (eC (.str "cid"))]))) (.e (asD (eCF F__law_draw [(.n 0), (.e (eC (.int 3)))])))))])))
  (sSet 2 (asA (eVar 5))))))
def B__law_blocks : MS := (sSeq (sPar [1, 2] [(eLst []), (eBin ixD (.e (asD (eLst [(eC (.int 0)), (asD (eBin subD (.e (asD (eBin powD (.e (eC (.int 10))) (.e (eC (.int 15)))))) (.e (eC (.int 200)))))]))) (.e (asD (eCF F__law_draw [(.n 0), (.e (eC (.int 2)))]))))])
  (sSeq (sFor (.nm 3) (iOf rng1 [(asD (eCF F__law_draw [(.n 0), (.e (eC (.int 7)))]))]) L__law_blocks_1)
  (sRet (eCB tupleD [(.n 1)]))))
def F__law_blocks : M A := mkF 5 (B__law_blocks)
abbrev s__law_seller : Stmt := topS 17
theorem sc__law_seller : FnScope ["blocks", "number", "found", "first", "behind_it", "seller"] ["blocks", "number"] (defScope s__law_seller) := ⟨rfl, rfl, rfl, by decide +kernel, rfl, by decide +kernel, by decide +kernel⟩
def C__law_seller_1t : M Bool := (tst (eChain leD ltD (.n 3) (.n 1) (.n 4)))
def C__law_seller_1e : M D := (eVar 5)
def B__law_seller : MS := (sSeq (sSet 2 (eLc [3, 4, 5] (.tp [(.nm 3), (.nm 4), (.nm 5)]) (iSeq (eVar 0)) C__law_seller_1t C__law_seller_1e))
  (sRet (eIf (tst (eBin neD (.n 2) (.e (asD (eLst []))))) (eBin ixD (.n 2) (.e (eC (.int 0)))) (asA (eC .non)))))
def F__law_seller : M A := mkF 4 (B__law_seller)
abbrev s__law_left : Stmt := topS 18
theorem sc__law_left : FnScope ["blocks", "sold", "seller", "found", "first", "behind_it", "own", "begin", "number", "one"] ["blocks", "sold", "seller"] (defScope s__law_left) := ⟨rfl, rfl, rfl, by decide +kernel, rfl, by decide +kernel, by decide +kernel⟩
def C__law_left_1t : M Bool := (tst (eChain leD ltD (.n 4) (.n 9) (.n 5)))
def C__law_left_1e : M D := (eVar 9)
def L__law_left_2 : MS := (sSeq (sIf (tst (eBin ltD (.n 7) (.n 8))) (sIf (bAnd (tst (eBin neD (.n 3) (.e (asD (eLst []))))) (tst (eBin eqD (.e (asD (eBin ixD (.e (asD (eBin ixD (.n 3) (.e (asD (eUn negD (.e (eC (.int 1))))))))) (.e (eC (.int 1)))))) (.n 7)))) (sSub 3 (.e (asD (eUn negD (.e (eC (.int 1)))))) (eTup [(asD (eBin ixD (.e (asD (eBin ixD (.n 3) (.e (asD (eUn negD (.e (eC (.int 1))))))))) (.e (eC (.int 0))))), (eVar 8)])) (sExpr (eApp 3 (eTup [(eVar 7), (eVar 8)])))) sNext)
  (sSet 7 (eBin addD (.n 8) (.e (eC (.int 1))))))
def L__law_left_1 : MS := (sIf (tst (eBin eqD (.n 6) (.n 2))) (sSeq (sSet 7 (asA (eVar 4)))
  (sFor (.nm 8) (iSeq (asD (eBin addD (.e (asD (eLc [9] (.nm 9) (iSeq (eVar 1)) C__law_left_1t C__law_left_1e))) (.e (asD (eLst [(eVar 5)])))))) L__law_left_2)) sNext)
def B__law_left : MS := (sSeq (sSet 3 (eLst []))
  (sSeq (sFor (.tp [(.nm 4), (.nm 5), (.nm 6)]) (iSeq (eVar 0)) L__law_left_1)
  (sRetN 3)))
def F__law_left : M A := mkF 7 (B__law_left)
abbrev s__law_judged : Stmt := topS 19
theorem sc__law_judged : FnScope ["state", "rows", "many", "k", "value", "due"] ["state"] (defScope s__law_judged) := ⟨rfl, rfl, rfl, by decide +kernel, rfl, by decide +kernel, by decide +kernel⟩
def C__law_judged_1e (dp : Nat) : M D := (eTup [(asD (eBin mulD (.e (eC (.int 2))) (.n 3))), (asD (eBin addD (.e (asD (eBin mulD (.e (eC (.int 2))) (.n 3)))) (.e (eC (.int 1))))), (asD (eBin ixD (.e (eC (.str "ab"))) (.e (asD (eBin modD (.e (asD (eCB intD [(.n 3)]))) (.e (eC (.int 2))))))))])
def C__law_judged_2t (dp : Nat) : M Bool := (bNot (tst (eCF (F__law_alike dp) [(.e (asD (eCF F_is_blocks [(.e (eVar 4))]))), (.e (eVar 5))])))
def C__law_judged_2e (dp : Nat) : M D := (eVar 4)
def B__law_judged (dp : Nat) : MS := (sSeq (sSet 1 (eLst [(eTup [(eTup []), (eC (.bl true))]), (eTup [(eTup [(eTup [(eC (.int 0)), (eC (.int 1)), (eC (.str "a"))])]), (eC (.bl true))]), (eTup [(eTup [(eTup [(eC (.int 0)), (eC (.int 0)), (eC (.str "a"))])]), (eC (.bl false))]), (eTup [(eTup [(eTup [(eC (.int 1)), (eC (.int 0)), (eC (.str "a"))])]), (eC (.bl false))]), (eTup [(eTup [(eTup [(eC (.int 0)), (asD (eBin powD (.e (eC (.int 10))) (.e (eC (.int 15))))), (eC (.str "a"))])]), (eC (.bl true))]), (eTup [(eTup [(eTup [(eC (.int 0)), (asD (eBin addD (.e (asD (eBin powD (.e (eC (.int 10))) (.e (eC (.int 15)))))) (.e (eC (.int 1))))), (eC (.str "a"))])]), (eC (.bl false))])]))
  (sSeq (sSet 1 (eBin addD (.n 1) (.e (asD (eLst [(eTup [(eTup [(eTup [(eC (.int 0)), (eC (.int 2)), (eC (.str "a"))]), (eTup [(eC (.int 1)), (eC (.int 3)), (eC (.str "b"))])]), (eC (.bl false))]), (eTup [(eTup [(eTup [(eC (.int 0)), (eC (.int 2)), (eC (.str "a"))]), (eTup [(eC (.int 2)), (eC (.int 3)), (eC (.str "b"))])]), (eC (.bl true))]), (eTup [(eTup [(eTup [(eC (.int 2)), (eC (.int 3)), (eC (.str "a"))]), (eTup [(eC (.int 0)), (eC (.int 1)), (eC (.str "b"))])]), (eC (.bl false))]), (eTup [(eTup [(eTup [(eC (.int 0)), (eC (.int 1)), (eC (.str "A"))])]), (eC (.bl false))]), (eTup [(eTup [(eTup [(eC (.int 0)), (eC (.int 1)), (eC (.str ""))])]), (eC (.bl false))])])))))
  (sSeq (sSet 1 (eBin addD (.n 1) (.e (asD (eLst [(eTup [(asD (eLst [(eTup [(eC (.int 0)), (eC (.int 1)), (eC (.str "a"))])])), (eC (.bl false))]), (eTup [(eTup [(eTup [(eC (.int 0)), (eC (.int 1))])]), (eC (.bl false))]), (eTup [(eTup [(asD (eLst [(eC (.int 0)), (eC (.int 1)), (eC (.str "a"))]))]), (eC (.bl false))]), (eTup [(eTup [(eTup [(asD (eUn negD (.e (eC (.int 1))))), (eC (.int 1)), (eC (.str "a"))])]), (eC (.bl false))]), (eTup [(eTup [(eTup [(eC (.bl true)), (eC (.int 2)), (eC (.str "a"))])]), (eC (.bl false))]), (eTup [(eC .non), (eC (.bl false))])])))))
  (sSeq (sSet 2 (eCB tupleD [(.e (asD (eLc [3] (.nm 3) (iOf rng1 [(eC (.int 101))]) bYes (C__law_judged_1e dp))))]))
  (sSeq (sSet 1 (eBin addD (.n 1) (.e (asD (eLst [(eTup [(asD (eSl slD (.n 2) none (some (eC (.int 100))))), (eC (.bl true))]), (eTup [(eVar 2), (eC (.bl false))])])))))
  (sRet (eBin eqD (.e (asD (eLc [4, 5] (.tp [(.nm 4), (.nm 5)]) (iSeq (eVar 1)) (C__law_judged_2t dp) (C__law_judged_2e dp)))) (.e (asD (eLst []))))))))))
def F__law_judged (dp : Nat) : M A := mkF 5 (B__law_judged dp)
abbrev s_law : Stmt := topS 20
theorem sc_law : FnScope ["script", "state", "blocks", "sold", "numbers", "first", "behind_it", "seller", "turn", "stretches", "own", "number", "due", "free", "before", "cut", "one", "name", "k"] ["script"] (defScope s_law) := ⟨rfl, rfl, rfl, by decide +kernel, rfl, by decide +kernel, by decide +kernel⟩
def L_law_1 (dp : Nat) : MS := (sSet 4 (eBin addD (.e (asD (eBin addD (.n 4) (.e (asD (eLst [(eVar 5), (asD (eBin subD (.n 6) (.e (eC (.int 1))))), (eVar 6), (asD (eBin addD (.n 5) (.e (asD (eCF F__law_draw [(.n 1), (.e (asD (eBin subD (.n 6) (.n 5))))])))))])))))) (.e (asD (eIf (tst (eBin gtD (.n 5) (.e (eC (.int 0))))) (eLst [(asD (eBin subD (.n 5) (.e (eC (.int 1)))))]) (eLst []))))))
def C_law_2e (dp : Nat) : M D := (eTup [(eVar 11), (eC (.int 1))])
def C_law_1e (dp : Nat) : M D := (eVar 16)
def C_law_3t (dp : Nat) : M Bool := (tst (eBin eqD (.n 17) (.n 7)))
def C_law_3e (dp : Nat) : M D := (asD (eBin subD (.n 6) (.n 5)))
def C_law_4e (dp : Nat) : M D := (asD (eBin subD (.n 6) (.n 5)))
def C_law_5t (dp : Nat) : M Bool := (tst (eBin eqD (.e (asD (eCF F__law_seller [(.e (eVar 2)), (.e (eVar 16))]))) (.n 7)))
def C_law_5e (dp : Nat) : M D := (eVar 16)
def C_law_6t (dp : Nat) : M Bool := (tst (eBin geD (.e (asD (eBin ixD (.e (asD (eBin ixD (.n 9) (.n 18)))) (.e (eC (.int 1)))))) (.e (asD (eBin ixD (.e (asD (eBin ixD (.n 9) (.e (asD (eBin addD (.n 18) (.e (eC (.int 1))))))))) (.e (eC (.int 0))))))))
def C_law_6e (dp : Nat) : M D := (eVar 18)
def C_law_7t (dp : Nat) : M Bool := (tst (eChain leD ltD (.e (asD (eBin ixD (.n 16) (.e (eC (.int 0)))))) (.n 11) (.e (asD (eBin ixD (.n 16) (.e (eC (.int 1))))))))
def C_law_7e (dp : Nat) : M D := (eVar 16)
def L_law_4 (dp : Nat) : MS := (sSeq (sSet 12 (eAnd (eBin eqD (.e (asD (eCF F__law_seller [(.e (eVar 2)), (.e (eVar 11))]))) (.n 7)) (eBin ninD (.n 11) (.n 3))))
  (sIf (bOr (bNot (tst (eCF (F__law_alike dp) [(.e (asD (eCF F_may_sell [(.e (eVar 2)), (.e (eVar 3)), (.e (eVar 7)), (.e (eVar 11))]))), (.e (eVar 12))]))) (tst (eBin neD (.n 12) (.e (asD (eBin neD (.e (asD (eLc [16] (.nm 16) (iSeq (eVar 9)) (C_law_7t dp) (C_law_7e dp)))) (.e (asD (eLst []))))))))) (sRet (asA (eC (.bl false)))) sNext))
def L_law_3 (dp : Nat) : MS := (sSeq (sSet 9 (eCF F__law_left [(.e (eVar 2)), (.e (eVar 3)), (.e (eVar 7))]))
  (sSeq (sIf (bNot (tst (eCF (F__law_alike dp) [(.e (asD (eCF F_left [(.e (eVar 2)), (.e (eVar 3)), (.e (eVar 7))]))), (.e (eVar 9))]))) (sRet (asA (eC (.bl false)))) sNext)
  (sSeq (sSet 10 (eCB sumD [(.e (asD (eLc [5, 6, 17] (.tp [(.nm 5), (.nm 6), (.nm 17)]) (iSeq (eVar 2)) (C_law_3t dp) (C_law_3e dp))))]))
  (sSeq (sIf (tst (eBin neD (.e (asD (eCB sumD [(.e (asD (eLc [5, 6] (.tp [(.nm 5), (.nm 6)]) (iSeq (eVar 9)) bYes (C_law_4e dp))))]))) (.e (asD (eBin subD (.n 10) (.e (asD (eCB lenD [(.e (asD (eLc [16] (.nm 16) (iSeq (eVar 3)) (C_law_5t dp) (C_law_5e dp))))])))))))) (sRet (asA (eC (.bl false)))) sNext)
  (sSeq (sIf (tst (eBin neD (.e (asD (eLc [18] (.nm 18) (iOf rng1 [(asD (eBin subD (.e (asD (eCB lenD [(.n 9)]))) (.e (eC (.int 1)))))]) (C_law_6t dp) (C_law_6e dp)))) (.e (asD (eLst []))))) (sRet (asA (eC (.bl false)))) sNext)
  (sFor (.nm 11) (iSeq (eVar 4)) (L_law_4 dp)))))))
def L_law_5 (dp : Nat) : MS := (sIf (bNot (tst (eCF (F__law_alike dp) [(.e (asD (eCF F_seller_of [(.e (eVar 2)), (.e (eVar 11))]))), (.e (asD (eCF F__law_seller [(.e (eVar 2)), (.e (eVar 11))])))]))) (sRet (asA (eC (.bl false)))) sNext)
def C_law_8t (dp : Nat) : M Bool := (bAnd (tst (eBin isnD (.e (asD (eCF F__law_seller [(.e (eVar 2)), (.e (eVar 16))]))) (.e (eC .non)))) (tst (eBin ninD (.n 16) (.n 3))))
def C_law_8e (dp : Nat) : M D := (eVar 16)
def C_law_9t (dp : Nat) : M Bool := (tst (eBin ltD (.e (asD (eBin ixD (.n 16) (.e (eC (.int 0)))))) (.e (asD (eBin ixD (.n 16) (.e (eC (.int 1))))))))
def C_law_9e (dp : Nat) : M D := (eVar 16)
def L_law_6 (dp : Nat) : MS := (sIf (tst (eChain leD ltD (.n 5) (.n 11) (.n 6))) (sSet 15 (eBin addD (.n 15) (.e (asD (eLc [16] (.nm 16) (iSeq (asD (eLst [(eTup [(eVar 5), (eVar 11)]), (eTup [(asD (eBin addD (.n 11) (.e (eC (.int 1))))), (eVar 6)])]))) (C_law_9t dp) (C_law_9e dp)))))) (sExpr (eApp 15 (eTup [(eVar 5), (eVar 6)]))))
def L_law_2 (dp : Nat) : MS := (sSeq (sFor (.nm 7) (iSeq (asD (eLst [(eC (.str "ann")), (eC (.str "bob")), (eC (.str "cid")), (eC (.str "zoe"))]))) (L_law_3 dp))
  (sSeq (sFor (.nm 11) (iSeq (eVar 4)) (L_law_5 dp))
  (sSeq (sSet 13 (eLc [16] (.nm 16) (iSeq (eVar 4)) (C_law_8t dp) (C_law_8e dp)))
  (sIf (tst (eBin neD (.n 13) (.e (asD (eLst []))))) (sSeq (sSet 11 (eBin ixD (.n 13) (.e (asD (eCF F__law_draw [(.n 1), (.e (asD (eCB lenD [(.n 13)])))])))))
  (sSeq (sSet 7 (eCF F__law_seller [(.e (eVar 2)), (.e (eVar 11))]))
  (sSeq (sPar [14, 3] [(eCF F_left [(.e (eVar 2)), (.e (eVar 3)), (.e (eVar 7))]), (eCB tupleD [(.e (asD (eCB sortedD [(.e (asD (eBin addD (.n 3) (.e (eTup [(eVar 11)])))))])))])])
  (sSeq (sSet 15 (eLst []))
  (sSeq (sFor (.tp [(.nm 5), (.nm 6)]) (iSeq (eVar 14)) (L_law_6 dp))
  (sIf (bNot (tst (eCF (F__law_alike dp) [(.e (asD (eCF F_left [(.e (eVar 2)), (.e (eVar 3)), (.e (eVar 7))]))), (.e (eVar 15))]))) (sRet (asA (eC (.bl false)))) sNext)))))) sNext))))
def B_law (dp : Nat) : MS := (sSeq (sSet 1 (eCF F__law_start [(.e (eVar 0))]))
  (sSeq (sPar [2, 3] [(eCF F__law_blocks [(.n 1)]), (asA (eTup []))])
  (sSeq (sIf (bOr (tst (eBin isnD (.e (asD (eCF F_is_blocks [(.e (eVar 2))]))) (.e (eC (.bl true))))) (bNot (tst (eCF (F__law_judged dp) [(.n 1)])))) (sRet (asA (eC (.bl false)))) sNext)
  (sSeq (sSet 4 (eLst []))
  (sSeq (sFor (.tp [(.nm 5), (.nm 6), (.nm 7)]) (iSeq (eVar 2)) (L_law_1 dp))
  (sSeq (sSet 4 (eCB sortedD [(.e (asD (eLc [16] (.nm 16) (iKeysN (eCB dictD [(.e (asD (eLc [11] (.nm 11) (iSeq (asD (eBin addD (.n 4) (.e (asD (eLst [(eC (.int 0)), (asD (eBin powD (.e (eC (.int 10))) (.e (eC (.int 15)))))])))))) bYes (C_law_2e dp))))])) bYes (C_law_1e dp))))]))
  (sSeq (sFor (.nm 8) (iOf rng1 [(eC (.int 8))]) (L_law_2 dp))
  (sRet (asA (eC (.bl true)))))))))))
def F_law (dp : Nat) : M A := mkF 18 (B_law dp)
/-- what the top has left: built-in names, constants -/
structure Gs (mg : Str → Option Value) : Prop where
  z_abs : mg "abs" = none
  z_all : mg "all" = none
  z_bool : mg "bool" = none
  z_dict : mg "dict" = none
  z_int : mg "int" = none
  z_isinstance : mg "isinstance" = none
  z_len : mg "len" = none
  z_list : mg "list" = none
  z_range : mg "range" = none
  z_sorted : mg "sorted" = none
  z_str : mg "str" = none
  z_sum : mg "sum" = none
  z_tuple : mg "tuple" = none
  c_LAST_NUMBER : ∃ t, mg "LAST_NUMBER" = some (.int (1000000000000000) t)
  c_LETTERS : ∃ t, mg "LETTERS" = some (.str "abcdefghijklmnopqrstuvwxyz" t)
  c_LONGEST_NAME : ∃ t, mg "LONGEST_NAME" = some (.int (16) t)
  c_MOST_BLOCKS : ∃ t, mg "MOST_BLOCKS" = some (.int (100) t)
section
variable {P : Program} {w : World} {K : PySem.W.Frag} {mg : Str → Option Value} {base : Heap}
theorem ok_is_number {k : Nat} (T : Gs mg) {a : Addr} {fd : FuncData} (Df : Dn K mg "is_number" s_is_number ["value", "least", "most"] a fd) : FnOk P w K mg base (L2.CX P w) (k + 1) a fd ["value", "least", "most"] (spOf K mg 3 F_is_number) := by
  refine def_ok (k := k) Df.F sc_is_number rfl rfl (fun cdv A outer s H E hr => ?_)
  have nd := sc_is_number.nd
  have tk : Takes (cxOf (L2.CX P w) P w K mg base ["value", "least", "most"] "is_number" (defScope s_is_number) a cdv A outer s H E) (fun cls d _ H => E cls d H) := takes_of rfl rfl rfl rfl
  exact (dss_cons (ds_if (dt_w (dw_or (dt_val (de_isi rfl T.z_isinstance (by decide +kernel) rfl T.z_bool (by decide +kernel) (do_n (pv 0))) (fun _ => rfl)) (dw_or1 (dt_not (dt_val (de_isi rfl T.z_isinstance (by decide +kernel) rfl T.z_int (by decide +kernel) (do_n (pv 0))) (fun _ => rfl)))))) (dss_one (ds_ret (de_v dv_bl))) dss_nil)
  (dss_one (ds_ret (de_chain od_le od_le (do_n (pv 1)) (do_n (pv 0)) (do_n (pv 2))))))

theorem ok_is_name {k : Nat} (T : Gs mg) {a : Addr} {fd : FuncData} (Df : Dn K mg "is_name" s_is_name ["value"] a fd) : FnOk P w K mg base (L2.CX P w) (k + 1) a fd ["value"] (spOf K mg 1 F_is_name) := by
  refine def_ok (k := k) Df.F sc_is_name rfl rfl (fun cdv A outer s H E hr => ?_)
  have nd := sc_is_name.nd
  have tk : Takes (cxOf (L2.CX P w) P w K mg base ["value", "sign"] "is_name" (defScope s_is_name) a cdv A outer s H E) (fun cls d _ H => E cls d H) := takes_of rfl rfl rfl rfl
  exact (dss_cons (ds_if (dt_w (dw_or (dt_not (dt_val (de_isi rfl T.z_isinstance (by decide +kernel) rfl T.z_str (by decide +kernel) (do_n (pv 0))) (fun _ => rfl))) (dw_or1 (dt_not (dt_chain od_le od_le (do_e dv_int) (do_e (dv_e (de_cb cd_len rfl T.z_len (by decide +kernel) (dos_cons (do_n (pv 0)) dos_nil)))) (do_e (T.c_LONGEST_NAME.elim fun _ hc => dv_c (pe_glob (v := (V.int (16))) rfl hc ⟨_, rfl⟩) fun _ => .int _))))))) (dss_one (ds_ret (de_v dv_bl))) dss_nil)
  (dss_one (ds_ret (de_cb (cd_all rfl) rfl T.z_all (by decide +kernel) (dos_cons (do_e (dv_e (de_lc rfl nd (own := [("sign", 1)]) (t := (.nm 1)) (di_seq (dv_var (pv 0))) (blkOk_by (N := ["value", "sign"]) (sc := defScope s_is_name) (own := [("sign", 1)]) (by decide +kernel)) (by decide) (fun _ _ _ _ _ => (dg_nm (pg_name nd rfl (by first | exact Or.inl rfl | exact Or.inr rfl)))) (fun _ _ _ _ _ => dts_nil) (fun _ _ _ _ _ => (dv_e (de_cmp od_in (do_n (pv 1)) (do_e (T.c_LETTERS.elim fun _ hc => dv_c (pe_glob (v := (V.str "abcdefghijklmnopqrstuvwxyz")) rfl hc ⟨_, rfl⟩) fun _ => .str _)) (by rfl))))))) dos_nil)))))

theorem ok_is_blocks {k : Nat} (T : Gs mg) {a : Addr} {fd : FuncData} (Df : Dn K mg "is_blocks" s_is_blocks ["value"] a fd) {a_is_number : Addr} {fd_is_number : FuncData} (D_is_number : Dn K mg "is_number" s_is_number ["value", "least", "most"] a_is_number fd_is_number) {k_is_number : Nat} (h_is_number : k_is_number ≤ k) (G_is_number : FnOk P w K mg base (L2.CX P w) k_is_number a_is_number fd_is_number ["value", "least", "most"] (spOf K mg 3 F_is_number)) {a_is_name : Addr} {fd_is_name : FuncData} (D_is_name : Dn K mg "is_name" s_is_name ["value"] a_is_name fd_is_name) {k_is_name : Nat} (h_is_name : k_is_name ≤ k) (G_is_name : FnOk P w K mg base (L2.CX P w) k_is_name a_is_name fd_is_name ["value"] (spOf K mg 1 F_is_name)) : FnOk P w K mg base (L2.CX P w) (k + 1) a fd ["value"] (spOf K mg 1 F_is_blocks) := by
  refine def_ok (k := k) Df.F sc_is_blocks rfl rfl (fun cdv A outer s H E hr => ?_)
  have nd := sc_is_blocks.nd
  have tk : Takes (cxOf (L2.CX P w) P w K mg base ["value", "last", "row", "first", "behind", "_"] "is_blocks" (defScope s_is_blocks) a cdv A outer s H E) (fun cls d _ H => E cls d H) := takes_of rfl rfl rfl rfl
  exact (dss_cons (ds_if (dt_w (dw_or (dt_not (dt_val (de_isi rfl T.z_isinstance (by decide +kernel) rfl T.z_tuple (by decide +kernel) (do_n (pv 0))) (fun _ => rfl))) (dw_or1 (dt_cmp od_gt (do_e (dv_e (de_cb cd_len rfl T.z_len (by decide +kernel) (dos_cons (do_n (pv 0)) dos_nil)))) (do_e (T.c_MOST_BLOCKS.elim fun _ hc => dv_c (pe_glob (v := (V.int (100))) rfl hc ⟨_, rfl⟩) fun _ => .int _)) (nomark _))))) (dss_one (ds_ret (de_v dv_bl))) dss_nil)
  (dss_cons (ds_set (i := 1) nd rfl (by first | exact Or.inl rfl | exact Or.inr rfl) (de_v dv_int))
  (dss_cons (ds_for (passes_of rfl) rfl (di_seq (dv_var (pv 0))) (dg_nm (pg_name nd rfl (by first | exact Or.inl rfl | exact Or.inr rfl))) (dss_cons (ds_if (dt_w (dw_or (dt_not (dt_val (de_isi rfl T.z_isinstance (by decide +kernel) rfl T.z_tuple (by decide +kernel) (do_n (pv 2))) (fun _ => rfl))) (dw_or (dt_cmp (od_ne hr.units) (do_e (dv_e (de_cb cd_len rfl T.z_len (by decide +kernel) (dos_cons (do_n (pv 2)) dos_nil)))) (do_e dv_int) (nomark _)) (dw_or1 (dt_not (dt_val (de_cf G_is_name tk (hr.mono (by assumption)) rfl D_is_name.m D_is_name.F.kp D_is_name.b (dos_cons (do_e (dv_e (de_ix ix_data (do_n (pv 2)) (do_e dv_int) (fun _ _ => rfl)))) dos_nil) (by decide) rfl) (fun _ => rfl))))))) (dss_one (ds_ret (de_v dv_bl))) dss_nil)
  (dss_cons (ds_asg (dv_var (pv 2)) (dg_tp rfl (dgs_cons (dg_nm (pg_name nd rfl (by first | exact Or.inl rfl | exact Or.inr rfl))) (dgs_cons (dg_nm (pg_name nd rfl (by first | exact Or.inl rfl | exact Or.inr rfl))) (dgs_cons (dg_nm (pg_name nd rfl (by first | exact Or.inl rfl | exact Or.inr rfl))) dgs_nil))) rfl rfl))
  (dss_cons (ds_if (dt_w (dw_or (dt_not (dt_val (de_cf G_is_number tk (hr.mono (by assumption)) rfl D_is_number.m D_is_number.F.kp D_is_number.b (dos_cons (do_e (dv_var (pv 3))) (dos_cons (do_e (dv_var (pv 1))) (dos_cons (do_e (T.c_LAST_NUMBER.elim fun _ hc => dv_c (pe_glob (v := (V.int (1000000000000000))) rfl hc ⟨_, rfl⟩) fun _ => .int _)) dos_nil))) (by decide) rfl) (fun _ => rfl))) (dw_or1 (dt_not (dt_val (de_cf G_is_number tk (hr.mono (by assumption)) rfl D_is_number.m D_is_number.F.kp D_is_number.b (dos_cons (do_e (dv_var (pv 4))) (dos_cons (do_e (dv_e (de_bin od_add (do_n (pv 3)) (do_e dv_int)))) (dos_cons (do_e (T.c_LAST_NUMBER.elim fun _ hc => dv_c (pe_glob (v := (V.int (1000000000000000))) rfl hc ⟨_, rfl⟩) fun _ => .int _)) dos_nil))) (by decide) rfl) (fun _ => rfl)))))) (dss_one (ds_ret (de_v dv_bl))) dss_nil)
  (dss_one (ds_set (i := 1) nd rfl (by first | exact Or.inl rfl | exact Or.inr rfl) (de_v (dv_var (pv 4)))))))))
  (dss_one (ds_ret (de_v dv_bl))))))

theorem ok_seller_of {k : Nat} (T : Gs mg) {a : Addr} {fd : FuncData} (Df : Dn K mg "seller_of" s_seller_of ["blocks", "number"] a fd) : FnOk P w K mg base (L2.CX P w) (k + 1) a fd ["blocks", "number"] (spOf K mg 2 F_seller_of) := by
  refine def_ok (k := k) Df.F sc_seller_of rfl rfl (fun cdv A outer s H E hr => ?_)
  have nd := sc_seller_of.nd
  have tk : Takes (cxOf (L2.CX P w) P w K mg base ["blocks", "number", "first", "behind", "seller"] "seller_of" (defScope s_seller_of) a cdv A outer s H E) (fun cls d _ H => E cls d H) := takes_of rfl rfl rfl rfl
  exact (dss_cons (ds_for (passes_of rfl) rfl (di_seq (dv_var (pv 0))) (dg_tp rfl (dgs_cons (dg_nm (pg_name nd rfl (by first | exact Or.inl rfl | exact Or.inr rfl))) (dgs_cons (dg_nm (pg_name nd rfl (by first | exact Or.inl rfl | exact Or.inr rfl))) (dgs_cons (dg_nm (pg_name nd rfl (by first | exact Or.inl rfl | exact Or.inr rfl))) dgs_nil))) rfl rfl) (dss_one (ds_if (dt_chain od_le od_lt (do_n (pv 2)) (do_n (pv 1)) (do_n (pv 3))) (dss_one (ds_retn (pv 4))) dss_nil)))
  (dss_one (ds_ret (de_v dv_non))))

theorem ok_may_sell {k : Nat} (T : Gs mg) {a : Addr} {fd : FuncData} (Df : Dn K mg "may_sell" s_may_sell ["blocks", "sold", "seller", "number"] a fd) {a_seller_of : Addr} {fd_seller_of : FuncData} (D_seller_of : Dn K mg "seller_of" s_seller_of ["blocks", "number"] a_seller_of fd_seller_of) {k_seller_of : Nat} (h_seller_of : k_seller_of ≤ k) (G_seller_of : FnOk P w K mg base (L2.CX P w) k_seller_of a_seller_of fd_seller_of ["blocks", "number"] (spOf K mg 2 F_seller_of)) : FnOk P w K mg base (L2.CX P w) (k + 1) a fd ["blocks", "sold", "seller", "number"] (spOf K mg 4 F_may_sell) := by
  refine def_ok (k := k) Df.F sc_may_sell rfl rfl (fun cdv A outer s H E hr => ?_)
  have nd := sc_may_sell.nd
  have tk : Takes (cxOf (L2.CX P w) P w K mg base ["blocks", "sold", "seller", "number"] "may_sell" (defScope s_may_sell) a cdv A outer s H E) (fun cls d _ H => E cls d H) := takes_of rfl rfl rfl rfl
  exact (dss_one (ds_ret (de_and (de_cmp (od_eq hr.units) (do_e (dv_e (de_cf G_seller_of tk (hr.mono (by assumption)) rfl D_seller_of.m D_seller_of.F.kp D_seller_of.b (dos_cons (do_e (dv_var (pv 0))) (dos_cons (do_e (dv_var (pv 3))) dos_nil)) (by decide) rfl))) (do_n (pv 2)) (nomark _)) (de_one (de_cmp od_nin (do_n (pv 3)) (do_n (pv 1)) (by rfl))))))

theorem ok_left {k : Nat} (T : Gs mg) {a : Addr} {fd : FuncData} (Df : Dn K mg "left" s_left ["blocks", "sold", "seller"] a fd) : FnOk P w K mg base (L2.CX P w) (k + 1) a fd ["blocks", "sold", "seller"] (spOf K mg 3 F_left) := by
  refine def_ok (k := k) Df.F sc_left rfl rfl (fun cdv A outer s H E hr => ?_)
  have nd := sc_left.nd
  have tk : Takes (cxOf (L2.CX P w) P w K mg base ["blocks", "sold", "seller", "found", "first", "behind", "other", "begin", "number", "joined"] "left" (defScope s_left) a cdv A outer s H E) (fun cls d _ H => E cls d H) := takes_of rfl rfl rfl rfl
  exact (dss_cons (ds_set (i := 3) nd rfl (by first | exact Or.inl rfl | exact Or.inr rfl) (de_lst dvs_nil))
  (dss_cons (ds_for (passes_of rfl) rfl (di_seq (dv_var (pv 0))) (dg_tp rfl (dgs_cons (dg_nm (pg_name nd rfl (by first | exact Or.inl rfl | exact Or.inr rfl))) (dgs_cons (dg_nm (pg_name nd rfl (by first | exact Or.inl rfl | exact Or.inr rfl))) (dgs_cons (dg_nm (pg_name nd rfl (by first | exact Or.inl rfl | exact Or.inr rfl))) dgs_nil))) rfl rfl) (dss_cons (ds_if (dt_cmp (od_ne hr.units) (do_n (pv 6)) (do_n (pv 2)) (nomark _)) (dss_one ds_continue) dss_nil)
  (dss_cons (ds_set (i := 7) nd rfl (by first | exact Or.inl rfl | exact Or.inr rfl) (de_v (dv_var (pv 4))))
  (dss_one (ds_for (passes_of rfl) rfl (di_seq (dv_e (de_bin od_add (do_e (dv_e (de_lc rfl nd (own := [("number", 8)]) (t := (.nm 8)) (di_seq (dv_var (pv 1))) (blkOk_by (N := ["blocks", "sold", "seller", "found", "first", "behind", "other", "begin", "number", "joined"]) (sc := defScope s_left) (own := [("number", 8)]) (by decide +kernel)) (by decide) (fun _ _ _ _ _ => (dg_nm (pg_name nd rfl (by first | exact Or.inl rfl | exact Or.inr rfl)))) (fun _ _ _ _ _ => dts_one (dt_chain od_le od_lt (do_n (pv 4)) (do_n (pv 8)) (do_n (pv 5)))) (fun _ _ _ _ _ => (dv_var (pv 8)))))) (do_e (dv_e (de_lst (dvs_cons (dv_var (pv 5)) dvs_nil))))))) (dg_nm (pg_name nd rfl (by first | exact Or.inl rfl | exact Or.inr rfl))) (dss_cons (ds_if (dt_cmp od_lt (do_n (pv 7)) (do_n (pv 8)) (nomark _)) (dss_one (ds_expr (de_append (pv 3) (dv_tup (dvs_cons (dv_var (pv 7)) (dvs_cons (dv_var (pv 8)) dvs_nil)))))) dss_nil)
  (dss_one (ds_set (i := 7) nd rfl (by first | exact Or.inl rfl | exact Or.inr rfl) (de_bin od_add (do_n (pv 8)) (do_e dv_int))))))))))
  (dss_cons (ds_set (i := 9) nd rfl (by first | exact Or.inl rfl | exact Or.inr rfl) (de_lst dvs_nil))
  (dss_cons (ds_for (passes_of rfl) rfl (di_seq (dv_var (pv 3))) (dg_tp rfl (dgs_cons (dg_nm (pg_name nd rfl (by first | exact Or.inl rfl | exact Or.inr rfl))) (dgs_cons (dg_nm (pg_name nd rfl (by first | exact Or.inl rfl | exact Or.inr rfl))) dgs_nil)) rfl rfl) (dss_cons (ds_if (dt_w (dw_and (dt_cmp od_gt (do_e (dv_e (de_cb cd_len rfl T.z_len (by decide +kernel) (dos_cons (do_n (pv 9)) dos_nil)))) (do_e dv_int) (nomark _)) (dw_and1 (dt_cmp (od_eq hr.units) (do_e (dv_e (de_ix ix_data (do_e (dv_e (de_ix ix_data (do_n (pv 9)) (do_e (dv_e (de_un ud_neg (do_e dv_int)))) (fun _ _ => rfl)))) (do_e dv_int) (fun _ _ => rfl)))) (do_n (pv 4)) (nomark _))))) (dss_one (ds_set (i := 4) nd rfl (by first | exact Or.inl rfl | exact Or.inr rfl) (de_ix ix_data (do_e (dv_e (de_pop (pv 9)))) (do_e dv_int) (fun _ _ => rfl)))) dss_nil)
  (dss_one (ds_expr (de_append (pv 9) (dv_tup (dvs_cons (dv_var (pv 4)) (dvs_cons (dv_var (pv 5)) dvs_nil))))))))
  (dss_one (ds_retn (pv 9)))))))

theorem ok__law_start {k : Nat} (T : Gs mg) {a : Addr} {fd : FuncData} (Df : Dn K mg "_law_start" s__law_start ["script"] a fd) : FnOk P w K mg base (L2.CX P w) (k + 1) a fd ["script"] (spOf K mg 1 F__law_start) := by
  refine def_ok (k := k) Df.F sc__law_start rfl rfl (fun cdv A outer s H E hr => ?_)
  have nd := sc__law_start.nd
  have tk : Takes (cxOf (L2.CX P w) P w K mg base ["script", "seed", "cell"] "_law_start" (defScope s__law_start) a cdv A outer s H E) (fun cls d _ H => E cls d H) := takes_of rfl rfl rfl rfl
  exact (dss_cons (ds_set (i := 1) nd rfl (by first | exact Or.inl rfl | exact Or.inr rfl) (de_v dv_int))
  (dss_cons (ds_for (passes_of rfl) rfl (di_seq (dv_e (de_sl sl_data (do_n (pv 0)) dp_none (dp_some dv_int)))) (dg_nm (pg_name nd rfl (by first | exact Or.inl rfl | exact Or.inr rfl))) (dss_one (ds_set (i := 1) nd rfl (by first | exact Or.inl rfl | exact Or.inr rfl) (de_bin od_add (do_e (dv_e (de_bin od_mod (do_e (dv_e (de_ct cd_int rfl T.z_int (by decide +kernel) (dos_cons (do_e (dv_e (de_bin od_add (do_e (dv_e (de_bin od_mul (do_n (pv 1)) (do_e dv_int)))) (do_n (pv 2))))) dos_nil)))) (do_e dv_int)))) (do_e dv_int)))))
  (dss_one (ds_ret (de_lst (dvs_cons (dv_e (de_lc rfl nd (own := [("cell", 2)]) (t := (.nm 2)) (di_seq (dv_e (de_sl sl_data (do_n (pv 0)) dp_none (dp_some dv_int)))) (blkOk_by (N := ["script", "seed", "cell"]) (sc := defScope s__law_start) (own := [("cell", 2)]) (by decide +kernel)) (by decide) (fun _ _ _ _ _ => (dg_nm (pg_name nd rfl (by first | exact Or.inl rfl | exact Or.inr rfl)))) (fun _ _ _ _ _ => dts_nil) (fun _ _ _ _ _ => (dv_e (de_cb cd_abs rfl T.z_abs (by decide +kernel) (dos_cons (do_e (dv_e (de_ct cd_int rfl T.z_int (by decide +kernel) (dos_cons (do_n (pv 2)) dos_nil)))) dos_nil)))))) (dvs_cons dv_int (dvs_cons dv_int (dvs_cons dv_int (dvs_cons (dv_var (pv 1)) (dvs_cons dv_int dvs_nil)))))))))))

theorem ok__law_draw {k : Nat} (T : Gs mg) {a : Addr} {fd : FuncData} (Df : Dn K mg "_law_draw" s__law_draw ["state", "limit"] a fd) : FnOk P w K mg base (L2.CX P w) (k + 1) a fd ["state", "limit"] (spOf K mg 2 F__law_draw) := by
  refine def_ok (k := k) Df.F sc__law_draw rfl rfl (fun cdv A outer s H E hr => ?_)
  have nd := sc__law_draw.nd
  have tk : Takes (cxOf (L2.CX P w) P w K mg base ["state", "limit", "found"] "_law_draw" (defScope s__law_draw) a cdv A outer s H E) (fun cls d _ H => E cls d H) := takes_of rfl rfl rfl rfl
  exact (dss_cons (ds_if (dt_w (dw_and (dt_cmp (od_eq hr.units) (do_e (dv_e (de_ix ix_data (do_n (pv 0)) (do_e dv_int) (fun _ _ => rfl)))) (do_e dv_int) (nomark _)) (dw_and1 (dt_cmp od_lt (do_e (dv_e (de_ix ix_data (do_n (pv 0)) (do_e dv_int) (fun _ _ => rfl)))) (do_e (dv_e (de_cb cd_len rfl T.z_len (by decide +kernel) (dos_cons (do_e (dv_e (de_ix ix_data (do_n (pv 0)) (do_e dv_int) (fun _ _ => rfl)))) dos_nil)))) (nomark _))))) (dss_one (ds_parS rfl (dsub_cons (pv 0) (do_e dv_int) (dsub_cons (pv 0) (do_e dv_int) (dsub_cons (pv 0) (do_e dv_int) dsub_nil))) (dvs_cons (dv_e (de_ix ix_data (do_e (dv_e (de_ix ix_data (do_n (pv 0)) (do_e dv_int) (fun _ _ => rfl)))) (do_e (dv_e (de_ix ix_data (do_n (pv 0)) (do_e dv_int) (fun _ _ => rfl)))) (fun _ _ => rfl))) (dvs_cons dv_int (dvs_cons (dv_e (de_bin od_add (do_e (dv_e (de_ix ix_data (do_n (pv 0)) (do_e dv_int) (fun _ _ => rfl)))) (do_e dv_int))) dvs_nil))) (by decide) rfl rfl)) dss_nil)
  (dss_cons (ds_if (dt_cmp od_gt (do_e (dv_e (de_ix ix_data (do_n (pv 0)) (do_e dv_int) (fun _ _ => rfl)))) (do_e dv_int) (nomark _)) (dss_cons (ds_set (i := 2) nd rfl (by first | exact Or.inl rfl | exact Or.inr rfl) (de_bin od_mod (do_e (dv_e (de_ct cd_int rfl T.z_int (by decide +kernel) (dos_cons (do_e (dv_e (de_ix ix_data (do_n (pv 0)) (do_e dv_int) (fun _ _ => rfl)))) dos_nil)))) (do_n (pv 1))))
  (dss_cons (ds_sub (pv 0) (do_e dv_int) (dv_e (de_bin od_fdiv (do_e (dv_e (de_ix ix_data (do_n (pv 0)) (do_e dv_int) (fun _ _ => rfl)))) (do_n (pv 1)))))
  (dss_cons (ds_sub (pv 0) (do_e dv_int) (dv_e (de_if (dt_cmp od_gt (do_e (dv_e (de_ix ix_data (do_n (pv 0)) (do_e dv_int) (fun _ _ => rfl)))) (do_e dv_int) (nomark _)) (de_bin od_sub (do_e (dv_e (de_ix ix_data (do_n (pv 0)) (do_e dv_int) (fun _ _ => rfl)))) (do_e dv_int)) (de_v dv_int))))
  (dss_one (ds_retn (pv 2)))))) dss_nil)
  (dss_cons (ds_sub (pv 0) (do_e dv_int) (dv_e (de_bin od_add (do_e (dv_e (de_ix ix_data (do_n (pv 0)) (do_e dv_int) (fun _ _ => rfl)))) (do_e dv_int))))
  (dss_cons (ds_sub (pv 0) (do_e dv_int) (dv_e (de_bin od_mod (do_e (dv_e (de_ct cd_int rfl T.z_int (by decide +kernel) (dos_cons (do_e (dv_e (de_bin od_add (do_e (dv_e (de_bin od_add (do_e (dv_e (de_bin od_mul (do_e (dv_e (de_ix ix_data (do_n (pv 0)) (do_e dv_int) (fun _ _ => rfl)))) (do_e dv_int)))) (do_e (dv_e (de_bin od_mul (do_e (dv_e (de_bin od_mul (do_e (dv_e (de_ix ix_data (do_n (pv 0)) (do_e dv_int) (fun _ _ => rfl)))) (do_e (dv_e (de_ix ix_data (do_n (pv 0)) (do_e dv_int) (fun _ _ => rfl))))))) (do_e dv_int))))))) (do_e dv_int)))) dos_nil)))) (do_e dv_int))))
  (dss_one (ds_ret (de_bin od_mod (do_e (dv_e (de_ct cd_int rfl T.z_int (by decide +kernel) (dos_cons (do_e (dv_e (de_bin od_fdiv (do_e (dv_e (de_ix ix_data (do_n (pv 0)) (do_e dv_int) (fun _ _ => rfl)))) (do_e dv_int)))) dos_nil)))) (do_n (pv 1)))))))))

theorem ok__law_alike {k : Nat} (T : Gs mg) {a : Addr} {fd : FuncData} (Df : Dn K mg "_law_alike" s__law_alike ["found", "due"] a fd) : ∀ dp : Nat, FnOk P w K mg base (L2.CX P w) (k + dp) a fd ["found", "due"] (spOf K mg 2 (F__law_alike dp))
  | 0 => ⟨fun vs H Q E h => h.1, fun A outer s H args us vs Q E _ _ _ _ h => (by obtain ⟨_, G, as, _, _, h⟩ := h; exact h.elim)⟩
  | dp + 1 => by
    have Grec := ok__law_alike (k := k) T Df dp
    refine def_ok (k := k + dp) Df.F sc__law_alike rfl rfl (fun cdv A outer s H E hr => ?_)
    have nd := sc__law_alike.nd
    have tk : Takes (cxOf (L2.CX P w) P w K mg base ["found", "due", "k"] "_law_alike" (defScope s__law_alike) a cdv A outer s H E) (fun cls d _ H => E cls d H) := takes_of rfl rfl rfl rfl
    exact (dss_cons (ds_if (dt_w (dw_or (dt_val (de_isi rfl T.z_isinstance (by decide +kernel) rfl T.z_list (by decide +kernel) (do_n (pv 1))) (fun _ => rfl)) (dw_or1 (dt_val (de_isi rfl T.z_isinstance (by decide +kernel) rfl T.z_tuple (by decide +kernel) (do_n (pv 1))) (fun _ => rfl))))) (dss_cons (ds_if (dt_w (dw_or (dt_cmp (od_ne hr.units) (do_e (dv_e (de_isi rfl T.z_isinstance (by decide +kernel) rfl T.z_list (by decide +kernel) (do_n (pv 0))))) (do_e (dv_e (de_isi rfl T.z_isinstance (by decide +kernel) rfl T.z_list (by decide +kernel) (do_n (pv 1))))) (nomark _)) (dw_or1 (dt_cmp (od_ne hr.units) (do_e (dv_e (de_isi rfl T.z_isinstance (by decide +kernel) rfl T.z_tuple (by decide +kernel) (do_n (pv 0))))) (do_e (dv_e (de_isi rfl T.z_isinstance (by decide +kernel) rfl T.z_tuple (by decide +kernel) (do_n (pv 1))))) (nomark _))))) (dss_one (ds_ret (de_v dv_bl))) dss_nil)
      (dss_one (ds_ret (de_and (de_cmp (od_eq hr.units) (do_e (dv_e (de_cb cd_len rfl T.z_len (by decide +kernel) (dos_cons (do_n (pv 0)) dos_nil)))) (do_e (dv_e (de_cb cd_len rfl T.z_len (by decide +kernel) (dos_cons (do_n (pv 1)) dos_nil)))) (nomark _)) (de_one (de_cmp (od_eq hr.units) (do_e (dv_e (de_lc rfl nd (own := [("k", 2)]) (t := (.nm 2)) (di_range1 rfl T.z_range (dvs_cons (dv_e (de_cb cd_len rfl T.z_len (by decide +kernel) (dos_cons (do_n (pv 1)) dos_nil))) dvs_nil)) (blkOk_by (N := ["found", "due", "k"]) (sc := defScope s__law_alike) (own := [("k", 2)]) (by decide +kernel)) (by decide) (fun _ _ _ _ _ => (dg_nm (pg_name nd rfl (by first | exact Or.inl rfl | exact Or.inr rfl)))) (fun _ _ _ _ _ => dts_one (dt_not (dt_val (de_cf Grec takes0 hr rfl Df.m Df.F.kp Df.b (dos_cons (do_e (dv_e (de_ix ix_data (do_n (pv 0)) (do_n (pv 2)) (fun _ _ => rfl)))) (dos_cons (do_e (dv_e (de_ix ix_data (do_n (pv 1)) (do_n (pv 2)) (fun _ _ => rfl)))) dos_nil)) (by decide) rfl) (fun _ => rfl)))) (fun _ _ _ _ _ => (dv_var (pv 2)))))) (do_e (dv_e (de_lst dvs_nil))) (nomark _))))))) dss_nil)
      (dss_cons (ds_if (dt_cmp od_is (do_n (pv 1)) (do_e dv_non) (nomark _)) (dss_one (ds_ret (de_cmp od_is (do_n (pv 0)) (do_e dv_non) (nomark _)))) dss_nil)
      (dss_cons (ds_if (dt_w (dw_or (dt_val (de_isi rfl T.z_isinstance (by decide +kernel) rfl T.z_bool (by decide +kernel) (do_n (pv 1))) (fun _ => rfl)) (dw_or1 (dt_val (de_isi rfl T.z_isinstance (by decide +kernel) rfl T.z_bool (by decide +kernel) (do_n (pv 0))) (fun _ => rfl))))) (dss_one (ds_ret (de_and (de_isi rfl T.z_isinstance (by decide +kernel) rfl T.z_bool (by decide +kernel) (do_n (pv 0))) (de_and (de_isi rfl T.z_isinstance (by decide +kernel) rfl T.z_bool (by decide +kernel) (do_n (pv 1))) (de_one (de_cmp (od_eq hr.units) (do_n (pv 0)) (do_n (pv 1)) (nomark _))))))) dss_nil)
      (dss_cons (ds_if (dt_val (de_isi rfl T.z_isinstance (by decide +kernel) rfl T.z_int (by decide +kernel) (do_n (pv 1))) (fun _ => rfl)) (dss_one (ds_ret (de_and (de_isi rfl T.z_isinstance (by decide +kernel) rfl T.z_int (by decide +kernel) (do_n (pv 0))) (de_one (de_cmp (od_eq hr.units) (do_n (pv 0)) (do_n (pv 1)) (nomark _)))))) dss_nil)
      (dss_one (ds_ret (de_and (de_isi rfl T.z_isinstance (by decide +kernel) rfl T.z_str (by decide +kernel) (do_n (pv 0))) (de_one (de_cmp (od_eq hr.units) (do_n (pv 0)) (do_n (pv 1)) (nomark _))))))))))

theorem ok__law_blocks {k : Nat} (T : Gs mg) {a : Addr} {fd : FuncData} (Df : Dn K mg "_law_blocks" s__law_blocks ["state"] a fd) {a__law_draw : Addr} {fd__law_draw : FuncData} (D__law_draw : Dn K mg "_law_draw" s__law_draw ["state", "limit"] a__law_draw fd__law_draw) {k__law_draw : Nat} (h__law_draw : k__law_draw ≤ k) (G__law_draw : FnOk P w K mg base (L2.CX P w) k__law_draw a__law_draw fd__law_draw ["state", "limit"] (spOf K mg 2 F__law_draw)) : FnOk P w K mg base (L2.CX P w) (k + 1) a fd ["state"] (spOf K mg 1 F__law_blocks) := by
  refine def_ok (k := k) Df.F sc__law_blocks rfl rfl (fun cdv A outer s H E hr => ?_)
  have nd := sc__law_blocks.nd
  have tk : Takes (cxOf (L2.CX P w) P w K mg base ["state", "found", "at", "turn", "first", "behind_it"] "_law_blocks" (defScope s__law_blocks) a cdv A outer s H E) (fun cls d _ H => E cls d H) := takes_of rfl rfl rfl rfl
  exact (dss_cons (ds_par2 (i := 1) (j := 2) rfl nd rfl rfl (by decide) rfl rfl (das_cons (de_lst dvs_nil) (das_cons (de_ix ix_data (do_e (dv_e (de_lst (dvs_cons dv_int (dvs_cons (dv_e (de_bin od_sub (do_e (dv_e (de_bin od_pow (do_e dv_int) (do_e dv_int)))) (do_e dv_int))) dvs_nil))))) (do_e (dv_e (de_cf G__law_draw tk (hr.mono (by assumption)) rfl D__law_draw.m D__law_draw.F.kp D__law_draw.b (dos_cons (do_n (pv 0)) (dos_cons (do_e dv_int) dos_nil)) (by decide) rfl))) (fun _ _ => rfl)) das_nil)) rfl)
  (dss_cons (ds_for (passes_of rfl) rfl (di_range1 rfl T.z_range (dvs_cons (dv_e (de_cf G__law_draw tk (hr.mono (by assumption)) rfl D__law_draw.m D__law_draw.F.kp D__law_draw.b (dos_cons (do_n (pv 0)) (dos_cons (do_e dv_int) dos_nil)) (by decide) rfl)) dvs_nil)) (dg_nm (pg_name nd rfl (by first | exact Or.inl rfl | exact Or.inr rfl))) (dss_cons (ds_set (i := 4) nd rfl (by first | exact Or.inl rfl | exact Or.inr rfl) (de_bin od_add (do_n (pv 2)) (do_e (dv_e (de_ix ix_data (do_e (dv_e (de_lst (dvs_cons dv_int (dvs_cons dv_int (dvs_cons dv_int (dvs_cons (dv_e (de_cf G__law_draw tk (hr.mono (by assumption)) rfl D__law_draw.m D__law_draw.F.kp D__law_draw.b (dos_cons (do_n (pv 0)) (dos_cons (do_e dv_int) dos_nil)) (by decide) rfl)) dvs_nil))))))) (do_e (dv_e (de_cf G__law_draw tk (hr.mono (by assumption)) rfl D__law_draw.m D__law_draw.F.kp D__law_draw.b (dos_cons (do_n (pv 0)) (dos_cons (do_e dv_int) dos_nil)) (by decide) rfl))) (fun _ _ => rfl))))))
  (dss_cons (ds_set (i := 5) nd rfl (by first | exact Or.inl rfl | exact Or.inr rfl) (de_bin od_add (do_e (dv_e (de_bin od_add (do_n (pv 4)) (do_e dv_int)))) (do_e (dv_e (de_cf G__law_draw tk (hr.mono (by assumption)) rfl D__law_draw.m D__law_draw.F.kp D__law_draw.b (dos_cons (do_n (pv 0)) (dos_cons (do_e dv_int) dos_nil)) (by decide) rfl)))))
  (dss_cons (ds_expr (de_append (pv 1) (dv_tup (dvs_cons (dv_var (pv 4)) (dvs_cons (dv_var (pv 5)) (dvs_cons (dv_e (de_ix ix_data (do_e (dv_e (de_lst (dvs_cons dv_str (dvs_cons dv_str (dvs_cons dv_str dvs_nil)))))) (do_e (dv_e (de_cf G__law_draw tk (hr.mono (by assumption)) rfl D__law_draw.m D__law_draw.F.kp D__law_draw.b (dos_cons (do_n (pv 0)) (dos_cons (do_e dv_int) dos_nil)) (by decide) rfl))) (fun _ _ => rfl))) dvs_nil))))))
  (dss_one (ds_set (i := 2) nd rfl (by first | exact Or.inl rfl | exact Or.inr rfl) (de_v (dv_var (pv 5)))))))))
  (dss_one (ds_ret (de_ct cd_tuple rfl T.z_tuple (by decide +kernel) (dos_cons (do_n (pv 1)) dos_nil))))))

theorem ok__law_seller {k : Nat} (T : Gs mg) {a : Addr} {fd : FuncData} (Df : Dn K mg "_law_seller" s__law_seller ["blocks", "number"] a fd) : FnOk P w K mg base (L2.CX P w) (k + 1) a fd ["blocks", "number"] (spOf K mg 2 F__law_seller) := by
  refine def_ok (k := k) Df.F sc__law_seller rfl rfl (fun cdv A outer s H E hr => ?_)
  have nd := sc__law_seller.nd
  have tk : Takes (cxOf (L2.CX P w) P w K mg base ["blocks", "number", "found", "first", "behind_it", "seller"] "_law_seller" (defScope s__law_seller) a cdv A outer s H E) (fun cls d _ H => E cls d H) := takes_of rfl rfl rfl rfl
  exact (dss_cons (ds_setLc (i := 2) rfl nd rfl rfl (sw_true rfl rfl rfl (by decide +kernel)) (own := [("first", 3), ("behind_it", 4), ("seller", 5)]) (t := (.tp [(.nm 3), (.nm 4), (.nm 5)])) (di_seq (dv_var (pv 0))) (blkOk_by (N := ["blocks", "number", "found", "first", "behind_it", "seller"]) (sc := defScope s__law_seller) (own := [("first", 3), ("behind_it", 4), ("seller", 5)]) (by decide +kernel)) (by decide) (fun _ _ _ _ _ => (dg_tp rfl (dgs_cons (dg_nm (pg_name nd rfl (by first | exact Or.inl rfl | exact Or.inr rfl))) (dgs_cons (dg_nm (pg_name nd rfl (by first | exact Or.inl rfl | exact Or.inr rfl))) (dgs_cons (dg_nm (pg_name nd rfl (by first | exact Or.inl rfl | exact Or.inr rfl))) dgs_nil))) rfl rfl)) (fun _ _ _ _ _ => dts_one (dt_chain od_le od_lt (do_n (pv 3)) (do_n (pv 1)) (do_n (pv 4)))) (fun _ _ _ _ _ => (dv_var (pv 5))))
  (dss_one (ds_ret (de_if (dt_cmp (od_ne hr.units) (do_n (pv 2)) (do_e (dv_e (de_lst dvs_nil))) (nomark _)) (de_ix ix_data (do_n (pv 2)) (do_e dv_int) (fun _ _ => rfl)) (de_v dv_non)))))

theorem ok__law_left {k : Nat} (T : Gs mg) {a : Addr} {fd : FuncData} (Df : Dn K mg "_law_left" s__law_left ["blocks", "sold", "seller"] a fd) : FnOk P w K mg base (L2.CX P w) (k + 1) a fd ["blocks", "sold", "seller"] (spOf K mg 3 F__law_left) := by
  refine def_ok (k := k) Df.F sc__law_left rfl rfl (fun cdv A outer s H E hr => ?_)
  have nd := sc__law_left.nd
  have tk : Takes (cxOf (L2.CX P w) P w K mg base ["blocks", "sold", "seller", "found", "first", "behind_it", "own", "begin", "number", "one"] "_law_left" (defScope s__law_left) a cdv A outer s H E) (fun cls d _ H => E cls d H) := takes_of rfl rfl rfl rfl
  exact (dss_cons (ds_set (i := 3) nd rfl (by first | exact Or.inl rfl | exact Or.inr rfl) (de_lst dvs_nil))
  (dss_cons (ds_for (passes_of rfl) rfl (di_seq (dv_var (pv 0))) (dg_tp rfl (dgs_cons (dg_nm (pg_name nd rfl (by first | exact Or.inl rfl | exact Or.inr rfl))) (dgs_cons (dg_nm (pg_name nd rfl (by first | exact Or.inl rfl | exact Or.inr rfl))) (dgs_cons (dg_nm (pg_name nd rfl (by first | exact Or.inl rfl | exact Or.inr rfl))) dgs_nil))) rfl rfl) (dss_one (ds_if (dt_cmp (od_eq hr.units) (do_n (pv 6)) (do_n (pv 2)) (nomark _)) (dss_cons (ds_set (i := 7) nd rfl (by first | exact Or.inl rfl | exact Or.inr rfl) (de_v (dv_var (pv 4))))
  (dss_one (ds_for (passes_of rfl) rfl (di_seq (dv_e (de_bin od_add (do_e (dv_e (de_lc rfl nd (own := [("one", 9)]) (t := (.nm 9)) (di_seq (dv_var (pv 1))) (blkOk_by (N := ["blocks", "sold", "seller", "found", "first", "behind_it", "own", "begin", "number", "one"]) (sc := defScope s__law_left) (own := [("one", 9)]) (by decide +kernel)) (by decide) (fun _ _ _ _ _ => (dg_nm (pg_name nd rfl (by first | exact Or.inl rfl | exact Or.inr rfl)))) (fun _ _ _ _ _ => dts_one (dt_chain od_le od_lt (do_n (pv 4)) (do_n (pv 9)) (do_n (pv 5)))) (fun _ _ _ _ _ => (dv_var (pv 9)))))) (do_e (dv_e (de_lst (dvs_cons (dv_var (pv 5)) dvs_nil))))))) (dg_nm (pg_name nd rfl (by first | exact Or.inl rfl | exact Or.inr rfl))) (dss_cons (ds_if (dt_cmp od_lt (do_n (pv 7)) (do_n (pv 8)) (nomark _)) (dss_one (ds_if (dt_w (dw_and (dt_cmp (od_ne hr.units) (do_n (pv 3)) (do_e (dv_e (de_lst dvs_nil))) (nomark _)) (dw_and1 (dt_cmp (od_eq hr.units) (do_e (dv_e (de_ix ix_data (do_e (dv_e (de_ix ix_data (do_n (pv 3)) (do_e (dv_e (de_un ud_neg (do_e dv_int)))) (fun _ _ => rfl)))) (do_e dv_int) (fun _ _ => rfl)))) (do_n (pv 7)) (nomark _))))) (dss_one (ds_sub (pv 3) (do_e (dv_e (de_un ud_neg (do_e dv_int)))) (dv_tup (dvs_cons (dv_e (de_ix ix_data (do_e (dv_e (de_ix ix_data (do_n (pv 3)) (do_e (dv_e (de_un ud_neg (do_e dv_int)))) (fun _ _ => rfl)))) (do_e dv_int) (fun _ _ => rfl))) (dvs_cons (dv_var (pv 8)) dvs_nil))))) (dss_one (ds_expr (de_append (pv 3) (dv_tup (dvs_cons (dv_var (pv 7)) (dvs_cons (dv_var (pv 8)) dvs_nil)))))))) dss_nil)
  (dss_one (ds_set (i := 7) nd rfl (by first | exact Or.inl rfl | exact Or.inr rfl) (de_bin od_add (do_n (pv 8)) (do_e dv_int)))))))) dss_nil)))
  (dss_one (ds_retn (pv 3)))))

theorem ok__law_judged {k : Nat} (T : Gs mg) (dp : Nat) {a : Addr} {fd : FuncData} (Df : Dn K mg "_law_judged" s__law_judged ["state"] a fd) {a_is_blocks : Addr} {fd_is_blocks : FuncData} (D_is_blocks : Dn K mg "is_blocks" s_is_blocks ["value"] a_is_blocks fd_is_blocks) {k_is_blocks : Nat} (h_is_blocks : k_is_blocks ≤ k) (G_is_blocks : FnOk P w K mg base (L2.CX P w) k_is_blocks a_is_blocks fd_is_blocks ["value"] (spOf K mg 1 F_is_blocks)) {a__law_alike : Addr} {fd__law_alike : FuncData} (D__law_alike : Dn K mg "_law_alike" s__law_alike ["found", "due"] a__law_alike fd__law_alike) {k__law_alike : Nat} (h__law_alike : k__law_alike ≤ k) (G__law_alike : FnOk P w K mg base (L2.CX P w) k__law_alike a__law_alike fd__law_alike ["found", "due"] (spOf K mg 2 (F__law_alike dp))) : FnOk P w K mg base (L2.CX P w) (k + 1) a fd ["state"] (spOf K mg 1 (F__law_judged dp)) := by
  refine def_ok (k := k) Df.F sc__law_judged rfl rfl (fun cdv A outer s H E hr => ?_)
  have nd := sc__law_judged.nd
  have tk : Takes (cxOf (L2.CX P w) P w K mg base ["state", "rows", "many", "k", "value", "due"] "_law_judged" (defScope s__law_judged) a cdv A outer s H E) (fun cls d _ H => E cls d H) := takes_of rfl rfl rfl rfl
  exact (dss_cons (ds_set (i := 1) nd rfl (by first | exact Or.inl rfl | exact Or.inr rfl) (de_lst (dvs_cons (dv_tup (dvs_cons (dv_tup dvs_nil) (dvs_cons dv_bl dvs_nil))) (dvs_cons (dv_tup (dvs_cons (dv_tup (dvs_cons (dv_tup (dvs_cons dv_int (dvs_cons dv_int (dvs_cons dv_str dvs_nil)))) dvs_nil)) (dvs_cons dv_bl dvs_nil))) (dvs_cons (dv_tup (dvs_cons (dv_tup (dvs_cons (dv_tup (dvs_cons dv_int (dvs_cons dv_int (dvs_cons dv_str dvs_nil)))) dvs_nil)) (dvs_cons dv_bl dvs_nil))) (dvs_cons (dv_tup (dvs_cons (dv_tup (dvs_cons (dv_tup (dvs_cons dv_int (dvs_cons dv_int (dvs_cons dv_str dvs_nil)))) dvs_nil)) (dvs_cons dv_bl dvs_nil))) (dvs_cons (dv_tup (dvs_cons (dv_tup (dvs_cons (dv_tup (dvs_cons dv_int (dvs_cons (dv_e (de_bin od_pow (do_e dv_int) (do_e dv_int))) (dvs_cons dv_str dvs_nil)))) dvs_nil)) (dvs_cons dv_bl dvs_nil))) (dvs_cons (dv_tup (dvs_cons (dv_tup (dvs_cons (dv_tup (dvs_cons dv_int (dvs_cons (dv_e (de_bin od_add (do_e (dv_e (de_bin od_pow (do_e dv_int) (do_e dv_int)))) (do_e dv_int))) (dvs_cons dv_str dvs_nil)))) dvs_nil)) (dvs_cons dv_bl dvs_nil))) dvs_nil))))))))
  (dss_cons (ds_set (i := 1) nd rfl (by first | exact Or.inl rfl | exact Or.inr rfl) (de_bin od_add (do_n (pv 1)) (do_e (dv_e (de_lst (dvs_cons (dv_tup (dvs_cons (dv_tup (dvs_cons (dv_tup (dvs_cons dv_int (dvs_cons dv_int (dvs_cons dv_str dvs_nil)))) (dvs_cons (dv_tup (dvs_cons dv_int (dvs_cons dv_int (dvs_cons dv_str dvs_nil)))) dvs_nil))) (dvs_cons dv_bl dvs_nil))) (dvs_cons (dv_tup (dvs_cons (dv_tup (dvs_cons (dv_tup (dvs_cons dv_int (dvs_cons dv_int (dvs_cons dv_str dvs_nil)))) (dvs_cons (dv_tup (dvs_cons dv_int (dvs_cons dv_int (dvs_cons dv_str dvs_nil)))) dvs_nil))) (dvs_cons dv_bl dvs_nil))) (dvs_cons (dv_tup (dvs_cons (dv_tup (dvs_cons (dv_tup (dvs_cons dv_int (dvs_cons dv_int (dvs_cons dv_str dvs_nil)))) (dvs_cons (dv_tup (dvs_cons dv_int (dvs_cons dv_int (dvs_cons dv_str dvs_nil)))) dvs_nil))) (dvs_cons dv_bl dvs_nil))) (dvs_cons (dv_tup (dvs_cons (dv_tup (dvs_cons (dv_tup (dvs_cons dv_int (dvs_cons dv_int (dvs_cons dv_str dvs_nil)))) dvs_nil)) (dvs_cons dv_bl dvs_nil))) (dvs_cons (dv_tup (dvs_cons (dv_tup (dvs_cons (dv_tup (dvs_cons dv_int (dvs_cons dv_int (dvs_cons dv_str dvs_nil)))) dvs_nil)) (dvs_cons dv_bl dvs_nil))) dvs_nil))))))))))
  (dss_cons (ds_set (i := 1) nd rfl (by first | exact Or.inl rfl | exact Or.inr rfl) (de_bin od_add (do_n (pv 1)) (do_e (dv_e (de_lst (dvs_cons (dv_tup (dvs_cons (dv_e (de_lst (dvs_cons (dv_tup (dvs_cons dv_int (dvs_cons dv_int (dvs_cons dv_str dvs_nil)))) dvs_nil))) (dvs_cons dv_bl dvs_nil))) (dvs_cons (dv_tup (dvs_cons (dv_tup (dvs_cons (dv_tup (dvs_cons dv_int (dvs_cons dv_int dvs_nil))) dvs_nil)) (dvs_cons dv_bl dvs_nil))) (dvs_cons (dv_tup (dvs_cons (dv_tup (dvs_cons (dv_e (de_lst (dvs_cons dv_int (dvs_cons dv_int (dvs_cons dv_str dvs_nil))))) dvs_nil)) (dvs_cons dv_bl dvs_nil))) (dvs_cons (dv_tup (dvs_cons (dv_tup (dvs_cons (dv_tup (dvs_cons (dv_e (de_un ud_neg (do_e dv_int))) (dvs_cons dv_int (dvs_cons dv_str dvs_nil)))) dvs_nil)) (dvs_cons dv_bl dvs_nil))) (dvs_cons (dv_tup (dvs_cons (dv_tup (dvs_cons (dv_tup (dvs_cons dv_bl (dvs_cons dv_int (dvs_cons dv_str dvs_nil)))) dvs_nil)) (dvs_cons dv_bl dvs_nil))) (dvs_cons (dv_tup (dvs_cons dv_non (dvs_cons dv_bl dvs_nil))) dvs_nil)))))))))))
  (dss_cons (ds_set (i := 2) nd rfl (by first | exact Or.inl rfl | exact Or.inr rfl) (de_ct cd_tuple rfl T.z_tuple (by decide +kernel) (dos_cons (do_e (dv_e (de_lc rfl nd (own := [("k", 3)]) (t := (.nm 3)) (di_range1 rfl T.z_range (dvs_cons dv_int dvs_nil)) (blkOk_by (N := ["state", "rows", "many", "k", "value", "due"]) (sc := defScope s__law_judged) (own := [("k", 3)]) (by decide +kernel)) (by decide) (fun _ _ _ _ _ => (dg_nm (pg_name nd rfl (by first | exact Or.inl rfl | exact Or.inr rfl)))) (fun _ _ _ _ _ => dts_nil) (fun _ _ _ _ _ => (dv_tup (dvs_cons (dv_e (de_bin od_mul (do_e dv_int) (do_n (pv 3)))) (dvs_cons (dv_e (de_bin od_add (do_e (dv_e (de_bin od_mul (do_e dv_int) (do_n (pv 3))))) (do_e dv_int))) (dvs_cons (dv_e (de_ix ix_data (do_e dv_str) (do_e (dv_e (de_bin od_mod (do_e (dv_e (de_ct cd_int rfl T.z_int (by decide +kernel) (dos_cons (do_n (pv 3)) dos_nil)))) (do_e dv_int)))) (fun _ _ => rfl))) dvs_nil)))))))) dos_nil)))
  (dss_cons (ds_set (i := 1) nd rfl (by first | exact Or.inl rfl | exact Or.inr rfl) (de_bin od_add (do_n (pv 1)) (do_e (dv_e (de_lst (dvs_cons (dv_tup (dvs_cons (dv_e (de_sl sl_data (do_n (pv 2)) dp_none (dp_some dv_int))) (dvs_cons dv_bl dvs_nil))) (dvs_cons (dv_tup (dvs_cons (dv_var (pv 2)) (dvs_cons dv_bl dvs_nil))) dvs_nil)))))))
  (dss_one (ds_ret (de_cmp (od_eq hr.units) (do_e (dv_e (de_lc rfl nd (own := [("value", 4), ("due", 5)]) (t := (.tp [(.nm 4), (.nm 5)])) (di_seq (dv_var (pv 1))) (blkOk_by (N := ["state", "rows", "many", "k", "value", "due"]) (sc := defScope s__law_judged) (own := [("value", 4), ("due", 5)]) (by decide +kernel)) (by decide) (fun _ _ _ _ _ => (dg_tp rfl (dgs_cons (dg_nm (pg_name nd rfl (by first | exact Or.inl rfl | exact Or.inr rfl))) (dgs_cons (dg_nm (pg_name nd rfl (by first | exact Or.inl rfl | exact Or.inr rfl))) dgs_nil)) rfl rfl)) (fun _ _ _ _ _ => dts_one (dt_not (dt_val (de_cf G__law_alike takes0 (hr.mono (by assumption)) rfl D__law_alike.m D__law_alike.F.kp D__law_alike.b (dos_cons (do_e (dv_e (de_cf G_is_blocks takes0 (hr.mono (by assumption)) rfl D_is_blocks.m D_is_blocks.F.kp D_is_blocks.b (dos_cons (do_e (dv_var (pv 4))) dos_nil) (by decide) rfl))) (dos_cons (do_e (dv_var (pv 5))) dos_nil)) (by decide) rfl) (fun _ => rfl)))) (fun _ _ _ _ _ => (dv_var (pv 4)))))) (do_e (dv_e (de_lst dvs_nil))) (nomark _)))))))))

theorem ok_law {k : Nat} (T : Gs mg) (dp : Nat) {a : Addr} {fd : FuncData} (Df : Dn K mg "law" s_law ["script"] a fd) {a_is_blocks : Addr} {fd_is_blocks : FuncData} (D_is_blocks : Dn K mg "is_blocks" s_is_blocks ["value"] a_is_blocks fd_is_blocks) {k_is_blocks : Nat} (h_is_blocks : k_is_blocks ≤ k) (G_is_blocks : FnOk P w K mg base (L2.CX P w) k_is_blocks a_is_blocks fd_is_blocks ["value"] (spOf K mg 1 F_is_blocks)) {a_seller_of : Addr} {fd_seller_of : FuncData} (D_seller_of : Dn K mg "seller_of" s_seller_of ["blocks", "number"] a_seller_of fd_seller_of) {k_seller_of : Nat} (h_seller_of : k_seller_of ≤ k) (G_seller_of : FnOk P w K mg base (L2.CX P w) k_seller_of a_seller_of fd_seller_of ["blocks", "number"] (spOf K mg 2 F_seller_of)) {a_may_sell : Addr} {fd_may_sell : FuncData} (D_may_sell : Dn K mg "may_sell" s_may_sell ["blocks", "sold", "seller", "number"] a_may_sell fd_may_sell) {k_may_sell : Nat} (h_may_sell : k_may_sell ≤ k) (G_may_sell : FnOk P w K mg base (L2.CX P w) k_may_sell a_may_sell fd_may_sell ["blocks", "sold", "seller", "number"] (spOf K mg 4 F_may_sell)) {a_left : Addr} {fd_left : FuncData} (D_left : Dn K mg "left" s_left ["blocks", "sold", "seller"] a_left fd_left) {k_left : Nat} (h_left : k_left ≤ k) (G_left : FnOk P w K mg base (L2.CX P w) k_left a_left fd_left ["blocks", "sold", "seller"] (spOf K mg 3 F_left)) {a__law_start : Addr} {fd__law_start : FuncData} (D__law_start : Dn K mg "_law_start" s__law_start ["script"] a__law_start fd__law_start) {k__law_start : Nat} (h__law_start : k__law_start ≤ k) (G__law_start : FnOk P w K mg base (L2.CX P w) k__law_start a__law_start fd__law_start ["script"] (spOf K mg 1 F__law_start)) {a__law_draw : Addr} {fd__law_draw : FuncData} (D__law_draw : Dn K mg "_law_draw" s__law_draw ["state", "limit"] a__law_draw fd__law_draw) {k__law_draw : Nat} (h__law_draw : k__law_draw ≤ k) (G__law_draw : FnOk P w K mg base (L2.CX P w) k__law_draw a__law_draw fd__law_draw ["state", "limit"] (spOf K mg 2 F__law_draw)) {a__law_alike : Addr} {fd__law_alike : FuncData} (D__law_alike : Dn K mg "_law_alike" s__law_alike ["found", "due"] a__law_alike fd__law_alike) {k__law_alike : Nat} (h__law_alike : k__law_alike ≤ k) (G__law_alike : FnOk P w K mg base (L2.CX P w) k__law_alike a__law_alike fd__law_alike ["found", "due"] (spOf K mg 2 (F__law_alike dp))) {a__law_blocks : Addr} {fd__law_blocks : FuncData} (D__law_blocks : Dn K mg "_law_blocks" s__law_blocks ["state"] a__law_blocks fd__law_blocks) {k__law_blocks : Nat} (h__law_blocks : k__law_blocks ≤ k) (G__law_blocks : FnOk P w K mg base (L2.CX P w) k__law_blocks a__law_blocks fd__law_blocks ["state"] (spOf K mg 1 F__law_blocks)) {a__law_seller : Addr} {fd__law_seller : FuncData} (D__law_seller : Dn K mg "_law_seller" s__law_seller ["blocks", "number"] a__law_seller fd__law_seller) {k__law_seller : Nat} (h__law_seller : k__law_seller ≤ k) (G__law_seller : FnOk P w K mg base (L2.CX P w) k__law_seller a__law_seller fd__law_seller ["blocks", "number"] (spOf K mg 2 F__law_seller)) {a__law_left : Addr} {fd__law_left : FuncData} (D__law_left : Dn K mg "_law_left" s__law_left ["blocks", "sold", "seller"] a__law_left fd__law_left) {k__law_left : Nat} (h__law_left : k__law_left ≤ k) (G__law_left : FnOk P w K mg base (L2.CX P w) k__law_left a__law_left fd__law_left ["blocks", "sold", "seller"] (spOf K mg 3 F__law_left)) {a__law_judged : Addr} {fd__law_judged : FuncData} (D__law_judged : Dn K mg "_law_judged" s__law_judged ["state"] a__law_judged fd__law_judged) {k__law_judged : Nat} (h__law_judged : k__law_judged ≤ k) (G__law_judged : FnOk P w K mg base (L2.CX P w) k__law_judged a__law_judged fd__law_judged ["state"] (spOf K mg 1 (F__law_judged dp))) : FnOk P w K mg base (L2.CX P w) (k + 1) a fd ["script"] (spOf K mg 1 (F_law dp)) := by
  refine def_ok (k := k) Df.F sc_law rfl rfl (fun cdv A outer s H E hr => ?_)
  have nd := sc_law.nd
  have tk : Takes (cxOf (L2.CX P w) P w K mg base ["script", "state", "blocks", "sold", "numbers", "first", "behind_it", "seller", "turn", "stretches", "own", "number", "due", "free", "before", "cut", "one", "name", "k"] "law" (defScope s_law) a cdv A outer s H E) (fun cls d _ H => E cls d H) := takes_of rfl rfl rfl rfl
  exact (dss_cons (ds_set (i := 1) nd rfl (by first | exact Or.inl rfl | exact Or.inr rfl) (de_cf G__law_start tk (hr.mono (by assumption)) rfl D__law_start.m D__law_start.F.kp D__law_start.b (dos_cons (do_e (dv_var (pv 0))) dos_nil) (by decide) rfl))
  (dss_cons (ds_parN rfl (.cons (pg_name (i := 2) nd rfl (by first | exact Or.inl rfl | exact Or.inr rfl)) (.cons (pg_name (i := 3) nd rfl (by first | exact Or.inl rfl | exact Or.inr rfl)) .nil rfl) rfl) (das_cons (de_cf G__law_blocks tk (hr.mono (by assumption)) rfl D__law_blocks.m D__law_blocks.F.kp D__law_blocks.b (dos_cons (do_n (pv 1)) dos_nil) (by decide) rfl) (das_cons (de_v (dv_tup dvs_nil)) das_nil)) (by decide) rfl rfl)
  (dss_cons (ds_if (dt_w (dw_or (dt_cmp od_isn (do_e (dv_e (de_cf G_is_blocks tk (hr.mono (by assumption)) rfl D_is_blocks.m D_is_blocks.F.kp D_is_blocks.b (dos_cons (do_e (dv_var (pv 2))) dos_nil) (by decide) rfl))) (do_e dv_bl) (nomark _)) (dw_or1 (dt_not (dt_val (de_cf G__law_judged tk (hr.mono (by assumption)) rfl D__law_judged.m D__law_judged.F.kp D__law_judged.b (dos_cons (do_n (pv 1)) dos_nil) (by decide) rfl) (fun _ => rfl)))))) (dss_one (ds_ret (de_v dv_bl))) dss_nil)
  (dss_cons (ds_set (i := 4) nd rfl (by first | exact Or.inl rfl | exact Or.inr rfl) (de_lst dvs_nil))
  (dss_cons (ds_for (passes_of rfl) rfl (di_seq (dv_var (pv 2))) (dg_tp rfl (dgs_cons (dg_nm (pg_name nd rfl (by first | exact Or.inl rfl | exact Or.inr rfl))) (dgs_cons (dg_nm (pg_name nd rfl (by first | exact Or.inl rfl | exact Or.inr rfl))) (dgs_cons (dg_nm (pg_name nd rfl (by first | exact Or.inl rfl | exact Or.inr rfl))) dgs_nil))) rfl rfl) (dss_one (ds_set (i := 4) nd rfl (by first | exact Or.inl rfl | exact Or.inr rfl) (de_bin od_add (do_e (dv_e (de_bin od_add (do_n (pv 4)) (do_e (dv_e (de_lst (dvs_cons (dv_var (pv 5)) (dvs_cons (dv_e (de_bin od_sub (do_n (pv 6)) (do_e dv_int))) (dvs_cons (dv_var (pv 6)) (dvs_cons (dv_e (de_bin od_add (do_n (pv 5)) (do_e (dv_e (de_cf G__law_draw tk (hr.mono (by assumption)) rfl D__law_draw.m D__law_draw.F.kp D__law_draw.b (dos_cons (do_n (pv 1)) (dos_cons (do_e (dv_e (de_bin od_sub (do_n (pv 6)) (do_n (pv 5))))) dos_nil)) (by decide) rfl))))) dvs_nil)))))))))) (do_e (dv_e (de_if (dt_cmp od_gt (do_n (pv 5)) (do_e dv_int) (nomark _)) (de_lst (dvs_cons (dv_e (de_bin od_sub (do_n (pv 5)) (do_e dv_int))) dvs_nil)) (de_lst dvs_nil))))))))
  (dss_cons (ds_set (i := 4) nd rfl (by first | exact Or.inl rfl | exact Or.inr rfl) (de_cb cd_sorted rfl T.z_sorted (by decide +kernel) (dos_cons (do_e (dv_e (de_lc rfl nd (own := [("one", 16)]) (t := (.nm 16)) (di_keysN (de_ct (cd_dict rfl) rfl T.z_dict (by decide +kernel) (dos_cons (do_e (dv_e (de_lc rfl nd (own := [("number", 11)]) (t := (.nm 11)) (di_seq (dv_e (de_bin od_add (do_n (pv 4)) (do_e (dv_e (de_lst (dvs_cons dv_int (dvs_cons (dv_e (de_bin od_pow (do_e dv_int) (do_e dv_int))) dvs_nil)))))))) (blkOk_by (N := ["script", "state", "blocks", "sold", "numbers", "first", "behind_it", "seller", "turn", "stretches", "own", "number", "due", "free", "before", "cut", "one", "name", "k"]) (sc := defScope s_law) (own := [("number", 11)]) (by decide +kernel)) (by decide) (fun _ _ _ _ _ => (dg_nm (pg_name nd rfl (by first | exact Or.inl rfl | exact Or.inr rfl)))) (fun _ _ _ _ _ => dts_nil) (fun _ _ _ _ _ => (dv_tup (dvs_cons (dv_var (pv 11)) (dvs_cons dv_int dvs_nil))))))) dos_nil))) (blkOk_by (N := ["script", "state", "blocks", "sold", "numbers", "first", "behind_it", "seller", "turn", "stretches", "own", "number", "due", "free", "before", "cut", "one", "name", "k"]) (sc := defScope s_law) (own := [("one", 16)]) (by decide +kernel)) (by decide) (fun _ _ _ _ _ => (dg_nm (pg_name nd rfl (by first | exact Or.inl rfl | exact Or.inr rfl)))) (fun _ _ _ _ _ => dts_nil) (fun _ _ _ _ _ => (dv_var (pv 16)))))) dos_nil)))
  (dss_cons (ds_for (passes_of rfl) rfl (di_range1 rfl T.z_range (dvs_cons dv_int dvs_nil)) (dg_nm (pg_name nd rfl (by first | exact Or.inl rfl | exact Or.inr rfl))) (dss_cons (ds_for (passes_of rfl) rfl (di_seq (dv_e (de_lst (dvs_cons dv_str (dvs_cons dv_str (dvs_cons dv_str (dvs_cons dv_str dvs_nil))))))) (dg_nm (pg_name nd rfl (by first | exact Or.inl rfl | exact Or.inr rfl))) (dss_cons (ds_set (i := 9) nd rfl (by first | exact Or.inl rfl | exact Or.inr rfl) (de_cf G__law_left tk (hr.mono (by assumption)) rfl D__law_left.m D__law_left.F.kp D__law_left.b (dos_cons (do_e (dv_var (pv 2))) (dos_cons (do_e (dv_var (pv 3))) (dos_cons (do_e (dv_var (pv 7))) dos_nil))) (by decide) rfl))
  (dss_cons (ds_if (dt_not (dt_val (de_cf G__law_alike tk (hr.mono (by assumption)) rfl D__law_alike.m D__law_alike.F.kp D__law_alike.b (dos_cons (do_e (dv_e (de_cf G_left tk (hr.mono (by assumption)) rfl D_left.m D_left.F.kp D_left.b (dos_cons (do_e (dv_var (pv 2))) (dos_cons (do_e (dv_var (pv 3))) (dos_cons (do_e (dv_var (pv 7))) dos_nil))) (by decide) rfl))) (dos_cons (do_e (dv_var (pv 9))) dos_nil)) (by decide) rfl) (fun _ => rfl))) (dss_one (ds_ret (de_v dv_bl))) dss_nil)
  (dss_cons (ds_set (i := 10) nd rfl (by first | exact Or.inl rfl | exact Or.inr rfl) (de_cb (cd_sum rfl) rfl T.z_sum (by decide +kernel) (dos_cons (do_e (dv_e (de_lc rfl nd (own := [("first", 5), ("behind_it", 6), ("name", 17)]) (t := (.tp [(.nm 5), (.nm 6), (.nm 17)])) (di_seq (dv_var (pv 2))) (blkOk_by (N := ["script", "state", "blocks", "sold", "numbers", "first", "behind_it", "seller", "turn", "stretches", "own", "number", "due", "free", "before", "cut", "one", "name", "k"]) (sc := defScope s_law) (own := [("first", 5), ("behind_it", 6), ("name", 17)]) (by decide +kernel)) (by decide) (fun _ _ _ _ _ => (dg_tp rfl (dgs_cons (dg_nm (pg_name nd rfl (by first | exact Or.inl rfl | exact Or.inr rfl))) (dgs_cons (dg_nm (pg_name nd rfl (by first | exact Or.inl rfl | exact Or.inr rfl))) (dgs_cons (dg_nm (pg_name nd rfl (by first | exact Or.inl rfl | exact Or.inr rfl))) dgs_nil))) rfl rfl)) (fun _ _ _ _ _ => dts_one (dt_cmp (od_eq hr.units) (do_n (pv 17)) (do_n (pv 7)) (nomark _))) (fun _ _ _ _ _ => (dv_e (de_bin od_sub (do_n (pv 6)) (do_n (pv 5)))))))) dos_nil)))
  (dss_cons (ds_if (dt_cmp (od_ne hr.units) (do_e (dv_e (de_cb (cd_sum rfl) rfl T.z_sum (by decide +kernel) (dos_cons (do_e (dv_e (de_lc rfl nd (own := [("first", 5), ("behind_it", 6)]) (t := (.tp [(.nm 5), (.nm 6)])) (di_seq (dv_var (pv 9))) (blkOk_by (N := ["script", "state", "blocks", "sold", "numbers", "first", "behind_it", "seller", "turn", "stretches", "own", "number", "due", "free", "before", "cut", "one", "name", "k"]) (sc := defScope s_law) (own := [("first", 5), ("behind_it", 6)]) (by decide +kernel)) (by decide) (fun _ _ _ _ _ => (dg_tp rfl (dgs_cons (dg_nm (pg_name nd rfl (by first | exact Or.inl rfl | exact Or.inr rfl))) (dgs_cons (dg_nm (pg_name nd rfl (by first | exact Or.inl rfl | exact Or.inr rfl))) dgs_nil)) rfl rfl)) (fun _ _ _ _ _ => dts_nil) (fun _ _ _ _ _ => (dv_e (de_bin od_sub (do_n (pv 6)) (do_n (pv 5)))))))) dos_nil)))) (do_e (dv_e (de_bin od_sub (do_n (pv 10)) (do_e (dv_e (de_cb cd_len rfl T.z_len (by decide +kernel) (dos_cons (do_e (dv_e (de_lc rfl nd (own := [("one", 16)]) (t := (.nm 16)) (di_seq (dv_var (pv 3))) (blkOk_by (N := ["script", "state", "blocks", "sold", "numbers", "first", "behind_it", "seller", "turn", "stretches", "own", "number", "due", "free", "before", "cut", "one", "name", "k"]) (sc := defScope s_law) (own := [("one", 16)]) (by decide +kernel)) (by decide) (fun _ _ _ _ _ => (dg_nm (pg_name nd rfl (by first | exact Or.inl rfl | exact Or.inr rfl)))) (fun _ _ _ _ _ => dts_one (dt_cmp (od_eq hr.units) (do_e (dv_e (de_cf G__law_seller takes0 (hr.mono (by assumption)) rfl D__law_seller.m D__law_seller.F.kp D__law_seller.b (dos_cons (do_e (dv_var (pv 2))) (dos_cons (do_e (dv_var (pv 16))) dos_nil)) (by decide) rfl))) (do_n (pv 7)) (nomark _))) (fun _ _ _ _ _ => (dv_var (pv 16)))))) dos_nil))))))) (nomark _)) (dss_one (ds_ret (de_v dv_bl))) dss_nil)
  (dss_cons (ds_if (dt_cmp (od_ne hr.units) (do_e (dv_e (de_lc rfl nd (own := [("k", 18)]) (t := (.nm 18)) (di_range1 rfl T.z_range (dvs_cons (dv_e (de_bin od_sub (do_e (dv_e (de_cb cd_len rfl T.z_len (by decide +kernel) (dos_cons (do_n (pv 9)) dos_nil)))) (do_e dv_int))) dvs_nil)) (blkOk_by (N := ["script", "state", "blocks", "sold", "numbers", "first", "behind_it", "seller", "turn", "stretches", "own", "number", "due", "free", "before", "cut", "one", "name", "k"]) (sc := defScope s_law) (own := [("k", 18)]) (by decide +kernel)) (by decide) (fun _ _ _ _ _ => (dg_nm (pg_name nd rfl (by first | exact Or.inl rfl | exact Or.inr rfl)))) (fun _ _ _ _ _ => dts_one (dt_cmp od_ge (do_e (dv_e (de_ix ix_data (do_e (dv_e (de_ix ix_data (do_n (pv 9)) (do_n (pv 18)) (fun _ _ => rfl)))) (do_e dv_int) (fun _ _ => rfl)))) (do_e (dv_e (de_ix ix_data (do_e (dv_e (de_ix ix_data (do_n (pv 9)) (do_e (dv_e (de_bin od_add (do_n (pv 18)) (do_e dv_int)))) (fun _ _ => rfl)))) (do_e dv_int) (fun _ _ => rfl)))) (nomark _))) (fun _ _ _ _ _ => (dv_var (pv 18)))))) (do_e (dv_e (de_lst dvs_nil))) (nomark _)) (dss_one (ds_ret (de_v dv_bl))) dss_nil)
  (dss_one (ds_for (passes_of rfl) rfl (di_seq (dv_var (pv 4))) (dg_nm (pg_name nd rfl (by first | exact Or.inl rfl | exact Or.inr rfl))) (dss_cons (ds_set (i := 12) nd rfl (by first | exact Or.inl rfl | exact Or.inr rfl) (de_and (de_cmp (od_eq hr.units) (do_e (dv_e (de_cf G__law_seller tk (hr.mono (by assumption)) rfl D__law_seller.m D__law_seller.F.kp D__law_seller.b (dos_cons (do_e (dv_var (pv 2))) (dos_cons (do_e (dv_var (pv 11))) dos_nil)) (by decide) rfl))) (do_n (pv 7)) (nomark _)) (de_one (de_cmp od_nin (do_n (pv 11)) (do_n (pv 3)) (by rfl)))))
  (dss_one (ds_if (dt_w (dw_or (dt_not (dt_val (de_cf G__law_alike tk (hr.mono (by assumption)) rfl D__law_alike.m D__law_alike.F.kp D__law_alike.b (dos_cons (do_e (dv_e (de_cf G_may_sell tk (hr.mono (by assumption)) rfl D_may_sell.m D_may_sell.F.kp D_may_sell.b (dos_cons (do_e (dv_var (pv 2))) (dos_cons (do_e (dv_var (pv 3))) (dos_cons (do_e (dv_var (pv 7))) (dos_cons (do_e (dv_var (pv 11))) dos_nil)))) (by decide) rfl))) (dos_cons (do_e (dv_var (pv 12))) dos_nil)) (by decide) rfl) (fun _ => rfl))) (dw_or1 (dt_cmp (od_ne hr.units) (do_n (pv 12)) (do_e (dv_e (de_cmp (od_ne hr.units) (do_e (dv_e (de_lc rfl nd (own := [("one", 16)]) (t := (.nm 16)) (di_seq (dv_var (pv 9))) (blkOk_by (N := ["script", "state", "blocks", "sold", "numbers", "first", "behind_it", "seller", "turn", "stretches", "own", "number", "due", "free", "before", "cut", "one", "name", "k"]) (sc := defScope s_law) (own := [("one", 16)]) (by decide +kernel)) (by decide) (fun _ _ _ _ _ => (dg_nm (pg_name nd rfl (by first | exact Or.inl rfl | exact Or.inr rfl)))) (fun _ _ _ _ _ => dts_one (dt_chain od_le od_lt (do_e (dv_e (de_ix ix_data (do_n (pv 16)) (do_e dv_int) (fun _ _ => rfl)))) (do_n (pv 11)) (do_e (dv_e (de_ix ix_data (do_n (pv 16)) (do_e dv_int) (fun _ _ => rfl)))))) (fun _ _ _ _ _ => (dv_var (pv 16)))))) (do_e (dv_e (de_lst dvs_nil))) (nomark _)))) (nomark _))))) (dss_one (ds_ret (de_v dv_bl))) dss_nil)))))))))))
  (dss_cons (ds_for (passes_of rfl) rfl (di_seq (dv_var (pv 4))) (dg_nm (pg_name nd rfl (by first | exact Or.inl rfl | exact Or.inr rfl))) (dss_one (ds_if (dt_not (dt_val (de_cf G__law_alike tk (hr.mono (by assumption)) rfl D__law_alike.m D__law_alike.F.kp D__law_alike.b (dos_cons (do_e (dv_e (de_cf G_seller_of tk (hr.mono (by assumption)) rfl D_seller_of.m D_seller_of.F.kp D_seller_of.b (dos_cons (do_e (dv_var (pv 2))) (dos_cons (do_e (dv_var (pv 11))) dos_nil)) (by decide) rfl))) (dos_cons (do_e (dv_e (de_cf G__law_seller tk (hr.mono (by assumption)) rfl D__law_seller.m D__law_seller.F.kp D__law_seller.b (dos_cons (do_e (dv_var (pv 2))) (dos_cons (do_e (dv_var (pv 11))) dos_nil)) (by decide) rfl))) dos_nil)) (by decide) rfl) (fun _ => rfl))) (dss_one (ds_ret (de_v dv_bl))) dss_nil)))
  (dss_cons (ds_setLc (i := 13) rfl nd rfl rfl (sw_true rfl rfl rfl (by decide +kernel)) (own := [("one", 16)]) (t := (.nm 16)) (di_seq (dv_var (pv 4))) (blkOk_by (N := ["script", "state", "blocks", "sold", "numbers", "first", "behind_it", "seller", "turn", "stretches", "own", "number", "due", "free", "before", "cut", "one", "name", "k"]) (sc := defScope s_law) (own := [("one", 16)]) (by decide +kernel)) (by decide) (fun _ _ _ _ _ => (dg_nm (pg_name nd rfl (by first | exact Or.inl rfl | exact Or.inr rfl)))) (fun _ _ _ _ _ => dts_one (dt_w (dw_and (dt_cmp od_isn (do_e (dv_e (de_cf G__law_seller takes0 (hr.mono (by assumption)) rfl D__law_seller.m D__law_seller.F.kp D__law_seller.b (dos_cons (do_e (dv_var (pv 2))) (dos_cons (do_e (dv_var (pv 16))) dos_nil)) (by decide) rfl))) (do_e dv_non) (nomark _)) (dw_and1 (dt_cmp od_nin (do_n (pv 16)) (do_n (pv 3)) (by rfl)))))) (fun _ _ _ _ _ => (dv_var (pv 16))))
  (dss_one (ds_if (dt_cmp (od_ne hr.units) (do_n (pv 13)) (do_e (dv_e (de_lst dvs_nil))) (nomark _)) (dss_cons (ds_set (i := 11) nd rfl (by first | exact Or.inl rfl | exact Or.inr rfl) (de_ix ix_data (do_n (pv 13)) (do_e (dv_e (de_cf G__law_draw tk (hr.mono (by assumption)) rfl D__law_draw.m D__law_draw.F.kp D__law_draw.b (dos_cons (do_n (pv 1)) (dos_cons (do_e (dv_e (de_cb cd_len rfl T.z_len (by decide +kernel) (dos_cons (do_n (pv 13)) dos_nil)))) dos_nil)) (by decide) rfl))) (fun _ _ => rfl)))
  (dss_cons (ds_set (i := 7) nd rfl (by first | exact Or.inl rfl | exact Or.inr rfl) (de_cf G__law_seller tk (hr.mono (by assumption)) rfl D__law_seller.m D__law_seller.F.kp D__law_seller.b (dos_cons (do_e (dv_var (pv 2))) (dos_cons (do_e (dv_var (pv 11))) dos_nil)) (by decide) rfl))
  (dss_cons (ds_parN rfl (.cons (pg_name (i := 14) nd rfl (by first | exact Or.inl rfl | exact Or.inr rfl)) (.cons (pg_name (i := 3) nd rfl (by first | exact Or.inl rfl | exact Or.inr rfl)) .nil rfl) rfl) (das_cons (de_cf G_left tk (hr.mono (by assumption)) rfl D_left.m D_left.F.kp D_left.b (dos_cons (do_e (dv_var (pv 2))) (dos_cons (do_e (dv_var (pv 3))) (dos_cons (do_e (dv_var (pv 7))) dos_nil))) (by decide) rfl) (das_cons (de_ct cd_tuple rfl T.z_tuple (by decide +kernel) (dos_cons (do_e (dv_e (de_cb cd_sorted rfl T.z_sorted (by decide +kernel) (dos_cons (do_e (dv_e (de_bin od_add (do_n (pv 3)) (do_e (dv_tup (dvs_cons (dv_var (pv 11)) dvs_nil)))))) dos_nil)))) dos_nil)) das_nil)) (by decide) rfl rfl)
  (dss_cons (ds_set (i := 15) nd rfl (by first | exact Or.inl rfl | exact Or.inr rfl) (de_lst dvs_nil))
  (dss_cons (ds_for (passes_of rfl) rfl (di_seq (dv_var (pv 14))) (dg_tp rfl (dgs_cons (dg_nm (pg_name nd rfl (by first | exact Or.inl rfl | exact Or.inr rfl))) (dgs_cons (dg_nm (pg_name nd rfl (by first | exact Or.inl rfl | exact Or.inr rfl))) dgs_nil)) rfl rfl) (dss_one (ds_if (dt_chain od_le od_lt (do_n (pv 5)) (do_n (pv 11)) (do_n (pv 6))) (dss_one (ds_set (i := 15) nd rfl (by first | exact Or.inl rfl | exact Or.inr rfl) (de_bin od_add (do_n (pv 15)) (do_e (dv_e (de_lc rfl nd (own := [("one", 16)]) (t := (.nm 16)) (di_seq (dv_e (de_lst (dvs_cons (dv_tup (dvs_cons (dv_var (pv 5)) (dvs_cons (dv_var (pv 11)) dvs_nil))) (dvs_cons (dv_tup (dvs_cons (dv_e (de_bin od_add (do_n (pv 11)) (do_e dv_int))) (dvs_cons (dv_var (pv 6)) dvs_nil))) dvs_nil))))) (blkOk_by (N := ["script", "state", "blocks", "sold", "numbers", "first", "behind_it", "seller", "turn", "stretches", "own", "number", "due", "free", "before", "cut", "one", "name", "k"]) (sc := defScope s_law) (own := [("one", 16)]) (by decide +kernel)) (by decide) (fun _ _ _ _ _ => (dg_nm (pg_name nd rfl (by first | exact Or.inl rfl | exact Or.inr rfl)))) (fun _ _ _ _ _ => dts_one (dt_cmp od_lt (do_e (dv_e (de_ix ix_data (do_n (pv 16)) (do_e dv_int) (fun _ _ => rfl)))) (do_e (dv_e (de_ix ix_data (do_n (pv 16)) (do_e dv_int) (fun _ _ => rfl)))) (nomark _))) (fun _ _ _ _ _ => (dv_var (pv 16))))))))) (dss_one (ds_expr (de_append (pv 15) (dv_tup (dvs_cons (dv_var (pv 5)) (dvs_cons (dv_var (pv 6)) dvs_nil)))))))))
  (dss_one (ds_if (dt_not (dt_val (de_cf G__law_alike tk (hr.mono (by assumption)) rfl D__law_alike.m D__law_alike.F.kp D__law_alike.b (dos_cons (do_e (dv_e (de_cf G_left tk (hr.mono (by assumption)) rfl D_left.m D_left.F.kp D_left.b (dos_cons (do_e (dv_var (pv 2))) (dos_cons (do_e (dv_var (pv 3))) (dos_cons (do_e (dv_var (pv 7))) dos_nil))) (by decide) rfl))) (dos_cons (do_e (dv_var (pv 15))) dos_nil)) (by decide) rfl) (fun _ => rfl))) (dss_one (ds_ret (de_v dv_bl))) dss_nil))))))) dss_nil))))))
  (dss_one (ds_ret (de_v dv_bl))))))))))

end
end LW

/-! the equations of the computations, for simp: no lambda stands in them, so simp works from the left, once -/
namespace DL
open PySem L2
section
variable {α β : Type} {env e1 e2 : Env} {f f1 f2 : M D} {fa fb : M A} {t t1 t2 : M Bool} {g : D → D → Option A} {o o1 o2 o3 : Opd} {os : List Opd} {i j : Nat} {d d1 d2 : D} {a b : A} {x y : Option D}
theorem bind_ok {a : α} {k : α → M β} : R.bind (.ok a env) k = k a env := rfl
theorem bind_ex {c : Str} {k : α → M β} : R.bind (.ex c env : R α) k = .ex c env := rfl
theorem map_ok {a : α} {k : α → β} : R.map k (.ok a env) = .ok (k a) env := rfl
theorem map_ex {c : Str} {k : α → β} : R.map k (.ex c env : R α) = .ex c env := rfl
theorem s_ok {a : α} {k : α → Env → S} : R.s (.ok a env) k = k a env := rfl
theorem s_ex {c : Str} {k : α → Env → S} : R.s (.ex c env : R α) k = .ex c env := rfl
theorem bind_ite {c : Prop} [Decidable c] {x y : R α} {k : α → M β} : R.bind (if c then x else y) k = if c then R.bind x k else R.bind y k := by split <;> rfl
theorem map_ite {c : Prop} [Decidable c] {x y : R α} {k : α → β} : R.map k (if c then x else y) = if c then R.map k x else R.map k y := by split <;> rfl
theorem s_ite {c : Prop} [Decidable c] {x y : R α} {k : α → Env → S} : R.s (if c then x else y) k = if c then R.s x k else R.s y k := by split <;> rfl
theorem seq_ite {c : Prop} [Decidable c] {x y : S} {k : MS} : S.seq (if c then x else y) k = if c then S.seq x k else S.seq y k := by split <;> rfl
theorem seq_nx {k : MS} : S.seq (.nx env) k = k env := rfl
theorem seq_ret {k : MS} : S.seq (.ret a env) k = .ret a env := rfl
theorem seq_brk {k : MS} : S.seq (.brk env) k = .brk env := rfl
theorem seq_cont {k : MS} : S.seq (.cont env) k = .cont env := rfl
theorem seq_ex {c : Str} {k : MS} : S.seq (.ex c env) k = .ex c env := rfl
/-! data -/
theorem eC_eq : eC d env = .ok d env := rfl
def eVarK (env : Env) (i : Nat) : Option Slot → R D
  | some (.val d) => .ok d env
  | some (.own d) => .ok d (env.set i (.val d))
  | _ => .no
theorem eVar_eq : eVar i env = eVarK env i env[i]? := by
  unfold eVar eVarK
  cases env[i]? with
  | none => rfl
  | some s => cases s <;> rfl
theorem eVarK_val : eVarK env i (some (.val d)) = .ok d env := rfl
theorem eVarK_own : eVarK env i (some (.own d)) = .ok d (env.set i (.val d)) := rfl
theorem asA_eq : asA f env = (f env).map A.val := rfl
theorem asD_eq : asD fa env = (fa env).map A.d := rfl
theorem d_val : A.d (.val d) = d := rfl
theorem d_own : A.d (.own d) = d := rfl
def peekK : Option Slot → Option D
  | some (.val d) => some d
  | some (.own d) => some d
  | some (.io d) => some d
  | _ => none
theorem peek_eq : peek env i = peekK env[i]? := by
  unfold peek peekK
  cases env[i]? with
  | none => rfl
  | some s => cases s <;> rfl
theorem peekK_val : peekK (some (.val d)) = some d := rfl
theorem peekK_own : peekK (some (.own d)) = some d := rfl
theorem peekK_io : peekK (some (.io d)) = some d := rfl
def preK (env : Env) : Option D → R (Option D)
  | some _ => .ok none env
  | none => .no
theorem pre_e : (Opd.e f).pre env = (f env).map some := rfl
theorem pre_n : (Opd.n i).pre env = preK env (peek env i) := by
  show (match peek env i with
    | some _ => R.ok (none : Option D) env
    | none => .no) = _
  cases peek env i <;> rfl
theorem preK_some : preK env (some d) = .ok none env := rfl
theorem fin_e : (Opd.e f).fin x env = x := rfl
theorem fin_n : (Opd.n i).fin x env = peek env i := rfl
def lift (env : Env) : Option A → R A
  | some r => .ok r env
  | none => .no
theorem lift_some : lift env (some a) = .ok a env := rfl
theorem lift_ite {c : Prop} [Decidable c] {x y : Option A} : lift env (if c then x else y) = if c then lift env x else lift env y := by split <;> rfl
def fin2 (g : D → D → Option A) (env : Env) : Option D → Option D → R A
  | some d1, some d2 => lift env (g d1 d2)
  | _, _ => .no
theorem fin2_some : fin2 g env (some d1) (some d2) = lift env (g d1 d2) := rfl
def fin1 (g : D → Option A) (env : Env) : Option D → R A
  | some d1 => lift env (g d1)
  | _ => .no
theorem fin1_some {g : D → Option A} : fin1 g env (some d1) = lift env (g d1) := rfl
def eBin2 (g : D → D → Option A) (o1 o2 : Opd) (x y : Option D) (env : Env) : R A := fin2 g env (o1.fin x env) (o2.fin y env)
def eBin1 (g : D → D → Option A) (o1 o2 : Opd) (x : Option D) (env : Env) : R A := (o2.pre env).bind (eBin2 g o1 o2 x)
theorem eBin_eq : eBin g o1 o2 env = (o1.pre env).bind (eBin1 g o1 o2) := by rfl
theorem eBin1_eq : eBin1 g o1 o2 x env = (o2.pre env).bind (eBin2 g o1 o2 x) := rfl
theorem eBin2_eq : eBin2 g o1 o2 x y env = fin2 g env (o1.fin x env) (o2.fin y env) := rfl
def eUn1 (g : D → Option A) (o1 : Opd) (x : Option D) (env : Env) : R A := fin1 g env (o1.fin x env)
theorem eUn_eq {g : D → Option A} : eUn g o env = (o.pre env).bind (eUn1 g o) := by rfl
theorem eUn1_eq {g : D → Option A} : eUn1 g o x env = fin1 g env (o.fin x env) := rfl
/-! tests -/
def tstB (env : Env) : Option Bool → R Bool
  | some b => .ok b env
  | none => .no
def tstK : R A → R Bool
  | .ok a e => tstB e (bOf a)
  | .ex c e => .ex c e
  | .no => .no
theorem tst_eq : tst fa env = tstK (fa env) := by
  unfold tst tstK
  cases fa env with
  | ok a e => simp only []; cases bOf a <;> rfl
  | ex c e => rfl
  | no => rfl
theorem tstK_ok {b : Bool} : tstK (.ok (.val (.bl b)) env) = .ok b env := rfl
theorem tstK_ex {c : Str} : tstK (.ex c env) = .ex c env := rfl
theorem tstK_ite {c : Prop} [Decidable c] {x y : R A} : tstK (if c then x else y) = if c then tstK x else tstK y := by split <;> rfl
theorem bNot_eq : bNot t env = (t env).map not := rfl
def andK (g : M Bool) (b : Bool) (env : Env) : R Bool := if b = true then g env else .ok false env
def orK (g : M Bool) (b : Bool) (env : Env) : R Bool := if b = true then .ok true env else g env
theorem bAnd_eq : bAnd t1 t2 env = (t1 env).bind (andK t2) := rfl
theorem bOr_eq : bOr t1 t2 env = (t1 env).bind (orK t2) := rfl
theorem andK_eq {b : Bool} : andK t b env = if b = true then t env else .ok false env := rfl
theorem orK_eq {b : Bool} : orK t b env = if b = true then .ok true env else t env := rfl
theorem bYes_eq : bYes env = .ok true env := rfl
def eAndK (g : M A) (a : A) (env : Env) : R A := match bOf a with
  | some true => g env
  | some false => .ok (.val (.bl false)) env
  | none => .no
def eOrK (g : M A) (a : A) (env : Env) : R A := match bOf a with
  | some true => .ok (.val (.bl true)) env
  | some false => g env
  | none => .no
theorem eAnd_eq : eAnd fa fb env = (fa env).bind (eAndK fb) := rfl
theorem eOr_eq : eOr fa fb env = (fa env).bind (eOrK fb) := rfl
theorem eAndK_bl {b : Bool} : eAndK fa (.val (.bl b)) env = if b = true then fa env else .ok (.val (.bl false)) env := by cases b <;> rfl
theorem eOrK_bl {b : Bool} : eOrK fa (.val (.bl b)) env = if b = true then .ok (.val (.bl true)) env else fa env := by cases b <;> rfl
def eNotK (a : A) (env : Env) : R A := match bOf a with
  | some b => .ok (.val (.bl (!b))) env
  | none => .no
theorem eNot_eq : eNot fa env = (fa env).bind eNotK := by
  unfold eNot eNotK R.bind
  cases fa env with
  | ok a e => rfl
  | ex c e => rfl
  | no => rfl
theorem eNotK_bl {b : Bool} : eNotK (.val (.bl b)) env = .ok (.val (.bl (!b))) env := rfl
def eIfK (f g : M A) (b : Bool) (env : Env) : R A := if b = true then f env else g env
theorem eIf_eq : eIf t fa fb env = (t env).bind (eIfK fa fb) := rfl
theorem eIfK_eq {b : Bool} : eIfK fa fb b env = if b = true then fa env else fb env := rfl
/-! lists of expressions -/
def evsK (fs : List (M D)) (d : D) (env : Env) : R (List D) := (evs fs env).map (d :: ·)
theorem evs_nil : evs [] env = .ok [] env := rfl
theorem evs_cons {fs : List (M D)} : evs (f :: fs) env = (f env).bind (evsK fs) := rfl
theorem evsK_eq {fs : List (M D)} : evsK fs d env = (evs fs env).map (d :: ·) := rfl
def evsAK (fs : List (M A)) (d : A) (env : Env) : R (List A) := (evsA fs env).map (d :: ·)
theorem evsA_nil : evsA [] env = .ok [] env := rfl
theorem evsA_cons {fs : List (M A)} : evsA (fa :: fs) env = (fa env).bind (evsAK fs) := rfl
theorem evsAK_eq {fs : List (M A)} : evsAK fs a env = (evsA fs env).map (a :: ·) := rfl
theorem eTup_eq {fs : List (M D)} : eTup fs env = (evs fs env).map .tup := rfl
def ownLst (ds : List D) : A := .own (.lst ds)
theorem eLst_eq {fs : List (M D)} : eLst fs env = (evs fs env).map ownLst := rfl
theorem ownLst_eq {ds : List D} : ownLst ds = .own (.lst ds) := rfl
def preAllK (os : List Opd) (x : Option D) (env : Env) : R (List (Option D)) := (preAll os env).map (x :: ·)
theorem preAll_nil : preAll [] env = .ok [] env := rfl
theorem preAll_cons : preAll (o :: os) env = (o.pre env).bind (preAllK os) := rfl
theorem preAllK_eq : preAllK os x env = (preAll os env).map (x :: ·) := rfl
def consK : Option D → Option (List D) → Option (List D)
  | some d, some ds => some (d :: ds)
  | _, _ => none
theorem finAll_nil : finAll [] [] env = some [] := rfl
theorem finAll_cons {xs : List (Option D)} : finAll (o :: os) (x :: xs) env = consK (o.fin x env) (finAll os xs env) := by
  show (match o.fin x env, finAll os xs env with
    | some d, some ds => some (d :: ds)
    | _, _ => none) = _
  cases o.fin x env <;> cases finAll os xs env <;> rfl
theorem consK_some {ds : List D} : consK (some d) (some ds) = some (d :: ds) := rfl
def finL (g : List D → Option A) (env : Env) : Option (List D) → R A
  | some ds => lift env (g ds)
  | none => .no
theorem finL_some {g : List D → Option A} {ds : List D} : finL g env (some ds) = lift env (g ds) := rfl
def eCBK (g : List D → Option A) (os : List Opd) (xs : List (Option D)) (env : Env) : R A := finL g env (finAll os xs env)
theorem eCB_eq {g : List D → Option A} : eCB g os env = (preAll os env).bind (eCBK g os) := by rfl
theorem eCBK_eq {g : List D → Option A} {xs : List (Option D)} : eCBK g os xs env = finL g env (finAll os xs env) := rfl
/-! calls of defs -/
def eCFR (os : List Opd) (env : Env) : R A → R A
  | .ok a ss => .ok a (putB os ss 0 env)
  | .ex c ss => .ex c (putB os ss 0 env)
  | .no => .no
def eCF1 (F : M A) (os : List Opd) (env : Env) : Option Env → R A
  | some ss => eCFR os env (F ss)
  | none => .no
def eCFK (F : M A) (os : List Opd) (xs : List (Option D)) (env : Env) : R A := eCF1 F os env (argSlots os xs env)
theorem eCF_eq {F : M A} : eCF F os env = (preAll os env).bind (eCFK F os) := by rfl
theorem eCFK_eq {F : M A} {xs : List (Option D)} : eCFK F os xs env = eCF1 F os env (argSlots os xs env) := rfl
theorem eCF1_some {F : M A} {ss : Env} : eCF1 F os env (some ss) = eCFR os env (F ss) := rfl
theorem eCFR_ok {ss : Env} : eCFR os env (.ok a ss) = .ok a (putB os ss 0 env) := rfl
theorem eCFR_ex {ss : Env} {c : Str} : eCFR os env (.ex c ss) = .ex c (putB os ss 0 env) := rfl
theorem eCFR_ite {c : Prop} [Decidable c] {x y : R A} : eCFR os env (if c then x else y) = if c then eCFR os env x else eCFR os env y := by split <;> rfl
def sconsK : Option Slot → Option Env → Option Env
  | some s, some ss => some (s :: ss)
  | _, _ => none
theorem argSlots_nil : argSlots [] [] env = some [] := rfl
theorem argSlots_cons {xs : List (Option D)} : argSlots (o :: os) (x :: xs) env = sconsK (argSlot o x env) (argSlots os xs env) := by
  show (match argSlot o x env, argSlots os xs env with
    | some s, some ss => some (s :: ss)
    | _, _ => none) = _
  cases argSlot o x env <;> cases argSlots os xs env <;> rfl
theorem sconsK_some {s : Slot} {ss : Env} : sconsK (some s) (some ss) = some (s :: ss) := rfl
theorem argSlot_e : argSlot (.e f) (some d) env = some (.val d) := rfl
def argK : Option Slot → Option Slot
  | some (.val d) => some (.val d)
  | some (.own d) => some (.io d)
  | some (.io d) => some (.io d)
  | _ => none
theorem argSlot_n' : argSlot (.n i) x env = argK env[i]? := by
  rw [argSlot_n]
  unfold argK
  cases env[i]? with
  | none => rfl
  | some s => cases s <;> rfl
theorem argK_val : argK (some (.val d)) = some (.val d) := rfl
theorem argK_own : argK (some (.own d)) = some (.io d) := rfl
theorem argK_io : argK (some (.io d)) = some (.io d) := rfl
theorem putB_nil {ss : Env} : putB os ss i [] = [] := rfl
theorem putB_cons {ss : Env} {s : Slot} : putB os ss i (s :: env) = putS (lookIo os ss i) s :: putB os ss (i + 1) env := rfl
theorem putS_none {s : Slot} : putS none s = s := by cases s <;> rfl
theorem putS_own : putS (some d) (.own d1) = .own d := rfl
theorem putS_io : putS (some d) (.io d1) = .io d := rfl
theorem putS_val : putS x (.val d1) = .val d1 := by cases x <;> rfl
theorem putS_un : putS x .un = .un := by cases x <;> rfl
theorem look_nil {ss : Env} : lookIo [] ss i = none := by cases ss <;> rfl
theorem look_e {s : Slot} {ss : Env} : lookIo (.e f :: os) (s :: ss) i = lookIo os ss i := rfl
theorem look_nv {ss : Env} : lookIo (.n j :: os) (.val d :: ss) i = lookIo os ss i := rfl
theorem look_nu {ss : Env} : lookIo (.n j :: os) (.un :: ss) i = lookIo os ss i := rfl
theorem look_nio {ss : Env} : lookIo (.n j :: os) (.io d :: ss) i = if j = i then some d else lookIo os ss i := rfl
/-! chains, slices -/
def eCh3 (g' : D → D → Option A) (o2 o3 : Opd) (y z : Option D) (env : Env) : R A := fin2 g' env (o2.fin y env) (o3.fin z env)
def eCh2 (g' : D → D → Option A) (o2 o3 : Opd) (y : Option D) (a : A) (env : Env) : R A := match bOf a with
  | some true => (o3.pre env).bind (eCh3 g' o2 o3 y)
  | some false => .ok (.val (.bl false)) env
  | none => .no
def eCh1 (g g' : D → D → Option A) (o1 o2 o3 : Opd) (x y : Option D) (env : Env) : R A := (fin2 g env (o1.fin x env) (o2.fin y env)).bind (eCh2 g' o2 o3 y)
def eCh0 (g g' : D → D → Option A) (o1 o2 o3 : Opd) (x : Option D) (env : Env) : R A := (o2.pre env).bind (eCh1 g g' o1 o2 o3 x)
theorem eChain_eq {g' : D → D → Option A} : eChain g g' o1 o2 o3 env = (o1.pre env).bind (eCh0 g g' o1 o2 o3) := by
  refine congrArg (R.bind (o1.pre env)) (funext fun x => funext fun e => congrArg (R.bind (o2.pre e)) (funext fun y => funext fun e' => ?_))
  show _ = (fin2 g e' (o1.fin x e') (o2.fin y e')).bind (eCh2 g' o2 o3 y)
  cases o1.fin x e' <;> cases o2.fin y e' <;> try rfl
  rename_i d1 d2
  show (match g d1 d2 with
    | some r => (match bOf r with
      | some true => (o3.pre e').bind _
      | some false => .ok (.val (.bl false)) e'
      | none => .no)
    | none => .no) = (lift e' (g d1 d2)).bind (eCh2 g' o2 o3 y)
  cases g d1 d2 with
  | none => rfl
  | some r =>
    show (match bOf r with
      | some true => (o3.pre e').bind _
      | some false => .ok (.val (.bl false)) e'
      | none => .no) = eCh2 g' o2 o3 y r e'
    unfold eCh2
    cases bOf r with
    | none => rfl
    | some b => cases b <;> rfl
theorem eCh0_eq {g' : D → D → Option A} : eCh0 g g' o1 o2 o3 x env = (o2.pre env).bind (eCh1 g g' o1 o2 o3 x) := rfl
theorem eCh1_eq {g' : D → D → Option A} : eCh1 g g' o1 o2 o3 x y env = (fin2 g env (o1.fin x env) (o2.fin y env)).bind (eCh2 g' o2 o3 y) := rfl
theorem eCh2_bl {g' : D → D → Option A} {b : Bool} : eCh2 g' o2 o3 y (.val (.bl b)) env = if b = true then (o3.pre env).bind (eCh3 g' o2 o3 y) else .ok (.val (.bl false)) env := by cases b <;> rfl
theorem eCh3_eq {g' : D → D → Option A} {z : Option D} : eCh3 g' o2 o3 y z env = fin2 g' env (o2.fin y env) (o3.fin z env) := rfl
def partK (d : D) (env : Env) : R (Option Int) := match d with
  | .int i => .ok (some i) env
  | _ => .no
theorem part_none : part none env = .ok none env := rfl
theorem part_some : part (some f) env = (f env).bind partK := by
  show (match f env with
    | .ok (.int i) e => R.ok (some i) e
    | .ok _ _ => .no
    | .ex c e => .ex c e
    | .no => .no) = _
  unfold R.bind partK
  cases f env with
  | ok d e => cases d <;> rfl
  | ex c e => rfl
  | no => rfl
theorem partK_int {n : Int} : partK (.int n) env = .ok (some n) env := rfl
def fin3 (g : D → Option Int → Option Int → Option A) (env : Env) (l h : Option Int) : Option D → R A
  | some d => lift env (g d l h)
  | none => .no
theorem fin3_some {g : D → Option Int → Option Int → Option A} {l h : Option Int} : fin3 g env l h (some d) = lift env (g d l h) := rfl
def eSl2 (g : D → Option Int → Option Int → Option A) (o : Opd) (x : Option D) (l h : Option Int) (env : Env) : R A := fin3 g env l h (o.fin x env)
def eSl1 (g : D → Option Int → Option Int → Option A) (o : Opd) (hi : Option (M D)) (x : Option D) (l : Option Int) (env : Env) : R A := (part hi env).bind (eSl2 g o x l)
def eSl0 (g : D → Option Int → Option Int → Option A) (o : Opd) (lo hi : Option (M D)) (x : Option D) (env : Env) : R A := (part lo env).bind (eSl1 g o hi x)
theorem eSl_eq {g : D → Option Int → Option Int → Option A} {lo hi : Option (M D)} : eSl g o lo hi env = (o.pre env).bind (eSl0 g o lo hi) := by rfl
theorem eSl0_eq {g : D → Option Int → Option Int → Option A} {lo hi : Option (M D)} : eSl0 g o lo hi x env = (part lo env).bind (eSl1 g o hi x) := rfl
theorem eSl1_eq {g : D → Option Int → Option Int → Option A} {hi : Option (M D)} {l : Option Int} : eSl1 g o hi x l env = (part hi env).bind (eSl2 g o x l) := rfl
theorem eSl2_eq {g : D → Option Int → Option Int → Option A} {l h : Option Int} : eSl2 g o x l h env = fin3 g env l h (o.fin x env) := rfl
/-! isinstance -/
theorem eIsi_eq {T : String} : eIsi o T env = eUn (fun d => (isiB d T).map fun b => .val (.bl b)) o env := rfl
/-! methods -/
def appK (i : Nat) (d : D) (env : Env) : R A := match pushE env i d with
  | some e2 => .ok (.val .non) e2
  | none => .no
theorem eApp_eq : eApp i f env = if ownL env i = true then (f env).bind (appK i) else .no := rfl
def ownLK : Option Slot → Bool
  | some (.own (.lst _)) => true
  | some (.io (.lst _)) => true
  | _ => false
theorem ownL_eq : ownL env i = ownLK env[i]? := by
  unfold ownL ownLK
  cases env[i]? with
  | none => rfl
  | some s => cases s <;> first | rfl | (rename_i d; cases d <;> rfl)
theorem ownLK_own {ds : List D} : ownLK (some (.own (.lst ds))) = true := rfl
theorem ownLK_io {ds : List D} : ownLK (some (.io (.lst ds))) = true := rfl
def appK2 (env : Env) (i : Nat) (d : D) : Option Slot → R A
  | some (.own (.lst ds)) => if ds.length < sizeLine then .ok (.val .non) (env.set i (.own (.lst (ds ++ [d])))) else .no
  | some (.io (.lst ds)) => if ds.length < sizeLine then .ok (.val .non) (env.set i (.io (.lst (ds ++ [d])))) else .no
  | _ => .no
theorem appK_eq : appK i d env = appK2 env i d env[i]? := by
  unfold appK pushE appK2
  cases env[i]? with
  | none => rfl
  | some s =>
    cases s with
    | own c => cases c with
      | lst ds => simp only []; split <;> (first | rfl | (split <;> simp_all) | simp_all)
      | _ => rfl
    | io c => cases c with
      | lst ds => simp only []; split <;> (first | rfl | (split <;> simp_all) | simp_all)
      | _ => rfl
    | _ => rfl
theorem appK2_own {ds : List D} : appK2 env i d (some (.own (.lst ds))) = if ds.length < sizeLine then .ok (.val .non) (env.set i (.own (.lst (ds ++ [d])))) else .no := rfl
theorem appK2_io {ds : List D} : appK2 env i d (some (.io (.lst ds))) = if ds.length < sizeLine then .ok (.val .non) (env.set i (.io (.lst (ds ++ [d])))) else .no := rfl
def popK (env : Env) (i : Nat) : Option Slot → R A
  | some (.own (.lst ds)) => (match ds.getLast? with
    | some d => .ok (.val d) (env.set i (.own (.lst ds.dropLast)))
    | none => .no)
  | some (.io (.lst ds)) => (match ds.getLast? with
    | some d => .ok (.val d) (env.set i (.io (.lst ds.dropLast)))
    | none => .no)
  | _ => .no
theorem ePop_eq : ePop i env = popK env i env[i]? := by
  unfold ePop popE popK
  cases env[i]? with
  | none => rfl
  | some s =>
    cases s with
    | own c => cases c with
      | lst ds => simp only []; cases ds.getLast? <;> rfl
      | _ => rfl
    | io c => cases c with
      | lst ds => simp only []; cases ds.getLast? <;> rfl
      | _ => rfl
    | _ => rfl
/-! comprehensions -/
def eLcK (vs : List Nat) (e : Env) : Option (List D × Env) → R A
  | some (xs, b') => .ok (.own (.lst xs)) (unwipe vs e b')
  | none => .no
def eLc2 (vs : List Nat) (tg : Tgt) (ft : M Bool) (fe : M D) (ds : List D) (e : Env) : Option Env → R A
  | some b => eLcK vs e (lcGo vs tg ft fe ds b [])
  | none => .no
def eLc1 (vs : List Nat) (tg : Tgt) (ft : M Bool) (fe : M D) (ds : List D) (e : Env) : R A := eLc2 vs tg ft fe ds e (wipeE vs e)
theorem eLc_eq {vs : List Nat} {tg : Tgt} {fi : M (List D)} : eLc vs tg fi t f env = (fi env).bind (eLc1 vs tg t f) := by
  refine congrArg (R.bind (fi env)) (funext fun ds => funext fun e => ?_)
  show _ = eLc2 vs tg t f ds e (wipeE vs e)
  cases wipeE vs e with
  | none => rfl
  | some b =>
    show (match lcGo vs tg t f ds b [] with
      | some (xs, b') => R.ok (.own (.lst xs)) (unwipe vs e b')
      | none => .no) = eLcK vs e (lcGo vs tg t f ds b [])
    cases lcGo vs tg t f ds b [] <;> rfl
theorem eLc1_eq {vs : List Nat} {tg : Tgt} {ds : List D} : eLc1 vs tg t f ds env = eLc2 vs tg t f ds env (wipeE vs env) := rfl
theorem eLc2_some {vs : List Nat} {tg : Tgt} {ds : List D} : eLc2 vs tg t f ds env (some e1) = eLcK vs env (lcGo vs tg t f ds e1 []) := rfl
theorem eLcK_some {vs : List Nat} {ds : List D} : eLcK vs env (some (ds, e1)) = .ok (.own (.lst ds)) (unwipe vs env e1) := rfl
def wipeK2 (i : Nat) (e : Env) : Option Slot → Option Env
  | some (.own _) => none
  | some (.io _) => none
  | _ => some (e.set i .un)
def wipeK (i : Nat) : Option Env → Option Env
  | some e => wipeK2 i e e[i]?
  | none => none
theorem wipeE_nil : wipeE [] env = some env := rfl
theorem wipeE_cons {is : List Nat} : wipeE (i :: is) env = wipeK i (wipeE is env) := by
  show (match wipeE is env with
    | some e => (match e[i]? with
      | some (.own _) => none
      | some (.io _) => none
      | _ => some (e.set i .un))
    | none => none) = _
  cases wipeE is env with
  | none => rfl
  | some e =>
    show (match e[i]? with
      | some (.own _) => none
      | some (.io _) => none
      | _ => some (e.set i .un)) = wipeK2 i e e[i]?
    cases e[i]? with
    | none => rfl
    | some s => cases s <;> rfl
theorem wipeK_some : wipeK i (some env) = wipeK2 i env env[i]? := rfl
theorem wipeK2_un : wipeK2 i env (some .un) = some (env.set i .un) := rfl
theorem wipeK2_val : wipeK2 i env (some (.val d)) = some (env.set i .un) := rfl
theorem unwipe_nil : unwipe [] env e1 = e1 := rfl
def unwK (e1 : Env) (i : Nat) : Option Slot → Env
  | some s => e1.set i s
  | none => e1
theorem unwipe_cons {is : List Nat} : unwipe (i :: is) env e1 = unwipe is env (unwK e1 i env[i]?) := by
  show unwipe is env (match env[i]? with
      | some s => e1.set i s
      | none => e1) = _
  cases env[i]? <;> rfl
theorem unwK_some {s : Slot} : unwK e1 i (some s) = e1.set i s := rfl
/-! walks -/
def seqK (d : D) (env : Env) : R (List D) := match itemsD d with
  | some ds => .ok ds env
  | none => .no
theorem iSeq_eq : iSeq f env = (f env).bind seqK := rfl
theorem seqK_lst {ds : List D} : seqK (.lst ds) env = .ok ds env := rfl
theorem seqK_tup {ds : List D} : seqK (.tup ds) env = .ok ds env := rfl
theorem seqK_str {z : Str} : seqK (.str z) env = .ok (signs z) env := rfl
def iOfK2 (env : Env) : Option (List D) → R (List D)
  | some xs => .ok xs env
  | none => .no
def iOfK (g : List D → Option (List D)) (ds : List D) (env : Env) : R (List D) := iOfK2 env (g ds)
theorem iOf_eq {g : List D → Option (List D)} {fs : List (M D)} : iOf g fs env = (evs fs env).bind (iOfK g) := by rfl
theorem iOfK_eq {g : List D → Option (List D)} {ds : List D} : iOfK g ds env = iOfK2 env (g ds) := rfl
theorem iOfK2_some {ds : List D} : iOfK2 env (some ds) = .ok ds env := rfl
def keysK (a : A) (env : Env) : R (List D) := match a with
  | .own (.dic ks _) => .ok (ks.map keyD) env
  | _ => .no
theorem iKeysN_eq : iKeysN fa env = (fa env).bind keysK := rfl
theorem keysK_dic {ks : List Key} {ds : List D} : keysK (.own (.dic ks ds)) env = .ok (ks.map keyD) env := rfl
/-! statements -/
variable {p q : MS}
theorem sNext_eq : sNext env = .nx env := rfl
theorem sBrk_eq : sBrk env = .brk env := rfl
theorem sCont_eq : sCont env = .cont env := rfl
theorem sSeq_eq : sSeq p q env = S.seq (p env) q := rfl
def sIfK (f g : MS) (b : Bool) (e : Env) : S := if b = true then f e else g e
theorem sIf_eq : sIf t p q env = (t env).s (sIfK p q) := rfl
theorem sIfK_eq {b : Bool} : sIfK p q b env = if b = true then p env else q env := rfl
theorem sRet_eq : sRet fa env = (fa env).s .ret := rfl
def sRetK (env : Env) (i : Nat) : Option Slot → S
  | some (.val d) => .ret (.val d) env
  | some (.own d) => .ret (.own d) (env.set i .un)
  | _ => .no
theorem sRetN_eq : sRetN i env = sRetK env i env[i]? := by
  unfold sRetN sRetK
  cases env[i]? with
  | none => rfl
  | some s => cases s <;> rfl
theorem sRetK_val : sRetK env i (some (.val d)) = .ret (.val d) env := rfl
theorem sRetK_own : sRetK env i (some (.own d)) = .ret (.own d) (env.set i .un) := rfl
def dropK2 (a : A) (e : Env) : S := .nx e
theorem sExpr_eq : sExpr fa env = (fa env).s dropK2 := rfl
theorem dropK2_eq : dropK2 a env = .nx env := rfl
def ioK : Option Slot → Bool
  | some (.io _) => true
  | none => true
  | _ => false
theorem ioAt_eq : ioAt env i = ioK env[i]? := by
  unfold ioAt ioK
  cases env[i]? with
  | none => rfl
  | some s => cases s <;> rfl
theorem ioK_un : ioK (some .un) = false := rfl
theorem ioK_val : ioK (some (.val d)) = false := rfl
theorem ioK_own : ioK (some (.own d)) = false := rfl
theorem slotOf_val : slotOf (.val d) = .val d := rfl
theorem slotOf_own : slotOf (.own d) = .own d := rfl
def sSetK (i : Nat) (a : A) (e : Env) : S := if ioAt e i = true then .no else .nx (e.set i (slotOf a))
theorem sSet_eq : sSet i fa env = (fa env).s (sSetK i) := rfl
theorem sSetK_eq : sSetK i a env = if ioAt env i = true then .no else .nx (env.set i (slotOf a)) := rfl
def nxO : Option Env → S
  | some e => .nx e
  | none => .no
theorem nxO_some : nxO (some env) = .nx env := rfl
theorem nxO_none : nxO none = .no := rfl
def sAsgK (tg : Tgt) (d : D) (e : Env) : S := nxO (sto tg d e)
theorem sAsg_eq {tg : Tgt} : sAsg tg f env = (f env).s (sAsgK tg) := by 
  unfold sAsg sAsgK nxO R.s
  cases f env with
  | ok d e => first | rfl | (simp only []; cases sto tg d e <;> rfl)
  | ex c e => rfl
  | no => rfl
theorem sAsgK_eq {tg : Tgt} : sAsgK tg d env = nxO (sto tg d env) := rfl
def sParK (is : List Nat) (as : List A) (e : Env) : S := nxO (stoN is as e)
theorem sPar_eq {is : List Nat} {fs : List (M A)} : sPar is fs env = (evsA fs env).s (sParK is) := by 
  unfold sPar sParK nxO R.s
  cases evsA fs env with
  | ok d e => first | rfl | (simp only []; cases stoN is d e <;> rfl)
  | ex c e => rfl
  | no => rfl
theorem sParK_eq {is : List Nat} {as : List A} : sParK is as env = nxO (stoN is as env) := rfl
theorem stoN_nil : stoN [] [] env = some env := rfl
theorem stoN_cons {is : List Nat} {as : List A} : stoN (i :: is) (a :: as) env = if ioAt env i = true then none else stoN is as (env.set i (slotOf a)) := rfl
theorem sto_nm : sto (.nm i) d env = if ioAt env i = true then none else some (env.set i (.val d)) := by rw [sto]
theorem sto_tp {ts : List Tgt} {ds : List D} : sto (.tp ts) (.tup ds) env = stos ts ds env := by rw [sto]
def stosK (ts : List Tgt) (ds : List D) : Option Env → Option Env
  | some e1 => stos ts ds e1
  | none => none
theorem stos_nil : stos [] [] env = some env := by rw [stos]
theorem stos_cons {tg : Tgt} {ts : List Tgt} {ds : List D} : stos (tg :: ts) (d :: ds) env = stosK ts ds (sto tg d env) := by
  rw [stos]; cases sto tg d env <;> rfl
theorem stosK_some {ts : List Tgt} {ds : List D} : stosK ts ds (some env) = stos ts ds env := rfl
def sSub2 (i : Nat) (o : Opd) (d : D) (x : Option D) (e : Env) : S := nxO (setSub e i (o.fin x e) d)
def sSub1 (i : Nat) (o : Opd) (d : D) (e : Env) : Option D → S
  | none => .no
  | some _ => (o.pre e).s (sSub2 i o d)
def sSub0 (i : Nat) (o : Opd) (d : D) (e : Env) : S := sSub1 i o d e (peek e i)
theorem sSub_eq : sSub i o f env = (f env).s (sSub0 i o) := by rfl
theorem sSub0_eq : sSub0 i o d env = sSub1 i o d env (peek env i) := rfl
theorem sSub1_some : sSub1 i o d env (some d1) = (o.pre env).s (sSub2 i o d) := rfl
theorem sSub2_eq : sSub2 i o d x env = nxO (setSub env i (o.fin x env) d) := rfl
def setK (env : Env) (i : Nat) (d : D) : Option Slot → Option D → Option Env
  | some (.own (.lst ds)), some (.int k) => (ixN ds.length k).map fun j => env.set i (.own (.lst (ds.set j d)))
  | some (.io (.lst ds)), some (.int k) => (ixN ds.length k).map fun j => env.set i (.io (.lst (ds.set j d)))
  | _, _ => none
theorem setSub_eq : setSub env i x d = setK env i d env[i]? x := by
  unfold setSub setK
  cases env[i]? with
  | none => rfl
  | some s => rfl
theorem setK_own {ds : List D} {k : Int} : setK env i d (some (.own (.lst ds))) (some (.int k)) = (ixN ds.length k).map fun j => env.set i (.own (.lst (ds.set j d))) := rfl
theorem setK_io {ds : List D} {k : Int} : setK env i d (some (.io (.lst ds))) (some (.int k)) = (ixN ds.length k).map fun j => env.set i (.io (.lst (ds.set j d))) := rfl
def nxU (_ : Unit) (e : Env) : S := .nx e
theorem nxU_eq {u : Unit} : nxU u env = .nx env := rfl
def sParS0 (ts : List (Nat × Opd)) (ds : List D) (e : Env) : S := (stoS ts ds e).s nxU
theorem sParS_eq {ts : List (Nat × Opd)} {fs : List (M D)} : sParS ts fs env = (evs fs env).s (sParS0 ts) := rfl
theorem sParS0_eq {ts : List (Nat × Opd)} {ds : List D} : sParS0 ts ds env = (stoS ts ds env).s nxU := rfl
def stoS2 (ts : List (Nat × Opd)) (ds : List D) : Option Env → R Unit
  | some e2 => stoS ts ds e2
  | none => .no
def stoS1 (i : Nat) (o : Opd) (ts : List (Nat × Opd)) (d : D) (ds : List D) (x : Option D) (e : Env) : R Unit := stoS2 ts ds (setSub e i (o.fin x e) d)
def stoS0 (i : Nat) (o : Opd) (ts : List (Nat × Opd)) (d : D) (ds : List D) (e : Env) : Option D → R Unit
  | none => .no
  | some _ => (o.pre e).bind (stoS1 i o ts d ds)
theorem stoS_nil : stoS [] [] env = .ok () env := rfl
theorem stoS_cons {ts : List (Nat × Opd)} {ds : List D} : stoS ((i, o) :: ts) (d :: ds) env = stoS0 i o ts d ds env (peek env i) := by 
  show (match peek env i with
    | none => R.no
    | some _ => (o.pre env).bind fun a e1 => match setSub e1 i (o.fin a e1) d with
      | some e2 => stoS ts ds e2
      | none => .no) = _
  unfold stoS0
  cases peek env i <;> rfl
theorem stoS0_some {ts : List (Nat × Opd)} {ds : List D} : stoS0 i o ts d ds env (some d1) = (o.pre env).bind (stoS1 i o ts d ds) := rfl
theorem stoS1_eq {ts : List (Nat × Opd)} {ds : List D} : stoS1 i o ts d ds x env = stoS2 ts ds (setSub env i (o.fin x env) d) := rfl
theorem stoS2_some {ts : List (Nat × Opd)} {ds : List D} : stoS2 ts ds (some env) = stoS ts ds env := rfl
def sAug1 (i : Nat) (e : Env) : Option A → S
  | some a => sSetK i a e
  | none => .no
def sAug0 (i : Nat) (g : D → D → Option A) (x : D) (y : D) (e : Env) : S := sAug1 i e (g x y)
def sAugK (i : Nat) (g : D → D → Option A) (f : M D) (env : Env) : Option Slot → S
  | some (.val x) => (f env).s (sAug0 i g x)
  | _ => .no
theorem sAug_eq : sAug i g f env = sAugK i g f env env[i]? := by 
  unfold sAug sAugK
  cases env[i]? with
  | none => rfl
  | some s => cases s <;> rfl
theorem sAugK_val : sAugK i g f env (some (.val d)) = (f env).s (sAug0 i g d) := rfl
theorem sAug0_eq : sAug0 i g d d1 env = sAug1 i env (g d d1) := rfl
theorem sAug1_some : sAug1 i env (some a) = sSetK i a env := rfl
theorem sFor_eq {tg : Tgt} {fi : M (List D)} : sFor tg fi p env = (fi env).s (forGo tg p) := rfl
theorem for_nil {tg : Tgt} : forGo tg p [] env = .nx env := rfl
def forK2 (k : MS) : S → S
  | .nx e2 => k e2
  | .cont e2 => k e2
  | .brk e2 => .nx e2
  | r => r
def forK (p k : MS) : Option Env → S
  | none => .no
  | some e1 => forK2 k (p e1)
theorem for_cons {tg : Tgt} {ds : List D} : forGo tg p (d :: ds) env = forK p (forGo tg p ds) (sto tg d env) := by
  show (match sto tg d env with
    | none => S.no
    | some e1 => (match p e1 with
      | .nx e2 => forGo tg p ds e2
      | .cont e2 => forGo tg p ds e2
      | .brk e2 => .nx e2
      | r => r)) = _
  unfold forK forK2
  cases sto tg d env with
  | none => rfl
  | some e1 => simp only []
theorem forK_some {k : MS} : forK p k (some env) = forK2 k (p env) := rfl
theorem forK2_nx {k : MS} : forK2 k (.nx env) = k env := rfl
theorem forK2_cont {k : MS} : forK2 k (.cont env) = k env := rfl
theorem forK2_brk {k : MS} : forK2 k (.brk env) = .nx env := rfl
theorem forK2_ret {k : MS} : forK2 k (.ret a env) = .ret a env := rfl
theorem forK2_ex {k : MS} {c : Str} : forK2 k (.ex c env) = .ex c env := rfl
theorem forK2_ite {c : Prop} [Decidable c] {x y : S} {k : MS} : forK2 k (if c then x else y) = if c then forK2 k x else forK2 k y := by split <;> rfl
def mkK (as : Env) : S → R A
  | .ret a e => .ok a (DL.fin as e)
  | .nx e => .ok (.val .non) (DL.fin as e)
  | .ex c e => .ex c (DL.fin as e)
  | _ => .no
theorem mkF_eq {n : Nat} {as : Env} : mkF n p as = mkK as (p (as ++ List.replicate n .un)) := by
  unfold mkF mkK
  cases p (as ++ List.replicate n .un) <;> rfl
theorem mkK_ret {as : Env} : mkK as (.ret a env) = .ok a (DL.fin as env) := rfl
theorem mkK_nx {as : Env} : mkK as (.nx env) = .ok (.val .non) (DL.fin as env) := rfl
theorem mkK_ex {as : Env} {c : Str} : mkK as (.ex c env) = .ex c (DL.fin as env) := rfl
theorem mkK_ite {c : Prop} [Decidable c] {x y : S} {as : Env} : mkK as (if c then x else y) = if c then mkK as x else mkK as y := by split <;> rfl
theorem fin_nil : DL.fin [] env = [] := by cases env <;> rfl
theorem fin_io {s : Slot} {as : Env} : DL.fin (.io d :: as) (s :: env) = s :: DL.fin as env := rfl
theorem fin_val {s : Slot} {as : Env} : DL.fin (.val d :: as) (s :: env) = .un :: DL.fin as env := rfl
/-! data -/
theorem add_int {m n : Int} : addD (.int m) (.int n) = some (.val (.int (m + n))) := rfl
theorem sub_int {m n : Int} : subD (.int m) (.int n) = some (.val (.int (m - n))) := rfl
theorem mul_int {m n : Int} : mulD (.int m) (.int n) = if mulOk m n then some (.val (.int (m * n))) else none := rfl
theorem fdiv_int {m n : Int} : fdivD (.int m) (.int n) = if 0 < n ∧ n.natAbs.log2 < 9000 then some (.val (.int (m / n))) else none := rfl
theorem mod_int {m n : Int} : modD (.int m) (.int n) = if 0 < n then some (.val (.int (m % n))) else none := rfl
theorem neg_int {m : Int} : negD (.int m) = some (.val (.int (-m))) := rfl
theorem lt_int {m n : Int} : ltD (.int m) (.int n) = some (.val (.bl (decide (m < n)))) := rfl
theorem le_int {m n : Int} : leD (.int m) (.int n) = some (.val (.bl (decide (m ≤ n)))) := rfl
theorem gt_int {m n : Int} : gtD (.int m) (.int n) = some (.val (.bl (decide (n < m)))) := rfl
theorem ge_int {m n : Int} : geD (.int m) (.int n) = some (.val (.bl (decide (n ≤ m)))) := rfl
theorem eq_int {m n : Int} : eqD (.int m) (.int n) = some (.val (.bl (m == n))) := rfl
theorem ne_int {m n : Int} : neD (.int m) (.int n) = some (.val (.bl (!(m == n)))) := rfl
theorem is_non : isD d .non = some (.val (.bl (isNon d))) := by cases d <;> rfl
theorem isn_non : isnD d .non = some (.val (.bl (!isNon d))) := by cases d <;> rfl
theorem is_bl {m n : Bool} : isD (.bl m) (.bl n) = some (.val (.bl (m == n))) := rfl
theorem isn_bl {m n : Bool} : isnD (.bl m) (.bl n) = some (.val (.bl (!(m == n)))) := rfl
theorem len_lst {ds : List D} : lenD [.lst ds] = some (.val (.int ds.length)) := rfl
theorem len_tup {ds : List D} : lenD [.tup ds] = some (.val (.int ds.length)) := rfl
theorem int_int {m : Int} : intD [.int m] = some (.val (.int m)) := rfl
theorem abs_int {m : Int} : absD [.int m] = some (.val (.int (if m < 0 then -m else m))) := rfl
theorem tuple_lst {ds : List D} : tupleD [.lst ds] = some (.val (.tup ds)) := rfl
theorem tuple_tup {ds : List D} : tupleD [.tup ds] = some (.val (.tup ds)) := rfl
theorem ix_lst {ds : List D} {k : Int} : ixD (.lst ds) (.int k) = (atI ds k).map .val := rfl
theorem ix_tup {ds : List D} {k : Int} : ixD (.tup ds) (.int k) = (atI ds k).map .val := rfl
theorem at_nat {α : Type} (l : List α) (n : Nat) : atI l (n : Int) = l[n]? := by
  unfold atI ixN
  rw [if_pos (Int.natCast_nonneg n)]
  by_cases h : n < l.length
  · rw [if_pos (by omega)]; rfl
  · rw [if_neg (by omega), List.getElem?_eq_none (by omega)]; rfl
theorem at_lit {α : Type} (l : List α) (n : Nat) : atI l (no_index (OfNat.ofNat n)) = l[n]? := at_nat l n
theorem at_last {α : Type} (l : List α) : atI l (-1) = l.getLast? := by
  unfold atI ixN
  rw [if_neg (by decide), List.getLast?_eq_getElem?]
  by_cases h : 0 < l.length
  · rw [if_pos (by omega)]
    show l[((-1 : Int) + l.length).toNat]? = _
    congr 1; omega
  · rw [if_neg (by omega)]
    have : l = [] := List.length_eq_zero_iff.mp (by omega)
    subst this; rfl
theorem ixN_lit (m n : Nat) : ixN m (no_index (OfNat.ofNat n)) = if n < m then some n else none := by
  have e : (OfNat.ofNat n : Int) = (n : Int) := rfl
  rw [e]
  unfold ixN
  rw [if_pos (Int.natCast_nonneg n)]
  by_cases h : n < m
  · rw [if_pos (by omega), if_pos h]; rfl
  · rw [if_neg (by omega), if_neg h]
def rngOk (n : Int) : Prop := -(2 ^ 62) ≤ n ∧ n < 2 ^ 62
instance (n : Int) : Decidable (rngOk n) := by unfold rngOk; infer_instance
def rng2Ok (m n : Int) : Prop := -(2 ^ 62) ≤ m ∧ m < 2 ^ 62 ∧ -(2 ^ 62) ≤ n ∧ n < 2 ^ 62
instance (m n : Int) : Decidable (rng2Ok m n) := by unfold rng2Ok; infer_instance
theorem rng1_int {n : Int} : rng1 [.int n] = if rngOk n then some (rangeD 0 n.toNat) else none := rfl
theorem rng2_int {m n : Int} : rng2 [.int m, .int n] = if rng2Ok m n then some (rangeD m (n - m).toNat) else none := rfl
theorem rngOk_of {n : Int} (h : -1000000000000000000 ≤ n) (h2 : n < 1000000000000000000) : rngOk n := by unfold rngOk; omega
theorem rng2Ok_of {m n : Int} (h : -1000000000000000000 ≤ m) (h2 : m < 1000000000000000000) (h3 : -1000000000000000000 ≤ n) (h4 : n < 1000000000000000000) : rng2Ok m n := by unfold rng2Ok; omega
theorem mulOk_r {m n : Int} (h : n.natAbs < 2 ^ 64) : mulOk m n := .inr (.inl h)
theorem mulOk_l {m n : Int} (h : m.natAbs < 2 ^ 64) : mulOk m n := .inl h
end
end DL
namespace DL
open PySem L2
section
variable {α β : Type} {env : Env} {k : MS}
theorem bind_no {k : α → M β} : R.bind (.no : R α) k = .no := rfl
theorem map_no {k : α → β} : R.map k (.no : R α) = .no := rfl
theorem s_no {k : α → Env → S} : R.s (.no : R α) k = .no := rfl
theorem seq_no : S.seq .no k = .no := rfl
theorem lift_none : lift env none = .no := rfl
theorem tstK_no : tstK .no = .no := rfl
theorem forK2_no : forK2 k .no = .no := rfl
theorem mkK_no : mkK env .no = .no := rfl
theorem eCFR_no {os : List Opd} : eCFR os env .no = .no := rfl
theorem at_int_nat (l : List Int) (n : Nat) (h : n < l.length) : atI (l.map D.int) (n : Int) = some (.int l[n]) := by
  rw [at_nat, List.getElem?_map, List.getElem?_eq_getElem h]; rfl
/-! the law's state of draws: good for n more -/
def stL (cells : List Int) (k : Nat) (b c d e : Int) : List D := [.lst (cells.map .int), .int k, .int b, .int c, .int d, .int e]
def St (n : Nat) (st : List D) : Prop := ∃ (cells : List Int) (k : Nat) (b c d e : Int), st = stL cells k b c d e ∧ 0 ≤ e ∧ e + n < 2 ^ 62
theorem St.mono {n m : Nat} {st : List D} (h : St n st) (hm : m ≤ n) : St m st := by
  obtain ⟨cells, k, b, c, d, e, r, h0, h1⟩ := h
  exact ⟨cells, k, b, c, d, e, r, h0, by omega⟩
theorem log_ok {l : Int} (h : 0 < l) (h2 : l < 2 ^ 64) : 0 < l ∧ l.natAbs.log2 < 9000 := by
  refine ⟨h, ?_⟩
  have h3 : l.natAbs.log2 < 64 := by
    refine (Nat.log2_lt (by omega)).mpr ?_
    omega
  omega
end
end DL

/-! loops and comprehensions in general -/
namespace DL
open PySem L2
section
variable {α : Type} {tg : Tgt} {p : MS} {ft : M Bool} {fe : M D} {vs : List Nat}
theorem lc_nil {env : Env} {acc : List D} : lcGo vs tg ft fe [] env acc = some (acc, env) := rfl
/-- a comprehension whose turns leave the slots as they were -/
theorem lc_pure (enc : α → D) (P : α → Bool) (q : α → D) (env : Env) : ∀ (xs : List α), (∀ x ∈ xs, ∃ e1 e2, sto tg (enc x) env = some e1 ∧ ft e1 = .ok (P x) e2 ∧ (P x = true → ∃ e3, fe e2 = .ok (q x) e3 ∧ wipeE vs e3 = some env) ∧ (P x = false → wipeE vs e2 = some env)) →
    ∀ acc : List D, acc.length + xs.length < sizeLine → lcGo vs tg ft fe (xs.map enc) env acc = some (acc ++ (xs.filter P).map q, env)
  | [], _, acc, _ => by rw [List.map_nil, lc_nil]; simp
  | x :: xs, h, acc, hl => by
    obtain ⟨e1, e2, h1, h2, h3, h4⟩ := h x List.mem_cons_self
    rw [List.length_cons] at hl
    have ih := lc_pure enc P q env xs (fun y hy => h y (List.mem_cons_of_mem _ hy))
    rw [List.map_cons]
    unfold lcGo
    rw [h1]
    simp only []
    rw [h2]
    cases hp : P x with
    | true =>
      obtain ⟨e3, h5, h6⟩ := h3 hp
      simp only []
      rw [h5]
      simp only []
      rw [h6]
      simp only []
      rw [if_pos (by omega), ih _ (by rw [List.length_append, List.length_singleton]; omega), List.filter_cons, if_pos hp]
      simp
    | false =>
      simp only []
      rw [h4 hp]
      simp only []
      rw [ih _ (by omega), List.filter_cons, if_neg (by rw [hp]; decide)]
/-- .. whose turns change the slots -/
theorem lc_inv (enc : α → D) (I : List α → List D → Env → Prop) : ∀ (xs : List α) (env : Env) (acc : List D), I xs acc env →
    (∀ x rest acc env, I (x :: rest) acc env → ∃ e1 b e2, sto tg (enc x) env = some e1 ∧ ft e1 = .ok b e2 ∧ (b = true → ∃ d e3 e4, fe e2 = .ok d e3 ∧ wipeE vs e3 = some e4 ∧ acc.length < sizeLine ∧ I rest (acc ++ [d]) e4) ∧ (b = false → ∃ e4, wipeE vs e2 = some e4 ∧ I rest acc e4)) →
    ∃ acc' env', lcGo vs tg ft fe (xs.map enc) env acc = some (acc', env') ∧ I [] acc' env'
  | [], env, acc, h, _ => ⟨acc, env, rfl, h⟩
  | x :: xs, env, acc, h, step => by
    obtain ⟨e1, b, e2, h1, h2, h3, h4⟩ := step x xs acc env h
    cases b with
    | true =>
      obtain ⟨d, e3, e4, h5, h6, h7, h8⟩ := h3 rfl
      obtain ⟨a', e', h9, h10⟩ := lc_inv enc I xs e4 _ h8 step
      refine ⟨a', e', ?_, h10⟩
      rw [List.map_cons]
      unfold lcGo
      rw [h1]; simp only []
      rw [h2]; simp only []
      rw [h5]; simp only []
      rw [h6]; simp only []
      rw [if_pos h7]; exact h9
    | false =>
      obtain ⟨e4, h6, h8⟩ := h4 rfl
      obtain ⟨a', e', h9, h10⟩ := lc_inv enc I xs e4 _ h8 step
      refine ⟨a', e', ?_, h10⟩
      rw [List.map_cons]
      unfold lcGo
      rw [h1]; simp only []
      rw [h2]; simp only []
      rw [h6]; exact h9
/-- a for whose turns all go on -/
theorem for_inv (enc : α → D) (I : List α → Env → Prop) : ∀ (xs : List α) (env : Env), I xs env →
    (∀ x rest env, I (x :: rest) env → ∃ e1 e2, sto tg (enc x) env = some e1 ∧ (p e1 = .nx e2 ∨ p e1 = .cont e2) ∧ I rest e2) →
    ∃ env', forGo tg p (xs.map enc) env = .nx env' ∧ I [] env'
  | [], env, h, _ => ⟨env, rfl, h⟩
  | x :: xs, env, h, step => by
    obtain ⟨e1, e2, h1, h2, h3⟩ := step x xs env h
    obtain ⟨e', h4, h5⟩ := for_inv enc I xs e2 h3 step
    refine ⟨e', ?_, h5⟩
    rw [List.map_cons, for_cons, h1, forK_some]
    rcases h2 with h2 | h2
    · rw [h2, forK2_nx]; exact h4
    · rw [h2, forK2_cont]; exact h4
/-- a slot without a list of the def's own -/
def Junk (s : Slot) : Prop := s = .un ∨ ∃ d, s = .val d
theorem Junk.un : Junk .un := .inl rfl
theorem Junk.val {d : D} : Junk (.val d) := .inr ⟨d, rfl⟩
theorem Junk.io {s : Slot} (h : Junk s) : ioK (some s) = false := by rcases h with rfl | ⟨d, rfl⟩ <;> rfl
theorem Junk.wipe {s : Slot} (h : Junk s) (i : Nat) (env : Env) : wipeK2 i env (some s) = some (env.set i .un) := by rcases h with rfl | ⟨d, rfl⟩ <;> rfl
theorem sl_scr {ns : List Int} {l h : Option Int} : slD (.scr ns) l h = some (.own (.lst ((cut ns l h).map .int))) := rfl
theorem sl_lst {ds : List D} {l h : Option Int} : slD (.lst ds) l h = some (.own (.lst (cut ds l h))) := rfl
theorem sl_tupl {ds : List D} {l h : Option Int} : slD (.tup ds) l h = some (.val (.tup (cut ds l h))) := rfl
theorem add_lst {a b : List D} : addD (.lst a) (.lst b) = if a.length + b.length ≤ sizeLine then some (.own (.lst (a ++ b))) else none := rfl
theorem add_tup {a b : List D} : addD (.tup a) (.tup b) = if a.length + b.length ≤ sizeLine then some (.val (.tup (a ++ b))) else none := rfl
theorem eq_def {x y : D} : eqD x y = if eqOk x y = true then some (.val (.bl (eqB x y))) else none := rfl
theorem ne_def {x y : D} : neD x y = if eqOk x y = true then some (.val (.bl (!eqB x y))) else none := rfl
theorem in_lst {x : D} {ds : List D} : inD x (.lst ds) = if (x.flat && ds.all D.flat) = true then some (.val (.bl (ds.any fun y => eqB y x))) else none := by cases x <;> rfl
theorem in_tup {x : D} {ds : List D} : inD x (.tup ds) = if (x.flat && ds.all D.flat) = true then some (.val (.bl (ds.any fun y => eqB y x))) else none := by cases x <;> rfl
theorem nin_def {x y : D} : ninD x y = (inD x y).bind fun a => (bOf a).map fun b => .val (.bl (!b)) := by
  unfold ninD
  cases inD x y with
  | none => rfl
  | some a =>
    cases a with
    | own d => rfl
    | val d => cases d <;> rfl
theorem eq_nil : eqD (.lst []) (.lst []) = some (.val (.bl true)) := rfl
theorem at_snoc {α : Type} (l : List α) (x : α) : atI (l ++ [x]) (-1) = some x := by rw [at_last]; simp
theorem getLast_snoc {α : Type} (l : List α) (x : α) : (l ++ [x]).getLast? = some x := by simp
theorem ixN_last {n : Nat} (h : 0 < n) : ixN n (-1) = some (n - 1) := by
  unfold ixN
  rw [if_neg (by decide), if_pos (by omega)]
  congr 1; omega
theorem plains_map {α : Type} (f : α → D) : ∀ (xs : List α), (∀ x ∈ xs, (f x).plain = true) → D.plains (xs.map f) = true
  | [], _ => rfl
  | x :: xs, h => by
    rw [List.map_cons, D.plains, h x List.mem_cons_self, plains_map f xs fun y hy => h y (List.mem_cons_of_mem _ hy)]; rfl
theorem plains_ints (xs : List Int) : D.plains (xs.map D.int) = true := plains_map _ xs fun _ _ => rfl
theorem eqBs_nil (ds : List D) : eqBs ds [] = ds.isEmpty := by cases ds <;> rfl
theorem ne_nil_lst {ds : List D} (h : D.plains ds = true) : neD (.lst ds) (.lst []) = some (.val (.bl (!ds.isEmpty))) := by
  rw [ne_def, if_pos]
  · show some (A.val (.bl (!eqBs ds []))) = _
    rw [eqBs_nil]
  · unfold eqOk
    have : min (D.dep (.lst ds)) (D.dep (.lst [])) ≤ 64 := Nat.le_trans (Nat.min_le_right _ _) (by decide)
    simp [D.plain, h, D.plains, this]
theorem eq_nil_lst {ds : List D} (h : D.plains ds = true) : eqD (.lst ds) (.lst []) = some (.val (.bl ds.isEmpty)) := by
  rw [eq_def, if_pos]
  · show some (A.val (.bl (eqBs ds []))) = _
    rw [eqBs_nil]
  · unfold eqOk
    have : min (D.dep (.lst ds)) (D.dep (.lst [])) ≤ 64 := Nat.le_trans (Nat.min_le_right _ _) (by decide)
    simp [D.plain, h, D.plains, this]
theorem flat_ints (xs : List Int) : (xs.map D.int).all D.flat = true := by
  induction xs with
  | nil => rfl
  | cons x xs ih => rw [List.map_cons, List.all_cons, ih]; rfl
theorem any_ints (xs : List Int) (n : Int) : ((xs.map D.int).any fun y => eqB y (.int n)) = decide (n ∈ xs) := by
  induction xs with
  | nil => simp
  | cons x xs ih =>
    rw [List.map_cons, List.any_cons, ih]
    show ((x == n) || decide (n ∈ xs)) = _
    by_cases h : x = n
    · subst h; simp
    · have h2 : n ≠ x := fun e => h e.symm
      by_cases h3 : n ∈ xs <;> simp [h, h2, h3]
theorem nin_ints (xs : List Int) (n : Int) : ninD (.int n) (.tup (xs.map D.int)) = some (.val (.bl (!decide (n ∈ xs)))) := by
  rw [nin_def, in_tup, if_pos (by rw [flat_ints]; rfl), any_ints]; rfl
theorem nin_lints (xs : List Int) (n : Int) : ninD (.int n) (.lst (xs.map D.int)) = some (.val (.bl (!decide (n ∈ xs)))) := by
  rw [nin_def, in_lst, if_pos (by rw [flat_ints]; rfl), any_ints]; rfl
theorem eq_str {x y : Str} (h : PyData.strOk x = true) (h2 : PyData.strOk y = true) : eqD (.str x) (.str y) = some (.val (.bl (x == y))) := by
  rw [eq_def, if_pos (by unfold eqOk; simp [D.plain, h, h2, D.dep])]; rfl
theorem ne_str {x y : Str} (h : PyData.strOk x = true) (h2 : PyData.strOk y = true) : neD (.str x) (.str y) = some (.val (.bl (!(x == y)))) := by
  rw [ne_def, if_pos (by unfold eqOk; simp [D.plain, h, h2, D.dep])]; rfl
theorem eq_non_str {y : Str} (h2 : PyData.strOk y = true) : eqD .non (.str y) = some (.val (.bl false)) := by
  rw [eq_def, if_pos (by unfold eqOk; simp [D.plain, h2, D.dep])]; rfl
/-! plain data, alike to itself -/
mutual
theorem eqB_refl : ∀ (d : D), d.plain = true → eqB d d = true
  | .non, _ => rfl
  | .bl b, _ => by show (b == b) = true; simp
  | .int i, _ => by show (i == i) = true; simp
  | .str x, _ => by show (x == x) = true; simp
  | .tup ds, h => eqBs_refl ds h
  | .lst ds, h => eqBs_refl ds h
theorem eqBs_refl : ∀ (ds : List D), D.plains ds = true → eqBs ds ds = true
  | [], _ => rfl
  | d :: ds, h => by
    rw [D.plains, Bool.and_eq_true] at h
    show (eqB d d && eqBs ds ds) = true
    rw [eqB_refl d h.1, eqBs_refl ds h.2]; rfl
end
theorem isi_kit {d : D} {T : String} {b : Bool} (h : kitB d.ty T = some b) : isiB d T = some b := h
theorem kit_ii : kitB "int" "int" = some true := by decide +kernel
theorem kit_ib : kitB "int" "bool" = some false := by decide +kernel
theorem kit_is : kitB "int" "str" = some false := by decide +kernel
theorem kit_it : kitB "int" "tuple" = some false := by decide +kernel
theorem kit_il : kitB "int" "list" = some false := by decide +kernel
theorem kit_bi : kitB "bool" "int" = some true := by decide +kernel
theorem kit_bb : kitB "bool" "bool" = some true := by decide +kernel
theorem kit_bs : kitB "bool" "str" = some false := by decide +kernel
theorem kit_bt : kitB "bool" "tuple" = some false := by decide +kernel
theorem kit_bl : kitB "bool" "list" = some false := by decide +kernel
theorem kit_si : kitB "str" "int" = some false := by decide +kernel
theorem kit_sb : kitB "str" "bool" = some false := by decide +kernel
theorem kit_ss : kitB "str" "str" = some true := by decide +kernel
theorem kit_st : kitB "str" "tuple" = some false := by decide +kernel
theorem kit_sl : kitB "str" "list" = some false := by decide +kernel
theorem kit_ti : kitB "tuple" "int" = some false := by decide +kernel
theorem kit_tb : kitB "tuple" "bool" = some false := by decide +kernel
theorem kit_ts : kitB "tuple" "str" = some false := by decide +kernel
theorem kit_tt : kitB "tuple" "tuple" = some true := by decide +kernel
theorem kit_tl : kitB "tuple" "list" = some false := by decide +kernel
theorem kit_li : kitB "list" "int" = some false := by decide +kernel
theorem kit_lb : kitB "list" "bool" = some false := by decide +kernel
theorem kit_ls : kitB "list" "str" = some false := by decide +kernel
theorem kit_lt : kitB "list" "tuple" = some false := by decide +kernel
theorem kit_ll : kitB "list" "list" = some true := by decide +kernel
theorem kit_ni : kitB "NoneType" "int" = some false := by decide +kernel
theorem kit_nb : kitB "NoneType" "bool" = some false := by decide +kernel
theorem kit_ns : kitB "NoneType" "str" = some false := by decide +kernel
theorem kit_nt : kitB "NoneType" "tuple" = some false := by decide +kernel
theorem kit_nl : kitB "NoneType" "list" = some false := by decide +kernel
theorem isi_int {i : Int} {T : String} : isiB (.int i) T = kitB "int" T := rfl
theorem isi_bl {i : Bool} {T : String} : isiB (.bl i) T = kitB "bool" T := rfl
theorem isi_str {i : Str} {T : String} : isiB (.str i) T = kitB "str" T := rfl
theorem isi_tup {i : List D} {T : String} : isiB (.tup i) T = kitB "tuple" T := rfl
theorem isi_lst {i : List D} {T : String} : isiB (.lst i) T = kitB "list" T := rfl
theorem isi_non {T : String} : isiB .non T = kitB "NoneType" T := rfl
theorem isNon_int {i : Int} : isNon (.int i) = false := rfl
theorem isNon_bl {i : Bool} : isNon (.bl i) = false := rfl
theorem isNon_str {i : Str} : isNon (.str i) = false := rfl
theorem isNon_tup {i : List D} : isNon (.tup i) = false := rfl
theorem isNon_lst {i : List D} : isNon (.lst i) = false := rfl
theorem isNon_non : isNon .non = true := rfl
theorem eq_bl {m n : Bool} : eqD (.bl m) (.bl n) = some (.val (.bl (m == n))) := rfl
theorem ne_bl {m n : Bool} : neD (.bl m) (.bl n) = some (.val (.bl (!(m == n)))) := rfl
end
end DL

namespace LW
open PySem L2 DL
/-! the mathematics of blocks: no program in sight -/
abbrev Bk := Int × Int × Str
abbrev Iv := Int × Int
def inB (b : Bk) (n : Int) : Bool := decide (b.1 ≤ n) && decide (n < b.2.1)
def sellerOf (bs : List Bk) (n : Int) : Option Str := (bs.find? fun b => inB b n).map (·.2.2)
def pcs : Int → List Int → List Iv
  | _, [] => []
  | b, x :: xs => if b < x then (b, x) :: pcs (x + 1) xs else pcs (x + 1) xs
theorem pcs_cons (b x : Int) (xs : List Int) : pcs b (x :: xs) = if b < x then (b, x) :: pcs (x + 1) xs else pcs (x + 1) xs := by rw [pcs]
def pieces (bs : List Bk) (sold : List Int) (s : Str) : List Iv := match bs with
  | [] => []
  | b :: bs => (if b.2.2 = s then pcs b.1 (sold.filter (inB b) ++ [b.2.1]) else []) ++ pieces bs sold s
def joinS (acc : List Iv) (p : Iv) : List Iv := match acc.getLast? with
  | some q => if q.2 = p.1 then acc.dropLast ++ [(q.1, p.2)] else acc ++ [p]
  | none => acc ++ [p]
def strE (bs : List Bk) (sold : List Int) (s : Str) : List Iv := (pieces bs sold s).foldl joinS []
def WB : Int → List Bk → Prop
  | _, [] => True
  | lo, b :: bs => lo ≤ b.1 ∧ b.1 < b.2.1 ∧ WB b.2.1 bs
def Asc (l : List Int) : Prop := l.Pairwise (· < ·)
def mem (l : List Iv) (n : Int) : Prop := ∃ p ∈ l, p.1 ≤ n ∧ n < p.2
def WCan (l : List Iv) : Prop := l.Pairwise (fun p q => p.2 ≤ q.1) ∧ ∀ p ∈ l, p.1 < p.2
def Can (l : List Iv) : Prop := l.Pairwise (fun p q => p.2 < q.1) ∧ ∀ p ∈ l, p.1 < p.2
def sumL (l : List Iv) : Int := (l.map fun p => p.2 - p.1).sum

theorem inB_iff {b : Bk} {n : Int} : inB b n = true ↔ b.1 ≤ n ∧ n < b.2.1 := by unfold inB; simp
theorem WB.lo {lo : Int} : ∀ {bs : List Bk}, WB lo bs → ∀ b ∈ bs, lo ≤ b.1 ∧ b.1 < b.2.1
  | [], _, b, h => by cases h
  | c :: bs, w, b, h => by
    obtain ⟨h1, h2, h3⟩ := w
    rcases List.mem_cons.mp h with rfl | h
    · exact ⟨h1, h2⟩
    · have := WB.lo h3 b h; omega
theorem seller_nil (n : Int) : sellerOf [] n = none := rfl
theorem seller_cons (b : Bk) (bs : List Bk) (n : Int) : sellerOf (b :: bs) n = if inB b n = true then some b.2.2 else sellerOf bs n := by
  unfold sellerOf
  rw [List.find?_cons]
  cases h : inB b n <;> simp
theorem seller_out {lo : Int} {bs : List Bk} (w : WB lo bs) {n : Int} (h : n < lo) : sellerOf bs n = none := by
  induction bs generalizing lo with
  | nil => rfl
  | cons b bs ih =>
    obtain ⟨h1, h2, h3⟩ := w
    have hb : ¬ inB b n = true := fun z => by have := inB_iff.mp z; omega
    rw [seller_cons, if_neg hb]
    exact ih h3 (by omega)

theorem mem_nil (n : Int) : ¬ mem [] n := fun ⟨_, h, _⟩ => by cases h
theorem mem_cons {p : Iv} {l : List Iv} {n : Int} : mem (p :: l) n ↔ (p.1 ≤ n ∧ n < p.2) ∨ mem l n := by
  constructor
  · rintro ⟨q, h, z⟩
    rcases List.mem_cons.mp h with rfl | h
    · exact .inl z
    · exact .inr ⟨q, h, z⟩
  · rintro (z | ⟨q, h, z⟩)
    · exact ⟨p, List.mem_cons_self, z⟩
    · exact ⟨q, List.mem_cons_of_mem _ h, z⟩
theorem mem_append {l m : List Iv} {n : Int} : mem (l ++ m) n ↔ mem l n ∨ mem m n := by
  induction l with
  | nil => simp [mem_nil]
  | cons p l ih => rw [List.cons_append, mem_cons, mem_cons, ih, or_assoc]

theorem pcs_mem : ∀ {xs : List Int} {b : Int}, Asc xs → (∀ x ∈ xs, b ≤ x) → ∀ n, mem (pcs b xs) n ↔ b ≤ n ∧ n ∉ xs ∧ ∃ x ∈ xs, n < x
  | [], b, _, _, n => by simp [pcs, mem_nil]
  | x :: xs, b, a, h, n => by
    have hx : b ≤ x := h x List.mem_cons_self
    obtain ⟨a1, a2⟩ := List.pairwise_cons.mp a
    have ih := pcs_mem (b := x + 1) a2 (fun y hy => by have := a1 y hy; omega) n
    have key : mem (pcs b (x :: xs)) n ↔ (b ≤ n ∧ n < x) ∨ mem (pcs (x + 1) xs) n := by
      rw [pcs_cons]
      split
      · rw [mem_cons]
      · constructor
        · exact fun z => .inr z
        · rintro (z | z)
          · omega
          · exact z
    rw [key, ih]
    constructor
    · rintro (⟨h1, h2⟩ | ⟨h1, h2, y, h3, h4⟩)
      · refine ⟨h1, fun z => ?_, x, List.mem_cons_self, h2⟩
        rcases List.mem_cons.mp z with rfl | z
        · omega
        · have := a1 n z; omega
      · refine ⟨by omega, fun z => ?_, y, List.mem_cons_of_mem _ h3, h4⟩
        rcases List.mem_cons.mp z with rfl | z
        · omega
        · exact h2 z
    · rintro ⟨h1, h2, y, h3, h4⟩
      by_cases hn : n < x
      · exact .inl ⟨h1, hn⟩
      · have hne : n ≠ x := fun z => h2 (z ▸ List.mem_cons_self)
        rcases List.mem_cons.mp h3 with rfl | h3
        · omega
        · exact .inr ⟨by omega, fun z => h2 (List.mem_cons_of_mem _ z), y, h3, h4⟩
theorem pcs_can : ∀ {xs : List Int} {b : Int}, Asc xs → (∀ x ∈ xs, b ≤ x) → Can (pcs b xs) ∧ ∀ p ∈ pcs b xs, b ≤ p.1 ∧ p.2 ∈ xs
  | [], b, _, _ => ⟨⟨List.Pairwise.nil, fun p h => by cases h⟩, fun p h => by cases h⟩
  | x :: xs, b, a, h => by
    have hx : b ≤ x := h x List.mem_cons_self
    obtain ⟨a1, a2⟩ := List.pairwise_cons.mp a
    obtain ⟨⟨c1, c2⟩, c3⟩ := pcs_can (b := x + 1) a2 (fun y hy => by have := a1 y hy; omega)
    rw [pcs_cons]
    split
    · rename_i hb
      refine ⟨⟨List.pairwise_cons.mpr ⟨fun q hq => ?_, c1⟩, fun p hp => ?_⟩, fun p hp => ?_⟩
      · have := (c3 q hq).1; show x < q.1; omega
      · rcases List.mem_cons.mp hp with rfl | hp
        · exact hb
        · exact c2 p hp
      · rcases List.mem_cons.mp hp with rfl | hp
        · exact ⟨Int.le_refl _, List.mem_cons_self⟩
        · have := c3 p hp; exact ⟨by omega, List.mem_cons_of_mem _ this.2⟩
    · refine ⟨⟨c1, c2⟩, fun p hp => ?_⟩
      have := c3 p hp; exact ⟨by omega, List.mem_cons_of_mem _ this.2⟩
theorem sumL_nil : sumL [] = 0 := rfl
theorem sumL_cons (p : Iv) (l : List Iv) : sumL (p :: l) = (p.2 - p.1) + sumL l := by unfold sumL; simp
theorem sumL_append (l m : List Iv) : sumL (l ++ m) = sumL l + sumL m := by unfold sumL; simp
theorem pcs_sum : ∀ {ys : List Int} {b e : Int}, Asc ys → (∀ x ∈ ys, b ≤ x ∧ x < e) → b ≤ e → sumL (pcs b (ys ++ [e])) = e - b - ys.length
  | [], b, e, _, _, h => by
    show sumL (if b < e then (b, e) :: pcs (e + 1) [] else pcs (e + 1) []) = _
    split
    · rw [sumL_cons]; show e - b + 0 = e - b - ((0 : Nat) : Int); omega
    · show (0 : Int) = e - b - ((0 : Nat) : Int); omega
  | y :: ys, b, e, a, h, hb => by
    obtain ⟨a1, a2⟩ := List.pairwise_cons.mp a
    have hy := h y List.mem_cons_self
    have ih := pcs_sum (ys := ys) (b := y + 1) (e := e) a2 (fun x hx => ⟨by have := a1 x hx; omega, (h x (List.mem_cons_of_mem _ hx)).2⟩) (by omega)
    show sumL (if b < y then (b, y) :: pcs (y + 1) (ys ++ [e]) else pcs (y + 1) (ys ++ [e])) = _
    rw [List.length_cons]
    split
    · rw [sumL_cons, ih]; show y - b + (e - (y + 1) - (ys.length : Int)) = _; omega
    · rw [ih]; omega

theorem asc_filter {l : List Int} (h : Asc l) (p : Int → Bool) : Asc (l.filter p) := h.filter p
theorem asc_snoc {l : List Int} {e : Int} (h : Asc l) (he : ∀ x ∈ l, x < e) : Asc (l ++ [e]) := by
  unfold Asc
  rw [List.pairwise_append]
  exact ⟨h, List.pairwise_singleton _ _, fun a ha b hb => by rw [List.mem_singleton.mp hb]; exact he a ha⟩
theorem blk_asc {sold : List Int} (h : Asc sold) (b : Bk) : Asc (sold.filter (inB b) ++ [b.2.1]) := asc_snoc (asc_filter h _) fun x hx => (inB_iff.mp (List.mem_filter.mp hx).2).2
theorem blk_lo {sold : List Int} (b : Bk) (hb : b.1 < b.2.1) : ∀ x ∈ sold.filter (inB b) ++ [b.2.1], b.1 ≤ x := fun x hx => by
  rcases List.mem_append.mp hx with hx | hx
  · exact (inB_iff.mp (List.mem_filter.mp hx).2).1
  · rw [List.mem_singleton.mp hx]; omega
theorem blk_mem {sold : List Int} (h : Asc sold) {b : Bk} (hb : b.1 < b.2.1) (n : Int) : mem (pcs b.1 (sold.filter (inB b) ++ [b.2.1])) n ↔ inB b n = true ∧ n ∉ sold := by
  rw [pcs_mem (blk_asc h b) (blk_lo b hb)]
  constructor
  · rintro ⟨h1, h2, x, h3, h4⟩
    have hx : n < b.2.1 := by
      rcases List.mem_append.mp h3 with h3 | h3
      · have := (inB_iff.mp (List.mem_filter.mp h3).2).2; omega
      · rw [List.mem_singleton.mp h3] at h4; exact h4
    refine ⟨inB_iff.mpr ⟨h1, hx⟩, fun z => h2 (List.mem_append_left _ (List.mem_filter.mpr ⟨z, inB_iff.mpr ⟨h1, hx⟩⟩))⟩
  · rintro ⟨h1, h2⟩
    have h3 := inB_iff.mp h1
    refine ⟨h3.1, fun z => ?_, b.2.1, List.mem_append_right _ (List.mem_singleton.mpr rfl), h3.2⟩
    rcases List.mem_append.mp z with z | z
    · exact h2 (List.mem_filter.mp z).1
    · rw [List.mem_singleton.mp z] at h3; omega
theorem pieces_mem {lo : Int} {bs : List Bk} (w : WB lo bs) {sold : List Int} (h : Asc sold) (s : Str) (n : Int) : mem (pieces bs sold s) n ↔ sellerOf bs n = some s ∧ n ∉ sold := by
  induction bs generalizing lo with
  | nil => simp [pieces, mem_nil, seller_nil]
  | cons b bs ih =>
    obtain ⟨h1, h2, h3⟩ := w
    unfold pieces
    rw [mem_append, ih h3, seller_cons]
    by_cases hb : inB b n = true
    · rw [if_pos hb]
      have hout : sellerOf bs n = none := seller_out h3 (inB_iff.mp hb).2
      by_cases hs : b.2.2 = s
      · rw [if_pos hs, blk_mem h h2, hout]; simp [hb, hs]
      · rw [if_neg hs, hout]; simp [mem_nil, hs]
    · rw [if_neg hb]
      by_cases hs : b.2.2 = s
      · rw [if_pos hs, blk_mem h h2]; simp [hb]
      · rw [if_neg hs]; simp [mem_nil]
theorem pieces_can {lo : Int} {bs : List Bk} (w : WB lo bs) {sold : List Int} (h : Asc sold) (s : Str) : WCan (pieces bs sold s) ∧ ∀ p ∈ pieces bs sold s, lo ≤ p.1 := by
  induction bs generalizing lo with
  | nil => exact ⟨⟨List.Pairwise.nil, fun p h => by cases h⟩, fun p h => by cases h⟩
  | cons b bs ih =>
    obtain ⟨h1, h2, h3⟩ := w
    obtain ⟨⟨c1, c2⟩, c3⟩ := ih h3
    unfold pieces
    by_cases hs : b.2.2 = s
    · rw [if_pos hs]
      obtain ⟨⟨d1, d2⟩, d3⟩ := pcs_can (blk_asc h b) (blk_lo b h2)
      refine ⟨⟨List.pairwise_append.mpr ⟨d1.imp (fun z => by omega), c1, fun p hp q hq => ?_⟩, fun p hp => ?_⟩, fun p hp => ?_⟩
      · have e1 := c3 q hq
        have e2 : p.2 ≤ b.2.1 := by
          rcases List.mem_append.mp (d3 p hp).2 with z | z
          · have := (inB_iff.mp (List.mem_filter.mp z).2).2; omega
          · rw [List.mem_singleton.mp z]; omega
        omega
      · rcases List.mem_append.mp hp with hp | hp
        · exact d2 p hp
        · exact c2 p hp
      · rcases List.mem_append.mp hp with hp | hp
        · have := (d3 p hp).1; omega
        · have := c3 p hp; omega
    · rw [if_neg hs, List.nil_append]
      exact ⟨⟨c1, c2⟩, fun p hp => by have := c3 p hp; omega⟩
/-! joining -/
theorem join_all : ∀ {l acc : List Iv}, Can acc → WCan l → (∀ p ∈ acc, ∀ q ∈ l, p.2 ≤ q.1) → Can (l.foldl joinS acc) ∧ (∀ n, mem (l.foldl joinS acc) n ↔ mem acc n ∨ mem l n) ∧ sumL (l.foldl joinS acc) = sumL acc + sumL l
  | [], acc, ca, _, _ => ⟨ca, fun n => by simp [mem_nil], by simp [sumL_nil]⟩
  | p :: l, acc, ca, ⟨w1, w2⟩, hle => by
    obtain ⟨w3, w4⟩ := List.pairwise_cons.mp w1
    have hp : p.1 < p.2 := w2 p List.mem_cons_self
    have step : Can (joinS acc p) ∧ (∀ n, mem (joinS acc p) n ↔ mem acc n ∨ mem [p] n) ∧ sumL (joinS acc p) = sumL acc + (p.2 - p.1) ∧ (∀ x ∈ joinS acc p, x.2 ≤ p.2) := by
      unfold joinS
      obtain ⟨a1, a2⟩ := ca
      cases hq : acc.getLast? with
      | none =>
        have : acc = [] := List.getLast?_eq_none_iff.mp hq
        subst this
        refine ⟨⟨List.pairwise_singleton _ _, fun x hx => by rw [List.mem_singleton.mp hx]; exact hp⟩, fun n => by simp [mem_nil], ?_, fun x hx => ?_⟩
        · show sumL [p] = sumL [] + _; rw [sumL_cons]; simp [sumL_nil]
        · rw [List.mem_singleton.mp hx]; omega
      | some q =>
        obtain ⟨ini, rfl⟩ := List.getLast?_eq_some_iff.mp hq
        have hq' : q ∈ ini ++ [q] := List.mem_append_right _ (List.mem_singleton.mpr rfl)
        obtain ⟨b1, b2, b3⟩ := List.pairwise_append.mp a1
        have q12 := a2 q hq'
        have qp := hle q hq' p List.mem_cons_self
        have ini_q : ∀ x ∈ ini, x.2 < q.1 := fun x hx => b3 x hx q (List.mem_singleton.mpr rfl)
        simp only []
        by_cases e : q.2 = p.1
        · rw [if_pos e, List.dropLast_concat]
          refine ⟨⟨List.pairwise_append.mpr ⟨b1, List.pairwise_singleton _ _, fun x hx y hy => ?_⟩, fun x hx => ?_⟩, fun n => ?_, ?_, fun x hx => ?_⟩
          · rw [List.mem_singleton.mp hy]; exact ini_q x hx
          · rcases List.mem_append.mp hx with hx | hx
            · exact a2 x (List.mem_append_left _ hx)
            · rw [List.mem_singleton.mp hx]; show q.1 < p.2; omega
          · rw [mem_append, mem_append, mem_cons, mem_cons, mem_cons]
            simp only [mem_nil, or_false]
            constructor
            · rintro (z | z)
              · exact .inl (.inl z)
              · by_cases hn : n < q.2
                · exact .inl (.inr ⟨z.1, hn⟩)
                · exact .inr ⟨by omega, z.2⟩
            · rintro ((z | z) | z)
              · exact .inl z
              · exact .inr ⟨z.1, by show n < p.2; omega⟩
              · exact .inr ⟨by show q.1 ≤ n; omega, z.2⟩
          · rw [sumL_append, sumL_append, sumL_cons, sumL_cons, sumL_nil]; show _ + (p.2 - q.1 + 0) = _; omega
          · rcases List.mem_append.mp hx with hx | hx
            · have := ini_q x hx; omega
            · rw [List.mem_singleton.mp hx]; exact Int.le_refl _
        · rw [if_neg e]
          refine ⟨⟨List.pairwise_append.mpr ⟨a1, List.pairwise_singleton _ _, fun x hx y hy => ?_⟩, fun x hx => ?_⟩, fun n => ?_, ?_, fun x hx => ?_⟩
          · rw [List.mem_singleton.mp hy]
            rcases List.mem_append.mp hx with hx | hx
            · have := ini_q x hx; omega
            · rw [List.mem_singleton.mp hx]; omega
          · rcases List.mem_append.mp hx with hx | hx
            · exact a2 x hx
            · rw [List.mem_singleton.mp hx]; exact hp
          · rw [mem_append]
          · rw [sumL_append, sumL_cons, sumL_nil]; omega
          · rcases List.mem_append.mp hx with hx | hx
            · have := hle x hx p List.mem_cons_self; omega
            · rw [List.mem_singleton.mp hx]; exact Int.le_refl _
    obtain ⟨s1, s2, s3, s4⟩ := step
    obtain ⟨i1, i2, i3⟩ := join_all (l := l) s1 ⟨w4, fun x hx => w2 x (List.mem_cons_of_mem _ hx)⟩ (fun x hx q hq => by have := s4 x hx; have := w3 q hq; omega)
    rw [List.foldl_cons]
    refine ⟨i1, fun n => ?_, ?_⟩
    · rw [i2, s2, mem_cons (l := l), mem_cons (l := [])]; simp [mem_nil, or_assoc]
    · rw [i3, s3, sumL_cons]; omega
theorem strs_ok {lo : Int} {bs : List Bk} (w : WB lo bs) {sold : List Int} (h : Asc sold) (s : Str) : Can (strE bs sold s) ∧ (∀ n, mem (strE bs sold s) n ↔ sellerOf bs n = some s ∧ n ∉ sold) ∧ sumL (strE bs sold s) = sumL (pieces bs sold s) := by
  obtain ⟨a, b, c⟩ := join_all (acc := []) ⟨List.Pairwise.nil, fun p h => by cases h⟩ (pieces_can w h s).1 (fun p hp => by cases hp)
  refine ⟨a, fun n => ?_, ?_⟩
  · show mem (List.foldl joinS [] _) n ↔ _
    rw [b, pieces_mem w h]; simp [mem_nil]
  · show sumL (List.foldl joinS [] _) = _
    rw [c, sumL_nil]; omega
/-- two separated lists with the same members are one -/
theorem can_same : ∀ {l m : List Iv}, Can l → Can m → (∀ n, mem l n ↔ mem m n) → l = m
  | [], [], _, _, _ => rfl
  | [], q :: m, _, ⟨_, b⟩, h => absurd ((h q.1).mpr (mem_cons.mpr (.inl ⟨Int.le_refl _, b q List.mem_cons_self⟩))) (mem_nil _)
  | p :: l, [], ⟨_, b⟩, _, h => absurd ((h p.1).mp (mem_cons.mpr (.inl ⟨Int.le_refl _, b p List.mem_cons_self⟩))) (mem_nil _)
  | p :: l, q :: m, ⟨a1, a2⟩, ⟨b1, b2⟩, h => by
    obtain ⟨a3, a4⟩ := List.pairwise_cons.mp a1
    obtain ⟨b3, b4⟩ := List.pairwise_cons.mp b1
    have hp := a2 p List.mem_cons_self
    have hq := b2 q List.mem_cons_self
    have lo : ∀ n, mem l n → p.2 < n := fun n ⟨x, hx, z⟩ => by have := a3 x hx; omega
    have mo : ∀ n, mem m n → q.2 < n := fun n ⟨x, hx, z⟩ => by have := b3 x hx; omega
    have e1 : p.1 = q.1 := by
      have h1 := mem_cons.mp ((h p.1).mp (mem_cons.mpr (.inl ⟨Int.le_refl _, hp⟩)))
      have h2 := mem_cons.mp ((h q.1).mpr (mem_cons.mpr (.inl ⟨Int.le_refl _, hq⟩)))
      rcases h1 with h1 | h1 <;> rcases h2 with h2 | h2
      · omega
      · have := lo _ h2; omega
      · have := mo _ h1; omega
      · have := lo _ h2; have := mo _ h1; omega
    have e2 : p.2 = q.2 := by
      by_cases c : p.2 < q.2
      · have := mem_cons.mp ((h p.2).mpr (mem_cons.mpr (.inl ⟨by omega, c⟩)))
        rcases this with z | z
        · omega
        · have := lo _ z; omega
      · by_cases c2 : q.2 < p.2
        · have := mem_cons.mp ((h q.2).mp (mem_cons.mpr (.inl ⟨by omega, c2⟩)))
          rcases this with z | z
          · omega
          · have := mo _ z; omega
        · omega
    have ep : p = q := Prod.ext e1 e2
    subst ep
    have : l = m := can_same ⟨a4, fun x hx => a2 x (List.mem_cons_of_mem _ hx)⟩ ⟨b4, fun x hx => b2 x (List.mem_cons_of_mem _ hx)⟩ fun n => by
      constructor
      · intro z
        rcases mem_cons.mp ((h n).mp (mem_cons.mpr (.inr z))) with y | y
        · have := lo n z; omega
        · exact y
      · intro z
        rcases mem_cons.mp ((h n).mpr (mem_cons.mpr (.inr z))) with y | y
        · have := mo n z; omega
        · exact y
    rw [this]
/-- a number taken out -/
def cutN (l : List Iv) (k : Int) : List Iv := match l with
  | [] => []
  | p :: l => (if p.1 ≤ k ∧ k < p.2 then [(p.1, k), (k + 1, p.2)].filter (fun q => decide (q.1 < q.2)) else [p]) ++ cutN l k
theorem cutN_ok : ∀ {l : List Iv} {k : Int}, Can l → Can (cutN l k) ∧ (∀ n, mem (cutN l k) n ↔ mem l n ∧ n ≠ k) ∧ ∀ q ∈ cutN l k, ∃ p ∈ l, p.1 ≤ q.1 ∧ q.2 ≤ p.2
  | [], k, _ => ⟨⟨List.Pairwise.nil, fun p h => by cases h⟩, fun n => by simp [cutN, mem_nil], fun q h => by cases h⟩
  | p :: l, k, ⟨a1, a2⟩ => by
    obtain ⟨a3, a4⟩ := List.pairwise_cons.mp a1
    have hp := a2 p List.mem_cons_self
    obtain ⟨⟨c1, c2⟩, c3, c4⟩ := cutN_ok (l := l) (k := k) ⟨a4, fun x hx => a2 x (List.mem_cons_of_mem _ hx)⟩
    have head : Can (if p.1 ≤ k ∧ k < p.2 then [(p.1, k), (k + 1, p.2)].filter (fun q => decide (q.1 < q.2)) else [p]) ∧
        (∀ n, mem (if p.1 ≤ k ∧ k < p.2 then [(p.1, k), (k + 1, p.2)].filter (fun q => decide (q.1 < q.2)) else [p]) n ↔ (p.1 ≤ n ∧ n < p.2) ∧ n ≠ k) ∧
        ∀ q ∈ (if p.1 ≤ k ∧ k < p.2 then [(p.1, k), (k + 1, p.2)].filter (fun q => decide (q.1 < q.2)) else [p]), p.1 ≤ q.1 ∧ q.2 ≤ p.2 := by
      split
      · rename_i hk
        by_cases h1 : p.1 < k
        · by_cases h2 : k + 1 < p.2
          · have e : [(p.1, k), (k + 1, p.2)].filter (fun q : Iv => decide (q.1 < q.2)) = [(p.1, k), (k + 1, p.2)] := by simp [h1, h2]
            rw [e]
            refine ⟨⟨by simp; omega, fun x hx => ?_⟩, fun n => ?_, fun q hq => ?_⟩
            · rcases List.mem_cons.mp hx with rfl | hx
              · exact h1
              · rw [List.mem_singleton.mp hx]; exact h2
            · simp only [mem_cons, mem_nil, or_false]; omega
            · rcases List.mem_cons.mp hq with rfl | hq
              · exact ⟨Int.le_refl _, by show k ≤ p.2; omega⟩
              · rw [List.mem_singleton.mp hq]; exact ⟨by show p.1 ≤ k + 1; omega, Int.le_refl _⟩
          · have e : [(p.1, k), (k + 1, p.2)].filter (fun q : Iv => decide (q.1 < q.2)) = [(p.1, k)] := by simp [h1, h2]
            rw [e]
            refine ⟨⟨List.pairwise_singleton _ _, fun x hx => ?_⟩, fun n => ?_, fun q hq => ?_⟩
            · rw [List.mem_singleton.mp hx]; exact h1
            · simp only [mem_cons, mem_nil, or_false]; omega
            · rw [List.mem_singleton.mp hq]; exact ⟨Int.le_refl _, by show k ≤ p.2; omega⟩
        · by_cases h2 : k + 1 < p.2
          · have e : [(p.1, k), (k + 1, p.2)].filter (fun q : Iv => decide (q.1 < q.2)) = [(k + 1, p.2)] := by simp [h1, h2]
            rw [e]
            refine ⟨⟨List.pairwise_singleton _ _, fun x hx => ?_⟩, fun n => ?_, fun q hq => ?_⟩
            · rw [List.mem_singleton.mp hx]; exact h2
            · simp only [mem_cons, mem_nil, or_false]; omega
            · rw [List.mem_singleton.mp hq]; exact ⟨by show p.1 ≤ k + 1; omega, Int.le_refl _⟩
          · have e : [(p.1, k), (k + 1, p.2)].filter (fun q : Iv => decide (q.1 < q.2)) = [] := by simp [h1, h2]
            rw [e]
            refine ⟨⟨List.Pairwise.nil, fun x hx => by cases hx⟩, fun n => ?_, fun q hq => by cases hq⟩
            simp only [mem_nil, false_iff]; omega
      · rename_i hk
        refine ⟨⟨List.pairwise_singleton _ _, fun x hx => ?_⟩, fun n => ?_, fun q hq => ?_⟩
        · rw [List.mem_singleton.mp hx]; exact hp
        · simp only [mem_cons, mem_nil, or_false]; omega
        · rw [List.mem_singleton.mp hq]; exact ⟨Int.le_refl _, Int.le_refl _⟩
    obtain ⟨⟨d1, d2⟩, d3, d4⟩ := head
    unfold cutN
    refine ⟨⟨List.pairwise_append.mpr ⟨d1, c1, fun x hx y hy => ?_⟩, fun x hx => ?_⟩, fun n => ?_, fun q hq => ?_⟩
    · obtain ⟨z, hz, z1, z2⟩ := c4 y hy
      have := d4 x hx
      have := a3 z hz
      omega
    · rcases List.mem_append.mp hx with hx | hx
      · exact d2 x hx
      · exact c2 x hx
    · rw [mem_append, d3, c3, mem_cons]
      constructor
      · rintro (z | z)
        · exact ⟨.inl z.1, z.2⟩
        · exact ⟨.inr z.1, z.2⟩
      · rintro ⟨z | z, y⟩
        · exact .inl ⟨z, y⟩
        · exact .inr ⟨z, y⟩
    · rcases List.mem_append.mp hq with hq | hq
      · exact ⟨p, List.mem_cons_self, d4 q hq⟩
      · obtain ⟨z, hz, y⟩ := c4 q hq
        exact ⟨z, List.mem_cons_of_mem _ hz, y⟩
/-- a sale takes just its number away -/
theorem sale_cut {lo : Int} {bs : List Bk} (w : WB lo bs) {sold sold' : List Int} (h : Asc sold) (h' : Asc sold') {k : Int} (hm : ∀ n, n ∈ sold' ↔ n ∈ sold ∨ n = k) (s : Str) : strE bs sold' s = cutN (strE bs sold s) k := by
  obtain ⟨a1, a2, _⟩ := strs_ok w h s
  obtain ⟨b1, b2, _⟩ := strs_ok w h' s
  obtain ⟨c1, c2, _⟩ := cutN_ok (k := k) a1
  refine can_same b1 c1 fun n => ?_
  rw [b2, c2, a2, hm]
  constructor
  · rintro ⟨x, y⟩; exact ⟨⟨x, fun z => y (.inl z)⟩, fun z => y (.inr z)⟩
  · rintro ⟨⟨x, y⟩, z⟩; exact ⟨x, fun q => by rcases q with q | q; exact y q; exact z q⟩
/-- what is left adds up -/
theorem pieces_sum {lo : Int} {bs : List Bk} (w : WB lo bs) {sold : List Int} (h : Asc sold) (s : Str) :
    sumL (pieces bs sold s) = ((bs.filter fun b => decide (b.2.2 = s)).map fun b => b.2.1 - b.1).sum - ((sold.filter fun n => decide (sellerOf bs n = some s)).length : Int) := by
  induction bs generalizing lo with
  | nil =>
    have e : (sold.filter fun n => decide (sellerOf [] n = some s)) = [] := List.filter_eq_nil_iff.mpr fun n _ => by simp [seller_nil]
    rw [e]; rfl
  | cons b bs ih =>
    obtain ⟨h1, h2, h3⟩ := w
    have ih := ih h3
    unfold pieces
    rw [sumL_append, ih]
    -- the sold ones of this block and those of the others
    have split : ∀ l : List Int, ((l.filter fun n => decide (sellerOf (b :: bs) n = some s)).length : Int) = (if b.2.2 = s then ((l.filter (inB b)).length : Int) else 0) + ((l.filter fun n => decide (sellerOf bs n = some s)).length : Int) := fun l => by
      induction l with
      | nil => simp
      | cons x l ihl =>
        rw [List.filter_cons, List.filter_cons (p := fun n => decide (sellerOf bs n = some s)), List.filter_cons (p := inB b)]
        rw [seller_cons]
        by_cases hx : inB b x = true
        · have hout : sellerOf bs x = none := seller_out h3 (inB_iff.mp hx).2
          rw [if_pos hx, hout]
          by_cases hs : b.2.2 = s
          · simp only [hs, hx, if_true, decide_true, List.length_cons] at ihl ⊢
            simp at ihl ⊢; omega
          · simp only [hs, hx, if_false, if_true] at ihl ⊢
            simp [hs] at ihl ⊢; omega
        · rw [if_neg hx]
          have hxf : inB b x = false := by simpa using hx
          by_cases hq : sellerOf bs x = some s
          · by_cases hs : b.2.2 = s
            · simp [hq, hs, hxf] at ihl ⊢; omega
            · simp [hq, hs, hxf] at ihl ⊢; omega
          · by_cases hs : b.2.2 = s
            · simp [hq, hs, hxf] at ihl ⊢; omega
            · simp [hq, hs, hxf] at ihl ⊢; omega
    rw [split]
    by_cases hs : b.2.2 = s
    · rw [if_pos hs, if_pos hs, pcs_sum (asc_filter h _) (fun x hx => inB_iff.mp (List.mem_filter.mp hx).2) (by omega)]
      rw [List.filter_cons]
      simp only [hs, decide_true, if_true, List.map_cons, List.sum_cons]
      omega
    · rw [if_neg hs, if_neg hs, List.filter_cons]
      simp only [hs, decide_false, Bool.false_eq_true, if_false, sumL_nil]
      omega
end LW

namespace LW
open PySem L2 DL
local macro_rules | `(tactic| walk_at "dl") => `(tactic| simp -implicitDefEqProofs only [mkF_eq, mkK_ret, mkK_nx, mkK_ex, mkK_ite, fin_nil, fin_io, fin_val, bind_ok, bind_ex, map_ok, map_ex, s_ok, s_ex, bind_ite, map_ite, s_ite, seq_ite, seq_nx, seq_ret, seq_brk, seq_cont, seq_ex, eC_eq, eVar_eq, eVarK_val, eVarK_own, asA_eq, asD_eq, d_val, d_own, peek_eq, peekK_val, peekK_own, peekK_io, pre_e, pre_n, preK_some, fin_e, fin_n, lift_some, lift_ite, fin2_some, fin1_some, eBin_eq, eBin1_eq, eBin2_eq, eUn_eq, eUn1_eq, tst_eq, tstK_ok, tstK_ex, tstK_ite, bNot_eq, bAnd_eq, bOr_eq, andK_eq, orK_eq, bYes_eq, eAnd_eq, eOr_eq, eAndK_bl, eOrK_bl, eNot_eq, eNotK_bl, eIf_eq, eIfK_eq, evs_nil, evs_cons, evsK_eq, evsA_nil, evsA_cons, evsAK_eq, eTup_eq, eLst_eq, ownLst_eq, preAll_nil, preAll_cons, preAllK_eq, finAll_nil, finAll_cons, consK_some, finL_some, eCB_eq, eCBK_eq, eCF_eq, eCFK_eq, eCF1_some, eCFR_ok, eCFR_ex, eCFR_ite, argSlots_nil, argSlots_cons, sconsK_some, argSlot_e, argSlot_n', argK_val, argK_own, argK_io, putB_nil, putB_cons, putS_none, putS_own, putS_io, putS_val, putS_un, look_nil, look_e, look_nv, look_nu, look_nio, eChain_eq, eCh0_eq, eCh1_eq, eCh2_bl, eCh3_eq, part_none, part_some, partK_int, fin3_some, eSl_eq, eSl0_eq, eSl1_eq, eSl2_eq, eApp_eq, ownL_eq, ownLK_own, ownLK_io, appK_eq, appK2_own, appK2_io, ePop_eq, eLc_eq, eLc1_eq, eLc2_some, eLcK_some, wipeE_nil, wipeE_cons, wipeK_some, wipeK2_un, wipeK2_val, unwipe_nil, unwipe_cons, unwK_some, iSeq_eq, seqK_lst, seqK_tup, seqK_str, iOf_eq, iOfK_eq, iOfK2_some, iKeysN_eq, keysK_dic, sNext_eq, sBrk_eq, sCont_eq, sSeq_eq, sIf_eq, sIfK_eq, sRet_eq, sRetN_eq, sRetK_val, sRetK_own, sExpr_eq, dropK2_eq, ioAt_eq, ioK_un, ioK_val, ioK_own, slotOf_val, slotOf_own, sSet_eq, sSetK_eq, nxO_some, nxO_none, sAsg_eq, sAsgK_eq, sPar_eq, sParK_eq, stoN_nil, stoN_cons, sto_nm, sto_tp, stos_nil, stos_cons, stosK_some, sSub_eq, sSub0_eq, sSub1_some, sSub2_eq, setSub_eq, setK_own, setK_io, nxU_eq, sParS_eq, sParS0_eq, stoS_nil, stoS_cons, stoS0_some, stoS1_eq, stoS2_some, sAug_eq, sAugK_val, sAug0_eq, sAug1_some, sFor_eq, forK_some, forK2_nx, forK2_cont, forK2_brk, forK2_ret, forK2_ex, forK2_ite, add_int, sub_int, mul_int, fdiv_int, mod_int, neg_int, lt_int, le_int, gt_int, ge_int, DL.eq_int, DL.ne_int, is_non, isn_non, is_bl, isn_bl, len_lst, len_tup, int_int, DL.abs_int, tuple_lst, tuple_tup, ix_lst, DL.ix_tup, at_lit, at_last, ixN_lit, rng1_int, rng2_int, List.getElem?_cons_zero, List.getElem?_cons_succ, List.getElem?_nil, List.set_cons_zero, List.set_cons_succ, List.cons_append, List.nil_append, List.replicate_succ, List.replicate_zero, Option.map_some, Option.map_none, Bool.and_true, Bool.true_and, Bool.and_false, Bool.false_and, Bool.not_true, Bool.not_false, if_true, if_false, ite_true, ite_false, reduceIte, reduceCtorEq, Bool.false_eq_true, List.length_cons, List.length_nil, Nat.reduceAdd, Nat.reduceLT, Nat.reduceEqDiff, eq_self, and_self, true_and, and_true, decide_eq_true_eq, beq_iff_eq , bind_no, map_no, s_no, seq_no, lift_none, tstK_no, forK2_no, mkK_no, eCFR_no , sl_scr, sl_lst, sl_tupl, eIsi_eq, isi_int, isi_bl, isi_str, isi_tup, isi_lst, isi_non, kit_ii, kit_ib, kit_is, kit_it, kit_il, kit_bi, kit_bb, kit_bs, kit_bt, kit_bl, kit_si, kit_sb, kit_ss, kit_st, kit_sl, kit_ti, kit_tb, kit_ts, kit_tt, kit_tl, kit_li, kit_lb, kit_ls, kit_lt, kit_ll, kit_ni, kit_nb, kit_ns, kit_nt, kit_nl, isNon_int, isNon_bl, isNon_str, isNon_tup, isNon_lst, isNon_non, DL.eq_bl, DL.ne_bl, Bool.or_false, Bool.false_or, Bool.or_true, Bool.true_or, beq_self_eq_true, Bool.not_not , eq_nil, Int.toNat_natCast , Int.cast_ofNat_Int, at_snoc, getLast_snoc])
local macro_rules | `(tactic| walk_at "dlh") => `(tactic| simp -implicitDefEqProofs only [mkF_eq, mkK_ret, mkK_nx, mkK_ex, mkK_ite, fin_nil, fin_io, fin_val, bind_ok, bind_ex, map_ok, map_ex, s_ok, s_ex, bind_ite, map_ite, s_ite, seq_ite, seq_nx, seq_ret, seq_brk, seq_cont, seq_ex, eC_eq, eVar_eq, eVarK_val, eVarK_own, asA_eq, asD_eq, d_val, d_own, peek_eq, peekK_val, peekK_own, peekK_io, pre_e, pre_n, preK_some, fin_e, fin_n, lift_some, lift_ite, fin2_some, fin1_some, eBin_eq, eBin1_eq, eBin2_eq, eUn_eq, eUn1_eq, tst_eq, tstK_ok, tstK_ex, tstK_ite, bNot_eq, bAnd_eq, bOr_eq, andK_eq, orK_eq, bYes_eq, eAnd_eq, eOr_eq, eAndK_bl, eOrK_bl, eNot_eq, eNotK_bl, eIf_eq, eIfK_eq, evs_nil, evs_cons, evsK_eq, evsA_nil, evsA_cons, evsAK_eq, eTup_eq, eLst_eq, ownLst_eq, preAll_nil, preAll_cons, preAllK_eq, finAll_nil, finAll_cons, consK_some, finL_some, eCB_eq, eCBK_eq, eCF_eq, eCFK_eq, eCF1_some, eCFR_ok, eCFR_ex, eCFR_ite, argSlots_nil, argSlots_cons, sconsK_some, argSlot_e, argSlot_n', argK_val, argK_own, argK_io, putB_nil, putB_cons, putS_none, putS_own, putS_io, putS_val, putS_un, look_nil, look_e, look_nv, look_nu, look_nio, eChain_eq, eCh0_eq, eCh1_eq, eCh2_bl, eCh3_eq, part_none, part_some, partK_int, fin3_some, eSl_eq, eSl0_eq, eSl1_eq, eSl2_eq, eApp_eq, ownL_eq, ownLK_own, ownLK_io, appK_eq, appK2_own, appK2_io, ePop_eq, eLc_eq, eLc1_eq, eLc2_some, eLcK_some, wipeE_nil, wipeE_cons, wipeK_some, wipeK2_un, wipeK2_val, unwipe_nil, unwipe_cons, unwK_some, iSeq_eq, seqK_lst, seqK_tup, seqK_str, iOf_eq, iOfK_eq, iOfK2_some, iKeysN_eq, keysK_dic, sNext_eq, sBrk_eq, sCont_eq, sSeq_eq, sIf_eq, sIfK_eq, sRet_eq, sRetN_eq, sRetK_val, sRetK_own, sExpr_eq, dropK2_eq, ioAt_eq, ioK_un, ioK_val, ioK_own, slotOf_val, slotOf_own, sSet_eq, sSetK_eq, nxO_some, nxO_none, sAsg_eq, sAsgK_eq, sPar_eq, sParK_eq, stoN_nil, stoN_cons, sto_nm, sto_tp, stos_nil, stos_cons, stosK_some, sSub_eq, sSub0_eq, sSub1_some, sSub2_eq, setSub_eq, setK_own, setK_io, nxU_eq, sParS_eq, sParS0_eq, stoS_nil, stoS_cons, stoS0_some, stoS1_eq, stoS2_some, sAug_eq, sAugK_val, sAug0_eq, sAug1_some, sFor_eq, forK_some, forK2_nx, forK2_cont, forK2_brk, forK2_ret, forK2_ex, forK2_ite, add_int, sub_int, mul_int, fdiv_int, mod_int, neg_int, lt_int, le_int, gt_int, ge_int, DL.eq_int, DL.ne_int, is_non, isn_non, is_bl, isn_bl, len_lst, len_tup, int_int, DL.abs_int, tuple_lst, tuple_tup, ix_lst, DL.ix_tup, at_lit, at_last, ixN_lit, rng1_int, rng2_int, List.getElem?_cons_zero, List.getElem?_cons_succ, List.getElem?_nil, List.set_cons_zero, List.set_cons_succ, List.cons_append, List.nil_append, List.replicate_succ, List.replicate_zero, Option.map_some, Option.map_none, Bool.and_true, Bool.true_and, Bool.and_false, Bool.false_and, Bool.not_true, Bool.not_false, if_true, if_false, ite_true, ite_false, reduceIte, reduceCtorEq, Bool.false_eq_true, List.length_cons, List.length_nil, Nat.reduceAdd, Nat.reduceLT, Nat.reduceEqDiff, eq_self, and_self, true_and, and_true, decide_eq_true_eq, beq_iff_eq , bind_no, map_no, s_no, seq_no, lift_none, tstK_no, forK2_no, mkK_no, eCFR_no , sl_scr, sl_lst, sl_tupl, eIsi_eq, isi_int, isi_bl, isi_str, isi_tup, isi_lst, isi_non, kit_ii, kit_ib, kit_is, kit_it, kit_il, kit_bi, kit_bb, kit_bs, kit_bt, kit_bl, kit_si, kit_sb, kit_ss, kit_st, kit_sl, kit_ti, kit_tb, kit_ts, kit_tt, kit_tl, kit_li, kit_lb, kit_ls, kit_lt, kit_ll, kit_ni, kit_nb, kit_ns, kit_nt, kit_nl, isNon_int, isNon_bl, isNon_str, isNon_tup, isNon_lst, isNon_non, DL.eq_bl, DL.ne_bl, Bool.or_false, Bool.false_or, Bool.or_true, Bool.true_or, beq_self_eq_true, Bool.not_not , eq_nil, Int.toNat_natCast , Int.cast_ofNat_Int, at_snoc, getLast_snoc, *])
theorem draw_ok {n : Nat} {st : List D} (h : St (n + 1) st) {l : Int} (hl : 0 < l) (hl2 : l < 2 ^ 64) :
    ∃ (r : Int) (st' : List D), F__law_draw [.io (.lst st), .val (.int l)] = .ok (.val (.int r)) [.io (.lst st'), .un] ∧ 0 ≤ r ∧ r < l ∧ St n st' := by
  obtain ⟨cells, k, b, c, d, e, rfl, h0, h1⟩ := h
  have hlog := log_ok hl hl2
  have m1 : ∀ x : Int, mulOk x 48271 := fun x => mulOk_r (by decide)
  have m2 : ∀ x : Int, mulOk x 69621 := fun x => mulOk_r (by decide)
  have m3 : mulOk (e + 1) (e + 1) := mulOk_r (by omega)
  have hm : ∀ x : Int, 0 ≤ x % l ∧ x % l < l := fun x => ⟨Int.emod_nonneg x (by omega), Int.emod_lt_of_pos x hl⟩
  have p1 : (0 : Int) < 2147483647 := by decide
  have p2 : (0 : Int) < 13 ∧ Nat.log2 (Int.natAbs 13) < 9000 := by decide
  have p3 : (0 : Int) < 60 := by decide
  by_cases hc : c = 0
  · subst hc
    by_cases hk : k < cells.length
    · have hk' : (k : Int) < ((cells.map D.int).length : Int) := by rw [List.length_map]; omega
      have ha := at_int_nat cells k hk
      by_cases hq : 0 < cells[k] / l
      · refine ⟨cells[k] % l, stL cells (k + 1) (cells[k] / l) 59 d e, ?_, (hm _).1, (hm _).2, cells, k + 1, _, _, d, e, rfl, h0, by omega⟩
        unfold F__law_draw B__law_draw stL
        clear h0 h1 hl2
        walk_at "dlh"
        rfl
      · refine ⟨cells[k] % l, stL cells (k + 1) (cells[k] / l) 0 d e, ?_, (hm _).1, (hm _).2, cells, k + 1, _, _, d, e, rfl, h0, by omega⟩
        unfold F__law_draw B__law_draw stL
        clear h0 h1 hl2
        walk_at "dlh"
        rfl
    · have hk' : ¬ (k : Int) < ((cells.map D.int).length : Int) := by rw [List.length_map]; omega
      have hn : ¬ (0 : Int) < 0 := by decide
      refine ⟨((d * 48271 + (e + 1) * (e + 1) * 69621 + 11) % 2147483647 / 13) % l, stL cells k b 0 ((d * 48271 + (e + 1) * (e + 1) * 69621 + 11) % 2147483647) (e + 1), ?_, (hm _).1, (hm _).2, cells, k, _, _, _, e + 1, rfl, by omega, by omega⟩
      unfold F__law_draw B__law_draw stL
      clear h0 h1 hl2
      walk_at "dlh"
  · have hc' : (c == 0) = false := by simpa using hc
    by_cases hp : 0 < c
    · by_cases hq : 0 < b / l
      · refine ⟨b % l, stL cells k (b / l) (c - 1) d e, ?_, (hm _).1, (hm _).2, cells, k, _, _, d, e, rfl, h0, by omega⟩
        unfold F__law_draw B__law_draw stL
        clear h0 h1 hl2
        walk_at "dlh"
      · refine ⟨b % l, stL cells k (b / l) 0 d e, ?_, (hm _).1, (hm _).2, cells, k, _, _, d, e, rfl, h0, by omega⟩
        unfold F__law_draw B__law_draw stL
        clear h0 h1 hl2
        walk_at "dlh"
    · refine ⟨((d * 48271 + (e + 1) * (e + 1) * 69621 + 11) % 2147483647 / 13) % l, stL cells k b c ((d * 48271 + (e + 1) * (e + 1) * 69621 + 11) % 2147483647) (e + 1), ?_, (hm _).1, (hm _).2, cells, k, _, _, _, e + 1, rfl, by omega, by omega⟩
      unfold F__law_draw B__law_draw stL
      clear h0 h1 hl2
      walk_at "dlh"
end LW

namespace LW
open PySem L2 DL
local macro_rules | `(tactic| walk_at "dl") => `(tactic| simp -implicitDefEqProofs only [mkF_eq, mkK_ret, mkK_nx, mkK_ex, mkK_ite, fin_nil, fin_io, fin_val, bind_ok, bind_ex, map_ok, map_ex, s_ok, s_ex, bind_ite, map_ite, s_ite, seq_ite, seq_nx, seq_ret, seq_brk, seq_cont, seq_ex, eC_eq, eVar_eq, eVarK_val, eVarK_own, asA_eq, asD_eq, d_val, d_own, peek_eq, peekK_val, peekK_own, peekK_io, pre_e, pre_n, preK_some, fin_e, fin_n, lift_some, lift_ite, fin2_some, fin1_some, eBin_eq, eBin1_eq, eBin2_eq, eUn_eq, eUn1_eq, tst_eq, tstK_ok, tstK_ex, tstK_ite, bNot_eq, bAnd_eq, bOr_eq, andK_eq, orK_eq, bYes_eq, eAnd_eq, eOr_eq, eAndK_bl, eOrK_bl, eNot_eq, eNotK_bl, eIf_eq, eIfK_eq, evs_nil, evs_cons, evsK_eq, evsA_nil, evsA_cons, evsAK_eq, eTup_eq, eLst_eq, ownLst_eq, preAll_nil, preAll_cons, preAllK_eq, finAll_nil, finAll_cons, consK_some, finL_some, eCB_eq, eCBK_eq, eCF_eq, eCFK_eq, eCF1_some, eCFR_ok, eCFR_ex, eCFR_ite, argSlots_nil, argSlots_cons, sconsK_some, argSlot_e, argSlot_n', argK_val, argK_own, argK_io, putB_nil, putB_cons, putS_none, putS_own, putS_io, putS_val, putS_un, look_nil, look_e, look_nv, look_nu, look_nio, eChain_eq, eCh0_eq, eCh1_eq, eCh2_bl, eCh3_eq, part_none, part_some, partK_int, fin3_some, eSl_eq, eSl0_eq, eSl1_eq, eSl2_eq, eApp_eq, ownL_eq, ownLK_own, ownLK_io, appK_eq, appK2_own, appK2_io, ePop_eq, eLc_eq, eLc1_eq, eLc2_some, eLcK_some, wipeE_nil, wipeE_cons, wipeK_some, wipeK2_un, wipeK2_val, unwipe_nil, unwipe_cons, unwK_some, iSeq_eq, seqK_lst, seqK_tup, seqK_str, iOf_eq, iOfK_eq, iOfK2_some, iKeysN_eq, keysK_dic, sNext_eq, sBrk_eq, sCont_eq, sSeq_eq, sIf_eq, sIfK_eq, sRet_eq, sRetN_eq, sRetK_val, sRetK_own, sExpr_eq, dropK2_eq, ioAt_eq, ioK_un, ioK_val, ioK_own, slotOf_val, slotOf_own, sSet_eq, sSetK_eq, nxO_some, nxO_none, sAsg_eq, sAsgK_eq, sPar_eq, sParK_eq, stoN_nil, stoN_cons, sto_nm, sto_tp, stos_nil, stos_cons, stosK_some, sSub_eq, sSub0_eq, sSub1_some, sSub2_eq, setSub_eq, setK_own, setK_io, nxU_eq, sParS_eq, sParS0_eq, stoS_nil, stoS_cons, stoS0_some, stoS1_eq, stoS2_some, sAug_eq, sAugK_val, sAug0_eq, sAug1_some, sFor_eq, forK_some, forK2_nx, forK2_cont, forK2_brk, forK2_ret, forK2_ex, forK2_ite, add_int, sub_int, mul_int, fdiv_int, mod_int, neg_int, lt_int, le_int, gt_int, ge_int, DL.eq_int, DL.ne_int, is_non, isn_non, is_bl, isn_bl, len_lst, len_tup, int_int, DL.abs_int, tuple_lst, tuple_tup, ix_lst, DL.ix_tup, at_lit, at_last, ixN_lit, rng1_int, rng2_int, List.getElem?_cons_zero, List.getElem?_cons_succ, List.getElem?_nil, List.set_cons_zero, List.set_cons_succ, List.cons_append, List.nil_append, List.replicate_succ, List.replicate_zero, Option.map_some, Option.map_none, Bool.and_true, Bool.true_and, Bool.and_false, Bool.false_and, Bool.not_true, Bool.not_false, if_true, if_false, ite_true, ite_false, reduceIte, reduceCtorEq, Bool.false_eq_true, List.length_cons, List.length_nil, Nat.reduceAdd, Nat.reduceLT, Nat.reduceEqDiff, eq_self, and_self, true_and, and_true, decide_eq_true_eq, beq_iff_eq , bind_no, map_no, s_no, seq_no, lift_none, tstK_no, forK2_no, mkK_no, eCFR_no , sl_scr, sl_lst, sl_tupl, eIsi_eq, isi_int, isi_bl, isi_str, isi_tup, isi_lst, isi_non, kit_ii, kit_ib, kit_is, kit_it, kit_il, kit_bi, kit_bb, kit_bs, kit_bt, kit_bl, kit_si, kit_sb, kit_ss, kit_st, kit_sl, kit_ti, kit_tb, kit_ts, kit_tt, kit_tl, kit_li, kit_lb, kit_ls, kit_lt, kit_ll, kit_ni, kit_nb, kit_ns, kit_nt, kit_nl, isNon_int, isNon_bl, isNon_str, isNon_tup, isNon_lst, isNon_non, DL.eq_bl, DL.ne_bl, Bool.or_false, Bool.false_or, Bool.or_true, Bool.true_or, beq_self_eq_true, Bool.not_not , eq_nil, Int.toNat_natCast , Int.cast_ofNat_Int, at_snoc, getLast_snoc])
local macro_rules | `(tactic| walk_at "dlh") => `(tactic| simp -implicitDefEqProofs only [mkF_eq, mkK_ret, mkK_nx, mkK_ex, mkK_ite, fin_nil, fin_io, fin_val, bind_ok, bind_ex, map_ok, map_ex, s_ok, s_ex, bind_ite, map_ite, s_ite, seq_ite, seq_nx, seq_ret, seq_brk, seq_cont, seq_ex, eC_eq, eVar_eq, eVarK_val, eVarK_own, asA_eq, asD_eq, d_val, d_own, peek_eq, peekK_val, peekK_own, peekK_io, pre_e, pre_n, preK_some, fin_e, fin_n, lift_some, lift_ite, fin2_some, fin1_some, eBin_eq, eBin1_eq, eBin2_eq, eUn_eq, eUn1_eq, tst_eq, tstK_ok, tstK_ex, tstK_ite, bNot_eq, bAnd_eq, bOr_eq, andK_eq, orK_eq, bYes_eq, eAnd_eq, eOr_eq, eAndK_bl, eOrK_bl, eNot_eq, eNotK_bl, eIf_eq, eIfK_eq, evs_nil, evs_cons, evsK_eq, evsA_nil, evsA_cons, evsAK_eq, eTup_eq, eLst_eq, ownLst_eq, preAll_nil, preAll_cons, preAllK_eq, finAll_nil, finAll_cons, consK_some, finL_some, eCB_eq, eCBK_eq, eCF_eq, eCFK_eq, eCF1_some, eCFR_ok, eCFR_ex, eCFR_ite, argSlots_nil, argSlots_cons, sconsK_some, argSlot_e, argSlot_n', argK_val, argK_own, argK_io, putB_nil, putB_cons, putS_none, putS_own, putS_io, putS_val, putS_un, look_nil, look_e, look_nv, look_nu, look_nio, eChain_eq, eCh0_eq, eCh1_eq, eCh2_bl, eCh3_eq, part_none, part_some, partK_int, fin3_some, eSl_eq, eSl0_eq, eSl1_eq, eSl2_eq, eApp_eq, ownL_eq, ownLK_own, ownLK_io, appK_eq, appK2_own, appK2_io, ePop_eq, eLc_eq, eLc1_eq, eLc2_some, eLcK_some, wipeE_nil, wipeE_cons, wipeK_some, wipeK2_un, wipeK2_val, unwipe_nil, unwipe_cons, unwK_some, iSeq_eq, seqK_lst, seqK_tup, seqK_str, iOf_eq, iOfK_eq, iOfK2_some, iKeysN_eq, keysK_dic, sNext_eq, sBrk_eq, sCont_eq, sSeq_eq, sIf_eq, sIfK_eq, sRet_eq, sRetN_eq, sRetK_val, sRetK_own, sExpr_eq, dropK2_eq, ioAt_eq, ioK_un, ioK_val, ioK_own, slotOf_val, slotOf_own, sSet_eq, sSetK_eq, nxO_some, nxO_none, sAsg_eq, sAsgK_eq, sPar_eq, sParK_eq, stoN_nil, stoN_cons, sto_nm, sto_tp, stos_nil, stos_cons, stosK_some, sSub_eq, sSub0_eq, sSub1_some, sSub2_eq, setSub_eq, setK_own, setK_io, nxU_eq, sParS_eq, sParS0_eq, stoS_nil, stoS_cons, stoS0_some, stoS1_eq, stoS2_some, sAug_eq, sAugK_val, sAug0_eq, sAug1_some, sFor_eq, forK_some, forK2_nx, forK2_cont, forK2_brk, forK2_ret, forK2_ex, forK2_ite, add_int, sub_int, mul_int, fdiv_int, mod_int, neg_int, lt_int, le_int, gt_int, ge_int, DL.eq_int, DL.ne_int, is_non, isn_non, is_bl, isn_bl, len_lst, len_tup, int_int, DL.abs_int, tuple_lst, tuple_tup, ix_lst, DL.ix_tup, at_lit, at_last, ixN_lit, rng1_int, rng2_int, List.getElem?_cons_zero, List.getElem?_cons_succ, List.getElem?_nil, List.set_cons_zero, List.set_cons_succ, List.cons_append, List.nil_append, List.replicate_succ, List.replicate_zero, Option.map_some, Option.map_none, Bool.and_true, Bool.true_and, Bool.and_false, Bool.false_and, Bool.not_true, Bool.not_false, if_true, if_false, ite_true, ite_false, reduceIte, reduceCtorEq, Bool.false_eq_true, List.length_cons, List.length_nil, Nat.reduceAdd, Nat.reduceLT, Nat.reduceEqDiff, eq_self, and_self, true_and, and_true, decide_eq_true_eq, beq_iff_eq , bind_no, map_no, s_no, seq_no, lift_none, tstK_no, forK2_no, mkK_no, eCFR_no , sl_scr, sl_lst, sl_tupl, eIsi_eq, isi_int, isi_bl, isi_str, isi_tup, isi_lst, isi_non, kit_ii, kit_ib, kit_is, kit_it, kit_il, kit_bi, kit_bb, kit_bs, kit_bt, kit_bl, kit_si, kit_sb, kit_ss, kit_st, kit_sl, kit_ti, kit_tb, kit_ts, kit_tt, kit_tl, kit_li, kit_lb, kit_ls, kit_lt, kit_ll, kit_ni, kit_nb, kit_ns, kit_nt, kit_nl, isNon_int, isNon_bl, isNon_str, isNon_tup, isNon_lst, isNon_non, DL.eq_bl, DL.ne_bl, Bool.or_false, Bool.false_or, Bool.or_true, Bool.true_or, beq_self_eq_true, Bool.not_not , eq_nil, Int.toNat_natCast , Int.cast_ofNat_Int, at_snoc, getLast_snoc, *])
mutual
/-- data that alike can walk -/
def fit : D → Bool
  | .tup ds => decide (ds.length < 16777216) && fits ds
  | .lst ds => decide (ds.length < 16777216) && fits ds
  | .dic _ _ => false
  | .scr _ => false
  | .str x => PyData.strOk x
  | _ => true
def fits : List D → Bool
  | [] => true
  | d :: ds => fit d && fits ds
end
theorem fits_get : ∀ {ds : List D} {k : Nat} {d : D}, fits ds = true → ds[k]? = some d → fit d = true ∧ d.dep ≤ D.deps ds
  | [], k, d, _, h => by simp at h
  | c :: ds, 0, d, h, e => by
    rw [fits, Bool.and_eq_true] at h
    cases e
    exact ⟨h.1, Nat.le_max_left _ _⟩
  | c :: ds, k + 1, d, h, e => by
    rw [fits, Bool.and_eq_true] at h
    obtain ⟨a, b⟩ := fits_get (k := k) h.2 (by simpa using e)
    exact ⟨a, Nat.le_trans b (Nat.le_max_right _ _)⟩
theorem alike_seq (rec : M A) (mk : List D → D) (ds : List D) (hmk : mk = .lst ∨ mk = .tup) (hl : ds.length < 16777216) (ih : ∀ (k : Nat) (h : k < ds.length), rec [.val ds[k], .val ds[k]] = .ok (.val (.bl true)) [.un, .un]) :
    lcGo [2] (.nm 2) (C__law_alike_1t rec) (C__law_alike_1e rec) (rangeD 0 ds.length) [.val (mk ds), .val (mk ds), .un] [] = some ([], [.val (mk ds), .val (mk ds), .un]) := by
  unfold rangeD
  have := lc_pure (tg := .nm 2) (vs := [2]) (ft := C__law_alike_1t rec) (fe := C__law_alike_1e rec) (fun k : Nat => D.int (0 + (k : Int))) (fun _ => false) (fun _ => D.non) [.val (mk ds), .val (mk ds), .un] (List.range ds.length) ?_ [] ?_
  · rw [this]; simp
  · intro k hk
    have hk : k < ds.length := List.mem_range.mp hk
    have ih := ih k hk
    have e0 : (0 : Int) + (k : Int) = (k : Int) := by omega
    have at2 : atI ds (0 + (k : Int)) = some ds[k] := by rw [e0, at_nat, List.getElem?_eq_getElem hk]
    refine ⟨[.val (mk ds), .val (mk ds), .val (.int (0 + k))], [.val (mk ds), .val (mk ds), .val (.int (0 + k))], ?_, ?_, (fun h => by cases h), fun _ => ?_⟩
    · walk_at "dl"
    · clear e0 hl
      unfold C__law_alike_1t
      rcases hmk with rfl | rfl
      · walk_at "dlh"
      · walk_at "dlh"
    · walk_at "dl"
  · rw [List.length_nil, List.length_range, PySem.sizeLine_eq, Nat.zero_add]; exact hl
theorem alike_tup (rec : M A) (ds : List D) (hl : ds.length < 16777216) (ih : ∀ (k : Nat) (h : k < ds.length), rec [.val ds[k], .val ds[k]] = .ok (.val (.bl true)) [.un, .un]) : mkF 1 (B__law_alike rec) [.val (.tup ds), .val (.tup ds)] = .ok (.val (.bl true)) [.un, .un] := by
  have h1 := alike_seq rec .tup ds (.inr rfl) hl ih
  have h2 : rngOk (ds.length : Int) := rngOk_of (by omega) (by omega)
  clear ih hl
  unfold B__law_alike
  walk_at "dlh"
theorem alike_lst (rec : M A) (ds : List D) (hl : ds.length < 16777216) (ih : ∀ (k : Nat) (h : k < ds.length), rec [.val ds[k], .val ds[k]] = .ok (.val (.bl true)) [.un, .un]) : mkF 1 (B__law_alike rec) [.val (.lst ds), .val (.lst ds)] = .ok (.val (.bl true)) [.un, .un] := by
  have h1 := alike_seq rec .lst ds (.inl rfl) hl ih
  have h2 : rngOk (ds.length : Int) := rngOk_of (by omega) (by omega)
  clear ih hl
  unfold B__law_alike
  walk_at "dlh"
theorem alike_refl (dp : Nat) : ∀ (d : D), fit d = true → d.dep < dp → F__law_alike dp [.val d, .val d] = .ok (.val (.bl true)) [.un, .un] := by
  induction dp with
  | zero => exact fun _ _ h => absurd h (Nat.not_lt_zero _)
  | succ dp IH =>
    intro d hf hd
    have un : F__law_alike (dp + 1) [.val d, .val d] = mkF 1 (B__law_alike (F__law_alike dp)) [.val d, .val d] := by rw [F__law_alike]
    rw [un]
    cases d with
    | non => unfold B__law_alike; walk_at "dl"
    | bl b => unfold B__law_alike; walk_at "dl"
    | int i => unfold B__law_alike; walk_at "dl"
    | str x =>
      have e1 : eqD (.str x) (.str x) = some (.val (.bl true)) := by
        rw [DL.eq_def, if_pos (by have : PyData.strOk x = true := hf; unfold eqOk; simp [D.plain, D.dep, this]), eqB_refl (.str x) hf]
      unfold B__law_alike
      walk_at "dlh"
    | dic ks ds => cases hf
    | scr ns => cases hf
    | tup ds =>
      rw [fit, Bool.and_eq_true, decide_eq_true_eq] at hf
      rw [D.dep] at hd
      exact alike_tup _ ds hf.1 fun k hk => by
        obtain ⟨a, b⟩ := fits_get hf.2 (List.getElem?_eq_getElem hk)
        exact IH ds[k] a (by omega)
    | lst ds =>
      rw [fit, Bool.and_eq_true, decide_eq_true_eq] at hf
      rw [D.dep] at hd
      exact alike_lst _ ds hf.1 fun k hk => by
        obtain ⟨a, b⟩ := fits_get hf.2 (List.getElem?_eq_getElem hk)
        exact IH ds[k] a (by omega)
end LW

namespace LW
open PySem L2 DL
local macro_rules | `(tactic| walk_at "dl") => `(tactic| simp -implicitDefEqProofs only [mkF_eq, mkK_ret, mkK_nx, mkK_ex, mkK_ite, fin_nil, fin_io, fin_val, bind_ok, bind_ex, map_ok, map_ex, s_ok, s_ex, bind_ite, map_ite, s_ite, seq_ite, seq_nx, seq_ret, seq_brk, seq_cont, seq_ex, eC_eq, eVar_eq, eVarK_val, eVarK_own, asA_eq, asD_eq, d_val, d_own, peek_eq, peekK_val, peekK_own, peekK_io, pre_e, pre_n, preK_some, fin_e, fin_n, lift_some, lift_ite, fin2_some, fin1_some, eBin_eq, eBin1_eq, eBin2_eq, eUn_eq, eUn1_eq, tst_eq, tstK_ok, tstK_ex, tstK_ite, bNot_eq, bAnd_eq, bOr_eq, andK_eq, orK_eq, bYes_eq, eAnd_eq, eOr_eq, eAndK_bl, eOrK_bl, eNot_eq, eNotK_bl, eIf_eq, eIfK_eq, evs_nil, evs_cons, evsK_eq, evsA_nil, evsA_cons, evsAK_eq, eTup_eq, eLst_eq, ownLst_eq, preAll_nil, preAll_cons, preAllK_eq, finAll_nil, finAll_cons, consK_some, finL_some, eCB_eq, eCBK_eq, eCF_eq, eCFK_eq, eCF1_some, eCFR_ok, eCFR_ex, eCFR_ite, argSlots_nil, argSlots_cons, sconsK_some, argSlot_e, argSlot_n', argK_val, argK_own, argK_io, putB_nil, putB_cons, putS_none, putS_own, putS_io, putS_val, putS_un, look_nil, look_e, look_nv, look_nu, look_nio, eChain_eq, eCh0_eq, eCh1_eq, eCh2_bl, eCh3_eq, part_none, part_some, partK_int, fin3_some, eSl_eq, eSl0_eq, eSl1_eq, eSl2_eq, eApp_eq, ownL_eq, ownLK_own, ownLK_io, appK_eq, appK2_own, appK2_io, ePop_eq, eLc_eq, eLc1_eq, eLc2_some, eLcK_some, wipeE_nil, wipeE_cons, wipeK_some, wipeK2_un, wipeK2_val, unwipe_nil, unwipe_cons, unwK_some, iSeq_eq, seqK_lst, seqK_tup, seqK_str, iOf_eq, iOfK_eq, iOfK2_some, iKeysN_eq, keysK_dic, sNext_eq, sBrk_eq, sCont_eq, sSeq_eq, sIf_eq, sIfK_eq, sRet_eq, sRetN_eq, sRetK_val, sRetK_own, sExpr_eq, dropK2_eq, ioAt_eq, ioK_un, ioK_val, ioK_own, slotOf_val, slotOf_own, sSet_eq, sSetK_eq, nxO_some, nxO_none, sAsg_eq, sAsgK_eq, sPar_eq, sParK_eq, stoN_nil, stoN_cons, sto_nm, sto_tp, stos_nil, stos_cons, stosK_some, sSub_eq, sSub0_eq, sSub1_some, sSub2_eq, setSub_eq, setK_own, setK_io, nxU_eq, sParS_eq, sParS0_eq, stoS_nil, stoS_cons, stoS0_some, stoS1_eq, stoS2_some, sAug_eq, sAugK_val, sAug0_eq, sAug1_some, sFor_eq, forK_some, forK2_nx, forK2_cont, forK2_brk, forK2_ret, forK2_ex, forK2_ite, add_int, sub_int, mul_int, fdiv_int, mod_int, neg_int, lt_int, le_int, gt_int, ge_int, DL.eq_int, DL.ne_int, is_non, isn_non, is_bl, isn_bl, len_lst, len_tup, int_int, DL.abs_int, tuple_lst, tuple_tup, ix_lst, DL.ix_tup, at_lit, at_last, ixN_lit, rng1_int, rng2_int, List.getElem?_cons_zero, List.getElem?_cons_succ, List.getElem?_nil, List.set_cons_zero, List.set_cons_succ, List.cons_append, List.nil_append, List.replicate_succ, List.replicate_zero, Option.map_some, Option.map_none, Bool.and_true, Bool.true_and, Bool.and_false, Bool.false_and, Bool.not_true, Bool.not_false, if_true, if_false, ite_true, ite_false, reduceIte, reduceCtorEq, Bool.false_eq_true, List.length_cons, List.length_nil, Nat.reduceAdd, Nat.reduceLT, Nat.reduceEqDiff, eq_self, and_self, true_and, and_true, decide_eq_true_eq, beq_iff_eq , bind_no, map_no, s_no, seq_no, lift_none, tstK_no, forK2_no, mkK_no, eCFR_no , sl_scr, sl_lst, sl_tupl, eIsi_eq, isi_int, isi_bl, isi_str, isi_tup, isi_lst, isi_non, kit_ii, kit_ib, kit_is, kit_it, kit_il, kit_bi, kit_bb, kit_bs, kit_bt, kit_bl, kit_si, kit_sb, kit_ss, kit_st, kit_sl, kit_ti, kit_tb, kit_ts, kit_tt, kit_tl, kit_li, kit_lb, kit_ls, kit_lt, kit_ll, kit_ni, kit_nb, kit_ns, kit_nt, kit_nl, isNon_int, isNon_bl, isNon_str, isNon_tup, isNon_lst, isNon_non, DL.eq_bl, DL.ne_bl, Bool.or_false, Bool.false_or, Bool.or_true, Bool.true_or, beq_self_eq_true, Bool.not_not , eq_nil, Int.toNat_natCast , Int.cast_ofNat_Int, at_snoc, getLast_snoc])
local macro_rules | `(tactic| walk_at "dlh") => `(tactic| simp -implicitDefEqProofs only [mkF_eq, mkK_ret, mkK_nx, mkK_ex, mkK_ite, fin_nil, fin_io, fin_val, bind_ok, bind_ex, map_ok, map_ex, s_ok, s_ex, bind_ite, map_ite, s_ite, seq_ite, seq_nx, seq_ret, seq_brk, seq_cont, seq_ex, eC_eq, eVar_eq, eVarK_val, eVarK_own, asA_eq, asD_eq, d_val, d_own, peek_eq, peekK_val, peekK_own, peekK_io, pre_e, pre_n, preK_some, fin_e, fin_n, lift_some, lift_ite, fin2_some, fin1_some, eBin_eq, eBin1_eq, eBin2_eq, eUn_eq, eUn1_eq, tst_eq, tstK_ok, tstK_ex, tstK_ite, bNot_eq, bAnd_eq, bOr_eq, andK_eq, orK_eq, bYes_eq, eAnd_eq, eOr_eq, eAndK_bl, eOrK_bl, eNot_eq, eNotK_bl, eIf_eq, eIfK_eq, evs_nil, evs_cons, evsK_eq, evsA_nil, evsA_cons, evsAK_eq, eTup_eq, eLst_eq, ownLst_eq, preAll_nil, preAll_cons, preAllK_eq, finAll_nil, finAll_cons, consK_some, finL_some, eCB_eq, eCBK_eq, eCF_eq, eCFK_eq, eCF1_some, eCFR_ok, eCFR_ex, eCFR_ite, argSlots_nil, argSlots_cons, sconsK_some, argSlot_e, argSlot_n', argK_val, argK_own, argK_io, putB_nil, putB_cons, putS_none, putS_own, putS_io, putS_val, putS_un, look_nil, look_e, look_nv, look_nu, look_nio, eChain_eq, eCh0_eq, eCh1_eq, eCh2_bl, eCh3_eq, part_none, part_some, partK_int, fin3_some, eSl_eq, eSl0_eq, eSl1_eq, eSl2_eq, eApp_eq, ownL_eq, ownLK_own, ownLK_io, appK_eq, appK2_own, appK2_io, ePop_eq, eLc_eq, eLc1_eq, eLc2_some, eLcK_some, wipeE_nil, wipeE_cons, wipeK_some, wipeK2_un, wipeK2_val, unwipe_nil, unwipe_cons, unwK_some, iSeq_eq, seqK_lst, seqK_tup, seqK_str, iOf_eq, iOfK_eq, iOfK2_some, iKeysN_eq, keysK_dic, sNext_eq, sBrk_eq, sCont_eq, sSeq_eq, sIf_eq, sIfK_eq, sRet_eq, sRetN_eq, sRetK_val, sRetK_own, sExpr_eq, dropK2_eq, ioAt_eq, ioK_un, ioK_val, ioK_own, slotOf_val, slotOf_own, sSet_eq, sSetK_eq, nxO_some, nxO_none, sAsg_eq, sAsgK_eq, sPar_eq, sParK_eq, stoN_nil, stoN_cons, sto_nm, sto_tp, stos_nil, stos_cons, stosK_some, sSub_eq, sSub0_eq, sSub1_some, sSub2_eq, setSub_eq, setK_own, setK_io, nxU_eq, sParS_eq, sParS0_eq, stoS_nil, stoS_cons, stoS0_some, stoS1_eq, stoS2_some, sAug_eq, sAugK_val, sAug0_eq, sAug1_some, sFor_eq, forK_some, forK2_nx, forK2_cont, forK2_brk, forK2_ret, forK2_ex, forK2_ite, add_int, sub_int, mul_int, fdiv_int, mod_int, neg_int, lt_int, le_int, gt_int, ge_int, DL.eq_int, DL.ne_int, is_non, isn_non, is_bl, isn_bl, len_lst, len_tup, int_int, DL.abs_int, tuple_lst, tuple_tup, ix_lst, DL.ix_tup, at_lit, at_last, ixN_lit, rng1_int, rng2_int, List.getElem?_cons_zero, List.getElem?_cons_succ, List.getElem?_nil, List.set_cons_zero, List.set_cons_succ, List.cons_append, List.nil_append, List.replicate_succ, List.replicate_zero, Option.map_some, Option.map_none, Bool.and_true, Bool.true_and, Bool.and_false, Bool.false_and, Bool.not_true, Bool.not_false, if_true, if_false, ite_true, ite_false, reduceIte, reduceCtorEq, Bool.false_eq_true, List.length_cons, List.length_nil, Nat.reduceAdd, Nat.reduceLT, Nat.reduceEqDiff, eq_self, and_self, true_and, and_true, decide_eq_true_eq, beq_iff_eq , bind_no, map_no, s_no, seq_no, lift_none, tstK_no, forK2_no, mkK_no, eCFR_no , sl_scr, sl_lst, sl_tupl, eIsi_eq, isi_int, isi_bl, isi_str, isi_tup, isi_lst, isi_non, kit_ii, kit_ib, kit_is, kit_it, kit_il, kit_bi, kit_bb, kit_bs, kit_bt, kit_bl, kit_si, kit_sb, kit_ss, kit_st, kit_sl, kit_ti, kit_tb, kit_ts, kit_tt, kit_tl, kit_li, kit_lb, kit_ls, kit_lt, kit_ll, kit_ni, kit_nb, kit_ns, kit_nt, kit_nl, isNon_int, isNon_bl, isNon_str, isNon_tup, isNon_lst, isNon_non, DL.eq_bl, DL.ne_bl, Bool.or_false, Bool.false_or, Bool.or_true, Bool.true_or, beq_self_eq_true, Bool.not_not , eq_nil, Int.toNat_natCast , Int.cast_ofNat_Int, at_snoc, getLast_snoc, *])
theorem start_ok (ns : List Int) (hn : ns.length ≤ 63) : ∃ (st : List D), F__law_start [.val (.scr ns)] = .ok (.own (.lst st)) [.un] ∧ St 100000 st := by
  have m1 : ∀ x : Int, mulOk x 48271 := fun x => mulOk_r (by decide)
  have p1 : (0 : Int) < 2147483629 := by decide
  obtain ⟨env', h1, s, x, rfl, hx⟩ := for_inv (tg := .nm 2) (p := L__law_start_1) D.int (fun _ env => ∃ (s : Int) (x : Slot), env = [.val (.scr ns), .val (.int s), x] ∧ Junk x) (cut ns none (some 63)) [.val (.scr ns), .val (.int 7), .un] ⟨7, .un, rfl, .un⟩ (fun c rest env ⟨s, x, e, hx⟩ => by
    subst e
    have hio := hx.io
    refine ⟨[.val (.scr ns), .val (.int s), .val (.int c)], [.val (.scr ns), .val (.int ((s * 48271 + c) % 2147483629 + 1)), .val (.int c)], ?_, .inl ?_, _, _, rfl, .val⟩
    · walk_at "dlh"
    · unfold L__law_start_1
      walk_at "dlh")
  have hlc := lc_pure (tg := .nm 2) (vs := [2]) (ft := bYes) (fe := C__law_start_1e) D.int (fun _ => true) (fun c => D.int (if c < 0 then -c else c)) [.val (.scr ns), .val (.int s), .un] (cut ns none (some 63)) (fun c _ => by
    refine ⟨[.val (.scr ns), .val (.int s), .val (.int c)], [.val (.scr ns), .val (.int s), .val (.int c)], ?_, ?_, fun _ => ⟨[.val (.scr ns), .val (.int s), .val (.int c)], ?_, ?_⟩, fun h => by cases h⟩
    · walk_at "dl"
    · walk_at "dl"
    · unfold C__law_start_1e
      walk_at "dl"
    · walk_at "dl") [] (by
      have : (cut ns none (some 63)).length ≤ ns.length := by unfold cut; rw [List.length_take, List.length_drop]; omega
      rw [PySem.sizeLine_eq]; show 0 + _ < _; omega)
  have hw := hx.wipe
  refine ⟨stL ((cut ns none (some 63)).map fun c => if c < 0 then -c else c) 0 0 0 s 0, ?_, _, 0, 0, 0, s, 0, rfl, Int.le_refl _, by decide⟩
  have hflt : ((cut ns none (some 63)).filter fun _ => true) = cut ns none (some 63) := List.filter_eq_self.mpr fun _ _ => rfl
  rw [hflt] at hlc
  clear p1 m1 hn
  unfold F__law_start B__law_start stL
  walk_at "dlh"
  simp [List.map_map]
def bD (b : Bk) : D := .tup [.int b.1, .int b.2.1, .str b.2.2]
def blD (bs : List Bk) : D := .tup (bs.map bD)
theorem num_ok (v lo hi : Int) : F_is_number [.val (.int v), .val (.int lo), .val (.int hi)] = .ok (.val (.bl (decide (lo ≤ v) && decide (v ≤ hi)))) [.un, .un, .un] := by
  unfold F_is_number B_is_number
  walk_at "dl"
  by_cases h : lo ≤ v
  · simp [h]
  · simp [h]
def Menu (s : Str) : Prop := s = "ann" ∨ s = "bob" ∨ s = "cid"
theorem name_ok {s : Str} (h : Menu s) : F_is_name [.val (.str s)] = .ok (.val (.bl true)) [.un] := by
  rcases h with rfl | rfl | rfl <;> kernel_rfl
theorem judged_ok (st : List D) : F__law_judged 8 [.io (.lst st)] = .ok (.val (.bl true)) [.io (.lst st)] := by kernel_rfl
end LW

namespace LW
open PySem L2 DL
local macro_rules | `(tactic| walk_at "dl") => `(tactic| simp -implicitDefEqProofs only [mkF_eq, mkK_ret, mkK_nx, mkK_ex, mkK_ite, fin_nil, fin_io, fin_val, bind_ok, bind_ex, map_ok, map_ex, s_ok, s_ex, bind_ite, map_ite, s_ite, seq_ite, seq_nx, seq_ret, seq_brk, seq_cont, seq_ex, eC_eq, eVar_eq, eVarK_val, eVarK_own, asA_eq, asD_eq, d_val, d_own, peek_eq, peekK_val, peekK_own, peekK_io, pre_e, pre_n, preK_some, fin_e, fin_n, lift_some, lift_ite, fin2_some, fin1_some, eBin_eq, eBin1_eq, eBin2_eq, eUn_eq, eUn1_eq, tst_eq, tstK_ok, tstK_ex, tstK_ite, bNot_eq, bAnd_eq, bOr_eq, andK_eq, orK_eq, bYes_eq, eAnd_eq, eOr_eq, eAndK_bl, eOrK_bl, eNot_eq, eNotK_bl, eIf_eq, eIfK_eq, evs_nil, evs_cons, evsK_eq, evsA_nil, evsA_cons, evsAK_eq, eTup_eq, eLst_eq, ownLst_eq, preAll_nil, preAll_cons, preAllK_eq, finAll_nil, finAll_cons, consK_some, finL_some, eCB_eq, eCBK_eq, eCF_eq, eCFK_eq, eCF1_some, eCFR_ok, eCFR_ex, eCFR_ite, argSlots_nil, argSlots_cons, sconsK_some, argSlot_e, argSlot_n', argK_val, argK_own, argK_io, putB_nil, putB_cons, putS_none, putS_own, putS_io, putS_val, putS_un, look_nil, look_e, look_nv, look_nu, look_nio, eChain_eq, eCh0_eq, eCh1_eq, eCh2_bl, eCh3_eq, part_none, part_some, partK_int, fin3_some, eSl_eq, eSl0_eq, eSl1_eq, eSl2_eq, eApp_eq, ownL_eq, ownLK_own, ownLK_io, appK_eq, appK2_own, appK2_io, ePop_eq, eLc_eq, eLc1_eq, eLc2_some, eLcK_some, wipeE_nil, wipeE_cons, wipeK_some, wipeK2_un, wipeK2_val, unwipe_nil, unwipe_cons, unwK_some, iSeq_eq, seqK_lst, seqK_tup, seqK_str, iOf_eq, iOfK_eq, iOfK2_some, iKeysN_eq, keysK_dic, sNext_eq, sBrk_eq, sCont_eq, sSeq_eq, sIf_eq, sIfK_eq, sRet_eq, sRetN_eq, sRetK_val, sRetK_own, sExpr_eq, dropK2_eq, ioAt_eq, ioK_un, ioK_val, ioK_own, slotOf_val, slotOf_own, sSet_eq, sSetK_eq, nxO_some, nxO_none, sAsg_eq, sAsgK_eq, sPar_eq, sParK_eq, stoN_nil, stoN_cons, sto_nm, sto_tp, stos_nil, stos_cons, stosK_some, sSub_eq, sSub0_eq, sSub1_some, sSub2_eq, setSub_eq, setK_own, setK_io, nxU_eq, sParS_eq, sParS0_eq, stoS_nil, stoS_cons, stoS0_some, stoS1_eq, stoS2_some, sAug_eq, sAugK_val, sAug0_eq, sAug1_some, sFor_eq, forK_some, forK2_nx, forK2_cont, forK2_brk, forK2_ret, forK2_ex, forK2_ite, add_int, sub_int, mul_int, fdiv_int, mod_int, neg_int, lt_int, le_int, gt_int, ge_int, DL.eq_int, DL.ne_int, is_non, isn_non, is_bl, isn_bl, len_lst, len_tup, int_int, DL.abs_int, tuple_lst, tuple_tup, ix_lst, DL.ix_tup, at_lit, at_last, ixN_lit, rng1_int, rng2_int, List.getElem?_cons_zero, List.getElem?_cons_succ, List.getElem?_nil, List.set_cons_zero, List.set_cons_succ, List.cons_append, List.nil_append, List.replicate_succ, List.replicate_zero, Option.map_some, Option.map_none, Bool.and_true, Bool.true_and, Bool.and_false, Bool.false_and, Bool.not_true, Bool.not_false, if_true, if_false, ite_true, ite_false, reduceIte, reduceCtorEq, Bool.false_eq_true, List.length_cons, List.length_nil, Nat.reduceAdd, Nat.reduceLT, Nat.reduceEqDiff, eq_self, and_self, true_and, and_true, decide_eq_true_eq, beq_iff_eq , bind_no, map_no, s_no, seq_no, lift_none, tstK_no, forK2_no, mkK_no, eCFR_no , sl_scr, sl_lst, sl_tupl, eIsi_eq, isi_int, isi_bl, isi_str, isi_tup, isi_lst, isi_non, kit_ii, kit_ib, kit_is, kit_it, kit_il, kit_bi, kit_bb, kit_bs, kit_bt, kit_bl, kit_si, kit_sb, kit_ss, kit_st, kit_sl, kit_ti, kit_tb, kit_ts, kit_tt, kit_tl, kit_li, kit_lb, kit_ls, kit_lt, kit_ll, kit_ni, kit_nb, kit_ns, kit_nt, kit_nl, isNon_int, isNon_bl, isNon_str, isNon_tup, isNon_lst, isNon_non, DL.eq_bl, DL.ne_bl, Bool.or_false, Bool.false_or, Bool.or_true, Bool.true_or, beq_self_eq_true, Bool.not_not , eq_nil, Int.toNat_natCast , Int.cast_ofNat_Int, at_snoc, getLast_snoc])
local macro_rules | `(tactic| walk_at "dlh") => `(tactic| simp -implicitDefEqProofs only [mkF_eq, mkK_ret, mkK_nx, mkK_ex, mkK_ite, fin_nil, fin_io, fin_val, bind_ok, bind_ex, map_ok, map_ex, s_ok, s_ex, bind_ite, map_ite, s_ite, seq_ite, seq_nx, seq_ret, seq_brk, seq_cont, seq_ex, eC_eq, eVar_eq, eVarK_val, eVarK_own, asA_eq, asD_eq, d_val, d_own, peek_eq, peekK_val, peekK_own, peekK_io, pre_e, pre_n, preK_some, fin_e, fin_n, lift_some, lift_ite, fin2_some, fin1_some, eBin_eq, eBin1_eq, eBin2_eq, eUn_eq, eUn1_eq, tst_eq, tstK_ok, tstK_ex, tstK_ite, bNot_eq, bAnd_eq, bOr_eq, andK_eq, orK_eq, bYes_eq, eAnd_eq, eOr_eq, eAndK_bl, eOrK_bl, eNot_eq, eNotK_bl, eIf_eq, eIfK_eq, evs_nil, evs_cons, evsK_eq, evsA_nil, evsA_cons, evsAK_eq, eTup_eq, eLst_eq, ownLst_eq, preAll_nil, preAll_cons, preAllK_eq, finAll_nil, finAll_cons, consK_some, finL_some, eCB_eq, eCBK_eq, eCF_eq, eCFK_eq, eCF1_some, eCFR_ok, eCFR_ex, eCFR_ite, argSlots_nil, argSlots_cons, sconsK_some, argSlot_e, argSlot_n', argK_val, argK_own, argK_io, putB_nil, putB_cons, putS_none, putS_own, putS_io, putS_val, putS_un, look_nil, look_e, look_nv, look_nu, look_nio, eChain_eq, eCh0_eq, eCh1_eq, eCh2_bl, eCh3_eq, part_none, part_some, partK_int, fin3_some, eSl_eq, eSl0_eq, eSl1_eq, eSl2_eq, eApp_eq, ownL_eq, ownLK_own, ownLK_io, appK_eq, appK2_own, appK2_io, ePop_eq, eLc_eq, eLc1_eq, eLc2_some, eLcK_some, wipeE_nil, wipeE_cons, wipeK_some, wipeK2_un, wipeK2_val, unwipe_nil, unwipe_cons, unwK_some, iSeq_eq, seqK_lst, seqK_tup, seqK_str, iOf_eq, iOfK_eq, iOfK2_some, iKeysN_eq, keysK_dic, sNext_eq, sBrk_eq, sCont_eq, sSeq_eq, sIf_eq, sIfK_eq, sRet_eq, sRetN_eq, sRetK_val, sRetK_own, sExpr_eq, dropK2_eq, ioAt_eq, ioK_un, ioK_val, ioK_own, slotOf_val, slotOf_own, sSet_eq, sSetK_eq, nxO_some, nxO_none, sAsg_eq, sAsgK_eq, sPar_eq, sParK_eq, stoN_nil, stoN_cons, sto_nm, sto_tp, stos_nil, stos_cons, stosK_some, sSub_eq, sSub0_eq, sSub1_some, sSub2_eq, setSub_eq, setK_own, setK_io, nxU_eq, sParS_eq, sParS0_eq, stoS_nil, stoS_cons, stoS0_some, stoS1_eq, stoS2_some, sAug_eq, sAugK_val, sAug0_eq, sAug1_some, sFor_eq, forK_some, forK2_nx, forK2_cont, forK2_brk, forK2_ret, forK2_ex, forK2_ite, add_int, sub_int, mul_int, fdiv_int, mod_int, neg_int, lt_int, le_int, gt_int, ge_int, DL.eq_int, DL.ne_int, is_non, isn_non, is_bl, isn_bl, len_lst, len_tup, int_int, DL.abs_int, tuple_lst, tuple_tup, ix_lst, DL.ix_tup, at_lit, at_last, ixN_lit, rng1_int, rng2_int, List.getElem?_cons_zero, List.getElem?_cons_succ, List.getElem?_nil, List.set_cons_zero, List.set_cons_succ, List.cons_append, List.nil_append, List.replicate_succ, List.replicate_zero, Option.map_some, Option.map_none, Bool.and_true, Bool.true_and, Bool.and_false, Bool.false_and, Bool.not_true, Bool.not_false, if_true, if_false, ite_true, ite_false, reduceIte, reduceCtorEq, Bool.false_eq_true, List.length_cons, List.length_nil, Nat.reduceAdd, Nat.reduceLT, Nat.reduceEqDiff, eq_self, and_self, true_and, and_true, decide_eq_true_eq, beq_iff_eq , bind_no, map_no, s_no, seq_no, lift_none, tstK_no, forK2_no, mkK_no, eCFR_no , sl_scr, sl_lst, sl_tupl, eIsi_eq, isi_int, isi_bl, isi_str, isi_tup, isi_lst, isi_non, kit_ii, kit_ib, kit_is, kit_it, kit_il, kit_bi, kit_bb, kit_bs, kit_bt, kit_bl, kit_si, kit_sb, kit_ss, kit_st, kit_sl, kit_ti, kit_tb, kit_ts, kit_tt, kit_tl, kit_li, kit_lb, kit_ls, kit_lt, kit_ll, kit_ni, kit_nb, kit_ns, kit_nt, kit_nl, isNon_int, isNon_bl, isNon_str, isNon_tup, isNon_lst, isNon_non, DL.eq_bl, DL.ne_bl, Bool.or_false, Bool.false_or, Bool.or_true, Bool.true_or, beq_self_eq_true, Bool.not_not , eq_nil, Int.toNat_natCast , Int.cast_ofNat_Int, at_snoc, getLast_snoc, *])
def Good (bs : List Bk) : Prop := ∀ b ∈ bs, b.2.1 ≤ 1000000000000000 ∧ Menu b.2.2
theorem Good.tail {b : Bk} {bs : List Bk} (h : Good (b :: bs)) : Good bs := fun x hx => h x (List.mem_cons_of_mem _ hx)
theorem Menu.ok {s : Str} (h : Menu s) : PyData.strOk s = true := by rcases h with rfl | rfl | rfl <;> decide +kernel
theorem is_blocks_ok {bs : List Bk} (w : WB 0 bs) (g : Good bs) (hl : bs.length ≤ 100) : F_is_blocks [.val (blD bs)] = .ok (.val (.bl true)) [.un] := by
  obtain ⟨env', h1, lo, x2, x3, x4, x5, rfl, _⟩ := for_inv (tg := .nm 2) (p := L_is_blocks_1) bD (fun rest env => ∃ (lo : Int) (x2 x3 x4 x5 : Slot), env = [.val (blD bs), .val (.int lo), x2, x3, x4, x5] ∧ Junk x2 ∧ Junk x3 ∧ Junk x4 ∧ Junk x5 ∧ WB lo rest ∧ Good rest ∧ 0 ≤ lo) bs [.val (blD bs), .val (.int 0), .un, .un, .un, .un] ⟨0, _, _, _, _, rfl, .un, .un, .un, .un, w, g, Int.le_refl _⟩ (fun b rest env ⟨lo, x2, x3, x4, x5, e, j2, j3, j4, j5, hw, hg, h0⟩ => by
    subst e
    obtain ⟨w1, w2, w3⟩ := hw
    obtain ⟨g1, g2⟩ := hg b List.mem_cons_self
    have hio2 := j2.io
    have hio3 := j3.io
    have hio4 := j4.io
    have hio5 := j5.io
    have hn := name_ok g2
    have n1 : F_is_number [.val (.int b.1), .val (.int lo), .val (.int 1000000000000000)] = .ok (.val (.bl true)) [.un, .un, .un] := by
      rw [num_ok, decide_eq_true w1, decide_eq_true (by omega)]; rfl
    have n2 : F_is_number [.val (.int b.2.1), .val (.int (b.1 + 1)), .val (.int 1000000000000000)] = .ok (.val (.bl true)) [.un, .un, .un] := by
      rw [num_ok, decide_eq_true (by omega), decide_eq_true g1]; rfl
    refine ⟨[.val (blD bs), .val (.int lo), .val (bD b), x3, x4, x5], [.val (blD bs), .val (.int b.2.1), .val (bD b), .val (.int b.1), .val (.int b.2.1), .val (.str b.2.2)], ?_, .inl ?_, b.2.1, _, _, _, _, rfl, .val, .val, .val, .val, w3, hg.tail, by omega⟩
    · clear w1 w2 g1 h0
      walk_at "dlh"
    · unfold L_is_blocks_1 bD
      clear w1 w2 g1 h0 g
      walk_at "dlh")
  have e0 : F_is_blocks [.val (blD bs)] = mkF 5 B_is_blocks [.val (.tup (bs.map bD))] := rfl
  rw [e0]
  have h2 : ¬ (100 < ((bs.map bD).length : Int)) := by rw [List.length_map]; omega
  unfold B_is_blocks
  unfold blD at h1
  clear w g hl
  walk_at "dlh"
/-- None, or the seller's name -/
def selD (o : Option Str) : D := match o with
  | some s => .str s
  | none => .non
theorem seller_for (n : Int) (B0 : D) : ∀ (bs : List Bk) (x2 x3 x4 : Slot), Junk x2 → Junk x3 → Junk x4 → ∃ y2 y3 y4, forGo (.tp [(.nm 2), (.nm 3), (.nm 4)]) L_seller_of_1 (bs.map bD) [.val B0, .val (.int n), x2, x3, x4] =
    match sellerOf bs n with
    | some s => .ret (.val (.str s)) [.val B0, .val (.int n), y2, y3, y4]
    | none => .nx [.val B0, .val (.int n), y2, y3, y4]
  | [], x2, x3, x4, _, _, _ => ⟨x2, x3, x4, rfl⟩
  | b :: bs, x2, x3, x4, j2, j3, j4 => by
    obtain ⟨y2, y3, y4, ih⟩ := seller_for n B0 bs (.val (.int b.1)) (.val (.int b.2.1)) (.val (.str b.2.2)) .val .val .val
    have hio2 := j2.io
    have hio3 := j3.io
    have hio4 := j4.io
    rw [List.map_cons, for_cons, seller_cons]
    by_cases h1 : b.1 ≤ n
    · by_cases h2 : n < b.2.1
      · have hb : inB b n = true := inB_iff.mpr ⟨h1, h2⟩
        refine ⟨.val (.int b.1), .val (.int b.2.1), .val (.str b.2.2), ?_⟩
        rw [if_pos hb]
        clear ih
        unfold bD L_seller_of_1
        walk_at "dlh"
      · have hb : ¬ inB b n = true := fun z => h2 (inB_iff.mp z).2
        refine ⟨y2, y3, y4, ?_⟩
        rw [if_neg hb, ← ih]
        clear ih
        unfold bD L_seller_of_1
        walk_at "dlh"
    · have hb : ¬ inB b n = true := fun z => h1 (inB_iff.mp z).1
      refine ⟨y2, y3, y4, ?_⟩
      rw [if_neg hb, ← ih]
      clear ih
      unfold bD L_seller_of_1
      walk_at "dlh"
theorem seller_ok (bs : List Bk) (n : Int) : F_seller_of [.val (blD bs), .val (.int n)] = .ok (.val (selD (sellerOf bs n))) [.un, .un] := by
  obtain ⟨y2, y3, y4, h⟩ := seller_for n (blD bs) bs .un .un .un .un .un .un
  have e0 : F_seller_of [.val (blD bs), .val (.int n)] = mkF 3 B_seller_of [.val (.tup (bs.map bD)), .val (.int n)] := rfl
  rw [e0]
  unfold B_seller_of
  unfold blD at h
  cases hs : sellerOf bs n with
  | none =>
    rw [hs] at h
    clear hs
    walk_at "dlh"
    rfl
  | some s =>
    rw [hs] at h
    clear hs
    walk_at "dlh"
    rfl
theorem law_seller_ok (bs : List Bk) (g : Good bs) (hl : bs.length ≤ 100) (n : Int) : F__law_seller [.val (blD bs), .val (.int n)] = .ok (.val (selD (sellerOf bs n))) [.un, .un] := by
  have hlc := lc_pure (tg := .tp [(.nm 3), (.nm 4), (.nm 5)]) (vs := [3, 4, 5]) (ft := C__law_seller_1t) (fe := C__law_seller_1e) bD (fun b => inB b n) (fun b => .str b.2.2) [.val (blD bs), .val (.int n), .un, .un, .un, .un] bs (fun b _ => by
    refine ⟨[.val (blD bs), .val (.int n), .un, .val (.int b.1), .val (.int b.2.1), .val (.str b.2.2)], [.val (blD bs), .val (.int n), .un, .val (.int b.1), .val (.int b.2.1), .val (.str b.2.2)], ?_, ?_, fun _ => ⟨[.val (blD bs), .val (.int n), .un, .val (.int b.1), .val (.int b.2.1), .val (.str b.2.2)], ?_, ?_⟩, fun _ => ?_⟩
    · unfold bD; walk_at "dl"
    · unfold C__law_seller_1t inB
      walk_at "dl"
      by_cases h1 : b.1 ≤ n
      · simp [h1]
      · simp [h1]
    · unfold C__law_seller_1e; walk_at "dl"
    · walk_at "dl"
    · walk_at "dl") [] (by rw [PySem.sizeLine_eq]; show 0 + _ < _; omega)
  have e0 : F__law_seller [.val (blD bs), .val (.int n)] = mkF 4 B__law_seller [.val (.tup (bs.map bD)), .val (.int n)] := rfl
  rw [e0]
  unfold B__law_seller
  unfold blD at hlc
  have hp : D.plains ((bs.filter fun b => inB b n).map fun b => D.str b.2.2) = true := plains_map _ _ fun b hb => (g b (List.mem_filter.mp hb).1).2.ok
  have hne := ne_nil_lst hp
  have hs : sellerOf bs n = ((bs.filter fun b => inB b n).map fun b => b.2.2).head? := by
    unfold sellerOf
    rw [List.head?_map, List.head?_filter]
  rw [hs]
  rw [List.nil_append] at hlc
  clear hs hp g hl
  cases hf : bs.filter fun b => inB b n with
  | nil =>
    rw [hf] at hlc hne
    rw [List.map_nil] at hlc hne
    clear hf
    walk_at "dlh"
    rfl
  | cons b r =>
    rw [hf] at hlc hne
    rw [List.map_cons] at hlc hne
    clear hf
    walk_at "dlh"
    rfl
end LW

namespace LW
open PySem L2 DL
local macro_rules | `(tactic| walk_at "dl") => `(tactic| simp -implicitDefEqProofs only [mkF_eq, mkK_ret, mkK_nx, mkK_ex, mkK_ite, fin_nil, fin_io, fin_val, bind_ok, bind_ex, map_ok, map_ex, s_ok, s_ex, bind_ite, map_ite, s_ite, seq_ite, seq_nx, seq_ret, seq_brk, seq_cont, seq_ex, eC_eq, eVar_eq, eVarK_val, eVarK_own, asA_eq, asD_eq, d_val, d_own, peek_eq, peekK_val, peekK_own, peekK_io, pre_e, pre_n, preK_some, fin_e, fin_n, lift_some, lift_ite, fin2_some, fin1_some, eBin_eq, eBin1_eq, eBin2_eq, eUn_eq, eUn1_eq, tst_eq, tstK_ok, tstK_ex, tstK_ite, bNot_eq, bAnd_eq, bOr_eq, andK_eq, orK_eq, bYes_eq, eAnd_eq, eOr_eq, eAndK_bl, eOrK_bl, eNot_eq, eNotK_bl, eIf_eq, eIfK_eq, evs_nil, evs_cons, evsK_eq, evsA_nil, evsA_cons, evsAK_eq, eTup_eq, eLst_eq, ownLst_eq, preAll_nil, preAll_cons, preAllK_eq, finAll_nil, finAll_cons, consK_some, finL_some, eCB_eq, eCBK_eq, eCF_eq, eCFK_eq, eCF1_some, eCFR_ok, eCFR_ex, eCFR_ite, argSlots_nil, argSlots_cons, sconsK_some, argSlot_e, argSlot_n', argK_val, argK_own, argK_io, putB_nil, putB_cons, putS_none, putS_own, putS_io, putS_val, putS_un, look_nil, look_e, look_nv, look_nu, look_nio, eChain_eq, eCh0_eq, eCh1_eq, eCh2_bl, eCh3_eq, part_none, part_some, partK_int, fin3_some, eSl_eq, eSl0_eq, eSl1_eq, eSl2_eq, eApp_eq, ownL_eq, ownLK_own, ownLK_io, appK_eq, appK2_own, appK2_io, ePop_eq, eLc_eq, eLc1_eq, eLc2_some, eLcK_some, wipeE_nil, wipeE_cons, wipeK_some, wipeK2_un, wipeK2_val, unwipe_nil, unwipe_cons, unwK_some, iSeq_eq, seqK_lst, seqK_tup, seqK_str, iOf_eq, iOfK_eq, iOfK2_some, iKeysN_eq, keysK_dic, sNext_eq, sBrk_eq, sCont_eq, sSeq_eq, sIf_eq, sIfK_eq, sRet_eq, sRetN_eq, sRetK_val, sRetK_own, sExpr_eq, dropK2_eq, ioAt_eq, ioK_un, ioK_val, ioK_own, slotOf_val, slotOf_own, sSet_eq, sSetK_eq, nxO_some, nxO_none, sAsg_eq, sAsgK_eq, sPar_eq, sParK_eq, stoN_nil, stoN_cons, sto_nm, sto_tp, stos_nil, stos_cons, stosK_some, sSub_eq, sSub0_eq, sSub1_some, sSub2_eq, setSub_eq, setK_own, setK_io, nxU_eq, sParS_eq, sParS0_eq, stoS_nil, stoS_cons, stoS0_some, stoS1_eq, stoS2_some, sAug_eq, sAugK_val, sAug0_eq, sAug1_some, sFor_eq, forK_some, forK2_nx, forK2_cont, forK2_brk, forK2_ret, forK2_ex, forK2_ite, add_int, sub_int, mul_int, fdiv_int, mod_int, neg_int, lt_int, le_int, gt_int, ge_int, DL.eq_int, DL.ne_int, is_non, isn_non, is_bl, isn_bl, len_lst, len_tup, int_int, DL.abs_int, tuple_lst, tuple_tup, ix_lst, DL.ix_tup, at_lit, at_last, ixN_lit, rng1_int, rng2_int, List.getElem?_cons_zero, List.getElem?_cons_succ, List.getElem?_nil, List.set_cons_zero, List.set_cons_succ, List.cons_append, List.nil_append, List.replicate_succ, List.replicate_zero, Option.map_some, Option.map_none, Bool.and_true, Bool.true_and, Bool.and_false, Bool.false_and, Bool.not_true, Bool.not_false, if_true, if_false, ite_true, ite_false, reduceIte, reduceCtorEq, Bool.false_eq_true, List.length_cons, List.length_nil, Nat.reduceAdd, Nat.reduceLT, Nat.reduceEqDiff, eq_self, and_self, true_and, and_true, decide_eq_true_eq, beq_iff_eq , bind_no, map_no, s_no, seq_no, lift_none, tstK_no, forK2_no, mkK_no, eCFR_no , sl_scr, sl_lst, sl_tupl, eIsi_eq, isi_int, isi_bl, isi_str, isi_tup, isi_lst, isi_non, kit_ii, kit_ib, kit_is, kit_it, kit_il, kit_bi, kit_bb, kit_bs, kit_bt, kit_bl, kit_si, kit_sb, kit_ss, kit_st, kit_sl, kit_ti, kit_tb, kit_ts, kit_tt, kit_tl, kit_li, kit_lb, kit_ls, kit_lt, kit_ll, kit_ni, kit_nb, kit_ns, kit_nt, kit_nl, isNon_int, isNon_bl, isNon_str, isNon_tup, isNon_lst, isNon_non, DL.eq_bl, DL.ne_bl, Bool.or_false, Bool.false_or, Bool.or_true, Bool.true_or, beq_self_eq_true, Bool.not_not , eq_nil, Int.toNat_natCast , Int.cast_ofNat_Int, at_snoc, getLast_snoc])
local macro_rules | `(tactic| walk_at "dlh") => `(tactic| simp -implicitDefEqProofs only [mkF_eq, mkK_ret, mkK_nx, mkK_ex, mkK_ite, fin_nil, fin_io, fin_val, bind_ok, bind_ex, map_ok, map_ex, s_ok, s_ex, bind_ite, map_ite, s_ite, seq_ite, seq_nx, seq_ret, seq_brk, seq_cont, seq_ex, eC_eq, eVar_eq, eVarK_val, eVarK_own, asA_eq, asD_eq, d_val, d_own, peek_eq, peekK_val, peekK_own, peekK_io, pre_e, pre_n, preK_some, fin_e, fin_n, lift_some, lift_ite, fin2_some, fin1_some, eBin_eq, eBin1_eq, eBin2_eq, eUn_eq, eUn1_eq, tst_eq, tstK_ok, tstK_ex, tstK_ite, bNot_eq, bAnd_eq, bOr_eq, andK_eq, orK_eq, bYes_eq, eAnd_eq, eOr_eq, eAndK_bl, eOrK_bl, eNot_eq, eNotK_bl, eIf_eq, eIfK_eq, evs_nil, evs_cons, evsK_eq, evsA_nil, evsA_cons, evsAK_eq, eTup_eq, eLst_eq, ownLst_eq, preAll_nil, preAll_cons, preAllK_eq, finAll_nil, finAll_cons, consK_some, finL_some, eCB_eq, eCBK_eq, eCF_eq, eCFK_eq, eCF1_some, eCFR_ok, eCFR_ex, eCFR_ite, argSlots_nil, argSlots_cons, sconsK_some, argSlot_e, argSlot_n', argK_val, argK_own, argK_io, putB_nil, putB_cons, putS_none, putS_own, putS_io, putS_val, putS_un, look_nil, look_e, look_nv, look_nu, look_nio, eChain_eq, eCh0_eq, eCh1_eq, eCh2_bl, eCh3_eq, part_none, part_some, partK_int, fin3_some, eSl_eq, eSl0_eq, eSl1_eq, eSl2_eq, eApp_eq, ownL_eq, ownLK_own, ownLK_io, appK_eq, appK2_own, appK2_io, ePop_eq, eLc_eq, eLc1_eq, eLc2_some, eLcK_some, wipeE_nil, wipeE_cons, wipeK_some, wipeK2_un, wipeK2_val, unwipe_nil, unwipe_cons, unwK_some, iSeq_eq, seqK_lst, seqK_tup, seqK_str, iOf_eq, iOfK_eq, iOfK2_some, iKeysN_eq, keysK_dic, sNext_eq, sBrk_eq, sCont_eq, sSeq_eq, sIf_eq, sIfK_eq, sRet_eq, sRetN_eq, sRetK_val, sRetK_own, sExpr_eq, dropK2_eq, ioAt_eq, ioK_un, ioK_val, ioK_own, slotOf_val, slotOf_own, sSet_eq, sSetK_eq, nxO_some, nxO_none, sAsg_eq, sAsgK_eq, sPar_eq, sParK_eq, stoN_nil, stoN_cons, sto_nm, sto_tp, stos_nil, stos_cons, stosK_some, sSub_eq, sSub0_eq, sSub1_some, sSub2_eq, setSub_eq, setK_own, setK_io, nxU_eq, sParS_eq, sParS0_eq, stoS_nil, stoS_cons, stoS0_some, stoS1_eq, stoS2_some, sAug_eq, sAugK_val, sAug0_eq, sAug1_some, sFor_eq, forK_some, forK2_nx, forK2_cont, forK2_brk, forK2_ret, forK2_ex, forK2_ite, add_int, sub_int, mul_int, fdiv_int, mod_int, neg_int, lt_int, le_int, gt_int, ge_int, DL.eq_int, DL.ne_int, is_non, isn_non, is_bl, isn_bl, len_lst, len_tup, int_int, DL.abs_int, tuple_lst, tuple_tup, ix_lst, DL.ix_tup, at_lit, at_last, ixN_lit, rng1_int, rng2_int, List.getElem?_cons_zero, List.getElem?_cons_succ, List.getElem?_nil, List.set_cons_zero, List.set_cons_succ, List.cons_append, List.nil_append, List.replicate_succ, List.replicate_zero, Option.map_some, Option.map_none, Bool.and_true, Bool.true_and, Bool.and_false, Bool.false_and, Bool.not_true, Bool.not_false, if_true, if_false, ite_true, ite_false, reduceIte, reduceCtorEq, Bool.false_eq_true, List.length_cons, List.length_nil, Nat.reduceAdd, Nat.reduceLT, Nat.reduceEqDiff, eq_self, and_self, true_and, and_true, decide_eq_true_eq, beq_iff_eq , bind_no, map_no, s_no, seq_no, lift_none, tstK_no, forK2_no, mkK_no, eCFR_no , sl_scr, sl_lst, sl_tupl, eIsi_eq, isi_int, isi_bl, isi_str, isi_tup, isi_lst, isi_non, kit_ii, kit_ib, kit_is, kit_it, kit_il, kit_bi, kit_bb, kit_bs, kit_bt, kit_bl, kit_si, kit_sb, kit_ss, kit_st, kit_sl, kit_ti, kit_tb, kit_ts, kit_tt, kit_tl, kit_li, kit_lb, kit_ls, kit_lt, kit_ll, kit_ni, kit_nb, kit_ns, kit_nt, kit_nl, isNon_int, isNon_bl, isNon_str, isNon_tup, isNon_lst, isNon_non, DL.eq_bl, DL.ne_bl, Bool.or_false, Bool.false_or, Bool.or_true, Bool.true_or, beq_self_eq_true, Bool.not_not , eq_nil, Int.toNat_natCast , Int.cast_ofNat_Int, at_snoc, getLast_snoc, *])
def ivD (p : Iv) : D := .tup [.int p.1, .int p.2]
def soD (sold : List Int) : D := .tup (sold.map .int)
theorem may_sell_ok (bs : List Bk) (g : Good bs) (sold : List Int) {s : Str} (hs : PyData.strOk s = true) (n : Int) :
    F_may_sell [.val (blD bs), .val (soD sold), .val (.str s), .val (.int n)] = .ok (.val (.bl (decide (sellerOf bs n = some s) && !decide (n ∈ sold)))) [.un, .un, .un, .un] := by
  have h1 := seller_ok bs n
  have h2 : ninD (.int n) (soD sold) = some (.val (.bl (!decide (n ∈ sold)))) := nin_ints sold n
  have h3 : eqD (selD (sellerOf bs n)) (.str s) = some (.val (.bl (decide (sellerOf bs n = some s)))) := by
    cases ho : sellerOf bs n with
    | none => exact eq_non_str hs
    | some t =>
      have : PyData.strOk t = true := by
        unfold sellerOf at ho
        cases hf : bs.find? (fun b => inB b n) with
        | none => rw [hf] at ho; cases ho
        | some b =>
          rw [hf] at ho
          cases ho
          exact (g b (List.mem_of_find?_eq_some hf)).2.ok
      show eqD (.str t) (.str s) = _
      rw [eq_str this hs]
      by_cases e : t = s
      · subst e; simp
      · simp [e]
  show mkF 0 B_may_sell _ = _
  unfold B_may_sell
  walk_at "dlh"
  by_cases hq : sellerOf bs n = some s <;> simp [hq]
theorem pcs_len : ∀ (xs : List Int) (b : Int), (pcs b xs).length ≤ xs.length
  | [], b => Nat.le_refl _
  | x :: xs, b => by
    rw [pcs_cons]
    have := pcs_len xs (x + 1)
    split
    · rw [List.length_cons, List.length_cons]; omega
    · rw [List.length_cons]; omega
theorem pieces_len (sold : List Int) (s : Str) : ∀ (bs : List Bk), (pieces bs sold s).length ≤ bs.length * (sold.length + 1)
  | [] => Nat.zero_le _
  | b :: bs => by
    have ih := pieces_len sold s bs
    have h1 := pcs_len (sold.filter (inB b) ++ [b.2.1]) b.1
    have h2 := List.length_filter_le (inB b) sold
    rw [List.length_append, List.length_singleton] at h1
    unfold pieces
    rw [List.length_append, List.length_cons, Nat.succ_mul]
    split
    · omega
    · show 0 + _ ≤ _; omega
theorem left_for2 (B S s x4 x5 x6 x9 : Slot) : ∀ (xs : List Int) (b : Int) (acc : List D) (x8 : Slot), Junk x8 → acc.length + xs.length ≤ 1000 →
    ∃ b' y8, Junk y8 ∧ forGo (.nm 8) L_left_2 (xs.map .int) [B, S, s, .own (.lst acc), x4, x5, x6, .val (.int b), x8, x9] =
      .nx [B, S, s, .own (.lst (acc ++ (pcs b xs).map ivD)), x4, x5, x6, .val (.int b'), y8, x9] := by
  intro xs
  induction xs with
  | nil => intro b acc x8 j _; exact ⟨b, x8, j, by rw [show pcs b [] = [] by rw [pcs], List.map_nil, List.map_nil, List.append_nil]; rfl⟩
  | cons x xs ih =>
    intro b acc x8 j hl
    rw [List.length_cons] at hl
    have hio := j.io
    have hsz : acc.length < sizeLine := by rw [PySem.sizeLine_eq]; omega
    rw [pcs_cons]
    by_cases h : b < x
    · obtain ⟨b', y8, j', ih⟩ := ih (x + 1) (acc ++ [.tup [.int b, .int x]]) (.val (.int x)) .val (by rw [List.length_append, List.length_singleton]; omega)
      refine ⟨b', y8, j', ?_⟩
      have e : acc ++ ((b, x) :: pcs (x + 1) xs).map ivD = acc ++ [.tup [.int b, .int x]] ++ (pcs (x + 1) xs).map ivD := by rw [List.append_assoc]; rfl
      rw [if_pos h, List.map_cons, for_cons, e, ← ih]
      clear ih e
      unfold L_left_2
      walk_at "dlh"
    · obtain ⟨b', y8, j', ih⟩ := ih (x + 1) acc (.val (.int x)) .val (by omega)
      refine ⟨b', y8, j', ?_⟩
      rw [if_neg h, List.map_cons, for_cons, ← ih]
      clear ih
      unfold L_left_2
      walk_at "dlh"
theorem left_for1 (B : Slot) (sold : List Int) (s : Str) (hs : PyData.strOk s = true) (hso : sold.length ≤ 8) : ∀ (bs : List Bk) (acc : List D) (x4 x5 x6 x7 x8 : Slot), Good bs → Junk x4 → Junk x5 → Junk x6 → Junk x7 → Junk x8 → acc.length + bs.length * (sold.length + 1) ≤ 900 →
    ∃ y4 y5 y6 y7 y8, Junk y4 ∧ Junk y5 ∧ Junk y6 ∧ Junk y7 ∧ Junk y8 ∧ forGo (.tp [(.nm 4), (.nm 5), (.nm 6)]) L_left_1 (bs.map bD) [B, .val (soD sold), .val (.str s), .own (.lst acc), x4, x5, x6, x7, x8, .un] =
      .nx [B, .val (soD sold), .val (.str s), .own (.lst (acc ++ (pieces bs sold s).map ivD)), y4, y5, y6, y7, y8, .un] := by
  intro bs
  induction bs with
  | nil => intro acc x4 x5 x6 x7 x8 _ j4 j5 j6 j7 j8 _; exact ⟨x4, x5, x6, x7, x8, j4, j5, j6, j7, j8, by rw [show pieces [] sold s = [] by rw [pieces], List.map_nil, List.map_nil, List.append_nil]; rfl⟩
  | cons b bs ih =>
    intro acc x4 x5 x6 x7 x8 g j4 j5 j6 j7 j8 hl
    rw [List.length_cons, Nat.succ_mul] at hl
    have hb := (g b List.mem_cons_self).2.ok
    have i4 := j4.io
    have i5 := j5.io
    have i6 := j6.io
    have i7 := j7.io
    have i8 := j8.io
    have w8 := j8.wipe
    rw [show pieces (b :: bs) sold s = (if b.2.2 = s then pcs b.1 (sold.filter (inB b) ++ [b.2.1]) else []) ++ pieces bs sold s by rw [pieces]]
    by_cases h : b.2.2 = s
    · have hne : neD (.str b.2.2) (.str s) = some (.val (.bl false)) := by rw [ne_str hb hs, h]; simp
      have fl := List.length_filter_le (inB b) sold
      have hpl := pcs_len (sold.filter (inB b) ++ [b.2.1]) b.1
      rw [List.length_append, List.length_singleton] at hpl
      obtain ⟨b', y8, j8', h2⟩ := left_for2 B (.val (soD sold)) (.val (.str s)) (.val (.int b.1)) (.val (.int b.2.1)) (.val (.str b.2.2)) .un (sold.filter (inB b) ++ [b.2.1]) b.1 acc x8 j8 (by rw [List.length_append, List.length_singleton]; omega)
      obtain ⟨y4, y5, y6, y7, z8, k4, k5, k6, k7, k8, ih⟩ := ih (acc ++ (pcs b.1 (sold.filter (inB b) ++ [b.2.1])).map ivD) (.val (.int b.1)) (.val (.int b.2.1)) (.val (.str b.2.2)) (.val (.int b')) y8 g.tail .val .val .val .val j8' (by rw [List.length_append, List.length_map]; omega)
      refine ⟨y4, y5, y6, y7, z8, k4, k5, k6, k7, k8, ?_⟩
      have hlc := lc_pure (tg := .nm 8) (vs := [8]) (ft := C_left_1t) (fe := C_left_1e) D.int (inB b) D.int [B, .val (soD sold), .val (.str s), .own (.lst acc), .val (.int b.1), .val (.int b.2.1), .val (.str b.2.2), .val (.int b.1), .un, .un] sold (fun n _ => by
        refine ⟨[B, .val (soD sold), .val (.str s), .own (.lst acc), .val (.int b.1), .val (.int b.2.1), .val (.str b.2.2), .val (.int b.1), .val (.int n), .un], [B, .val (soD sold), .val (.str s), .own (.lst acc), .val (.int b.1), .val (.int b.2.1), .val (.str b.2.2), .val (.int b.1), .val (.int n), .un], ?_, ?_, fun _ => ⟨[B, .val (soD sold), .val (.str s), .own (.lst acc), .val (.int b.1), .val (.int b.2.1), .val (.str b.2.2), .val (.int b.1), .val (.int n), .un], ?_, ?_⟩, fun _ => ?_⟩
        · walk_at "dl"
        · unfold C_left_1t inB
          walk_at "dl"
          by_cases h1 : b.1 ≤ n
          · simp [h1]
          · simp [h1]
        · unfold C_left_1e; walk_at "dl"
        · walk_at "dl"
        · walk_at "dl") [] (by rw [PySem.sizeLine_eq]; show 0 + _ < _; omega)
      rw [List.nil_append] at hlc
      have ha : addD (.lst ((sold.filter (inB b)).map .int)) (.lst [.int b.2.1]) = some (.own (.lst ((sold.filter (inB b) ++ [b.2.1]).map .int))) := by
        rw [add_lst, if_pos (by rw [PySem.sizeLine_eq, List.length_map, List.length_singleton]; omega), List.map_append]; rfl
      rw [if_pos h, List.map_append, ← List.append_assoc, ← ih, List.map_cons, for_cons]
      have hbD : bD b = .tup [.int b.1, .int b.2.1, .str b.2.2] := rfl
      unfold soD at h2 hlc ⊢
      clear ih g hb hpl fl hl h
      unfold L_left_1
      walk_at "dlh"
    · have hne : neD (.str b.2.2) (.str s) = some (.val (.bl true)) := by rw [ne_str hb hs]; simp [h]
      obtain ⟨y4, y5, y6, y7, z8, k4, k5, k6, k7, k8, ih⟩ := ih acc (.val (.int b.1)) (.val (.int b.2.1)) (.val (.str b.2.2)) x7 x8 g.tail .val .val .val j7 j8 (by omega)
      refine ⟨y4, y5, y6, y7, z8, k4, k5, k6, k7, k8, ?_⟩
      rw [if_neg h, List.nil_append, ← ih, List.map_cons, for_cons]
      have hbD : bD b = .tup [.int b.1, .int b.2.1, .str b.2.2] := rfl
      clear ih g hb hl
      unfold L_left_1
      walk_at "dlh"
end LW

namespace LW
open PySem L2 DL
local macro_rules | `(tactic| walk_at "dl") => `(tactic| simp -implicitDefEqProofs only [mkF_eq, mkK_ret, mkK_nx, mkK_ex, mkK_ite, fin_nil, fin_io, fin_val, bind_ok, bind_ex, map_ok, map_ex, s_ok, s_ex, bind_ite, map_ite, s_ite, seq_ite, seq_nx, seq_ret, seq_brk, seq_cont, seq_ex, eC_eq, eVar_eq, eVarK_val, eVarK_own, asA_eq, asD_eq, d_val, d_own, peek_eq, peekK_val, peekK_own, peekK_io, pre_e, pre_n, preK_some, fin_e, fin_n, lift_some, lift_ite, fin2_some, fin1_some, eBin_eq, eBin1_eq, eBin2_eq, eUn_eq, eUn1_eq, tst_eq, tstK_ok, tstK_ex, tstK_ite, bNot_eq, bAnd_eq, bOr_eq, andK_eq, orK_eq, bYes_eq, eAnd_eq, eOr_eq, eAndK_bl, eOrK_bl, eNot_eq, eNotK_bl, eIf_eq, eIfK_eq, evs_nil, evs_cons, evsK_eq, evsA_nil, evsA_cons, evsAK_eq, eTup_eq, eLst_eq, ownLst_eq, preAll_nil, preAll_cons, preAllK_eq, finAll_nil, finAll_cons, consK_some, finL_some, eCB_eq, eCBK_eq, eCF_eq, eCFK_eq, eCF1_some, eCFR_ok, eCFR_ex, eCFR_ite, argSlots_nil, argSlots_cons, sconsK_some, argSlot_e, argSlot_n', argK_val, argK_own, argK_io, putB_nil, putB_cons, putS_none, putS_own, putS_io, putS_val, putS_un, look_nil, look_e, look_nv, look_nu, look_nio, eChain_eq, eCh0_eq, eCh1_eq, eCh2_bl, eCh3_eq, part_none, part_some, partK_int, fin3_some, eSl_eq, eSl0_eq, eSl1_eq, eSl2_eq, eApp_eq, ownL_eq, ownLK_own, ownLK_io, appK_eq, appK2_own, appK2_io, ePop_eq, eLc_eq, eLc1_eq, eLc2_some, eLcK_some, wipeE_nil, wipeE_cons, wipeK_some, wipeK2_un, wipeK2_val, unwipe_nil, unwipe_cons, unwK_some, iSeq_eq, seqK_lst, seqK_tup, seqK_str, iOf_eq, iOfK_eq, iOfK2_some, iKeysN_eq, keysK_dic, sNext_eq, sBrk_eq, sCont_eq, sSeq_eq, sIf_eq, sIfK_eq, sRet_eq, sRetN_eq, sRetK_val, sRetK_own, sExpr_eq, dropK2_eq, ioAt_eq, ioK_un, ioK_val, ioK_own, slotOf_val, slotOf_own, sSet_eq, sSetK_eq, nxO_some, nxO_none, sAsg_eq, sAsgK_eq, sPar_eq, sParK_eq, stoN_nil, stoN_cons, sto_nm, sto_tp, stos_nil, stos_cons, stosK_some, sSub_eq, sSub0_eq, sSub1_some, sSub2_eq, setSub_eq, setK_own, setK_io, nxU_eq, sParS_eq, sParS0_eq, stoS_nil, stoS_cons, stoS0_some, stoS1_eq, stoS2_some, sAug_eq, sAugK_val, sAug0_eq, sAug1_some, sFor_eq, forK_some, forK2_nx, forK2_cont, forK2_brk, forK2_ret, forK2_ex, forK2_ite, add_int, sub_int, mul_int, fdiv_int, mod_int, neg_int, lt_int, le_int, gt_int, ge_int, DL.eq_int, DL.ne_int, is_non, isn_non, is_bl, isn_bl, len_lst, len_tup, int_int, DL.abs_int, tuple_lst, tuple_tup, ix_lst, DL.ix_tup, at_lit, at_last, ixN_lit, rng1_int, rng2_int, List.getElem?_cons_zero, List.getElem?_cons_succ, List.getElem?_nil, List.set_cons_zero, List.set_cons_succ, List.cons_append, List.nil_append, List.replicate_succ, List.replicate_zero, Option.map_some, Option.map_none, Bool.and_true, Bool.true_and, Bool.and_false, Bool.false_and, Bool.not_true, Bool.not_false, if_true, if_false, ite_true, ite_false, reduceIte, reduceCtorEq, Bool.false_eq_true, List.length_cons, List.length_nil, Nat.reduceAdd, Nat.reduceLT, Nat.reduceEqDiff, eq_self, and_self, true_and, and_true, decide_eq_true_eq, beq_iff_eq , bind_no, map_no, s_no, seq_no, lift_none, tstK_no, forK2_no, mkK_no, eCFR_no , sl_scr, sl_lst, sl_tupl, eIsi_eq, isi_int, isi_bl, isi_str, isi_tup, isi_lst, isi_non, kit_ii, kit_ib, kit_is, kit_it, kit_il, kit_bi, kit_bb, kit_bs, kit_bt, kit_bl, kit_si, kit_sb, kit_ss, kit_st, kit_sl, kit_ti, kit_tb, kit_ts, kit_tt, kit_tl, kit_li, kit_lb, kit_ls, kit_lt, kit_ll, kit_ni, kit_nb, kit_ns, kit_nt, kit_nl, isNon_int, isNon_bl, isNon_str, isNon_tup, isNon_lst, isNon_non, DL.eq_bl, DL.ne_bl, Bool.or_false, Bool.false_or, Bool.or_true, Bool.true_or, beq_self_eq_true, Bool.not_not , eq_nil, Int.toNat_natCast , Int.cast_ofNat_Int, at_snoc, getLast_snoc])
local macro_rules | `(tactic| walk_at "dlh") => `(tactic| simp -implicitDefEqProofs only [mkF_eq, mkK_ret, mkK_nx, mkK_ex, mkK_ite, fin_nil, fin_io, fin_val, bind_ok, bind_ex, map_ok, map_ex, s_ok, s_ex, bind_ite, map_ite, s_ite, seq_ite, seq_nx, seq_ret, seq_brk, seq_cont, seq_ex, eC_eq, eVar_eq, eVarK_val, eVarK_own, asA_eq, asD_eq, d_val, d_own, peek_eq, peekK_val, peekK_own, peekK_io, pre_e, pre_n, preK_some, fin_e, fin_n, lift_some, lift_ite, fin2_some, fin1_some, eBin_eq, eBin1_eq, eBin2_eq, eUn_eq, eUn1_eq, tst_eq, tstK_ok, tstK_ex, tstK_ite, bNot_eq, bAnd_eq, bOr_eq, andK_eq, orK_eq, bYes_eq, eAnd_eq, eOr_eq, eAndK_bl, eOrK_bl, eNot_eq, eNotK_bl, eIf_eq, eIfK_eq, evs_nil, evs_cons, evsK_eq, evsA_nil, evsA_cons, evsAK_eq, eTup_eq, eLst_eq, ownLst_eq, preAll_nil, preAll_cons, preAllK_eq, finAll_nil, finAll_cons, consK_some, finL_some, eCB_eq, eCBK_eq, eCF_eq, eCFK_eq, eCF1_some, eCFR_ok, eCFR_ex, eCFR_ite, argSlots_nil, argSlots_cons, sconsK_some, argSlot_e, argSlot_n', argK_val, argK_own, argK_io, putB_nil, putB_cons, putS_none, putS_own, putS_io, putS_val, putS_un, look_nil, look_e, look_nv, look_nu, look_nio, eChain_eq, eCh0_eq, eCh1_eq, eCh2_bl, eCh3_eq, part_none, part_some, partK_int, fin3_some, eSl_eq, eSl0_eq, eSl1_eq, eSl2_eq, eApp_eq, ownL_eq, ownLK_own, ownLK_io, appK_eq, appK2_own, appK2_io, ePop_eq, eLc_eq, eLc1_eq, eLc2_some, eLcK_some, wipeE_nil, wipeE_cons, wipeK_some, wipeK2_un, wipeK2_val, unwipe_nil, unwipe_cons, unwK_some, iSeq_eq, seqK_lst, seqK_tup, seqK_str, iOf_eq, iOfK_eq, iOfK2_some, iKeysN_eq, keysK_dic, sNext_eq, sBrk_eq, sCont_eq, sSeq_eq, sIf_eq, sIfK_eq, sRet_eq, sRetN_eq, sRetK_val, sRetK_own, sExpr_eq, dropK2_eq, ioAt_eq, ioK_un, ioK_val, ioK_own, slotOf_val, slotOf_own, sSet_eq, sSetK_eq, nxO_some, nxO_none, sAsg_eq, sAsgK_eq, sPar_eq, sParK_eq, stoN_nil, stoN_cons, sto_nm, sto_tp, stos_nil, stos_cons, stosK_some, sSub_eq, sSub0_eq, sSub1_some, sSub2_eq, setSub_eq, setK_own, setK_io, nxU_eq, sParS_eq, sParS0_eq, stoS_nil, stoS_cons, stoS0_some, stoS1_eq, stoS2_some, sAug_eq, sAugK_val, sAug0_eq, sAug1_some, sFor_eq, forK_some, forK2_nx, forK2_cont, forK2_brk, forK2_ret, forK2_ex, forK2_ite, add_int, sub_int, mul_int, fdiv_int, mod_int, neg_int, lt_int, le_int, gt_int, ge_int, DL.eq_int, DL.ne_int, is_non, isn_non, is_bl, isn_bl, len_lst, len_tup, int_int, DL.abs_int, tuple_lst, tuple_tup, ix_lst, DL.ix_tup, at_lit, at_last, ixN_lit, rng1_int, rng2_int, List.getElem?_cons_zero, List.getElem?_cons_succ, List.getElem?_nil, List.set_cons_zero, List.set_cons_succ, List.cons_append, List.nil_append, List.replicate_succ, List.replicate_zero, Option.map_some, Option.map_none, Bool.and_true, Bool.true_and, Bool.and_false, Bool.false_and, Bool.not_true, Bool.not_false, if_true, if_false, ite_true, ite_false, reduceIte, reduceCtorEq, Bool.false_eq_true, List.length_cons, List.length_nil, Nat.reduceAdd, Nat.reduceLT, Nat.reduceEqDiff, eq_self, and_self, true_and, and_true, decide_eq_true_eq, beq_iff_eq , bind_no, map_no, s_no, seq_no, lift_none, tstK_no, forK2_no, mkK_no, eCFR_no , sl_scr, sl_lst, sl_tupl, eIsi_eq, isi_int, isi_bl, isi_str, isi_tup, isi_lst, isi_non, kit_ii, kit_ib, kit_is, kit_it, kit_il, kit_bi, kit_bb, kit_bs, kit_bt, kit_bl, kit_si, kit_sb, kit_ss, kit_st, kit_sl, kit_ti, kit_tb, kit_ts, kit_tt, kit_tl, kit_li, kit_lb, kit_ls, kit_lt, kit_ll, kit_ni, kit_nb, kit_ns, kit_nt, kit_nl, isNon_int, isNon_bl, isNon_str, isNon_tup, isNon_lst, isNon_non, DL.eq_bl, DL.ne_bl, Bool.or_false, Bool.false_or, Bool.or_true, Bool.true_or, beq_self_eq_true, Bool.not_not , eq_nil, Int.toNat_natCast , Int.cast_ofNat_Int, at_snoc, getLast_snoc, *])
theorem joinS_nil (p : Iv) : joinS [] p = [p] := rfl
theorem joinS_snoc (l : List Iv) (q p : Iv) : joinS (l ++ [q]) p = if q.2 = p.1 then l ++ [(q.1, p.2)] else l ++ [q] ++ [p] := by
  unfold joinS
  rw [getLast_snoc]
  simp
theorem join_len : ∀ (l acc : List Iv), (l.foldl joinS acc).length ≤ acc.length + l.length
  | [], acc => Nat.le_refl _
  | p :: l, acc => by
    have h1 := join_len l (joinS acc p)
    have h2 : (joinS acc p).length ≤ acc.length + 1 := by
      rcases List.eq_nil_or_concat acc with rfl | ⟨m, q, rfl⟩
      · exact Nat.le_refl _
      · rw [List.concat_eq_append, joinS_snoc]
        split
        · simp
        · simp
    rw [List.foldl_cons, List.length_cons]
    omega
theorem popK_snoc (env : DL.Env) (i : Nat) (l : List D) (d : D) : popK env i (some (.own (.lst (l ++ [d])))) = .ok (.val d) (env.set i (.own (.lst l))) := by
  unfold popK
  simp
theorem left_for3 (B S s f x6 x7 x8 : Slot) : ∀ (ps acc : List Iv) (x4 x5 : Slot), Junk x4 → Junk x5 → acc.length + ps.length ≤ 1000 →
    ∃ y4 y5, Junk y4 ∧ Junk y5 ∧ forGo (.tp [(.nm 4), (.nm 5)]) L_left_3 (ps.map ivD) [B, S, s, f, x4, x5, x6, x7, x8, .own (.lst (acc.map ivD))] =
      .nx [B, S, s, f, y4, y5, x6, x7, x8, .own (.lst ((ps.foldl joinS acc).map ivD))] := by
  intro ps
  induction ps with
  | nil => intro acc x4 x5 j4 j5 _; exact ⟨x4, x5, j4, j5, rfl⟩
  | cons p ps ih =>
    intro acc x4 x5 j4 j5 hl
    rw [List.length_cons] at hl
    have i4 := j4.io
    have i5 := j5.io
    obtain ⟨p1, p2⟩ := p
    rcases List.eq_nil_or_concat acc with rfl | ⟨l, ⟨q1, q2⟩, rfl⟩
    · obtain ⟨y4, y5, k4, k5, ih⟩ := ih [(p1, p2)] (.val (.int p1)) (.val (.int p2)) .val .val (by show 1 + _ ≤ _; omega)
      refine ⟨y4, y5, k4, k5, ?_⟩
      rw [List.foldl_cons, joinS_nil, ← ih, List.map_cons, for_cons]
      clear ih
      unfold L_left_3 ivD
      have hsz : 0 < sizeLine := by rw [PySem.sizeLine_eq]; omega
      walk_at "dlh"
      rfl
    · rw [List.concat_eq_append] at hl ⊢
      rw [List.length_append, List.length_singleton] at hl
      rw [List.foldl_cons, joinS_snoc]
      have e : (l ++ [(q1, q2)]).map ivD = l.map ivD ++ [.tup [.int q1, .int q2]] := by rw [List.map_append]; rfl
      have hle : (l.map ivD).length = l.length := List.length_map ..
      generalize hL : l.map ivD = L at e hle
      have hpos : (0 : Int) < ((L ++ [D.tup [.int q1, .int q2]]).length : Int) := by rw [List.length_append, List.length_singleton]; omega
      have hpop := fun (env : DL.Env) (i : Nat) => popK_snoc env i L (.tup [.int q1, .int q2])
      have hs1 : L.length < sizeLine := by rw [PySem.sizeLine_eq]; omega
      have hs2 : (L ++ [D.tup [.int q1, .int q2]]).length < sizeLine := by rw [PySem.sizeLine_eq, List.length_append, List.length_singleton]; omega
      by_cases h : q2 = p1
      · subst h
        obtain ⟨y4, y5, k4, k5, ih⟩ := ih (l ++ [(q1, p2)]) (.val (.int q1)) (.val (.int p2)) .val .val (by rw [List.length_append, List.length_singleton]; omega)
        refine ⟨y4, y5, k4, k5, ?_⟩
        rw [if_pos rfl, ← ih, List.map_cons, for_cons, e]
        have e2 : (l ++ [(q1, p2)]).map ivD = L ++ [.tup [.int q1, .int p2]] := by rw [List.map_append, hL]; rfl
        rw [e2]
        have hp : ivD (q2, p2) = .tup [.int q2, .int p2] := rfl
        clear ih e e2 hle hl hL
        unfold L_left_3
        walk_at "dlh"
      · obtain ⟨y4, y5, k4, k5, ih⟩ := ih (l ++ [(q1, q2)] ++ [(p1, p2)]) (.val (.int p1)) (.val (.int p2)) .val .val (by rw [List.length_append, List.length_append, List.length_singleton, List.length_singleton]; omega)
        refine ⟨y4, y5, k4, k5, ?_⟩
        rw [if_neg h, ← ih, List.map_cons, for_cons, e]
        have e2 : (l ++ [(q1, q2)] ++ [(p1, p2)]).map ivD = L ++ [.tup [.int q1, .int q2]] ++ [.tup [.int p1, .int p2]] := by rw [List.map_append, List.map_append, hL]; rfl
        rw [e2]
        have hp : ivD (p1, p2) = .tup [.int p1, .int p2] := rfl
        clear ih e e2 hle hl hL
        unfold L_left_3
        walk_at "dlh"
theorem left_ok (bs : List Bk) (g : Good bs) (sold : List Int) (s : Str) (hs : PyData.strOk s = true) (hso : sold.length ≤ 8) (hb : bs.length ≤ 6) :
    F_left [.val (blD bs), .val (soD sold), .val (.str s)] = .ok (.own (.lst ((strE bs sold s).map ivD))) [.un, .un, .un] := by
  have hm : bs.length * (sold.length + 1) ≤ 6 * 9 := Nat.mul_le_mul hb (by omega)
  have hpl := pieces_len sold s bs
  obtain ⟨y4, y5, y6, y7, y8, k4, k5, k6, k7, k8, h1⟩ := left_for1 (.val (blD bs)) sold s hs hso bs [] .un .un .un .un .un g .un .un .un .un .un (by show 0 + _ ≤ _; omega)
  obtain ⟨z4, z5, _, _, h3⟩ := left_for3 (.val (blD bs)) (.val (soD sold)) (.val (.str s)) (.val (.lst ((pieces bs sold s).map ivD))) y6 y7 y8 (pieces bs sold s) [] y4 y5 k4 k5 (by show 0 + _ ≤ _; omega)
  have e0 : F_left [.val (blD bs), .val (soD sold), .val (.str s)] = mkF 7 B_left [.val (.tup (bs.map bD)), .val (soD sold), .val (.str s)] := rfl
  rw [e0]
  rw [List.map_nil] at h3
  rw [List.nil_append] at h1
  have i6 := k6.io
  have i7 := k7.io
  have i8 := k8.io
  unfold B_left
  unfold blD at h1 h3
  unfold strE
  clear hm hpl g hs
  walk_at "dlh"
theorem law_left2 (B S s x4 x5 x6 x9 : Slot) : ∀ (xs : List Int) (b : Int) (acc : List Iv) (x8 : Slot), Junk x8 → acc.length + xs.length ≤ 1000 →
    ∃ b' y8, Junk y8 ∧ forGo (.nm 8) L__law_left_2 (xs.map .int) [B, S, s, .own (.lst (acc.map ivD)), x4, x5, x6, .val (.int b), x8, x9] =
      .nx [B, S, s, .own (.lst (((pcs b xs).foldl joinS acc).map ivD)), x4, x5, x6, .val (.int b'), y8, x9] := by
  intro xs
  induction xs with
  | nil => intro b acc x8 j _; exact ⟨b, x8, j, by rw [show pcs b [] = [] by rw [pcs]]; rfl⟩
  | cons x xs ih =>
    intro b acc x8 j hl
    rw [List.length_cons] at hl
    have hio := j.io
    rw [pcs_cons]
    by_cases h : b < x
    · rw [if_pos h, List.foldl_cons]
      rcases List.eq_nil_or_concat acc with rfl | ⟨l, ⟨q1, q2⟩, rfl⟩
      · obtain ⟨b', y8, j', ih⟩ := ih (x + 1) [(b, x)] (.val (.int x)) .val (by show 1 + _ ≤ _; omega)
        refine ⟨b', y8, j', ?_⟩
        rw [joinS_nil, ← ih, List.map_cons, for_cons]
        clear ih
        have hne : neD (.lst []) (.lst []) = some (.val (.bl false)) := rfl
        have hsz : 0 < sizeLine := by rw [PySem.sizeLine_eq]; omega
        unfold L__law_left_2 ivD
        walk_at "dlh"
        rfl
      · rw [List.concat_eq_append] at hl ⊢
        rw [List.length_append, List.length_singleton] at hl
        rw [joinS_snoc]
        have e : (l ++ [(q1, q2)]).map ivD = l.map ivD ++ [.tup [.int q1, .int q2]] := by rw [List.map_append]; rfl
        have hpl : D.plains ((l ++ [(q1, q2)]).map ivD) = true := plains_map _ _ fun _ _ => rfl
        have hne := ne_nil_lst hpl
        rw [e] at hne
        have hle : (l.map ivD).length = l.length := List.length_map ..
        generalize hL : l.map ivD = L at e hle hne
        have hne2 : neD (.lst (L ++ [.tup [.int q1, .int q2]])) (.lst []) = some (.val (.bl true)) := by rw [hne]; simp
        have hix : ixN (L ++ [D.tup [.int q1, .int q2]]).length (-1) = some L.length := by rw [List.length_append, List.length_singleton, ixN_last (by omega)]; rfl
        have hset : ∀ d, (L ++ [D.tup [.int q1, .int q2]]).set L.length d = L ++ [d] := fun d => by simp
        have hs2 : (L ++ [D.tup [.int q1, .int q2]]).length < sizeLine := by rw [PySem.sizeLine_eq, List.length_append, List.length_singleton]; omega
        by_cases h2 : q2 = b
        · subst h2
          obtain ⟨b', y8, j', ih⟩ := ih (x + 1) (l ++ [(q1, x)]) (.val (.int x)) .val (by rw [List.length_append, List.length_singleton]; omega)
          refine ⟨b', y8, j', ?_⟩
          rw [if_pos rfl, ← ih, List.map_cons, for_cons, e]
          have e2 : (l ++ [(q1, x)]).map ivD = L ++ [.tup [.int q1, .int x]] := by rw [List.map_append, hL]; rfl
          rw [e2]
          clear ih e e2 hle hl hL hne hpl hs2
          unfold L__law_left_2
          walk_at "dlh"
        · obtain ⟨b', y8, j', ih⟩ := ih (x + 1) (l ++ [(q1, q2)] ++ [(b, x)]) (.val (.int x)) .val (by rw [List.length_append, List.length_append, List.length_singleton, List.length_singleton]; omega)
          refine ⟨b', y8, j', ?_⟩
          rw [if_neg h2, ← ih, List.map_cons, for_cons, e]
          have e2 : (l ++ [(q1, q2)] ++ [(b, x)]).map ivD = L ++ [.tup [.int q1, .int q2]] ++ [.tup [.int b, .int x]] := by rw [List.map_append, List.map_append, hL]; rfl
          rw [e2]
          clear ih e e2 hle hl hL hne hpl
          unfold L__law_left_2
          walk_at "dlh"
    · obtain ⟨b', y8, j', ih⟩ := ih (x + 1) acc (.val (.int x)) .val (by omega)
      refine ⟨b', y8, j', ?_⟩
      rw [if_neg h, List.map_cons, for_cons, ← ih]
      clear ih
      unfold L__law_left_2
      walk_at "dlh"
end LW

namespace LW
open PySem L2 DL
local macro_rules | `(tactic| walk_at "dl") => `(tactic| simp -implicitDefEqProofs only [mkF_eq, mkK_ret, mkK_nx, mkK_ex, mkK_ite, fin_nil, fin_io, fin_val, bind_ok, bind_ex, map_ok, map_ex, s_ok, s_ex, bind_ite, map_ite, s_ite, seq_ite, seq_nx, seq_ret, seq_brk, seq_cont, seq_ex, eC_eq, eVar_eq, eVarK_val, eVarK_own, asA_eq, asD_eq, d_val, d_own, peek_eq, peekK_val, peekK_own, peekK_io, pre_e, pre_n, preK_some, fin_e, fin_n, lift_some, lift_ite, fin2_some, fin1_some, eBin_eq, eBin1_eq, eBin2_eq, eUn_eq, eUn1_eq, tst_eq, tstK_ok, tstK_ex, tstK_ite, bNot_eq, bAnd_eq, bOr_eq, andK_eq, orK_eq, bYes_eq, eAnd_eq, eOr_eq, eAndK_bl, eOrK_bl, eNot_eq, eNotK_bl, eIf_eq, eIfK_eq, evs_nil, evs_cons, evsK_eq, evsA_nil, evsA_cons, evsAK_eq, eTup_eq, eLst_eq, ownLst_eq, preAll_nil, preAll_cons, preAllK_eq, finAll_nil, finAll_cons, consK_some, finL_some, eCB_eq, eCBK_eq, eCF_eq, eCFK_eq, eCF1_some, eCFR_ok, eCFR_ex, eCFR_ite, argSlots_nil, argSlots_cons, sconsK_some, argSlot_e, argSlot_n', argK_val, argK_own, argK_io, putB_nil, putB_cons, putS_none, putS_own, putS_io, putS_val, putS_un, look_nil, look_e, look_nv, look_nu, look_nio, eChain_eq, eCh0_eq, eCh1_eq, eCh2_bl, eCh3_eq, part_none, part_some, partK_int, fin3_some, eSl_eq, eSl0_eq, eSl1_eq, eSl2_eq, eApp_eq, ownL_eq, ownLK_own, ownLK_io, appK_eq, appK2_own, appK2_io, ePop_eq, eLc_eq, eLc1_eq, eLc2_some, eLcK_some, wipeE_nil, wipeE_cons, wipeK_some, wipeK2_un, wipeK2_val, unwipe_nil, unwipe_cons, unwK_some, iSeq_eq, seqK_lst, seqK_tup, seqK_str, iOf_eq, iOfK_eq, iOfK2_some, iKeysN_eq, keysK_dic, sNext_eq, sBrk_eq, sCont_eq, sSeq_eq, sIf_eq, sIfK_eq, sRet_eq, sRetN_eq, sRetK_val, sRetK_own, sExpr_eq, dropK2_eq, ioAt_eq, ioK_un, ioK_val, ioK_own, slotOf_val, slotOf_own, sSet_eq, sSetK_eq, nxO_some, nxO_none, sAsg_eq, sAsgK_eq, sPar_eq, sParK_eq, stoN_nil, stoN_cons, sto_nm, sto_tp, stos_nil, stos_cons, stosK_some, sSub_eq, sSub0_eq, sSub1_some, sSub2_eq, setSub_eq, setK_own, setK_io, nxU_eq, sParS_eq, sParS0_eq, stoS_nil, stoS_cons, stoS0_some, stoS1_eq, stoS2_some, sAug_eq, sAugK_val, sAug0_eq, sAug1_some, sFor_eq, forK_some, forK2_nx, forK2_cont, forK2_brk, forK2_ret, forK2_ex, forK2_ite, add_int, sub_int, mul_int, fdiv_int, mod_int, neg_int, lt_int, le_int, gt_int, ge_int, DL.eq_int, DL.ne_int, is_non, isn_non, is_bl, isn_bl, len_lst, len_tup, int_int, DL.abs_int, tuple_lst, tuple_tup, ix_lst, DL.ix_tup, at_lit, at_last, ixN_lit, rng1_int, rng2_int, List.getElem?_cons_zero, List.getElem?_cons_succ, List.getElem?_nil, List.set_cons_zero, List.set_cons_succ, List.cons_append, List.nil_append, List.replicate_succ, List.replicate_zero, Option.map_some, Option.map_none, Bool.and_true, Bool.true_and, Bool.and_false, Bool.false_and, Bool.not_true, Bool.not_false, if_true, if_false, ite_true, ite_false, reduceIte, reduceCtorEq, Bool.false_eq_true, List.length_cons, List.length_nil, Nat.reduceAdd, Nat.reduceLT, Nat.reduceEqDiff, eq_self, and_self, true_and, and_true, decide_eq_true_eq, beq_iff_eq , bind_no, map_no, s_no, seq_no, lift_none, tstK_no, forK2_no, mkK_no, eCFR_no , sl_scr, sl_lst, sl_tupl, eIsi_eq, isi_int, isi_bl, isi_str, isi_tup, isi_lst, isi_non, kit_ii, kit_ib, kit_is, kit_it, kit_il, kit_bi, kit_bb, kit_bs, kit_bt, kit_bl, kit_si, kit_sb, kit_ss, kit_st, kit_sl, kit_ti, kit_tb, kit_ts, kit_tt, kit_tl, kit_li, kit_lb, kit_ls, kit_lt, kit_ll, kit_ni, kit_nb, kit_ns, kit_nt, kit_nl, isNon_int, isNon_bl, isNon_str, isNon_tup, isNon_lst, isNon_non, DL.eq_bl, DL.ne_bl, Bool.or_false, Bool.false_or, Bool.or_true, Bool.true_or, beq_self_eq_true, Bool.not_not , eq_nil, Int.toNat_natCast , Int.cast_ofNat_Int, at_snoc, getLast_snoc])
local macro_rules | `(tactic| walk_at "dlh") => `(tactic| simp -implicitDefEqProofs only [mkF_eq, mkK_ret, mkK_nx, mkK_ex, mkK_ite, fin_nil, fin_io, fin_val, bind_ok, bind_ex, map_ok, map_ex, s_ok, s_ex, bind_ite, map_ite, s_ite, seq_ite, seq_nx, seq_ret, seq_brk, seq_cont, seq_ex, eC_eq, eVar_eq, eVarK_val, eVarK_own, asA_eq, asD_eq, d_val, d_own, peek_eq, peekK_val, peekK_own, peekK_io, pre_e, pre_n, preK_some, fin_e, fin_n, lift_some, lift_ite, fin2_some, fin1_some, eBin_eq, eBin1_eq, eBin2_eq, eUn_eq, eUn1_eq, tst_eq, tstK_ok, tstK_ex, tstK_ite, bNot_eq, bAnd_eq, bOr_eq, andK_eq, orK_eq, bYes_eq, eAnd_eq, eOr_eq, eAndK_bl, eOrK_bl, eNot_eq, eNotK_bl, eIf_eq, eIfK_eq, evs_nil, evs_cons, evsK_eq, evsA_nil, evsA_cons, evsAK_eq, eTup_eq, eLst_eq, ownLst_eq, preAll_nil, preAll_cons, preAllK_eq, finAll_nil, finAll_cons, consK_some, finL_some, eCB_eq, eCBK_eq, eCF_eq, eCFK_eq, eCF1_some, eCFR_ok, eCFR_ex, eCFR_ite, argSlots_nil, argSlots_cons, sconsK_some, argSlot_e, argSlot_n', argK_val, argK_own, argK_io, putB_nil, putB_cons, putS_none, putS_own, putS_io, putS_val, putS_un, look_nil, look_e, look_nv, look_nu, look_nio, eChain_eq, eCh0_eq, eCh1_eq, eCh2_bl, eCh3_eq, part_none, part_some, partK_int, fin3_some, eSl_eq, eSl0_eq, eSl1_eq, eSl2_eq, eApp_eq, ownL_eq, ownLK_own, ownLK_io, appK_eq, appK2_own, appK2_io, ePop_eq, eLc_eq, eLc1_eq, eLc2_some, eLcK_some, wipeE_nil, wipeE_cons, wipeK_some, wipeK2_un, wipeK2_val, unwipe_nil, unwipe_cons, unwK_some, iSeq_eq, seqK_lst, seqK_tup, seqK_str, iOf_eq, iOfK_eq, iOfK2_some, iKeysN_eq, keysK_dic, sNext_eq, sBrk_eq, sCont_eq, sSeq_eq, sIf_eq, sIfK_eq, sRet_eq, sRetN_eq, sRetK_val, sRetK_own, sExpr_eq, dropK2_eq, ioAt_eq, ioK_un, ioK_val, ioK_own, slotOf_val, slotOf_own, sSet_eq, sSetK_eq, nxO_some, nxO_none, sAsg_eq, sAsgK_eq, sPar_eq, sParK_eq, stoN_nil, stoN_cons, sto_nm, sto_tp, stos_nil, stos_cons, stosK_some, sSub_eq, sSub0_eq, sSub1_some, sSub2_eq, setSub_eq, setK_own, setK_io, nxU_eq, sParS_eq, sParS0_eq, stoS_nil, stoS_cons, stoS0_some, stoS1_eq, stoS2_some, sAug_eq, sAugK_val, sAug0_eq, sAug1_some, sFor_eq, forK_some, forK2_nx, forK2_cont, forK2_brk, forK2_ret, forK2_ex, forK2_ite, add_int, sub_int, mul_int, fdiv_int, mod_int, neg_int, lt_int, le_int, gt_int, ge_int, DL.eq_int, DL.ne_int, is_non, isn_non, is_bl, isn_bl, len_lst, len_tup, int_int, DL.abs_int, tuple_lst, tuple_tup, ix_lst, DL.ix_tup, at_lit, at_last, ixN_lit, rng1_int, rng2_int, List.getElem?_cons_zero, List.getElem?_cons_succ, List.getElem?_nil, List.set_cons_zero, List.set_cons_succ, List.cons_append, List.nil_append, List.replicate_succ, List.replicate_zero, Option.map_some, Option.map_none, Bool.and_true, Bool.true_and, Bool.and_false, Bool.false_and, Bool.not_true, Bool.not_false, if_true, if_false, ite_true, ite_false, reduceIte, reduceCtorEq, Bool.false_eq_true, List.length_cons, List.length_nil, Nat.reduceAdd, Nat.reduceLT, Nat.reduceEqDiff, eq_self, and_self, true_and, and_true, decide_eq_true_eq, beq_iff_eq , bind_no, map_no, s_no, seq_no, lift_none, tstK_no, forK2_no, mkK_no, eCFR_no , sl_scr, sl_lst, sl_tupl, eIsi_eq, isi_int, isi_bl, isi_str, isi_tup, isi_lst, isi_non, kit_ii, kit_ib, kit_is, kit_it, kit_il, kit_bi, kit_bb, kit_bs, kit_bt, kit_bl, kit_si, kit_sb, kit_ss, kit_st, kit_sl, kit_ti, kit_tb, kit_ts, kit_tt, kit_tl, kit_li, kit_lb, kit_ls, kit_lt, kit_ll, kit_ni, kit_nb, kit_ns, kit_nt, kit_nl, isNon_int, isNon_bl, isNon_str, isNon_tup, isNon_lst, isNon_non, DL.eq_bl, DL.ne_bl, Bool.or_false, Bool.false_or, Bool.or_true, Bool.true_or, beq_self_eq_true, Bool.not_not , eq_nil, Int.toNat_natCast , Int.cast_ofNat_Int, at_snoc, getLast_snoc, *])
theorem law_left1 (B : Slot) (sold : List Int) (s : Str) (hs : PyData.strOk s = true) (hso : sold.length ≤ 8) : ∀ (bs : List Bk) (acc : List Iv) (x4 x5 x6 x7 x8 : Slot), Good bs → Junk x4 → Junk x5 → Junk x6 → Junk x7 → Junk x8 → acc.length + bs.length * (sold.length + 1) ≤ 900 →
    ∃ y4 y5 y6 y7 y8, Junk y4 ∧ Junk y5 ∧ Junk y6 ∧ Junk y7 ∧ Junk y8 ∧ forGo (.tp [(.nm 4), (.nm 5), (.nm 6)]) L__law_left_1 (bs.map bD) [B, .val (soD sold), .val (.str s), .own (.lst (acc.map ivD)), x4, x5, x6, x7, x8, .un] =
      .nx [B, .val (soD sold), .val (.str s), .own (.lst (((pieces bs sold s).foldl joinS acc).map ivD)), y4, y5, y6, y7, y8, .un] := by
  intro bs
  induction bs with
  | nil => intro acc x4 x5 x6 x7 x8 _ j4 j5 j6 j7 j8 _; exact ⟨x4, x5, x6, x7, x8, j4, j5, j6, j7, j8, by rw [show pieces [] sold s = [] by rw [pieces]]; rfl⟩
  | cons b bs ih =>
    intro acc x4 x5 x6 x7 x8 g j4 j5 j6 j7 j8 hl
    rw [List.length_cons, Nat.succ_mul] at hl
    have hb := (g b List.mem_cons_self).2.ok
    have i4 := j4.io
    have i5 := j5.io
    have i6 := j6.io
    have i7 := j7.io
    have i8 := j8.io
    rw [show pieces (b :: bs) sold s = (if b.2.2 = s then pcs b.1 (sold.filter (inB b) ++ [b.2.1]) else []) ++ pieces bs sold s by rw [pieces]]
    by_cases h : b.2.2 = s
    · have hne : eqD (.str b.2.2) (.str s) = some (.val (.bl true)) := by rw [eq_str hb hs, h]; simp
      have fl := List.length_filter_le (inB b) sold
      have hpl := pcs_len (sold.filter (inB b) ++ [b.2.1]) b.1
      rw [List.length_append, List.length_singleton] at hpl
      have hjl := join_len (pcs b.1 (sold.filter (inB b) ++ [b.2.1])) acc
      obtain ⟨b', y8, j8', h2⟩ := law_left2 B (.val (soD sold)) (.val (.str s)) (.val (.int b.1)) (.val (.int b.2.1)) (.val (.str b.2.2)) .un (sold.filter (inB b) ++ [b.2.1]) b.1 acc x8 j8 (by rw [List.length_append, List.length_singleton]; omega)
      obtain ⟨y4, y5, y6, y7, z8, k4, k5, k6, k7, k8, ih⟩ := ih ((pcs b.1 (sold.filter (inB b) ++ [b.2.1])).foldl joinS acc) (.val (.int b.1)) (.val (.int b.2.1)) (.val (.str b.2.2)) (.val (.int b')) y8 g.tail .val .val .val .val j8' (by omega)
      refine ⟨y4, y5, y6, y7, z8, k4, k5, k6, k7, k8, ?_⟩
      have hlc := lc_pure (tg := .nm 9) (vs := [9]) (ft := C__law_left_1t) (fe := C__law_left_1e) D.int (inB b) D.int [B, .val (soD sold), .val (.str s), .own (.lst (acc.map ivD)), .val (.int b.1), .val (.int b.2.1), .val (.str b.2.2), .val (.int b.1), x8, .un] sold (fun n _ => by
        refine ⟨[B, .val (soD sold), .val (.str s), .own (.lst (acc.map ivD)), .val (.int b.1), .val (.int b.2.1), .val (.str b.2.2), .val (.int b.1), x8, .val (.int n)], [B, .val (soD sold), .val (.str s), .own (.lst (acc.map ivD)), .val (.int b.1), .val (.int b.2.1), .val (.str b.2.2), .val (.int b.1), x8, .val (.int n)], ?_, ?_, fun _ => ⟨[B, .val (soD sold), .val (.str s), .own (.lst (acc.map ivD)), .val (.int b.1), .val (.int b.2.1), .val (.str b.2.2), .val (.int b.1), x8, .val (.int n)], ?_, ?_⟩, fun _ => ?_⟩
        · walk_at "dl"
        · unfold C__law_left_1t inB
          walk_at "dl"
          by_cases h1 : b.1 ≤ n
          · simp [h1]
          · simp [h1]
        · unfold C__law_left_1e; walk_at "dl"
        · walk_at "dl"
        · walk_at "dl") [] (by rw [PySem.sizeLine_eq]; show 0 + _ < _; omega)
      rw [List.nil_append] at hlc
      have ha : addD (.lst ((sold.filter (inB b)).map .int)) (.lst [.int b.2.1]) = some (.own (.lst ((sold.filter (inB b) ++ [b.2.1]).map .int))) := by
        rw [add_lst, if_pos (by rw [PySem.sizeLine_eq, List.length_map, List.length_singleton]; omega), List.map_append]; rfl
      rw [if_pos h, List.foldl_append, ← ih, List.map_cons, for_cons]
      have hbD : bD b = .tup [.int b.1, .int b.2.1, .str b.2.2] := rfl
      unfold soD at h2 hlc ⊢
      clear ih g hb hpl fl hl h hjl
      unfold L__law_left_1
      walk_at "dlh"
    · have hne : eqD (.str b.2.2) (.str s) = some (.val (.bl false)) := by rw [eq_str hb hs]; simp [h]
      obtain ⟨y4, y5, y6, y7, z8, k4, k5, k6, k7, k8, ih⟩ := ih acc (.val (.int b.1)) (.val (.int b.2.1)) (.val (.str b.2.2)) x7 x8 g.tail .val .val .val j7 j8 (by omega)
      refine ⟨y4, y5, y6, y7, z8, k4, k5, k6, k7, k8, ?_⟩
      rw [if_neg h, List.nil_append, ← ih, List.map_cons, for_cons]
      have hbD : bD b = .tup [.int b.1, .int b.2.1, .str b.2.2] := rfl
      clear ih g hb hl
      unfold L__law_left_1
      walk_at "dlh"
theorem law_left_ok (bs : List Bk) (g : Good bs) (sold : List Int) (s : Str) (hs : PyData.strOk s = true) (hso : sold.length ≤ 8) (hb : bs.length ≤ 6) :
    F__law_left [.val (blD bs), .val (soD sold), .val (.str s)] = .ok (.own (.lst ((strE bs sold s).map ivD))) [.un, .un, .un] := by
  have hm : bs.length * (sold.length + 1) ≤ 6 * 9 := Nat.mul_le_mul hb (by omega)
  obtain ⟨y4, y5, y6, y7, y8, k4, k5, k6, k7, k8, h1⟩ := law_left1 (.val (blD bs)) sold s hs hso bs [] .un .un .un .un .un g .un .un .un .un .un (by show 0 + _ ≤ _; omega)
  have e0 : F__law_left [.val (blD bs), .val (soD sold), .val (.str s)] = mkF 7 B__law_left [.val (.tup (bs.map bD)), .val (soD sold), .val (.str s)] := rfl
  rw [e0]
  rw [List.map_nil] at h1
  unfold B__law_left
  unfold blD at h1
  unfold strE
  clear hm g hs
  walk_at "dlh"
theorem pick4 (v k : Int) (h0 : 0 ≤ k) (h1 : k < 4) (v0 : 0 ≤ v) (v1 : v < 9) : ∃ d : Int, atI [D.int 0, .int 0, .int 1, .int v] k = some (.int d) ∧ 0 ≤ d ∧ d ≤ 8 := by
  have : k = 0 ∨ k = 1 ∨ k = 2 ∨ k = 3 := by omega
  rcases this with rfl | rfl | rfl | rfl
  · exact ⟨0, rfl, by omega, by omega⟩
  · exact ⟨0, rfl, by omega, by omega⟩
  · exact ⟨1, rfl, by omega, by omega⟩
  · exact ⟨v, rfl, by omega, by omega⟩
theorem pick3 (k : Int) (h0 : 0 ≤ k) (h1 : k < 3) : ∃ s : Str, atI [D.str "ann", .str "bob", .str "cid"] k = some (.str s) ∧ Menu s := by
  have : k = 0 ∨ k = 1 ∨ k = 2 := by omega
  rcases this with rfl | rfl | rfl
  · exact ⟨_, rfl, .inl rfl⟩
  · exact ⟨_, rfl, .inr (.inl rfl)⟩
  · exact ⟨_, rfl, .inr (.inr rfl)⟩
theorem pick2 (k : Int) (h0 : 0 ≤ k) (h1 : k < 2) : ∃ a : Int, atI [D.int 0, .int (1000000000000000 - 200)] k = some (.int a) ∧ 0 ≤ a ∧ a ≤ 999999999999800 := by
  have : k = 0 ∨ k = 1 := by omega
  rcases this with rfl | rfl
  · exact ⟨_, rfl, by omega, by omega⟩
  · exact ⟨_, rfl, by omega, by omega⟩
theorem blocks_for (n : Nat) : ∀ (ts : List D) (a : Int) (st acc : List D) (x3 x4 x5 : Slot), St (n + 4 * ts.length) st → Junk x3 → Junk x4 → Junk x5 → acc.length + ts.length ≤ 1000 →
    ∃ bs a' st' y3 y4 y5, WB a bs ∧ (∀ b ∈ bs, b.2.1 ≤ a + 20 * ts.length ∧ Menu b.2.2) ∧ bs.length = ts.length ∧ St n st' ∧ Junk y3 ∧ Junk y4 ∧ Junk y5 ∧
      forGo (.nm 3) L__law_blocks_1 ts [.io (.lst st), .own (.lst acc), .val (.int a), x3, x4, x5] = .nx [.io (.lst st'), .own (.lst (acc ++ bs.map bD)), .val (.int a'), y3, y4, y5] := by
  intro ts
  induction ts with
  | nil => intro a st acc x3 x4 x5 h j3 j4 j5 _; exact ⟨[], a, st, x3, x4, x5, trivial, (fun b hb => by cases hb), rfl, h, j3, j4, j5, by rw [List.map_nil, List.append_nil]; rfl⟩
  | cons t ts ih =>
    intro a st acc x3 x4 x5 h j3 j4 j5 hl
    rw [List.length_cons] at hl h
    obtain ⟨r1, st1, d1, r1a, r1b, h⟩ := draw_ok (n := n + 4 * ts.length + 3) (h.mono (by omega)) (l := 9) (by decide) (by decide)
    obtain ⟨r2, st2, d2, r2a, r2b, h⟩ := draw_ok h (l := 4) (by decide) (by decide)
    obtain ⟨r3, st3, d3, r3a, r3b, h⟩ := draw_ok h (l := 12) (by decide) (by decide)
    obtain ⟨r4, st4, d4, r4a, r4b, h⟩ := draw_ok h (l := 3) (by decide) (by decide)
    obtain ⟨d, p1, p1a, p1b⟩ := pick4 r1 r2 r2a r2b r1a r1b
    obtain ⟨s, p2, hs⟩ := pick3 r4 r4a r4b
    obtain ⟨bs, a', st', y3, y4, y5, w, hg, hlen, h', k3, k4, k5, ih⟩ := ih (a + d + 1 + r3) st4 (acc ++ [.tup [.int (a + d), .int (a + d + 1 + r3), .str s]]) (.val t) (.val (.int (a + d))) (.val (.int (a + d + 1 + r3))) h .val .val .val (by rw [List.length_append, List.length_singleton]; omega)
    refine ⟨(a + d, a + d + 1 + r3, s) :: bs, a', st', y3, y4, y5, ⟨by show a ≤ a + d; omega, by show a + d < a + d + 1 + r3; omega, w⟩, ?_, by rw [List.length_cons, List.length_cons, hlen], h', k3, k4, k5, ?_⟩
    · intro b hb
      rw [List.length_cons]
      rcases List.mem_cons.mp hb with rfl | hb
      · exact ⟨by show a + d + 1 + r3 ≤ _; omega, hs⟩
      · obtain ⟨q1, q2⟩ := hg b hb
        exact ⟨by omega, q2⟩
    · have e : acc ++ ((a + d, a + d + 1 + r3, s) :: bs).map bD = acc ++ [.tup [.int (a + d), .int (a + d + 1 + r3), .str s]] ++ bs.map bD := by rw [List.append_assoc]; rfl
      rw [e, ← ih, for_cons]
      have hsz : acc.length < sizeLine := by rw [PySem.sizeLine_eq]; omega
      have i3 := j3.io
      have i4 := j4.io
      have i5 := j5.io
      clear ih e hg w h h' hs r1a r1b r2a r2b r3a r3b r4a r4b hlen hl
      unfold L__law_blocks_1
      walk_at "dlh"
theorem rangeD_len (n : Nat) : ∀ a, (rangeD a n).length = n := by
  intro a
  unfold rangeD
  simp
theorem blocks_ok {n : Nat} {st : List D} (h : St (n + 26) st) :
    ∃ bs st', WB 0 bs ∧ Good bs ∧ bs.length ≤ 6 ∧ St n st' ∧ F__law_blocks [.io (.lst st)] = .ok (.val (blD bs)) [.io (.lst st')] := by
  obtain ⟨r1, st1, d1, r1a, r1b, h⟩ := draw_ok (n := n + 25) h (l := 2) (by decide) (by decide)
  obtain ⟨r2, st2, d2, r2a, r2b, h⟩ := draw_ok (n := n + 24) h (l := 7) (by decide) (by decide)
  obtain ⟨a, p1, p1a, p1b⟩ := pick2 r1 r1a r1b
  obtain ⟨bs, a', st', y3, y4, y5, w, hg, hlen, h', k3, k4, k5, hf⟩ := blocks_for n (rangeD 0 r2.toNat) a st2 [] .un .un .un (h.mono (by rw [rangeD_len]; omega)) .un .un .un (by rw [rangeD_len]; show 0 + _ ≤ _; omega)
  rw [rangeD_len] at hlen hg
  rw [List.nil_append] at hf
  refine ⟨bs, st', ?_, ?_, by omega, h', ?_⟩
  · cases bs with
    | nil => trivial
    | cons b bs => exact ⟨by have := w.1; omega, w.2.1, w.2.2⟩
  · intro b hb
    obtain ⟨q1, q2⟩ := hg b hb
    exact ⟨by omega, q2⟩
  · have hp : powD (.int 10) (.int 15) = some (.val (.int 1000000000000000)) := by kernel_rfl
    have hr : rngOk r2 := by unfold rngOk; omega
    have ht : tupleD [.lst (bs.map bD)] = some (.val (.tup (bs.map bD))) := rfl
    have i3 := k3.io
    have i4 := k4.io
    have i5 := k5.io
    unfold F__law_blocks B__law_blocks blD
    clear h h' w hg r1a r1b r2a r2b p1a p1b hlen
    walk_at "dlh"
end LW

namespace LW
open PySem L2 DL
local macro_rules | `(tactic| walk_at "dl") => `(tactic| simp -implicitDefEqProofs only [mkF_eq, mkK_ret, mkK_nx, mkK_ex, mkK_ite, fin_nil, fin_io, fin_val, bind_ok, bind_ex, map_ok, map_ex, s_ok, s_ex, bind_ite, map_ite, s_ite, seq_ite, seq_nx, seq_ret, seq_brk, seq_cont, seq_ex, eC_eq, eVar_eq, eVarK_val, eVarK_own, asA_eq, asD_eq, d_val, d_own, peek_eq, peekK_val, peekK_own, peekK_io, pre_e, pre_n, preK_some, fin_e, fin_n, lift_some, lift_ite, fin2_some, fin1_some, eBin_eq, eBin1_eq, eBin2_eq, eUn_eq, eUn1_eq, tst_eq, tstK_ok, tstK_ex, tstK_ite, bNot_eq, bAnd_eq, bOr_eq, andK_eq, orK_eq, bYes_eq, eAnd_eq, eOr_eq, eAndK_bl, eOrK_bl, eNot_eq, eNotK_bl, eIf_eq, eIfK_eq, evs_nil, evs_cons, evsK_eq, evsA_nil, evsA_cons, evsAK_eq, eTup_eq, eLst_eq, ownLst_eq, preAll_nil, preAll_cons, preAllK_eq, finAll_nil, finAll_cons, consK_some, finL_some, eCB_eq, eCBK_eq, eCF_eq, eCFK_eq, eCF1_some, eCFR_ok, eCFR_ex, eCFR_ite, argSlots_nil, argSlots_cons, sconsK_some, argSlot_e, argSlot_n', argK_val, argK_own, argK_io, putB_nil, putB_cons, putS_none, putS_own, putS_io, putS_val, putS_un, look_nil, look_e, look_nv, look_nu, look_nio, eChain_eq, eCh0_eq, eCh1_eq, eCh2_bl, eCh3_eq, part_none, part_some, partK_int, fin3_some, eSl_eq, eSl0_eq, eSl1_eq, eSl2_eq, eApp_eq, ownL_eq, ownLK_own, ownLK_io, appK_eq, appK2_own, appK2_io, ePop_eq, eLc_eq, eLc1_eq, eLc2_some, eLcK_some, wipeE_nil, wipeE_cons, wipeK_some, wipeK2_un, wipeK2_val, unwipe_nil, unwipe_cons, unwK_some, iSeq_eq, seqK_lst, seqK_tup, seqK_str, iOf_eq, iOfK_eq, iOfK2_some, iKeysN_eq, keysK_dic, sNext_eq, sBrk_eq, sCont_eq, sSeq_eq, sIf_eq, sIfK_eq, sRet_eq, sRetN_eq, sRetK_val, sRetK_own, sExpr_eq, dropK2_eq, ioAt_eq, ioK_un, ioK_val, ioK_own, slotOf_val, slotOf_own, sSet_eq, sSetK_eq, nxO_some, nxO_none, sAsg_eq, sAsgK_eq, sPar_eq, sParK_eq, stoN_nil, stoN_cons, sto_nm, sto_tp, stos_nil, stos_cons, stosK_some, sSub_eq, sSub0_eq, sSub1_some, sSub2_eq, setSub_eq, setK_own, setK_io, nxU_eq, sParS_eq, sParS0_eq, stoS_nil, stoS_cons, stoS0_some, stoS1_eq, stoS2_some, sAug_eq, sAugK_val, sAug0_eq, sAug1_some, sFor_eq, forK_some, forK2_nx, forK2_cont, forK2_brk, forK2_ret, forK2_ex, forK2_ite, add_int, sub_int, mul_int, fdiv_int, mod_int, neg_int, lt_int, le_int, gt_int, ge_int, DL.eq_int, DL.ne_int, is_non, isn_non, is_bl, isn_bl, len_lst, len_tup, int_int, DL.abs_int, tuple_lst, tuple_tup, ix_lst, DL.ix_tup, at_lit, at_last, ixN_lit, rng1_int, rng2_int, List.getElem?_cons_zero, List.getElem?_cons_succ, List.getElem?_nil, List.set_cons_zero, List.set_cons_succ, List.cons_append, List.nil_append, List.replicate_succ, List.replicate_zero, Option.map_some, Option.map_none, Bool.and_true, Bool.true_and, Bool.and_false, Bool.false_and, Bool.not_true, Bool.not_false, if_true, if_false, ite_true, ite_false, reduceIte, reduceCtorEq, Bool.false_eq_true, List.length_cons, List.length_nil, Nat.reduceAdd, Nat.reduceLT, Nat.reduceEqDiff, eq_self, and_self, true_and, and_true, decide_eq_true_eq, beq_iff_eq , bind_no, map_no, s_no, seq_no, lift_none, tstK_no, forK2_no, mkK_no, eCFR_no , sl_scr, sl_lst, sl_tupl, eIsi_eq, isi_int, isi_bl, isi_str, isi_tup, isi_lst, isi_non, kit_ii, kit_ib, kit_is, kit_it, kit_il, kit_bi, kit_bb, kit_bs, kit_bt, kit_bl, kit_si, kit_sb, kit_ss, kit_st, kit_sl, kit_ti, kit_tb, kit_ts, kit_tt, kit_tl, kit_li, kit_lb, kit_ls, kit_lt, kit_ll, kit_ni, kit_nb, kit_ns, kit_nt, kit_nl, isNon_int, isNon_bl, isNon_str, isNon_tup, isNon_lst, isNon_non, DL.eq_bl, DL.ne_bl, Bool.or_false, Bool.false_or, Bool.or_true, Bool.true_or, beq_self_eq_true, Bool.not_not , eq_nil, Int.toNat_natCast , Int.cast_ofNat_Int, at_snoc, getLast_snoc])
local macro_rules | `(tactic| walk_at "dlh") => `(tactic| simp -implicitDefEqProofs only [mkF_eq, mkK_ret, mkK_nx, mkK_ex, mkK_ite, fin_nil, fin_io, fin_val, bind_ok, bind_ex, map_ok, map_ex, s_ok, s_ex, bind_ite, map_ite, s_ite, seq_ite, seq_nx, seq_ret, seq_brk, seq_cont, seq_ex, eC_eq, eVar_eq, eVarK_val, eVarK_own, asA_eq, asD_eq, d_val, d_own, peek_eq, peekK_val, peekK_own, peekK_io, pre_e, pre_n, preK_some, fin_e, fin_n, lift_some, lift_ite, fin2_some, fin1_some, eBin_eq, eBin1_eq, eBin2_eq, eUn_eq, eUn1_eq, tst_eq, tstK_ok, tstK_ex, tstK_ite, bNot_eq, bAnd_eq, bOr_eq, andK_eq, orK_eq, bYes_eq, eAnd_eq, eOr_eq, eAndK_bl, eOrK_bl, eNot_eq, eNotK_bl, eIf_eq, eIfK_eq, evs_nil, evs_cons, evsK_eq, evsA_nil, evsA_cons, evsAK_eq, eTup_eq, eLst_eq, ownLst_eq, preAll_nil, preAll_cons, preAllK_eq, finAll_nil, finAll_cons, consK_some, finL_some, eCB_eq, eCBK_eq, eCF_eq, eCFK_eq, eCF1_some, eCFR_ok, eCFR_ex, eCFR_ite, argSlots_nil, argSlots_cons, sconsK_some, argSlot_e, argSlot_n', argK_val, argK_own, argK_io, putB_nil, putB_cons, putS_none, putS_own, putS_io, putS_val, putS_un, look_nil, look_e, look_nv, look_nu, look_nio, eChain_eq, eCh0_eq, eCh1_eq, eCh2_bl, eCh3_eq, part_none, part_some, partK_int, fin3_some, eSl_eq, eSl0_eq, eSl1_eq, eSl2_eq, eApp_eq, ownL_eq, ownLK_own, ownLK_io, appK_eq, appK2_own, appK2_io, ePop_eq, eLc_eq, eLc1_eq, eLc2_some, eLcK_some, wipeE_nil, wipeE_cons, wipeK_some, wipeK2_un, wipeK2_val, unwipe_nil, unwipe_cons, unwK_some, iSeq_eq, seqK_lst, seqK_tup, seqK_str, iOf_eq, iOfK_eq, iOfK2_some, iKeysN_eq, keysK_dic, sNext_eq, sBrk_eq, sCont_eq, sSeq_eq, sIf_eq, sIfK_eq, sRet_eq, sRetN_eq, sRetK_val, sRetK_own, sExpr_eq, dropK2_eq, ioAt_eq, ioK_un, ioK_val, ioK_own, slotOf_val, slotOf_own, sSet_eq, sSetK_eq, nxO_some, nxO_none, sAsg_eq, sAsgK_eq, sPar_eq, sParK_eq, stoN_nil, stoN_cons, sto_nm, sto_tp, stos_nil, stos_cons, stosK_some, sSub_eq, sSub0_eq, sSub1_some, sSub2_eq, setSub_eq, setK_own, setK_io, nxU_eq, sParS_eq, sParS0_eq, stoS_nil, stoS_cons, stoS0_some, stoS1_eq, stoS2_some, sAug_eq, sAugK_val, sAug0_eq, sAug1_some, sFor_eq, forK_some, forK2_nx, forK2_cont, forK2_brk, forK2_ret, forK2_ex, forK2_ite, add_int, sub_int, mul_int, fdiv_int, mod_int, neg_int, lt_int, le_int, gt_int, ge_int, DL.eq_int, DL.ne_int, is_non, isn_non, is_bl, isn_bl, len_lst, len_tup, int_int, DL.abs_int, tuple_lst, tuple_tup, ix_lst, DL.ix_tup, at_lit, at_last, ixN_lit, rng1_int, rng2_int, List.getElem?_cons_zero, List.getElem?_cons_succ, List.getElem?_nil, List.set_cons_zero, List.set_cons_succ, List.cons_append, List.nil_append, List.replicate_succ, List.replicate_zero, Option.map_some, Option.map_none, Bool.and_true, Bool.true_and, Bool.and_false, Bool.false_and, Bool.not_true, Bool.not_false, if_true, if_false, ite_true, ite_false, reduceIte, reduceCtorEq, Bool.false_eq_true, List.length_cons, List.length_nil, Nat.reduceAdd, Nat.reduceLT, Nat.reduceEqDiff, eq_self, and_self, true_and, and_true, decide_eq_true_eq, beq_iff_eq , bind_no, map_no, s_no, seq_no, lift_none, tstK_no, forK2_no, mkK_no, eCFR_no , sl_scr, sl_lst, sl_tupl, eIsi_eq, isi_int, isi_bl, isi_str, isi_tup, isi_lst, isi_non, kit_ii, kit_ib, kit_is, kit_it, kit_il, kit_bi, kit_bb, kit_bs, kit_bt, kit_bl, kit_si, kit_sb, kit_ss, kit_st, kit_sl, kit_ti, kit_tb, kit_ts, kit_tt, kit_tl, kit_li, kit_lb, kit_ls, kit_lt, kit_ll, kit_ni, kit_nb, kit_ns, kit_nt, kit_nl, isNon_int, isNon_bl, isNon_str, isNon_tup, isNon_lst, isNon_non, DL.eq_bl, DL.ne_bl, Bool.or_false, Bool.false_or, Bool.or_true, Bool.true_or, beq_self_eq_true, Bool.not_not , eq_nil, Int.toNat_natCast , Int.cast_ofNat_Int, at_snoc, getLast_snoc, *])
def NIo (s : Slot) : Prop := ioK (some s) = false
theorem beq_dec (a b : Str) : (a == b) = decide (a = b) := by by_cases h : a = b <;> simp [h]
theorem sel_ok {bs : List Bk} (g : Good bs) {n : Int} {t : Str} (ho : sellerOf bs n = some t) : PyData.strOk t = true := by
  unfold sellerOf at ho
  cases hf : bs.find? (fun b => inB b n) with
  | none => rw [hf] at ho; cases ho
  | some b =>
    rw [hf] at ho
    cases ho
    exact (g b (List.mem_of_find?_eq_some hf)).2.ok
theorem sel_eq {bs : List Bk} (g : Good bs) {s : Str} (hs : PyData.strOk s = true) (n : Int) : eqD (selD (sellerOf bs n)) (.str s) = some (.val (.bl (decide (sellerOf bs n = some s)))) := by
  cases ho : sellerOf bs n with
  | none => exact eq_non_str hs
  | some t =>
    show eqD (.str t) (.str s) = _
    rw [eq_str (sel_ok g ho) hs]
    by_cases e : t = s
    · subst e; simp
    · simp [e]
theorem deps_le {α : Type} (f : α → D) (k : Nat) : ∀ (xs : List α), (∀ x ∈ xs, (f x).dep ≤ k) → D.deps (xs.map f) ≤ k
  | [], _ => Nat.zero_le _
  | x :: xs, h => Nat.max_le.mpr ⟨h x List.mem_cons_self, deps_le f k xs fun y hy => h y (List.mem_cons_of_mem _ hy)⟩
theorem fits_map {α : Type} (f : α → D) : ∀ (xs : List α), (∀ x ∈ xs, fit (f x) = true) → fits (xs.map f) = true
  | [], _ => rfl
  | x :: xs, h => by
    show (fit (f x) && fits (xs.map f)) = true
    rw [h x List.mem_cons_self, fits_map f xs fun y hy => h y (List.mem_cons_of_mem _ hy)]; rfl
theorem iv_alike (l : List Iv) (h : l.length < 16777216) : F__law_alike 8 [.val (.lst (l.map ivD)), .val (.lst (l.map ivD))] = .ok (.val (.bl true)) [.un, .un] := by
  apply alike_refl
  · show (decide ((l.map ivD).length < 16777216) && fits (l.map ivD)) = true
    rw [List.length_map, decide_eq_true h, fits_map ivD l fun _ _ => rfl]; rfl
  · show D.deps (l.map ivD) + 1 < 8
    have := deps_le ivD 2 l fun _ _ => by show max 0 (max 0 0) + 1 ≤ 2; decide
    omega
theorem bl_alike (b : Bool) : F__law_alike 8 [.val (.bl b), .val (.bl b)] = .ok (.val (.bl true)) [.un, .un] := alike_refl 8 _ rfl (by show 0 < 8; decide)
theorem sel_alike {bs : List Bk} (g : Good bs) (n : Int) : F__law_alike 8 [.val (selD (sellerOf bs n)), .val (selD (sellerOf bs n))] = .ok (.val (.bl true)) [.un, .un] := by
  cases ho : sellerOf bs n with
  | none => exact alike_refl 8 .non rfl (by show 0 < 8; decide)
  | some t => exact alike_refl 8 (.str t) (sel_ok g ho) (by show 0 < 8; decide)
theorem num_turn (bs : List Bk) (w : WB 0 bs) (g : Good bs) (hb : bs.length ≤ 6) (sold : List Int) (ha : Asc sold) (hso : sold.length ≤ 8) (s : Str) (hs : PyData.strOk s = true) (n : Int) (z0 z1 x4 x5 x6 x8 x10 x12 x13 x14 x15 : Slot) (i12 : NIo x12) :
    L_law_4 8 [z0, z1, .val (blD bs), .val (soD sold), x4, x5, x6, .val (.str s), x8, .val (.lst ((strE bs sold s).map ivD)), x10, .val (.int n), x12, x13, x14, x15, .un, .un, .un] =
      .nx [z0, z1, .val (blD bs), .val (soD sold), x4, x5, x6, .val (.str s), x8, .val (.lst ((strE bs sold s).map ivD)), x10, .val (.int n), .val (.bl (decide (sellerOf bs n = some s) && !decide (n ∈ sold))), x13, x14, x15, .un, .un, .un] := by
  have e1 := law_seller_ok bs g (by omega) n
  have e2 := may_sell_ok bs g sold hs n
  have h2 : ninD (.int n) (soD sold) = some (.val (.bl (!decide (n ∈ sold)))) := nin_ints sold n
  have h3 := sel_eq g hs n
  have hal := bl_alike
  have hpl : D.plains (((strE bs sold s).filter fun p => decide (p.1 ≤ n) && decide (n < p.2)).map ivD) = true := plains_map _ _ fun _ _ => rfl
  have hne := ne_nil_lst hpl
  have hemp : (!(((strE bs sold s).filter fun p => decide (p.1 ≤ n) && decide (n < p.2)).map ivD).isEmpty) = (decide (sellerOf bs n = some s) && !decide (n ∈ sold)) := by
    have hm := (strs_ok w ha s).2.1 n
    rw [Bool.eq_iff_iff]
    rw [Bool.and_eq_true, Bool.not_eq_true', decide_eq_true_eq, Bool.not_eq_true', decide_eq_false_iff_not, ← hm]
    constructor
    · intro h
      cases hf : (strE bs sold s).filter fun p => decide (p.1 ≤ n) && decide (n < p.2) with
      | nil => rw [hf] at h; cases h
      | cons p r =>
        have : p ∈ (strE bs sold s).filter fun p => decide (p.1 ≤ n) && decide (n < p.2) := by rw [hf]; exact List.mem_cons_self
        obtain ⟨q1, q2⟩ := List.mem_filter.mp this
        rw [Bool.and_eq_true, decide_eq_true_eq, decide_eq_true_eq] at q2
        exact ⟨p, q1, q2⟩
    · rintro ⟨p, q1, q2, q3⟩
      have : p ∈ (strE bs sold s).filter fun p => decide (p.1 ≤ n) && decide (n < p.2) := List.mem_filter.mpr ⟨q1, by rw [decide_eq_true q2, decide_eq_true q3]; rfl⟩
      cases hf : (strE bs sold s).filter fun p => decide (p.1 ≤ n) && decide (n < p.2) with
      | nil => rw [hf] at this; cases this
      | cons p r => rfl
  have hsl : (strE bs sold s).length ≤ 54 := by
    have h1 := join_len (pieces bs sold s) []
    have h2 := pieces_len sold s bs
    have hm : bs.length * (sold.length + 1) ≤ 6 * 9 := Nat.mul_le_mul hb (by omega)
    unfold strE
    rw [List.length_nil] at h1
    omega
  have hlc := fun z12 => lc_pure (tg := .nm 16) (vs := [16]) (ft := C_law_7t 8) (fe := C_law_7e 8) ivD (fun p => decide (p.1 ≤ n) && decide (n < p.2)) ivD [z0, z1, .val (blD bs), .val (soD sold), x4, x5, x6, .val (.str s), x8, .val (.lst ((strE bs sold s).map ivD)), x10, .val (.int n), z12, x13, x14, x15, .un, .un, .un] (strE bs sold s) (fun p _ => by
    obtain ⟨p1, p2⟩ := p
    refine ⟨[z0, z1, .val (blD bs), .val (soD sold), x4, x5, x6, .val (.str s), x8, .val (.lst ((strE bs sold s).map ivD)), x10, .val (.int n), z12, x13, x14, x15, .val (ivD (p1, p2)), .un, .un], [z0, z1, .val (blD bs), .val (soD sold), x4, x5, x6, .val (.str s), x8, .val (.lst ((strE bs sold s).map ivD)), x10, .val (.int n), z12, x13, x14, x15, .val (ivD (p1, p2)), .un, .un], ?_, ?_, fun _ => ⟨[z0, z1, .val (blD bs), .val (soD sold), x4, x5, x6, .val (.str s), x8, .val (.lst ((strE bs sold s).map ivD)), x10, .val (.int n), z12, x13, x14, x15, .val (ivD (p1, p2)), .un, .un], ?_, ?_⟩, fun _ => ?_⟩
    · walk_at "dl"
    · unfold C_law_7t ivD
      walk_at "dl"
      by_cases h1 : p1 ≤ n
      · simp [h1]
      · simp [h1]
    · unfold C_law_7e; walk_at "dl"
    · walk_at "dl"
    · walk_at "dl") [] (by rw [PySem.sizeLine_eq]; show 0 + _ < _; omega)
  rw [hemp] at hne
  clear hpl hemp hsl
  unfold NIo at i12
  unfold L_law_4
  generalize hq : decide (sellerOf bs n = some s) = d1 at *
  generalize hn : decide (n ∈ sold) = d2 at *
  simp only [List.nil_append] at hlc
  clear hq hn w g
  cases d1
  · cases d2
    · walk_at "dlh"
    · walk_at "dlh"
  · cases d2
    · walk_at "dlh"
    · walk_at "dlh"
theorem num_for (bs : List Bk) (w : WB 0 bs) (g : Good bs) (hb : bs.length ≤ 6) (sold : List Int) (ha : Asc sold) (hso : sold.length ≤ 8) (s : Str) (hs : PyData.strOk s = true) (z0 z1 x4 x5 x6 x8 x10 x13 x14 x15 : Slot) : ∀ (ns : List Int) (x11 x12 : Slot), NIo x11 → NIo x12 →
    ∃ y11 y12, NIo y11 ∧ NIo y12 ∧ forGo (.nm 11) (L_law_4 8) (ns.map .int) [z0, z1, .val (blD bs), .val (soD sold), x4, x5, x6, .val (.str s), x8, .val (.lst ((strE bs sold s).map ivD)), x10, x11, x12, x13, x14, x15, .un, .un, .un] =
      .nx [z0, z1, .val (blD bs), .val (soD sold), x4, x5, x6, .val (.str s), x8, .val (.lst ((strE bs sold s).map ivD)), x10, y11, y12, x13, x14, x15, .un, .un, .un] := by
  intro ns
  induction ns with
  | nil => intro x11 x12 i11 i12; exact ⟨x11, x12, i11, i12, rfl⟩
  | cons n ns ih =>
    intro x11 x12 i11 i12
    obtain ⟨y11, y12, k11, k12, ih⟩ := ih (.val (.int n)) (.val (.bl (decide (sellerOf bs n = some s) && !decide (n ∈ sold)))) rfl rfl
    refine ⟨y11, y12, k11, k12, ?_⟩
    have ht := num_turn bs w g hb sold ha hso s hs n z0 z1 x4 x5 x6 x8 x10 x12 x13 x14 x15 i12
    rw [← ih, List.map_cons, for_cons]
    clear ih w g
    unfold NIo at i11
    walk_at "dlh"
end LW

namespace LW
open PySem L2 DL
local macro_rules | `(tactic| walk_at "dl") => `(tactic| simp -implicitDefEqProofs only [mkF_eq, mkK_ret, mkK_nx, mkK_ex, mkK_ite, fin_nil, fin_io, fin_val, bind_ok, bind_ex, map_ok, map_ex, s_ok, s_ex, bind_ite, map_ite, s_ite, seq_ite, seq_nx, seq_ret, seq_brk, seq_cont, seq_ex, eC_eq, eVar_eq, eVarK_val, eVarK_own, asA_eq, asD_eq, d_val, d_own, peek_eq, peekK_val, peekK_own, peekK_io, pre_e, pre_n, preK_some, fin_e, fin_n, lift_some, lift_ite, fin2_some, fin1_some, eBin_eq, eBin1_eq, eBin2_eq, eUn_eq, eUn1_eq, tst_eq, tstK_ok, tstK_ex, tstK_ite, bNot_eq, bAnd_eq, bOr_eq, andK_eq, orK_eq, bYes_eq, eAnd_eq, eOr_eq, eAndK_bl, eOrK_bl, eNot_eq, eNotK_bl, eIf_eq, eIfK_eq, evs_nil, evs_cons, evsK_eq, evsA_nil, evsA_cons, evsAK_eq, eTup_eq, eLst_eq, ownLst_eq, preAll_nil, preAll_cons, preAllK_eq, finAll_nil, finAll_cons, consK_some, finL_some, eCB_eq, eCBK_eq, eCF_eq, eCFK_eq, eCF1_some, eCFR_ok, eCFR_ex, eCFR_ite, argSlots_nil, argSlots_cons, sconsK_some, argSlot_e, argSlot_n', argK_val, argK_own, argK_io, putB_nil, putB_cons, putS_none, putS_own, putS_io, putS_val, putS_un, look_nil, look_e, look_nv, look_nu, look_nio, eChain_eq, eCh0_eq, eCh1_eq, eCh2_bl, eCh3_eq, part_none, part_some, partK_int, fin3_some, eSl_eq, eSl0_eq, eSl1_eq, eSl2_eq, eApp_eq, ownL_eq, ownLK_own, ownLK_io, appK_eq, appK2_own, appK2_io, ePop_eq, eLc_eq, eLc1_eq, eLc2_some, eLcK_some, wipeE_nil, wipeE_cons, wipeK_some, wipeK2_un, wipeK2_val, unwipe_nil, unwipe_cons, unwK_some, iSeq_eq, seqK_lst, seqK_tup, seqK_str, iOf_eq, iOfK_eq, iOfK2_some, iKeysN_eq, keysK_dic, sNext_eq, sBrk_eq, sCont_eq, sSeq_eq, sIf_eq, sIfK_eq, sRet_eq, sRetN_eq, sRetK_val, sRetK_own, sExpr_eq, dropK2_eq, ioAt_eq, ioK_un, ioK_val, ioK_own, slotOf_val, slotOf_own, sSet_eq, sSetK_eq, nxO_some, nxO_none, sAsg_eq, sAsgK_eq, sPar_eq, sParK_eq, stoN_nil, stoN_cons, sto_nm, sto_tp, stos_nil, stos_cons, stosK_some, sSub_eq, sSub0_eq, sSub1_some, sSub2_eq, setSub_eq, setK_own, setK_io, nxU_eq, sParS_eq, sParS0_eq, stoS_nil, stoS_cons, stoS0_some, stoS1_eq, stoS2_some, sAug_eq, sAugK_val, sAug0_eq, sAug1_some, sFor_eq, forK_some, forK2_nx, forK2_cont, forK2_brk, forK2_ret, forK2_ex, forK2_ite, add_int, sub_int, mul_int, fdiv_int, mod_int, neg_int, lt_int, le_int, gt_int, ge_int, DL.eq_int, DL.ne_int, is_non, isn_non, is_bl, isn_bl, len_lst, len_tup, int_int, DL.abs_int, tuple_lst, tuple_tup, ix_lst, DL.ix_tup, at_lit, at_last, ixN_lit, rng1_int, rng2_int, List.getElem?_cons_zero, List.getElem?_cons_succ, List.getElem?_nil, List.set_cons_zero, List.set_cons_succ, List.cons_append, List.nil_append, List.replicate_succ, List.replicate_zero, Option.map_some, Option.map_none, Bool.and_true, Bool.true_and, Bool.and_false, Bool.false_and, Bool.not_true, Bool.not_false, if_true, if_false, ite_true, ite_false, reduceIte, reduceCtorEq, Bool.false_eq_true, List.length_cons, List.length_nil, Nat.reduceAdd, Nat.reduceLT, Nat.reduceEqDiff, eq_self, and_self, true_and, and_true, decide_eq_true_eq, beq_iff_eq , bind_no, map_no, s_no, seq_no, lift_none, tstK_no, forK2_no, mkK_no, eCFR_no , sl_scr, sl_lst, sl_tupl, eIsi_eq, isi_int, isi_bl, isi_str, isi_tup, isi_lst, isi_non, kit_ii, kit_ib, kit_is, kit_it, kit_il, kit_bi, kit_bb, kit_bs, kit_bt, kit_bl, kit_si, kit_sb, kit_ss, kit_st, kit_sl, kit_ti, kit_tb, kit_ts, kit_tt, kit_tl, kit_li, kit_lb, kit_ls, kit_lt, kit_ll, kit_ni, kit_nb, kit_ns, kit_nt, kit_nl, isNon_int, isNon_bl, isNon_str, isNon_tup, isNon_lst, isNon_non, DL.eq_bl, DL.ne_bl, Bool.or_false, Bool.false_or, Bool.or_true, Bool.true_or, beq_self_eq_true, Bool.not_not , eq_nil, Int.toNat_natCast , Int.cast_ofNat_Int, at_snoc, getLast_snoc])
local macro_rules | `(tactic| walk_at "dlh") => `(tactic| simp -implicitDefEqProofs only [mkF_eq, mkK_ret, mkK_nx, mkK_ex, mkK_ite, fin_nil, fin_io, fin_val, bind_ok, bind_ex, map_ok, map_ex, s_ok, s_ex, bind_ite, map_ite, s_ite, seq_ite, seq_nx, seq_ret, seq_brk, seq_cont, seq_ex, eC_eq, eVar_eq, eVarK_val, eVarK_own, asA_eq, asD_eq, d_val, d_own, peek_eq, peekK_val, peekK_own, peekK_io, pre_e, pre_n, preK_some, fin_e, fin_n, lift_some, lift_ite, fin2_some, fin1_some, eBin_eq, eBin1_eq, eBin2_eq, eUn_eq, eUn1_eq, tst_eq, tstK_ok, tstK_ex, tstK_ite, bNot_eq, bAnd_eq, bOr_eq, andK_eq, orK_eq, bYes_eq, eAnd_eq, eOr_eq, eAndK_bl, eOrK_bl, eNot_eq, eNotK_bl, eIf_eq, eIfK_eq, evs_nil, evs_cons, evsK_eq, evsA_nil, evsA_cons, evsAK_eq, eTup_eq, eLst_eq, ownLst_eq, preAll_nil, preAll_cons, preAllK_eq, finAll_nil, finAll_cons, consK_some, finL_some, eCB_eq, eCBK_eq, eCF_eq, eCFK_eq, eCF1_some, eCFR_ok, eCFR_ex, eCFR_ite, argSlots_nil, argSlots_cons, sconsK_some, argSlot_e, argSlot_n', argK_val, argK_own, argK_io, putB_nil, putB_cons, putS_none, putS_own, putS_io, putS_val, putS_un, look_nil, look_e, look_nv, look_nu, look_nio, eChain_eq, eCh0_eq, eCh1_eq, eCh2_bl, eCh3_eq, part_none, part_some, partK_int, fin3_some, eSl_eq, eSl0_eq, eSl1_eq, eSl2_eq, eApp_eq, ownL_eq, ownLK_own, ownLK_io, appK_eq, appK2_own, appK2_io, ePop_eq, eLc_eq, eLc1_eq, eLc2_some, eLcK_some, wipeE_nil, wipeE_cons, wipeK_some, wipeK2_un, wipeK2_val, unwipe_nil, unwipe_cons, unwK_some, iSeq_eq, seqK_lst, seqK_tup, seqK_str, iOf_eq, iOfK_eq, iOfK2_some, iKeysN_eq, keysK_dic, sNext_eq, sBrk_eq, sCont_eq, sSeq_eq, sIf_eq, sIfK_eq, sRet_eq, sRetN_eq, sRetK_val, sRetK_own, sExpr_eq, dropK2_eq, ioAt_eq, ioK_un, ioK_val, ioK_own, slotOf_val, slotOf_own, sSet_eq, sSetK_eq, nxO_some, nxO_none, sAsg_eq, sAsgK_eq, sPar_eq, sParK_eq, stoN_nil, stoN_cons, sto_nm, sto_tp, stos_nil, stos_cons, stosK_some, sSub_eq, sSub0_eq, sSub1_some, sSub2_eq, setSub_eq, setK_own, setK_io, nxU_eq, sParS_eq, sParS0_eq, stoS_nil, stoS_cons, stoS0_some, stoS1_eq, stoS2_some, sAug_eq, sAugK_val, sAug0_eq, sAug1_some, sFor_eq, forK_some, forK2_nx, forK2_cont, forK2_brk, forK2_ret, forK2_ex, forK2_ite, add_int, sub_int, mul_int, fdiv_int, mod_int, neg_int, lt_int, le_int, gt_int, ge_int, DL.eq_int, DL.ne_int, is_non, isn_non, is_bl, isn_bl, len_lst, len_tup, int_int, DL.abs_int, tuple_lst, tuple_tup, ix_lst, DL.ix_tup, at_lit, at_last, ixN_lit, rng1_int, rng2_int, List.getElem?_cons_zero, List.getElem?_cons_succ, List.getElem?_nil, List.set_cons_zero, List.set_cons_succ, List.cons_append, List.nil_append, List.replicate_succ, List.replicate_zero, Option.map_some, Option.map_none, Bool.and_true, Bool.true_and, Bool.and_false, Bool.false_and, Bool.not_true, Bool.not_false, if_true, if_false, ite_true, ite_false, reduceIte, reduceCtorEq, Bool.false_eq_true, List.length_cons, List.length_nil, Nat.reduceAdd, Nat.reduceLT, Nat.reduceEqDiff, eq_self, and_self, true_and, and_true, decide_eq_true_eq, beq_iff_eq , bind_no, map_no, s_no, seq_no, lift_none, tstK_no, forK2_no, mkK_no, eCFR_no , sl_scr, sl_lst, sl_tupl, eIsi_eq, isi_int, isi_bl, isi_str, isi_tup, isi_lst, isi_non, kit_ii, kit_ib, kit_is, kit_it, kit_il, kit_bi, kit_bb, kit_bs, kit_bt, kit_bl, kit_si, kit_sb, kit_ss, kit_st, kit_sl, kit_ti, kit_tb, kit_ts, kit_tt, kit_tl, kit_li, kit_lb, kit_ls, kit_lt, kit_ll, kit_ni, kit_nb, kit_ns, kit_nt, kit_nl, isNon_int, isNon_bl, isNon_str, isNon_tup, isNon_lst, isNon_non, DL.eq_bl, DL.ne_bl, Bool.or_false, Bool.false_or, Bool.or_true, Bool.true_or, beq_self_eq_true, Bool.not_not , eq_nil, Int.toNat_natCast , Int.cast_ofNat_Int, at_snoc, getLast_snoc, *])
theorem sum_map {α : Type} (f : α → Int) (xs : List α) : sumD [.lst (xs.map fun x => D.int (f x))] = some (.val (.int ((xs.map f).sum))) := by
  have : (xs.map fun x => D.int (f x)) = (xs.map f).map D.int := by rw [List.map_map]; rfl
  rw [this]
  show (intsOf _).map _ = _
  rw [intsOf_map]; rfl
theorem filter_true {α : Type} (xs : List α) : (xs.filter fun _ => true) = xs := List.filter_eq_self.mpr fun _ _ => rfl
theorem strs_len (bs : List Bk) (hb : bs.length ≤ 6) (sold : List Int) (hso : sold.length ≤ 8) (s : Str) : (strE bs sold s).length ≤ 54 := by
  have h1 := join_len (pieces bs sold s) []
  have h2 := pieces_len sold s bs
  have hm : bs.length * (sold.length + 1) ≤ 6 * 9 := Nat.mul_le_mul hb (by omega)
  unfold strE
  rw [List.length_nil] at h1
  omega
/-- the numbers, as slot 4 holds them: the def's own, or frozen -/
def NS (NL : List Int) (s : Slot) : Prop := s = .own (.lst (NL.map .int)) ∨ s = .val (.lst (NL.map .int))
theorem sep_ok {l : List Iv} (hc : Can l) {k : Nat} (hk : k + 1 < l.length) : (l[k]'(by omega)).2 < (l[k + 1]).1 :=
  List.pairwise_iff_getElem.mp hc.1 k (k + 1) (by omega) hk (by omega)
theorem sel_turn (NL : List Int) (bs : List Bk) (w : WB 0 bs) (g : Good bs) (hb : bs.length ≤ 6) (sold : List Int) (ha : Asc sold) (hso : sold.length ≤ 8) (s : Str) (hs : PyData.strOk s = true) (z0 z1 x4 x5 x6 x8 x9 x10 x11 x12 x13 x14 x15 : Slot)
    (i4 : NS NL x4) (i5 : Junk x5) (i6 : Junk x6) (i9 : NIo x9) (i10 : NIo x10) (i11 : NIo x11) (i12 : NIo x12) :
    ∃ y9 y10 y11 y12, NIo y9 ∧ NIo y10 ∧ NIo y11 ∧ NIo y12 ∧
    L_law_3 8 [z0, z1, .val (blD bs), .val (soD sold), x4, x5, x6, .val (.str s), x8, x9, x10, x11, x12, x13, x14, x15, .un, .un, .un] =
      .nx [z0, z1, .val (blD bs), .val (soD sold), .val (.lst (NL.map .int)), x5, x6, .val (.str s), x8, y9, y10, y11, y12, x13, x14, x15, .un, .un, .un] := by
  have hsl := strs_len bs hb sold hso s
  have e1 := law_left_ok bs g sold s hs hso hb
  have e2 := left_ok bs g sold s hs hso hb
  have e3 := iv_alike (strE bs sold s) (by omega)
  obtain ⟨hcan, _, hsum1⟩ := strs_ok w ha s
  have hsum2 := pieces_sum w ha s
  obtain ⟨y11, y12, k11, k12, e4⟩ := num_for bs w g hb sold ha hso s hs z0 z1 (.val (.lst (NL.map .int))) x5 x6 x8 (.val (.int ((bs.filter fun b => decide (b.2.2 = s)).map fun b => b.2.1 - b.1).sum)) x13 x14 x15 NL x11 x12 i11 i12
  refine ⟨.val (.lst ((strE bs sold s).map ivD)), .val (.int ((bs.filter fun b => decide (b.2.2 = s)).map fun b => b.2.1 - b.1).sum), y11, y12, rfl, rfl, k11, k12, ?_⟩
  have hlc1 := lc_pure (tg := .tp [(.nm 5), (.nm 6), (.nm 17)]) (vs := [5, 6, 17]) (ft := C_law_3t 8) (fe := C_law_3e 8) bD (fun b => decide (b.2.2 = s)) (fun b => D.int (b.2.1 - b.1)) [z0, z1, .val (blD bs), .val (soD sold), x4, .un, .un, .val (.str s), x8, .val (.lst ((strE bs sold s).map ivD)), x10, x11, x12, x13, x14, x15, .un, .un, .un] bs (fun b hbm => by
    have hbs := (g b hbm).2.ok
    have hq : eqD (.str b.2.2) (.str s) = some (.val (.bl (decide (b.2.2 = s)))) := by rw [eq_str hbs hs, beq_dec]
    have hbD : bD b = .tup [.int b.1, .int b.2.1, .str b.2.2] := rfl
    refine ⟨[z0, z1, .val (blD bs), .val (soD sold), x4, .val (.int b.1), .val (.int b.2.1), .val (.str s), x8, .val (.lst ((strE bs sold s).map ivD)), x10, x11, x12, x13, x14, x15, .un, .val (.str b.2.2), .un], [z0, z1, .val (blD bs), .val (soD sold), x4, .val (.int b.1), .val (.int b.2.1), .val (.str s), x8, .val (.lst ((strE bs sold s).map ivD)), x10, x11, x12, x13, x14, x15, .un, .val (.str b.2.2), .un], ?_, ?_, fun _ => ⟨[z0, z1, .val (blD bs), .val (soD sold), x4, .val (.int b.1), .val (.int b.2.1), .val (.str s), x8, .val (.lst ((strE bs sold s).map ivD)), x10, x11, x12, x13, x14, x15, .un, .val (.str b.2.2), .un], ?_, ?_⟩, fun _ => ?_⟩
    · clear hq
      walk_at "dlh"
    · clear hbD
      unfold C_law_3t
      generalize decide (b.2.2 = s) = dd at hq
      walk_at "dlh"
    · unfold C_law_3e; walk_at "dl"
    · walk_at "dl"
    · walk_at "dl") [] (by rw [PySem.sizeLine_eq]; show 0 + _ < _; omega)
  have hlc2 := fun z10 => lc_pure (tg := .tp [(.nm 5), (.nm 6)]) (vs := [5, 6]) (ft := bYes) (fe := C_law_4e 8) ivD (fun _ => true) (fun p => D.int (p.2 - p.1)) [z0, z1, .val (blD bs), .val (soD sold), x4, .un, .un, .val (.str s), x8, .val (.lst ((strE bs sold s).map ivD)), z10, x11, x12, x13, x14, x15, .un, .un, .un] (strE bs sold s) (fun p _ => by
    have hbD : ivD p = .tup [.int p.1, .int p.2] := rfl
    refine ⟨[z0, z1, .val (blD bs), .val (soD sold), x4, .val (.int p.1), .val (.int p.2), .val (.str s), x8, .val (.lst ((strE bs sold s).map ivD)), z10, x11, x12, x13, x14, x15, .un, .un, .un], [z0, z1, .val (blD bs), .val (soD sold), x4, .val (.int p.1), .val (.int p.2), .val (.str s), x8, .val (.lst ((strE bs sold s).map ivD)), z10, x11, x12, x13, x14, x15, .un, .un, .un], ?_, ?_, fun _ => ⟨[z0, z1, .val (blD bs), .val (soD sold), x4, .val (.int p.1), .val (.int p.2), .val (.str s), x8, .val (.lst ((strE bs sold s).map ivD)), z10, x11, x12, x13, x14, x15, .un, .un, .un], ?_, ?_⟩, fun h => by cases h⟩
    · rw [hbD]
      walk_at "dl"
    · walk_at "dl"
    · unfold C_law_4e; walk_at "dl"
    · walk_at "dl") [] (by rw [PySem.sizeLine_eq]; show 0 + _ < _; omega)
  have hlc3 := fun z10 => lc_pure (tg := .nm 16) (vs := [16]) (ft := C_law_5t 8) (fe := C_law_5e 8) D.int (fun n => decide (sellerOf bs n = some s)) D.int [z0, z1, .val (blD bs), .val (soD sold), x4, x5, x6, .val (.str s), x8, .val (.lst ((strE bs sold s).map ivD)), z10, x11, x12, x13, x14, x15, .un, .un, .un] sold (fun n _ => by
    have q1 := law_seller_ok bs g (by omega) n
    have q2 := sel_eq g hs n
    refine ⟨[z0, z1, .val (blD bs), .val (soD sold), x4, x5, x6, .val (.str s), x8, .val (.lst ((strE bs sold s).map ivD)), z10, x11, x12, x13, x14, x15, .val (.int n), .un, .un], [z0, z1, .val (blD bs), .val (soD sold), x4, x5, x6, .val (.str s), x8, .val (.lst ((strE bs sold s).map ivD)), z10, x11, x12, x13, x14, x15, .val (.int n), .un, .un], ?_, ?_, fun _ => ⟨[z0, z1, .val (blD bs), .val (soD sold), x4, x5, x6, .val (.str s), x8, .val (.lst ((strE bs sold s).map ivD)), z10, x11, x12, x13, x14, x15, .val (.int n), .un, .un], ?_, ?_⟩, fun _ => ?_⟩
    · walk_at "dl"
    · unfold C_law_5t
      generalize decide (sellerOf bs n = some s) = dd at q2
      clear e1 e2 e3 e4 hlc1 hlc2 hsum1 hsum2 hcan w g
      walk_at "dlh"
    · unfold C_law_5e; walk_at "dl"
    · walk_at "dl"
    · walk_at "dl") [] (by rw [PySem.sizeLine_eq]; show 0 + _ < _; omega)
  have hlc4 := fun z10 => lc_pure (tg := .nm 18) (vs := [18]) (ft := C_law_6t 8) (fe := C_law_6e 8) (fun k : Nat => D.int (0 + (k : Int))) (fun _ => false) (fun _ => D.non) [z0, z1, .val (blD bs), .val (soD sold), x4, x5, x6, .val (.str s), x8, .val (.lst ((strE bs sold s).map ivD)), z10, x11, x12, x13, x14, x15, .un, .un, .un] (List.range (((strE bs sold s).length : Int) - 1).toNat) (fun k hk => by
    have hk : k + 1 < (strE bs sold s).length := by have := List.mem_range.mp hk; omega
    have hsep := sep_ok hcan hk
    have a1 : atI ((strE bs sold s).map ivD) (0 + (k : Int)) = some (.tup [.int ((strE bs sold s)[k]'(by omega)).1, .int ((strE bs sold s)[k]'(by omega)).2]) := by
      rw [show (0 : Int) + (k : Int) = (k : Int) by omega, at_nat, List.getElem?_map, List.getElem?_eq_getElem (by omega)]; rfl
    have a2 : atI ((strE bs sold s).map ivD) (0 + (k : Int) + 1) = some (.tup [.int (strE bs sold s)[k + 1].1, .int (strE bs sold s)[k + 1].2]) := by
      rw [show (0 : Int) + (k : Int) + 1 = ((k + 1 : Nat) : Int) by omega, at_nat, List.getElem?_map, List.getElem?_eq_getElem hk]; rfl
    generalize ((strE bs sold s)[k]'(by omega)).2 = u1 at a1 hsep
    generalize (strE bs sold s)[k + 1].1 = u2 at a2 hsep
    have hns : ¬ (u2 ≤ u1) := by omega
    refine ⟨[z0, z1, .val (blD bs), .val (soD sold), x4, x5, x6, .val (.str s), x8, .val (.lst ((strE bs sold s).map ivD)), z10, x11, x12, x13, x14, x15, .un, .un, .val (.int (0 + k))], [z0, z1, .val (blD bs), .val (soD sold), x4, x5, x6, .val (.str s), x8, .val (.lst ((strE bs sold s).map ivD)), z10, x11, x12, x13, x14, x15, .un, .un, .val (.int (0 + k))], ?_, ?_, (fun h => by cases h), fun _ => ?_⟩
    · walk_at "dl"
    · unfold C_law_6t
      clear e1 e2 e3 e4 hlc1 hlc2 hlc3 hsum1 hsum2 hcan w g hsep
      walk_at "dlh"
      try rfl
    · walk_at "dl") [] (by rw [PySem.sizeLine_eq, List.length_range]; show 0 + _ < _; omega)
  have hlc5 : ∀ z10, lcGo [18] (.nm 18) (C_law_6t 8) (C_law_6e 8) (rangeD 0 (((strE bs sold s).length : Int) - 1).toNat) [z0, z1, .val (blD bs), .val (soD sold), x4, x5, x6, .val (.str s), x8, .val (.lst ((strE bs sold s).map ivD)), z10, x11, x12, x13, x14, x15, .un, .un, .un] [] = some ([], [z0, z1, .val (blD bs), .val (soD sold), x4, x5, x6, .val (.str s), x8, .val (.lst ((strE bs sold s).map ivD)), z10, x11, x12, x13, x14, x15, .un, .un, .un]) := fun z10 => by
    unfold rangeD
    rw [hlc4 z10]
    simp
  simp only [List.nil_append, filter_true] at hlc1 hlc2 hlc3
  have s1 := sum_map (fun b : Bk => b.2.1 - b.1) (bs.filter fun b => decide (b.2.2 = s))
  have s2 := sum_map (fun p : Iv => p.2 - p.1) (strE bs sold s)
  have hsum : ((strE bs sold s).map fun p => p.2 - p.1).sum = ((bs.filter fun b => decide (b.2.2 = s)).map fun b => b.2.1 - b.1).sum - ((sold.filter fun n => decide (sellerOf bs n = some s)).length : Int) := hsum1.trans hsum2
  have hL1 : ((sold.filter fun n => decide (sellerOf bs n = some s)).map D.int).length = (sold.filter fun n => decide (sellerOf bs n = some s)).length := List.length_map ..
  have hL2 : ((strE bs sold s).map ivD).length = (strE bs sold s).length := List.length_map ..
  have hrng : rngOk (((strE bs sold s).length : Int) - 1) := by unfold rngOk; omega
  have hne0 : neD (.lst []) (.lst []) = some (.val (.bl false)) := rfl
  have w5 := i5.wipe
  have w6 := i6.wipe
  unfold NIo at i9 i10 i11 i12
  unfold L_law_3
  clear hlc4 hsum1 hsum2 hcan w g hsl k11 k12 i5 i6
  unfold blD soD at *
  rcases i4 with rfl | rfl
  · walk_at "dlh"
  · walk_at "dlh"
end LW

namespace LW
open PySem L2 DL
local macro_rules | `(tactic| walk_at "dl") => `(tactic| simp -implicitDefEqProofs only [mkF_eq, mkK_ret, mkK_nx, mkK_ex, mkK_ite, fin_nil, fin_io, fin_val, bind_ok, bind_ex, map_ok, map_ex, s_ok, s_ex, bind_ite, map_ite, s_ite, seq_ite, seq_nx, seq_ret, seq_brk, seq_cont, seq_ex, eC_eq, eVar_eq, eVarK_val, eVarK_own, asA_eq, asD_eq, d_val, d_own, peek_eq, peekK_val, peekK_own, peekK_io, pre_e, pre_n, preK_some, fin_e, fin_n, lift_some, lift_ite, fin2_some, fin1_some, eBin_eq, eBin1_eq, eBin2_eq, eUn_eq, eUn1_eq, tst_eq, tstK_ok, tstK_ex, tstK_ite, bNot_eq, bAnd_eq, bOr_eq, andK_eq, orK_eq, bYes_eq, eAnd_eq, eOr_eq, eAndK_bl, eOrK_bl, eNot_eq, eNotK_bl, eIf_eq, eIfK_eq, evs_nil, evs_cons, evsK_eq, evsA_nil, evsA_cons, evsAK_eq, eTup_eq, eLst_eq, ownLst_eq, preAll_nil, preAll_cons, preAllK_eq, finAll_nil, finAll_cons, consK_some, finL_some, eCB_eq, eCBK_eq, eCF_eq, eCFK_eq, eCF1_some, eCFR_ok, eCFR_ex, eCFR_ite, argSlots_nil, argSlots_cons, sconsK_some, argSlot_e, argSlot_n', argK_val, argK_own, argK_io, putB_nil, putB_cons, putS_none, putS_own, putS_io, putS_val, putS_un, look_nil, look_e, look_nv, look_nu, look_nio, eChain_eq, eCh0_eq, eCh1_eq, eCh2_bl, eCh3_eq, part_none, part_some, partK_int, fin3_some, eSl_eq, eSl0_eq, eSl1_eq, eSl2_eq, eApp_eq, ownL_eq, ownLK_own, ownLK_io, appK_eq, appK2_own, appK2_io, ePop_eq, eLc_eq, eLc1_eq, eLc2_some, eLcK_some, wipeE_nil, wipeE_cons, wipeK_some, wipeK2_un, wipeK2_val, unwipe_nil, unwipe_cons, unwK_some, iSeq_eq, seqK_lst, seqK_tup, seqK_str, iOf_eq, iOfK_eq, iOfK2_some, iKeysN_eq, keysK_dic, sNext_eq, sBrk_eq, sCont_eq, sSeq_eq, sIf_eq, sIfK_eq, sRet_eq, sRetN_eq, sRetK_val, sRetK_own, sExpr_eq, dropK2_eq, ioAt_eq, ioK_un, ioK_val, ioK_own, slotOf_val, slotOf_own, sSet_eq, sSetK_eq, nxO_some, nxO_none, sAsg_eq, sAsgK_eq, sPar_eq, sParK_eq, stoN_nil, stoN_cons, sto_nm, sto_tp, stos_nil, stos_cons, stosK_some, sSub_eq, sSub0_eq, sSub1_some, sSub2_eq, setSub_eq, setK_own, setK_io, nxU_eq, sParS_eq, sParS0_eq, stoS_nil, stoS_cons, stoS0_some, stoS1_eq, stoS2_some, sAug_eq, sAugK_val, sAug0_eq, sAug1_some, sFor_eq, forK_some, forK2_nx, forK2_cont, forK2_brk, forK2_ret, forK2_ex, forK2_ite, add_int, sub_int, mul_int, fdiv_int, mod_int, neg_int, lt_int, le_int, gt_int, ge_int, DL.eq_int, DL.ne_int, is_non, isn_non, is_bl, isn_bl, len_lst, len_tup, int_int, DL.abs_int, tuple_lst, tuple_tup, ix_lst, DL.ix_tup, at_lit, at_last, ixN_lit, rng1_int, rng2_int, List.getElem?_cons_zero, List.getElem?_cons_succ, List.getElem?_nil, List.set_cons_zero, List.set_cons_succ, List.cons_append, List.nil_append, List.replicate_succ, List.replicate_zero, Option.map_some, Option.map_none, Bool.and_true, Bool.true_and, Bool.and_false, Bool.false_and, Bool.not_true, Bool.not_false, if_true, if_false, ite_true, ite_false, reduceIte, reduceCtorEq, Bool.false_eq_true, List.length_cons, List.length_nil, Nat.reduceAdd, Nat.reduceLT, Nat.reduceEqDiff, eq_self, and_self, true_and, and_true, decide_eq_true_eq, beq_iff_eq , bind_no, map_no, s_no, seq_no, lift_none, tstK_no, forK2_no, mkK_no, eCFR_no , sl_scr, sl_lst, sl_tupl, eIsi_eq, isi_int, isi_bl, isi_str, isi_tup, isi_lst, isi_non, kit_ii, kit_ib, kit_is, kit_it, kit_il, kit_bi, kit_bb, kit_bs, kit_bt, kit_bl, kit_si, kit_sb, kit_ss, kit_st, kit_sl, kit_ti, kit_tb, kit_ts, kit_tt, kit_tl, kit_li, kit_lb, kit_ls, kit_lt, kit_ll, kit_ni, kit_nb, kit_ns, kit_nt, kit_nl, isNon_int, isNon_bl, isNon_str, isNon_tup, isNon_lst, isNon_non, DL.eq_bl, DL.ne_bl, Bool.or_false, Bool.false_or, Bool.or_true, Bool.true_or, beq_self_eq_true, Bool.not_not , eq_nil, Int.toNat_natCast , Int.cast_ofNat_Int, at_snoc, getLast_snoc])
local macro_rules | `(tactic| walk_at "dlh") => `(tactic| simp -implicitDefEqProofs only [mkF_eq, mkK_ret, mkK_nx, mkK_ex, mkK_ite, fin_nil, fin_io, fin_val, bind_ok, bind_ex, map_ok, map_ex, s_ok, s_ex, bind_ite, map_ite, s_ite, seq_ite, seq_nx, seq_ret, seq_brk, seq_cont, seq_ex, eC_eq, eVar_eq, eVarK_val, eVarK_own, asA_eq, asD_eq, d_val, d_own, peek_eq, peekK_val, peekK_own, peekK_io, pre_e, pre_n, preK_some, fin_e, fin_n, lift_some, lift_ite, fin2_some, fin1_some, eBin_eq, eBin1_eq, eBin2_eq, eUn_eq, eUn1_eq, tst_eq, tstK_ok, tstK_ex, tstK_ite, bNot_eq, bAnd_eq, bOr_eq, andK_eq, orK_eq, bYes_eq, eAnd_eq, eOr_eq, eAndK_bl, eOrK_bl, eNot_eq, eNotK_bl, eIf_eq, eIfK_eq, evs_nil, evs_cons, evsK_eq, evsA_nil, evsA_cons, evsAK_eq, eTup_eq, eLst_eq, ownLst_eq, preAll_nil, preAll_cons, preAllK_eq, finAll_nil, finAll_cons, consK_some, finL_some, eCB_eq, eCBK_eq, eCF_eq, eCFK_eq, eCF1_some, eCFR_ok, eCFR_ex, eCFR_ite, argSlots_nil, argSlots_cons, sconsK_some, argSlot_e, argSlot_n', argK_val, argK_own, argK_io, putB_nil, putB_cons, putS_none, putS_own, putS_io, putS_val, putS_un, look_nil, look_e, look_nv, look_nu, look_nio, eChain_eq, eCh0_eq, eCh1_eq, eCh2_bl, eCh3_eq, part_none, part_some, partK_int, fin3_some, eSl_eq, eSl0_eq, eSl1_eq, eSl2_eq, eApp_eq, ownL_eq, ownLK_own, ownLK_io, appK_eq, appK2_own, appK2_io, ePop_eq, eLc_eq, eLc1_eq, eLc2_some, eLcK_some, wipeE_nil, wipeE_cons, wipeK_some, wipeK2_un, wipeK2_val, unwipe_nil, unwipe_cons, unwK_some, iSeq_eq, seqK_lst, seqK_tup, seqK_str, iOf_eq, iOfK_eq, iOfK2_some, iKeysN_eq, keysK_dic, sNext_eq, sBrk_eq, sCont_eq, sSeq_eq, sIf_eq, sIfK_eq, sRet_eq, sRetN_eq, sRetK_val, sRetK_own, sExpr_eq, dropK2_eq, ioAt_eq, ioK_un, ioK_val, ioK_own, slotOf_val, slotOf_own, sSet_eq, sSetK_eq, nxO_some, nxO_none, sAsg_eq, sAsgK_eq, sPar_eq, sParK_eq, stoN_nil, stoN_cons, sto_nm, sto_tp, stos_nil, stos_cons, stosK_some, sSub_eq, sSub0_eq, sSub1_some, sSub2_eq, setSub_eq, setK_own, setK_io, nxU_eq, sParS_eq, sParS0_eq, stoS_nil, stoS_cons, stoS0_some, stoS1_eq, stoS2_some, sAug_eq, sAugK_val, sAug0_eq, sAug1_some, sFor_eq, forK_some, forK2_nx, forK2_cont, forK2_brk, forK2_ret, forK2_ex, forK2_ite, add_int, sub_int, mul_int, fdiv_int, mod_int, neg_int, lt_int, le_int, gt_int, ge_int, DL.eq_int, DL.ne_int, is_non, isn_non, is_bl, isn_bl, len_lst, len_tup, int_int, DL.abs_int, tuple_lst, tuple_tup, ix_lst, DL.ix_tup, at_lit, at_last, ixN_lit, rng1_int, rng2_int, List.getElem?_cons_zero, List.getElem?_cons_succ, List.getElem?_nil, List.set_cons_zero, List.set_cons_succ, List.cons_append, List.nil_append, List.replicate_succ, List.replicate_zero, Option.map_some, Option.map_none, Bool.and_true, Bool.true_and, Bool.and_false, Bool.false_and, Bool.not_true, Bool.not_false, if_true, if_false, ite_true, ite_false, reduceIte, reduceCtorEq, Bool.false_eq_true, List.length_cons, List.length_nil, Nat.reduceAdd, Nat.reduceLT, Nat.reduceEqDiff, eq_self, and_self, true_and, and_true, decide_eq_true_eq, beq_iff_eq , bind_no, map_no, s_no, seq_no, lift_none, tstK_no, forK2_no, mkK_no, eCFR_no , sl_scr, sl_lst, sl_tupl, eIsi_eq, isi_int, isi_bl, isi_str, isi_tup, isi_lst, isi_non, kit_ii, kit_ib, kit_is, kit_it, kit_il, kit_bi, kit_bb, kit_bs, kit_bt, kit_bl, kit_si, kit_sb, kit_ss, kit_st, kit_sl, kit_ti, kit_tb, kit_ts, kit_tt, kit_tl, kit_li, kit_lb, kit_ls, kit_lt, kit_ll, kit_ni, kit_nb, kit_ns, kit_nt, kit_nl, isNon_int, isNon_bl, isNon_str, isNon_tup, isNon_lst, isNon_non, DL.eq_bl, DL.ne_bl, Bool.or_false, Bool.false_or, Bool.or_true, Bool.true_or, beq_self_eq_true, Bool.not_not , eq_nil, Int.toNat_natCast , Int.cast_ofNat_Int, at_snoc, getLast_snoc, *])
theorem sel_for (NL : List Int) (bs : List Bk) (w : WB 0 bs) (g : Good bs) (hb : bs.length ≤ 6) (sold : List Int) (ha : Asc sold) (hso : sold.length ≤ 8) (z0 z1 x5 x6 x8 x13 x14 x15 : Slot) (i5 : Junk x5) (i6 : Junk x6) :
    ∀ (ss : List Str), (∀ s ∈ ss, PyData.strOk s = true) → ∀ (x4 x7 x9 x10 x11 x12 : Slot), NS NL x4 → NIo x7 → NIo x9 → NIo x10 → NIo x11 → NIo x12 →
    ∃ y4 y7 y9 y10 y11 y12, NS NL y4 ∧ NIo y7 ∧ NIo y9 ∧ NIo y10 ∧ NIo y11 ∧ NIo y12 ∧
    forGo (.nm 7) (L_law_3 8) (ss.map .str) [z0, z1, .val (blD bs), .val (soD sold), x4, x5, x6, x7, x8, x9, x10, x11, x12, x13, x14, x15, .un, .un, .un] =
      .nx [z0, z1, .val (blD bs), .val (soD sold), y4, x5, x6, y7, x8, y9, y10, y11, y12, x13, x14, x15, .un, .un, .un] := by
  intro ss
  induction ss with
  | nil => intro _ x4 x7 x9 x10 x11 x12 i4 i7 i9 i10 i11 i12; exact ⟨x4, x7, x9, x10, x11, x12, i4, i7, i9, i10, i11, i12, rfl⟩
  | cons s ss ih =>
    intro hss x4 x7 x9 x10 x11 x12 i4 i7 i9 i10 i11 i12
    obtain ⟨u9, u10, u11, u12, k9, k10, k11, k12, ht⟩ := sel_turn NL bs w g hb sold ha hso s (hss s List.mem_cons_self) z0 z1 x4 x5 x6 x8 x9 x10 x11 x12 x13 x14 x15 i4 i5 i6 i9 i10 i11 i12
    obtain ⟨y4, y7, y9, y10, y11, y12, j4, j7, j9, j10, j11, j12, ih⟩ := ih (fun t h => hss t (List.mem_cons_of_mem _ h)) (.val (.lst (NL.map .int))) (.val (.str s)) u9 u10 u11 u12 (.inr rfl) rfl k9 k10 k11 k12
    refine ⟨y4, y7, y9, y10, y11, y12, j4, j7, j9, j10, j11, j12, ?_⟩
    rw [← ih, List.map_cons, for_cons]
    clear ih w g i4 i5 i6 i9 i10 i11 i12 hss
    unfold NIo at i7
    walk_at "dlh"
theorem num_for5 (bs : List Bk) (g : Good bs) (hb : bs.length ≤ 6) (z0 z1 x3 x4 x5 x6 x7 x8 x9 x10 x12 x13 x14 x15 : Slot) : ∀ (ns : List Int) (x11 : Slot), NIo x11 →
    ∃ y11, NIo y11 ∧ forGo (.nm 11) (L_law_5 8) (ns.map .int) [z0, z1, .val (blD bs), x3, x4, x5, x6, x7, x8, x9, x10, x11, x12, x13, x14, x15, .un, .un, .un] =
      .nx [z0, z1, .val (blD bs), x3, x4, x5, x6, x7, x8, x9, x10, y11, x12, x13, x14, x15, .un, .un, .un] := by
  intro ns
  induction ns with
  | nil => intro x11 i11; exact ⟨x11, i11, rfl⟩
  | cons n ns ih =>
    intro x11 i11
    obtain ⟨y11, k11, ih⟩ := ih (.val (.int n)) rfl
    refine ⟨y11, k11, ?_⟩
    have e1 := law_seller_ok bs g (by omega) n
    have e2 := seller_ok bs n
    have e3 := sel_alike g n
    rw [← ih, List.map_cons, for_cons]
    clear ih g k11
    unfold NIo at i11
    unfold L_law_5
    walk_at "dlh"
theorem cut_for (k : Int) (z0 z1 x2 x3 x4 x7 x8 x9 x10 x12 x13 x14 : Slot) : ∀ (l acc : List Iv) (x5 x6 : Slot), Junk x5 → Junk x6 → acc.length + 2 * l.length ≤ 1000 →
    ∃ y5 y6, Junk y5 ∧ Junk y6 ∧ forGo (.tp [(.nm 5), (.nm 6)]) (L_law_6 8) (l.map ivD) [z0, z1, x2, x3, x4, x5, x6, x7, x8, x9, x10, .val (.int k), x12, x13, x14, .own (.lst (acc.map ivD)), .un, .un, .un] =
      .nx [z0, z1, x2, x3, x4, y5, y6, x7, x8, x9, x10, .val (.int k), x12, x13, x14, .own (.lst ((acc ++ cutN l k).map ivD)), .un, .un, .un] := by
  intro l
  induction l with
  | nil => intro acc x5 x6 j5 j6 _; exact ⟨x5, x6, j5, j6, by rw [show cutN [] k = [] by rw [cutN], List.append_nil]; rfl⟩
  | cons p l ih =>
    intro acc x5 x6 j5 j6 hl
    rw [List.length_cons] at hl
    obtain ⟨p1, p2⟩ := p
    have i5 := j5.io
    have i6 := j6.io
    rw [show cutN ((p1, p2) :: l) k = (if p1 ≤ k ∧ k < p2 then [(p1, k), (k + 1, p2)].filter (fun q => decide (q.1 < q.2)) else [(p1, p2)]) ++ cutN l k by rw [cutN]]
    have hp : ivD (p1, p2) = .tup [.int p1, .int p2] := rfl
    by_cases h : p1 ≤ k ∧ k < p2
    · have hfl : ([(p1, k), (k + 1, p2)].filter (fun q : Iv => decide (q.1 < q.2))).length ≤ 2 := List.length_filter_le _ _
      obtain ⟨y5, y6, k5, k6, ih⟩ := ih (acc ++ [(p1, k), (k + 1, p2)].filter (fun q => decide (q.1 < q.2))) (.val (.int p1)) (.val (.int p2)) .val .val (by rw [List.length_append]; show acc.length + ([(p1, k), (k + 1, p2)].filter (fun q : Iv => decide (q.1 < q.2))).length + _ ≤ _; omega)
      refine ⟨y5, y6, k5, k6, ?_⟩
      have hlc := lc_pure (tg := .nm 16) (vs := [16]) (ft := C_law_9t 8) (fe := C_law_9e 8) ivD (fun q => decide (q.1 < q.2)) ivD [z0, z1, x2, x3, x4, .val (.int p1), .val (.int p2), x7, x8, x9, x10, .val (.int k), x12, x13, x14, .own (.lst (acc.map ivD)), .un, .un, .un] [(p1, k), (k + 1, p2)] (fun q _ => by
        obtain ⟨q1, q2⟩ := q
        refine ⟨[z0, z1, x2, x3, x4, .val (.int p1), .val (.int p2), x7, x8, x9, x10, .val (.int k), x12, x13, x14, .own (.lst (acc.map ivD)), .val (ivD (q1, q2)), .un, .un], [z0, z1, x2, x3, x4, .val (.int p1), .val (.int p2), x7, x8, x9, x10, .val (.int k), x12, x13, x14, .own (.lst (acc.map ivD)), .val (ivD (q1, q2)), .un, .un], ?_, ?_, fun _ => ⟨[z0, z1, x2, x3, x4, .val (.int p1), .val (.int p2), x7, x8, x9, x10, .val (.int k), x12, x13, x14, .own (.lst (acc.map ivD)), .val (ivD (q1, q2)), .un, .un], ?_, ?_⟩, fun _ => ?_⟩
        · walk_at "dl"
        · unfold C_law_9t ivD
          walk_at "dl"
        · unfold C_law_9e; walk_at "dl"
        · walk_at "dl"
        · walk_at "dl") [] (by rw [PySem.sizeLine_eq]; show 0 + 2 < _; omega)
      rw [List.nil_append] at hlc
      have hd : addD (.lst (acc.map ivD)) (.lst (([(p1, k), (k + 1, p2)].filter (fun q : Iv => decide (q.1 < q.2))).map ivD)) = some (.own (.lst ((acc ++ [(p1, k), (k + 1, p2)].filter (fun q : Iv => decide (q.1 < q.2))).map ivD))) := by
        rw [add_lst, if_pos (by rw [PySem.sizeLine_eq, List.length_map, List.length_map]; omega), List.map_append]
      rw [if_pos h, ← List.append_assoc, ← ih, List.map_cons, for_cons]
      generalize [(p1, k), (k + 1, p2)].filter (fun q : Iv => decide (q.1 < q.2)) = fl at *
      have hm : [(p1, k), (k + 1, p2)].map ivD = [.tup [.int p1, .int k], .tup [.int (k + 1), .int p2]] := rfl
      rw [hm] at hlc
      obtain ⟨h1, h2⟩ := h
      clear ih k5 k6 hl hfl hm
      unfold L_law_6
      walk_at "dlh"
    · obtain ⟨y5, y6, k5, k6, ih⟩ := ih (acc ++ [(p1, p2)]) (.val (.int p1)) (.val (.int p2)) .val .val (by rw [List.length_append, List.length_singleton]; omega)
      refine ⟨y5, y6, k5, k6, ?_⟩
      have hm : (acc ++ [(p1, p2)]).map ivD = acc.map ivD ++ [.tup [.int p1, .int p2]] := by rw [List.map_append]; rfl
      have hL : (acc.map ivD).length < sizeLine := by rw [List.length_map, PySem.sizeLine_eq]; omega
      rw [if_neg h, ← List.append_assoc, ← ih, hm, List.map_cons, for_cons]
      clear ih k5 k6 hl hm
      unfold L_law_6
      by_cases h1 : p1 ≤ k
      · have h2 : ¬ k < p2 := fun z => h ⟨h1, z⟩
        clear h
        walk_at "dlh"
      · clear h
        walk_at "dlh"
end LW

namespace LW
open PySem L2 DL
local macro_rules | `(tactic| walk_at "dl") => `(tactic| simp -implicitDefEqProofs only [mkF_eq, mkK_ret, mkK_nx, mkK_ex, mkK_ite, fin_nil, fin_io, fin_val, bind_ok, bind_ex, map_ok, map_ex, s_ok, s_ex, bind_ite, map_ite, s_ite, seq_ite, seq_nx, seq_ret, seq_brk, seq_cont, seq_ex, eC_eq, eVar_eq, eVarK_val, eVarK_own, asA_eq, asD_eq, d_val, d_own, peek_eq, peekK_val, peekK_own, peekK_io, pre_e, pre_n, preK_some, fin_e, fin_n, lift_some, lift_ite, fin2_some, fin1_some, eBin_eq, eBin1_eq, eBin2_eq, eUn_eq, eUn1_eq, tst_eq, tstK_ok, tstK_ex, tstK_ite, bNot_eq, bAnd_eq, bOr_eq, andK_eq, orK_eq, bYes_eq, eAnd_eq, eOr_eq, eAndK_bl, eOrK_bl, eNot_eq, eNotK_bl, eIf_eq, eIfK_eq, evs_nil, evs_cons, evsK_eq, evsA_nil, evsA_cons, evsAK_eq, eTup_eq, eLst_eq, ownLst_eq, preAll_nil, preAll_cons, preAllK_eq, finAll_nil, finAll_cons, consK_some, finL_some, eCB_eq, eCBK_eq, eCF_eq, eCFK_eq, eCF1_some, eCFR_ok, eCFR_ex, eCFR_ite, argSlots_nil, argSlots_cons, sconsK_some, argSlot_e, argSlot_n', argK_val, argK_own, argK_io, putB_nil, putB_cons, putS_none, putS_own, putS_io, putS_val, putS_un, look_nil, look_e, look_nv, look_nu, look_nio, eChain_eq, eCh0_eq, eCh1_eq, eCh2_bl, eCh3_eq, part_none, part_some, partK_int, fin3_some, eSl_eq, eSl0_eq, eSl1_eq, eSl2_eq, eApp_eq, ownL_eq, ownLK_own, ownLK_io, appK_eq, appK2_own, appK2_io, ePop_eq, eLc_eq, eLc1_eq, eLc2_some, eLcK_some, wipeE_nil, wipeE_cons, wipeK_some, wipeK2_un, wipeK2_val, unwipe_nil, unwipe_cons, unwK_some, iSeq_eq, seqK_lst, seqK_tup, seqK_str, iOf_eq, iOfK_eq, iOfK2_some, iKeysN_eq, keysK_dic, sNext_eq, sBrk_eq, sCont_eq, sSeq_eq, sIf_eq, sIfK_eq, sRet_eq, sRetN_eq, sRetK_val, sRetK_own, sExpr_eq, dropK2_eq, ioAt_eq, ioK_un, ioK_val, ioK_own, slotOf_val, slotOf_own, sSet_eq, sSetK_eq, nxO_some, nxO_none, sAsg_eq, sAsgK_eq, sPar_eq, sParK_eq, stoN_nil, stoN_cons, sto_nm, sto_tp, stos_nil, stos_cons, stosK_some, sSub_eq, sSub0_eq, sSub1_some, sSub2_eq, setSub_eq, setK_own, setK_io, nxU_eq, sParS_eq, sParS0_eq, stoS_nil, stoS_cons, stoS0_some, stoS1_eq, stoS2_some, sAug_eq, sAugK_val, sAug0_eq, sAug1_some, sFor_eq, forK_some, forK2_nx, forK2_cont, forK2_brk, forK2_ret, forK2_ex, forK2_ite, add_int, sub_int, mul_int, fdiv_int, mod_int, neg_int, lt_int, le_int, gt_int, ge_int, DL.eq_int, DL.ne_int, is_non, isn_non, is_bl, isn_bl, len_lst, len_tup, int_int, DL.abs_int, tuple_lst, tuple_tup, ix_lst, DL.ix_tup, at_lit, at_last, ixN_lit, rng1_int, rng2_int, List.getElem?_cons_zero, List.getElem?_cons_succ, List.getElem?_nil, List.set_cons_zero, List.set_cons_succ, List.cons_append, List.nil_append, List.replicate_succ, List.replicate_zero, Option.map_some, Option.map_none, Bool.and_true, Bool.true_and, Bool.and_false, Bool.false_and, Bool.not_true, Bool.not_false, if_true, if_false, ite_true, ite_false, reduceIte, reduceCtorEq, Bool.false_eq_true, List.length_cons, List.length_nil, Nat.reduceAdd, Nat.reduceLT, Nat.reduceEqDiff, eq_self, and_self, true_and, and_true, decide_eq_true_eq, beq_iff_eq , bind_no, map_no, s_no, seq_no, lift_none, tstK_no, forK2_no, mkK_no, eCFR_no , sl_scr, sl_lst, sl_tupl, eIsi_eq, isi_int, isi_bl, isi_str, isi_tup, isi_lst, isi_non, kit_ii, kit_ib, kit_is, kit_it, kit_il, kit_bi, kit_bb, kit_bs, kit_bt, kit_bl, kit_si, kit_sb, kit_ss, kit_st, kit_sl, kit_ti, kit_tb, kit_ts, kit_tt, kit_tl, kit_li, kit_lb, kit_ls, kit_lt, kit_ll, kit_ni, kit_nb, kit_ns, kit_nt, kit_nl, isNon_int, isNon_bl, isNon_str, isNon_tup, isNon_lst, isNon_non, DL.eq_bl, DL.ne_bl, Bool.or_false, Bool.false_or, Bool.or_true, Bool.true_or, beq_self_eq_true, Bool.not_not , eq_nil, Int.toNat_natCast , Int.cast_ofNat_Int, at_snoc, getLast_snoc])
local macro_rules | `(tactic| walk_at "dlh") => `(tactic| simp -implicitDefEqProofs only [mkF_eq, mkK_ret, mkK_nx, mkK_ex, mkK_ite, fin_nil, fin_io, fin_val, bind_ok, bind_ex, map_ok, map_ex, s_ok, s_ex, bind_ite, map_ite, s_ite, seq_ite, seq_nx, seq_ret, seq_brk, seq_cont, seq_ex, eC_eq, eVar_eq, eVarK_val, eVarK_own, asA_eq, asD_eq, d_val, d_own, peek_eq, peekK_val, peekK_own, peekK_io, pre_e, pre_n, preK_some, fin_e, fin_n, lift_some, lift_ite, fin2_some, fin1_some, eBin_eq, eBin1_eq, eBin2_eq, eUn_eq, eUn1_eq, tst_eq, tstK_ok, tstK_ex, tstK_ite, bNot_eq, bAnd_eq, bOr_eq, andK_eq, orK_eq, bYes_eq, eAnd_eq, eOr_eq, eAndK_bl, eOrK_bl, eNot_eq, eNotK_bl, eIf_eq, eIfK_eq, evs_nil, evs_cons, evsK_eq, evsA_nil, evsA_cons, evsAK_eq, eTup_eq, eLst_eq, ownLst_eq, preAll_nil, preAll_cons, preAllK_eq, finAll_nil, finAll_cons, consK_some, finL_some, eCB_eq, eCBK_eq, eCF_eq, eCFK_eq, eCF1_some, eCFR_ok, eCFR_ex, eCFR_ite, argSlots_nil, argSlots_cons, sconsK_some, argSlot_e, argSlot_n', argK_val, argK_own, argK_io, putB_nil, putB_cons, putS_none, putS_own, putS_io, putS_val, putS_un, look_nil, look_e, look_nv, look_nu, look_nio, eChain_eq, eCh0_eq, eCh1_eq, eCh2_bl, eCh3_eq, part_none, part_some, partK_int, fin3_some, eSl_eq, eSl0_eq, eSl1_eq, eSl2_eq, eApp_eq, ownL_eq, ownLK_own, ownLK_io, appK_eq, appK2_own, appK2_io, ePop_eq, eLc_eq, eLc1_eq, eLc2_some, eLcK_some, wipeE_nil, wipeE_cons, wipeK_some, wipeK2_un, wipeK2_val, unwipe_nil, unwipe_cons, unwK_some, iSeq_eq, seqK_lst, seqK_tup, seqK_str, iOf_eq, iOfK_eq, iOfK2_some, iKeysN_eq, keysK_dic, sNext_eq, sBrk_eq, sCont_eq, sSeq_eq, sIf_eq, sIfK_eq, sRet_eq, sRetN_eq, sRetK_val, sRetK_own, sExpr_eq, dropK2_eq, ioAt_eq, ioK_un, ioK_val, ioK_own, slotOf_val, slotOf_own, sSet_eq, sSetK_eq, nxO_some, nxO_none, sAsg_eq, sAsgK_eq, sPar_eq, sParK_eq, stoN_nil, stoN_cons, sto_nm, sto_tp, stos_nil, stos_cons, stosK_some, sSub_eq, sSub0_eq, sSub1_some, sSub2_eq, setSub_eq, setK_own, setK_io, nxU_eq, sParS_eq, sParS0_eq, stoS_nil, stoS_cons, stoS0_some, stoS1_eq, stoS2_some, sAug_eq, sAugK_val, sAug0_eq, sAug1_some, sFor_eq, forK_some, forK2_nx, forK2_cont, forK2_brk, forK2_ret, forK2_ex, forK2_ite, add_int, sub_int, mul_int, fdiv_int, mod_int, neg_int, lt_int, le_int, gt_int, ge_int, DL.eq_int, DL.ne_int, is_non, isn_non, is_bl, isn_bl, len_lst, len_tup, int_int, DL.abs_int, tuple_lst, tuple_tup, ix_lst, DL.ix_tup, at_lit, at_last, ixN_lit, rng1_int, rng2_int, List.getElem?_cons_zero, List.getElem?_cons_succ, List.getElem?_nil, List.set_cons_zero, List.set_cons_succ, List.cons_append, List.nil_append, List.replicate_succ, List.replicate_zero, Option.map_some, Option.map_none, Bool.and_true, Bool.true_and, Bool.and_false, Bool.false_and, Bool.not_true, Bool.not_false, if_true, if_false, ite_true, ite_false, reduceIte, reduceCtorEq, Bool.false_eq_true, List.length_cons, List.length_nil, Nat.reduceAdd, Nat.reduceLT, Nat.reduceEqDiff, eq_self, and_self, true_and, and_true, decide_eq_true_eq, beq_iff_eq , bind_no, map_no, s_no, seq_no, lift_none, tstK_no, forK2_no, mkK_no, eCFR_no , sl_scr, sl_lst, sl_tupl, eIsi_eq, isi_int, isi_bl, isi_str, isi_tup, isi_lst, isi_non, kit_ii, kit_ib, kit_is, kit_it, kit_il, kit_bi, kit_bb, kit_bs, kit_bt, kit_bl, kit_si, kit_sb, kit_ss, kit_st, kit_sl, kit_ti, kit_tb, kit_ts, kit_tt, kit_tl, kit_li, kit_lb, kit_ls, kit_lt, kit_ll, kit_ni, kit_nb, kit_ns, kit_nt, kit_nl, isNon_int, isNon_bl, isNon_str, isNon_tup, isNon_lst, isNon_non, DL.eq_bl, DL.ne_bl, Bool.or_false, Bool.false_or, Bool.or_true, Bool.true_or, beq_self_eq_true, Bool.not_not , eq_nil, Int.toNat_natCast , Int.cast_ofNat_Int, at_snoc, getLast_snoc, *])
theorem isort_snoc {sold : List Int} (h : Asc sold) {k : Int} (hk : k ∉ sold) : Asc (isort (sold ++ [k])) ∧ (∀ n, n ∈ isort (sold ++ [k]) ↔ n ∈ sold ∨ n = k) ∧ (isort (sold ++ [k])).length = sold.length + 1 := by
  have hp := isort_perm (sold ++ [k])
  have hs := isort_sorted (sold ++ [k])
  have hn : (sold ++ [k]).Nodup := by
    rw [List.nodup_append]
    refine ⟨h.imp fun z => Int.ne_of_lt z, by simp, fun a ha b hb => ?_⟩
    rw [List.mem_singleton.mp hb]
    intro e
    exact hk (e ▸ ha)
  have hn2 : (isort (sold ++ [k])).Nodup := hp.nodup_iff.mpr hn
  refine ⟨?_, fun n => ?_, ?_⟩
  · unfold Asc
    have := List.Pairwise.and hs hn2
    exact this.imp fun ⟨a, b⟩ => Int.lt_iff_le_and_ne.mpr ⟨a, b⟩
  · rw [hp.mem_iff]; simp
  · rw [hp.length_eq, List.length_append, List.length_singleton]
theorem turn_ok (NL : List Int) (hNL : NL.length ≤ 1000) (bs : List Bk) (w : WB 0 bs) (g : Good bs) (hb : bs.length ≤ 6) (sold : List Int) (ha : Asc sold) (hso : sold.length ≤ 7) {n : Nat} {st : List D} (hst : St (n + 1) st) (z0 x4 x5 x6 x7 x8 x9 x10 x11 x12 x13 x14 x15 : Slot)
    (i4 : NS NL x4) (i5 : Junk x5) (i6 : Junk x6) (i7 : NIo x7) (i9 : NIo x9) (i10 : NIo x10) (i11 : NIo x11) (i12 : NIo x12) (i13 : NIo x13) (i14 : NIo x14) (i15 : NIo x15) :
    ∃ sold' st' y4 y5 y6 y7 y9 y10 y11 y12 y13 y14 y15, Asc sold' ∧ sold'.length ≤ sold.length + 1 ∧ St n st' ∧ NS NL y4 ∧ Junk y5 ∧ Junk y6 ∧ NIo y7 ∧ NIo y9 ∧ NIo y10 ∧ NIo y11 ∧ NIo y12 ∧ NIo y13 ∧ NIo y14 ∧ NIo y15 ∧
    L_law_2 8 [z0, .own (.lst st), .val (blD bs), .val (soD sold), x4, x5, x6, x7, x8, x9, x10, x11, x12, x13, x14, x15, .un, .un, .un] =
      .nx [z0, .own (.lst st'), .val (blD bs), .val (soD sold'), y4, y5, y6, y7, x8, y9, y10, y11, y12, y13, y14, y15, .un, .un, .un] := by
  obtain ⟨y4, y7, y9, y10, y11, y12, j4, j7, j9, j10, j11, j12, h1⟩ := sel_for NL bs w g hb sold ha (by omega) z0 (.own (.lst st)) x5 x6 x8 x13 x14 x15 i5 i6 ["ann", "bob", "cid", "zoe"] (by decide +kernel) x4 x7 x9 x10 x11 x12 i4 i7 i9 i10 i11 i12
  have hss : (["ann", "bob", "cid", "zoe"] : List Str).map D.str = [.str "ann", .str "bob", .str "cid", .str "zoe"] := rfl
  rw [hss] at h1
  obtain ⟨u11, k11, h2⟩ := num_for5 bs g hb z0 (.own (.lst st)) (.val (soD sold)) (.val (.lst (NL.map .int))) x5 x6 y7 x8 y9 y10 y12 x13 x14 x15 NL y11 j11
  have hlc := lc_pure (tg := .nm 16) (vs := [16]) (ft := C_law_8t 8) (fe := C_law_8e 8) D.int (fun n => (sellerOf bs n).isSome && !decide (n ∈ sold)) D.int [z0, .own (.lst st), .val (blD bs), .val (soD sold), .val (.lst (NL.map .int)), x5, x6, y7, x8, y9, y10, u11, y12, x13, x14, x15, .un, .un, .un] NL (fun n _ => by
    have q1 := law_seller_ok bs g (by omega) n
    have q2 : isNon (selD (sellerOf bs n)) = !(sellerOf bs n).isSome := by cases sellerOf bs n <;> rfl
    have q3 : ninD (.int n) (soD sold) = some (.val (.bl (!decide (n ∈ sold)))) := nin_ints sold n
    refine ⟨[z0, .own (.lst st), .val (blD bs), .val (soD sold), .val (.lst (NL.map .int)), x5, x6, y7, x8, y9, y10, u11, y12, x13, x14, x15, .val (.int n), .un, .un], [z0, .own (.lst st), .val (blD bs), .val (soD sold), .val (.lst (NL.map .int)), x5, x6, y7, x8, y9, y10, u11, y12, x13, x14, x15, .val (.int n), .un, .un], ?_, ?_, fun _ => ⟨[z0, .own (.lst st), .val (blD bs), .val (soD sold), .val (.lst (NL.map .int)), x5, x6, y7, x8, y9, y10, u11, y12, x13, x14, x15, .val (.int n), .un, .un], ?_, ?_⟩, fun _ => ?_⟩
    · walk_at "dl"
    · unfold C_law_8t
      generalize (sellerOf bs n).isSome = d1 at q2
      generalize decide (n ∈ sold) = d2 at q3
      clear h1 h2 w g
      cases d1
      · walk_at "dlh"
      · cases d2
        · walk_at "dlh"
        · walk_at "dlh"
    · unfold C_law_8e; walk_at "dl"
    · walk_at "dl"
    · walk_at "dl") [] (by rw [PySem.sizeLine_eq]; show 0 + _ < _; omega)
  rw [List.nil_append] at hlc
  have hfl : (NL.filter fun n => (sellerOf bs n).isSome && !decide (n ∈ sold)).length ≤ NL.length := List.length_filter_le _ _
  have hfm : ∀ k ∈ NL.filter (fun n => (sellerOf bs n).isSome && !decide (n ∈ sold)), (sellerOf bs k).isSome = true ∧ k ∉ sold := fun k hk => by
    have := (List.mem_filter.mp hk).2
    rw [Bool.and_eq_true, Bool.not_eq_true', decide_eq_false_iff_not] at this
    exact this
  generalize NL.filter (fun n => (sellerOf bs n).isSome && !decide (n ∈ sold)) = fr at hlc hfl hfm
  have hpl : D.plains (fr.map D.int) = true := plains_ints fr
  have hne := ne_nil_lst hpl
  by_cases hfr : fr = []
  · subst hfr
    refine ⟨sold, st, .val (.lst (NL.map .int)), x5, x6, y7, y9, y10, u11, y12, .own (.lst []), x14, x15, ha, by omega, hst.mono (by omega), .inr rfl, i5, i6, j7, j9, j10, k11, j12, rfl, i14, i15, ?_⟩
    rw [List.map_nil] at hlc
    clear hne
    have hne : neD (.lst []) (.lst []) = some (.val (.bl false)) := rfl
    unfold NIo at i7 i13 i14 i15 j7 j11
    unfold L_law_2
    unfold blD soD at *
    clear hpl hfl hfm hst w g i4 i5 i6
    rcases j4 with rfl | rfl
    · walk_at "dlh"
    · walk_at "dlh"
  · have hpos : 0 < fr.length := by cases fr with | nil => exact absurd rfl hfr | cons _ _ => exact Nat.succ_pos _
    obtain ⟨r, st', d1, r1, r2, hst'⟩ := draw_ok hst (l := (fr.length : Int)) (by omega) (by omega)
    obtain ⟨k, hk1, hk2⟩ : ∃ k, atI (fr.map D.int) r = some (.int k) ∧ k ∈ fr := by
      refine ⟨fr[r.toNat]'(by omega), ?_, List.getElem_mem _⟩
      have := at_int_nat fr r.toNat (by omega)
      rwa [show ((r.toNat : Nat) : Int) = r by omega] at this
    obtain ⟨hk3, hk4⟩ := hfm k hk2
    obtain ⟨s, hs⟩ := Option.isSome_iff_exists.mp hk3
    have hsok := sel_ok g hs
    obtain ⟨a1, a2, a3⟩ := isort_snoc ha hk4
    have e1 := law_seller_ok bs g (by omega) k
    rw [hs] at e1
    replace e1 : F__law_seller [.val (blD bs), .val (.int k)] = .ok (.val (.str s)) [.un, .un] := e1
    have e2 := left_ok bs g sold s hsok (by omega) hb
    have e3 := left_ok bs g (isort (sold ++ [k])) s hsok (by omega) hb
    have hcut := sale_cut w ha a1 a2 s
    have hlen := strs_len bs hb (isort (sold ++ [k])) (by omega) s
    have hlen2 := strs_len bs hb sold (by omega) s
    rw [hcut] at e3 hlen
    have e4 := iv_alike (cutN (strE bs sold s) k) (by omega)
    obtain ⟨v5, v6, k5, k6, h3⟩ := cut_for k z0 (.own (.lst st')) (.val (blD bs)) (.val (soD (isort (sold ++ [k])))) (.val (.lst (NL.map .int))) (.val (.str s)) x8 y9 y10 y12 (.own (.lst (fr.map .int))) (.val (.lst ((strE bs sold s).map ivD))) (strE bs sold s) [] x5 x6 i5 i6 (by show 0 + _ ≤ _; omega)
    rw [List.map_nil, List.nil_append] at h3
    refine ⟨isort (sold ++ [k]), st', .val (.lst (NL.map .int)), v5, v6, .val (.str s), y9, y10, .val (.int k), y12, .own (.lst (fr.map .int)), .val (.lst ((strE bs sold s).map ivD)), .val (.lst ((cutN (strE bs sold s) k).map ivD)), a1, by omega, hst', .inr rfl, k5, k6, rfl, j9, j10, rfl, j12, rfl, rfl, rfl, ?_⟩
    have hadd : addD (.tup (sold.map .int)) (.tup [.int k]) = some (.val (.tup ((sold ++ [k]).map .int))) := by
      rw [add_tup, if_pos (by rw [PySem.sizeLine_eq, List.length_map, List.length_singleton]; omega), List.map_append]; rfl
    have hsrt : sortedD [.tup ((sold ++ [k]).map .int)] = some (.own (.lst ((isort (sold ++ [k])).map .int))) := by
      show (intsOf _).map _ = _
      rw [intsOf_map]; rfl
    have htup : tupleD [.lst ((isort (sold ++ [k])).map .int)] = some (.val (.tup ((isort (sold ++ [k])).map .int))) := rfl
    have hne2 : neD (.lst (fr.map .int)) (.lst []) = some (.val (.bl true)) := by
      rw [hne]
      cases fr with
      | nil => exact absurd rfl hfr
      | cons _ _ => rfl
    have hL : (fr.map D.int).length = fr.length := List.length_map ..
    generalize isort (sold ++ [k]) = sold' at *
    unfold NIo at i7 i13 i14 i15 j7 j11 k11
    unfold L_law_2
    unfold blD soD at *
    clear hpl hfl hfm hst hst' w g i4 i5 i6 hne hfr hpos r1 r2 hk2 hk3 hk4 hs hsok a1 a2 a3 hcut hlen hlen2 k5 k6
    generalize (sold ++ [k]).map D.int = so2 at *
    rcases j4 with rfl | rfl
    · walk_at "dlh"
    · walk_at "dlh"
end LW

namespace LW
open PySem L2 DL
local macro_rules | `(tactic| walk_at "dl") => `(tactic| simp -implicitDefEqProofs only [mkF_eq, mkK_ret, mkK_nx, mkK_ex, mkK_ite, fin_nil, fin_io, fin_val, bind_ok, bind_ex, map_ok, map_ex, s_ok, s_ex, bind_ite, map_ite, s_ite, seq_ite, seq_nx, seq_ret, seq_brk, seq_cont, seq_ex, eC_eq, eVar_eq, eVarK_val, eVarK_own, asA_eq, asD_eq, d_val, d_own, peek_eq, peekK_val, peekK_own, peekK_io, pre_e, pre_n, preK_some, fin_e, fin_n, lift_some, lift_ite, fin2_some, fin1_some, eBin_eq, eBin1_eq, eBin2_eq, eUn_eq, eUn1_eq, tst_eq, tstK_ok, tstK_ex, tstK_ite, bNot_eq, bAnd_eq, bOr_eq, andK_eq, orK_eq, bYes_eq, eAnd_eq, eOr_eq, eAndK_bl, eOrK_bl, eNot_eq, eNotK_bl, eIf_eq, eIfK_eq, evs_nil, evs_cons, evsK_eq, evsA_nil, evsA_cons, evsAK_eq, eTup_eq, eLst_eq, ownLst_eq, preAll_nil, preAll_cons, preAllK_eq, finAll_nil, finAll_cons, consK_some, finL_some, eCB_eq, eCBK_eq, eCF_eq, eCFK_eq, eCF1_some, eCFR_ok, eCFR_ex, eCFR_ite, argSlots_nil, argSlots_cons, sconsK_some, argSlot_e, argSlot_n', argK_val, argK_own, argK_io, putB_nil, putB_cons, putS_none, putS_own, putS_io, putS_val, putS_un, look_nil, look_e, look_nv, look_nu, look_nio, eChain_eq, eCh0_eq, eCh1_eq, eCh2_bl, eCh3_eq, part_none, part_some, partK_int, fin3_some, eSl_eq, eSl0_eq, eSl1_eq, eSl2_eq, eApp_eq, ownL_eq, ownLK_own, ownLK_io, appK_eq, appK2_own, appK2_io, ePop_eq, eLc_eq, eLc1_eq, eLc2_some, eLcK_some, wipeE_nil, wipeE_cons, wipeK_some, wipeK2_un, wipeK2_val, unwipe_nil, unwipe_cons, unwK_some, iSeq_eq, seqK_lst, seqK_tup, seqK_str, iOf_eq, iOfK_eq, iOfK2_some, iKeysN_eq, keysK_dic, sNext_eq, sBrk_eq, sCont_eq, sSeq_eq, sIf_eq, sIfK_eq, sRet_eq, sRetN_eq, sRetK_val, sRetK_own, sExpr_eq, dropK2_eq, ioAt_eq, ioK_un, ioK_val, ioK_own, slotOf_val, slotOf_own, sSet_eq, sSetK_eq, nxO_some, nxO_none, sAsg_eq, sAsgK_eq, sPar_eq, sParK_eq, stoN_nil, stoN_cons, sto_nm, sto_tp, stos_nil, stos_cons, stosK_some, sSub_eq, sSub0_eq, sSub1_some, sSub2_eq, setSub_eq, setK_own, setK_io, nxU_eq, sParS_eq, sParS0_eq, stoS_nil, stoS_cons, stoS0_some, stoS1_eq, stoS2_some, sAug_eq, sAugK_val, sAug0_eq, sAug1_some, sFor_eq, forK_some, forK2_nx, forK2_cont, forK2_brk, forK2_ret, forK2_ex, forK2_ite, add_int, sub_int, mul_int, fdiv_int, mod_int, neg_int, lt_int, le_int, gt_int, ge_int, DL.eq_int, DL.ne_int, is_non, isn_non, is_bl, isn_bl, len_lst, len_tup, int_int, DL.abs_int, tuple_lst, tuple_tup, ix_lst, DL.ix_tup, at_lit, at_last, ixN_lit, rng1_int, rng2_int, List.getElem?_cons_zero, List.getElem?_cons_succ, List.getElem?_nil, List.set_cons_zero, List.set_cons_succ, List.cons_append, List.nil_append, List.replicate_succ, List.replicate_zero, Option.map_some, Option.map_none, Bool.and_true, Bool.true_and, Bool.and_false, Bool.false_and, Bool.not_true, Bool.not_false, if_true, if_false, ite_true, ite_false, reduceIte, reduceCtorEq, Bool.false_eq_true, List.length_cons, List.length_nil, Nat.reduceAdd, Nat.reduceLT, Nat.reduceEqDiff, eq_self, and_self, true_and, and_true, decide_eq_true_eq, beq_iff_eq , bind_no, map_no, s_no, seq_no, lift_none, tstK_no, forK2_no, mkK_no, eCFR_no , sl_scr, sl_lst, sl_tupl, eIsi_eq, isi_int, isi_bl, isi_str, isi_tup, isi_lst, isi_non, kit_ii, kit_ib, kit_is, kit_it, kit_il, kit_bi, kit_bb, kit_bs, kit_bt, kit_bl, kit_si, kit_sb, kit_ss, kit_st, kit_sl, kit_ti, kit_tb, kit_ts, kit_tt, kit_tl, kit_li, kit_lb, kit_ls, kit_lt, kit_ll, kit_ni, kit_nb, kit_ns, kit_nt, kit_nl, isNon_int, isNon_bl, isNon_str, isNon_tup, isNon_lst, isNon_non, DL.eq_bl, DL.ne_bl, Bool.or_false, Bool.false_or, Bool.or_true, Bool.true_or, beq_self_eq_true, Bool.not_not , eq_nil, Int.toNat_natCast , Int.cast_ofNat_Int, at_snoc, getLast_snoc])
local macro_rules | `(tactic| walk_at "dlh") => `(tactic| simp -implicitDefEqProofs only [mkF_eq, mkK_ret, mkK_nx, mkK_ex, mkK_ite, fin_nil, fin_io, fin_val, bind_ok, bind_ex, map_ok, map_ex, s_ok, s_ex, bind_ite, map_ite, s_ite, seq_ite, seq_nx, seq_ret, seq_brk, seq_cont, seq_ex, eC_eq, eVar_eq, eVarK_val, eVarK_own, asA_eq, asD_eq, d_val, d_own, peek_eq, peekK_val, peekK_own, peekK_io, pre_e, pre_n, preK_some, fin_e, fin_n, lift_some, lift_ite, fin2_some, fin1_some, eBin_eq, eBin1_eq, eBin2_eq, eUn_eq, eUn1_eq, tst_eq, tstK_ok, tstK_ex, tstK_ite, bNot_eq, bAnd_eq, bOr_eq, andK_eq, orK_eq, bYes_eq, eAnd_eq, eOr_eq, eAndK_bl, eOrK_bl, eNot_eq, eNotK_bl, eIf_eq, eIfK_eq, evs_nil, evs_cons, evsK_eq, evsA_nil, evsA_cons, evsAK_eq, eTup_eq, eLst_eq, ownLst_eq, preAll_nil, preAll_cons, preAllK_eq, finAll_nil, finAll_cons, consK_some, finL_some, eCB_eq, eCBK_eq, eCF_eq, eCFK_eq, eCF1_some, eCFR_ok, eCFR_ex, eCFR_ite, argSlots_nil, argSlots_cons, sconsK_some, argSlot_e, argSlot_n', argK_val, argK_own, argK_io, putB_nil, putB_cons, putS_none, putS_own, putS_io, putS_val, putS_un, look_nil, look_e, look_nv, look_nu, look_nio, eChain_eq, eCh0_eq, eCh1_eq, eCh2_bl, eCh3_eq, part_none, part_some, partK_int, fin3_some, eSl_eq, eSl0_eq, eSl1_eq, eSl2_eq, eApp_eq, ownL_eq, ownLK_own, ownLK_io, appK_eq, appK2_own, appK2_io, ePop_eq, eLc_eq, eLc1_eq, eLc2_some, eLcK_some, wipeE_nil, wipeE_cons, wipeK_some, wipeK2_un, wipeK2_val, unwipe_nil, unwipe_cons, unwK_some, iSeq_eq, seqK_lst, seqK_tup, seqK_str, iOf_eq, iOfK_eq, iOfK2_some, iKeysN_eq, keysK_dic, sNext_eq, sBrk_eq, sCont_eq, sSeq_eq, sIf_eq, sIfK_eq, sRet_eq, sRetN_eq, sRetK_val, sRetK_own, sExpr_eq, dropK2_eq, ioAt_eq, ioK_un, ioK_val, ioK_own, slotOf_val, slotOf_own, sSet_eq, sSetK_eq, nxO_some, nxO_none, sAsg_eq, sAsgK_eq, sPar_eq, sParK_eq, stoN_nil, stoN_cons, sto_nm, sto_tp, stos_nil, stos_cons, stosK_some, sSub_eq, sSub0_eq, sSub1_some, sSub2_eq, setSub_eq, setK_own, setK_io, nxU_eq, sParS_eq, sParS0_eq, stoS_nil, stoS_cons, stoS0_some, stoS1_eq, stoS2_some, sAug_eq, sAugK_val, sAug0_eq, sAug1_some, sFor_eq, forK_some, forK2_nx, forK2_cont, forK2_brk, forK2_ret, forK2_ex, forK2_ite, add_int, sub_int, mul_int, fdiv_int, mod_int, neg_int, lt_int, le_int, gt_int, ge_int, DL.eq_int, DL.ne_int, is_non, isn_non, is_bl, isn_bl, len_lst, len_tup, int_int, DL.abs_int, tuple_lst, tuple_tup, ix_lst, DL.ix_tup, at_lit, at_last, ixN_lit, rng1_int, rng2_int, List.getElem?_cons_zero, List.getElem?_cons_succ, List.getElem?_nil, List.set_cons_zero, List.set_cons_succ, List.cons_append, List.nil_append, List.replicate_succ, List.replicate_zero, Option.map_some, Option.map_none, Bool.and_true, Bool.true_and, Bool.and_false, Bool.false_and, Bool.not_true, Bool.not_false, if_true, if_false, ite_true, ite_false, reduceIte, reduceCtorEq, Bool.false_eq_true, List.length_cons, List.length_nil, Nat.reduceAdd, Nat.reduceLT, Nat.reduceEqDiff, eq_self, and_self, true_and, and_true, decide_eq_true_eq, beq_iff_eq , bind_no, map_no, s_no, seq_no, lift_none, tstK_no, forK2_no, mkK_no, eCFR_no , sl_scr, sl_lst, sl_tupl, eIsi_eq, isi_int, isi_bl, isi_str, isi_tup, isi_lst, isi_non, kit_ii, kit_ib, kit_is, kit_it, kit_il, kit_bi, kit_bb, kit_bs, kit_bt, kit_bl, kit_si, kit_sb, kit_ss, kit_st, kit_sl, kit_ti, kit_tb, kit_ts, kit_tt, kit_tl, kit_li, kit_lb, kit_ls, kit_lt, kit_ll, kit_ni, kit_nb, kit_ns, kit_nt, kit_nl, isNon_int, isNon_bl, isNon_str, isNon_tup, isNon_lst, isNon_non, DL.eq_bl, DL.ne_bl, Bool.or_false, Bool.false_or, Bool.or_true, Bool.true_or, beq_self_eq_true, Bool.not_not , eq_nil, Int.toNat_natCast , Int.cast_ofNat_Int, at_snoc, getLast_snoc, *])
theorem turns_for (NL : List Int) (hNL : NL.length ≤ 1000) (bs : List Bk) (w : WB 0 bs) (g : Good bs) (hb : bs.length ≤ 6) (z0 : Slot) : ∀ (ts : List D) (sold : List Int) (st : List D) (x4 x5 x6 x7 x8 x9 x10 x11 x12 x13 x14 x15 : Slot), Asc sold → sold.length + ts.length ≤ 8 → St (0 + ts.length) st →
    NS NL x4 → Junk x5 → Junk x6 → NIo x7 → NIo x8 → NIo x9 → NIo x10 → NIo x11 → NIo x12 → NIo x13 → NIo x14 → NIo x15 →
    ∃ z1 x3 y4 y5 y6 y7 y8 y9 y10 y11 y12 y13 y14 y15, 
    forGo (.nm 8) (L_law_2 8) ts [z0, .own (.lst st), .val (blD bs), .val (soD sold), x4, x5, x6, x7, x8, x9, x10, x11, x12, x13, x14, x15, .un, .un, .un] =
      .nx [z0, z1, .val (blD bs), x3, y4, y5, y6, y7, y8, y9, y10, y11, y12, y13, y14, y15, .un, .un, .un] := by
  intro ts
  induction ts with
  | nil => intro sold st x4 x5 x6 x7 x8 x9 x10 x11 x12 x13 x14 x15 _ _ _ _ _ _ _ _ _ _ _ _ _ _ _; exact ⟨_, _, _, _, _, _, _, _, _, _, _, _, _, _, rfl⟩
  | cons t ts ih =>
    intro sold st x4 x5 x6 x7 x8 x9 x10 x11 x12 x13 x14 x15 ha hl hst i4 i5 i6 i7 i8 i9 i10 i11 i12 i13 i14 i15
    rw [List.length_cons] at hl hst
    obtain ⟨sold', st', y4, y5, y6, y7, y9, y10, y11, y12, y13, y14, y15, ha', hl', hst', j4, j5, j6, j7, j9, j10, j11, j12, j13, j14, j15, ht⟩ := turn_ok NL hNL bs w g hb sold ha (by omega) (n := 0 + ts.length) hst z0 x4 x5 x6 x7 (.val t) x9 x10 x11 x12 x13 x14 x15 i4 i5 i6 i7 i9 i10 i11 i12 i13 i14 i15
    obtain ⟨z1, x3, u4, u5, u6, u7, u8, u9, u10, u11, u12, u13, u14, u15, ih⟩ := ih sold' st' y4 y5 y6 y7 (.val t) y9 y10 y11 y12 y13 y14 y15 ha' (by omega) hst' j4 j5 j6 j7 rfl j9 j10 j11 j12 j13 j14 j15
    refine ⟨z1, x3, u4, u5, u6, u7, u8, u9, u10, u11, u12, u13, u14, u15, ?_⟩
    rw [← ih, for_cons]
    unfold NIo at i8
    clear ih w g hst hst' ha ha' hl hl'
    walk_at "dlh"
theorem nums_for (n : Nat) (z0 x2 x3 x8 x9 x10 x11 x12 x13 x14 x15 x16 x17 x18 : Slot) : ∀ (bs : List Bk) (acc : List Int) (st : List D) (x5 x6 x7 : Slot), (∀ b ∈ bs, b.1 < b.2.1 ∧ b.2.1 - b.1 ≤ 1000000000000000) → St (n + bs.length) st → Junk x5 → Junk x6 → NIo x7 → acc.length + 5 * bs.length ≤ 900 →
    ∃ (NL : List Int) (st' : List D) (y5 y6 y7 : Slot), NL.length ≤ acc.length + 5 * bs.length ∧ St n st' ∧ Junk y5 ∧ Junk y6 ∧ NIo y7 ∧
    forGo (.tp [(.nm 5), (.nm 6), (.nm 7)]) (L_law_1 8) (bs.map bD) [z0, .own (.lst st), x2, x3, .own (.lst (acc.map .int)), x5, x6, x7, x8, x9, x10, x11, x12, x13, x14, x15, x16, x17, x18] =
      .nx [z0, .own (.lst st'), x2, x3, .own (.lst (NL.map .int)), y5, y6, y7, x8, x9, x10, x11, x12, x13, x14, x15, x16, x17, x18] := by
  intro bs
  induction bs with
  | nil => intro acc st x5 x6 x7 _ hst i5 i6 i7 _; exact ⟨acc, st, x5, x6, x7, Nat.le_refl _, hst, i5, i6, i7, rfl⟩
  | cons b bs ih =>
    intro acc st x5 x6 x7 hg hst i5 i6 i7 hl
    rw [List.length_cons] at hl hst
    obtain ⟨g1, g2⟩ := hg b List.mem_cons_self
    obtain ⟨r, st1, d1, r1, r2, hst1⟩ := draw_ok (n := n + bs.length) hst (l := b.2.1 - b.1) (by omega) (by omega)
    have i5 := i5.io
    have i6 := i6.io
    unfold NIo at i7
    have hbD : bD b = .tup [.int b.1, .int b.2.1, .str b.2.2] := rfl
    have a1 : addD (.lst (acc.map .int)) (.lst [.int b.1, .int (b.2.1 - 1), .int b.2.1, .int (b.1 + r)]) = some (.own (.lst ((acc ++ [b.1, b.2.1 - 1, b.2.1, b.1 + r]).map .int))) := by
      rw [add_lst, if_pos (by rw [PySem.sizeLine_eq, List.length_map]; show _ + 4 ≤ _; omega), List.map_append]; rfl
    have hl1 : (acc ++ [b.1, b.2.1 - 1, b.2.1, b.1 + r]).length = acc.length + 4 := by rw [List.length_append]; rfl
    by_cases hp : 0 < b.1
    · obtain ⟨NL, st', y5, y6, y7, j1, j2, j5, j6, j7, ih⟩ := ih (acc ++ [b.1, b.2.1 - 1, b.2.1, b.1 + r] ++ [b.1 - 1]) st1 (.val (.int b.1)) (.val (.int b.2.1)) (.val (.str b.2.2)) (fun c hc => hg c (List.mem_cons_of_mem _ hc)) hst1 .val .val rfl (by rw [List.length_append, hl1, List.length_singleton]; omega)
      refine ⟨NL, st', y5, y6, y7, by rw [List.length_append, hl1, List.length_singleton] at j1; rw [List.length_cons]; omega, j2, j5, j6, j7, ?_⟩
      have a2 : addD (.lst ((acc ++ [b.1, b.2.1 - 1, b.2.1, b.1 + r]).map .int)) (.lst [.int (b.1 - 1)]) = some (.own (.lst ((acc ++ [b.1, b.2.1 - 1, b.2.1, b.1 + r] ++ [b.1 - 1]).map .int))) := by
        rw [add_lst, if_pos (by rw [PySem.sizeLine_eq, List.length_map, hl1]; show _ + 1 ≤ _; omega), List.map_append (l₁ := acc ++ [b.1, b.2.1 - 1, b.2.1, b.1 + r])]; rfl
      rw [← ih, List.map_cons, for_cons]
      generalize (acc ++ [b.1, b.2.1 - 1, b.2.1, b.1 + r] ++ [b.1 - 1]).map D.int = A2 at *
      generalize (acc ++ [b.1, b.2.1 - 1, b.2.1, b.1 + r]).map D.int = A1 at *
      clear ih hg hst hst1 hl j1 j2 g1 g2 hl1
      unfold L_law_1
      walk_at "dlh"
    · obtain ⟨NL, st', y5, y6, y7, j1, j2, j5, j6, j7, ih⟩ := ih (acc ++ [b.1, b.2.1 - 1, b.2.1, b.1 + r]) st1 (.val (.int b.1)) (.val (.int b.2.1)) (.val (.str b.2.2)) (fun c hc => hg c (List.mem_cons_of_mem _ hc)) hst1 .val .val rfl (by rw [hl1]; omega)
      refine ⟨NL, st', y5, y6, y7, by rw [hl1] at j1; rw [List.length_cons]; omega, j2, j5, j6, j7, ?_⟩
      have a2 : addD (.lst ((acc ++ [b.1, b.2.1 - 1, b.2.1, b.1 + r]).map .int)) (.lst []) = some (.own (.lst ((acc ++ [b.1, b.2.1 - 1, b.2.1, b.1 + r]).map .int))) := by
        rw [add_lst, if_pos (by rw [PySem.sizeLine_eq, List.length_map, hl1]; show _ + 0 ≤ _; omega), List.append_nil]
      rw [← ih, List.map_cons, for_cons]
      generalize (acc ++ [b.1, b.2.1 - 1, b.2.1, b.1 + r]).map D.int = A1 at *
      clear ih hg hst hst1 hl j1 j2 g1 g2 hl1
      unfold L_law_1
      walk_at "dlh"
/-- a dict of numbers -/
def IK (m : KD) : Prop := ∀ kv ∈ m, ∃ i : Int, kv.1 = .inl i
theorem put_ik {m : KD} (h : IK m) (i : Int) (d : D) : IK (putD m (.inl i) d) ∧ (putD m (.inl i) d).length ≤ m.length + 1 := by
  unfold putD
  split
  · refine ⟨fun kv hkv => ?_, by rw [List.length_map]; omega⟩
    obtain ⟨k2, hk2, e⟩ := List.mem_map.mp hkv
    obtain ⟨j, hj⟩ := h k2 hk2
    subst e
    refine ⟨j, ?_⟩
    split
    · exact hj
    · exact hj
  · refine ⟨fun kv hkv => ?_, by rw [List.length_append, List.length_singleton]; omega⟩
    rcases List.mem_append.mp hkv with hkv | hkv
    · exact h kv hkv
    · rw [List.mem_singleton.mp hkv]; exact ⟨i, rfl⟩
theorem merge_ik (d : D) : ∀ (ns : List Int) {m : KD}, IK m → IK (mergeD m (ns.map fun n => (.inl n, d))) ∧ (mergeD m (ns.map fun n => (.inl n, d))).length ≤ m.length + ns.length
  | [], m, h => ⟨h, Nat.le_refl _⟩
  | n :: ns, m, h => by
    obtain ⟨a, b⟩ := put_ik h n d
    obtain ⟨a2, b2⟩ := merge_ik d ns a
    refine ⟨a2, ?_⟩
    rw [List.length_cons]
    have : (mergeD m ((n :: ns).map fun n => (.inl n, d))).length ≤ (putD m (.inl n) d).length + ns.length := b2
    omega
theorem pairs_of (d : D) : ∀ (ns : List Int), pairsOf (ns.map fun n => D.tup [.int n, d]) = some (ns.map fun n => (.inl n, d))
  | [] => rfl
  | n :: ns => by
    rw [List.map_cons, pairsOf, pairs_of d ns]; rfl
theorem dict_ok (ns : List Int) : ∃ (ks : List Key) (vs : List D) (ms : List Int), dictD [.lst (ns.map fun n => D.tup [.int n, .int 1])] = some (.own (.dic ks vs)) ∧ ks.map keyD = ms.map .int ∧ ms.length ≤ ns.length := by
  obtain ⟨a, b⟩ := merge_ik (.int 1) ns (m := []) (fun kv h => by cases h)
  have hk : ∀ (m : KD), IK m → ∃ ms : List Int, (m.map (·.1)).map keyD = ms.map .int ∧ ms.length = m.length := fun m => by
    induction m with
    | nil => exact fun _ => ⟨[], rfl, rfl⟩
    | cons kv m ih =>
      intro h
      obtain ⟨ms, e1, e2⟩ := ih fun x hx => h x (List.mem_cons_of_mem _ hx)
      obtain ⟨i, hi⟩ := h kv List.mem_cons_self
      exact ⟨i :: ms, by rw [List.map_cons, List.map_cons, hi, e1]; rfl, by rw [List.length_cons, List.length_cons, e2]⟩
  obtain ⟨ms, e1, e2⟩ := hk _ a
  refine ⟨_, (mergeD [] (ns.map fun n => (.inl n, .int 1))).map (·.2), ms, ?_, e1, by rw [e2]; rw [List.length_nil] at b; omega⟩
  show (pairsOf _).map _ = _
  rw [pairs_of]; rfl
end LW

namespace LW
open PySem L2 DL
local macro_rules | `(tactic| walk_at "dl") => `(tactic| simp -implicitDefEqProofs only [mkF_eq, mkK_ret, mkK_nx, mkK_ex, mkK_ite, fin_nil, fin_io, fin_val, bind_ok, bind_ex, map_ok, map_ex, s_ok, s_ex, bind_ite, map_ite, s_ite, seq_ite, seq_nx, seq_ret, seq_brk, seq_cont, seq_ex, eC_eq, eVar_eq, eVarK_val, eVarK_own, asA_eq, asD_eq, d_val, d_own, peek_eq, peekK_val, peekK_own, peekK_io, pre_e, pre_n, preK_some, fin_e, fin_n, lift_some, lift_ite, fin2_some, fin1_some, eBin_eq, eBin1_eq, eBin2_eq, eUn_eq, eUn1_eq, tst_eq, tstK_ok, tstK_ex, tstK_ite, bNot_eq, bAnd_eq, bOr_eq, andK_eq, orK_eq, bYes_eq, eAnd_eq, eOr_eq, eAndK_bl, eOrK_bl, eNot_eq, eNotK_bl, eIf_eq, eIfK_eq, evs_nil, evs_cons, evsK_eq, evsA_nil, evsA_cons, evsAK_eq, eTup_eq, eLst_eq, ownLst_eq, preAll_nil, preAll_cons, preAllK_eq, finAll_nil, finAll_cons, consK_some, finL_some, eCB_eq, eCBK_eq, eCF_eq, eCFK_eq, eCF1_some, eCFR_ok, eCFR_ex, eCFR_ite, argSlots_nil, argSlots_cons, sconsK_some, argSlot_e, argSlot_n', argK_val, argK_own, argK_io, putB_nil, putB_cons, putS_none, putS_own, putS_io, putS_val, putS_un, look_nil, look_e, look_nv, look_nu, look_nio, eChain_eq, eCh0_eq, eCh1_eq, eCh2_bl, eCh3_eq, part_none, part_some, partK_int, fin3_some, eSl_eq, eSl0_eq, eSl1_eq, eSl2_eq, eApp_eq, ownL_eq, ownLK_own, ownLK_io, appK_eq, appK2_own, appK2_io, ePop_eq, eLc_eq, eLc1_eq, eLc2_some, eLcK_some, wipeE_nil, wipeE_cons, wipeK_some, wipeK2_un, wipeK2_val, unwipe_nil, unwipe_cons, unwK_some, iSeq_eq, seqK_lst, seqK_tup, seqK_str, iOf_eq, iOfK_eq, iOfK2_some, iKeysN_eq, keysK_dic, sNext_eq, sBrk_eq, sCont_eq, sSeq_eq, sIf_eq, sIfK_eq, sRet_eq, sRetN_eq, sRetK_val, sRetK_own, sExpr_eq, dropK2_eq, ioAt_eq, ioK_un, ioK_val, ioK_own, slotOf_val, slotOf_own, sSet_eq, sSetK_eq, nxO_some, nxO_none, sAsg_eq, sAsgK_eq, sPar_eq, sParK_eq, stoN_nil, stoN_cons, sto_nm, sto_tp, stos_nil, stos_cons, stosK_some, sSub_eq, sSub0_eq, sSub1_some, sSub2_eq, setSub_eq, setK_own, setK_io, nxU_eq, sParS_eq, sParS0_eq, stoS_nil, stoS_cons, stoS0_some, stoS1_eq, stoS2_some, sAug_eq, sAugK_val, sAug0_eq, sAug1_some, sFor_eq, forK_some, forK2_nx, forK2_cont, forK2_brk, forK2_ret, forK2_ex, forK2_ite, add_int, sub_int, mul_int, fdiv_int, mod_int, neg_int, lt_int, le_int, gt_int, ge_int, DL.eq_int, DL.ne_int, is_non, isn_non, is_bl, isn_bl, len_lst, len_tup, int_int, DL.abs_int, tuple_lst, tuple_tup, ix_lst, DL.ix_tup, at_lit, at_last, ixN_lit, rng1_int, rng2_int, List.getElem?_cons_zero, List.getElem?_cons_succ, List.getElem?_nil, List.set_cons_zero, List.set_cons_succ, List.cons_append, List.nil_append, List.replicate_succ, List.replicate_zero, Option.map_some, Option.map_none, Bool.and_true, Bool.true_and, Bool.and_false, Bool.false_and, Bool.not_true, Bool.not_false, if_true, if_false, ite_true, ite_false, reduceIte, reduceCtorEq, Bool.false_eq_true, List.length_cons, List.length_nil, Nat.reduceAdd, Nat.reduceLT, Nat.reduceEqDiff, eq_self, and_self, true_and, and_true, decide_eq_true_eq, beq_iff_eq , bind_no, map_no, s_no, seq_no, lift_none, tstK_no, forK2_no, mkK_no, eCFR_no , sl_scr, sl_lst, sl_tupl, eIsi_eq, isi_int, isi_bl, isi_str, isi_tup, isi_lst, isi_non, kit_ii, kit_ib, kit_is, kit_it, kit_il, kit_bi, kit_bb, kit_bs, kit_bt, kit_bl, kit_si, kit_sb, kit_ss, kit_st, kit_sl, kit_ti, kit_tb, kit_ts, kit_tt, kit_tl, kit_li, kit_lb, kit_ls, kit_lt, kit_ll, kit_ni, kit_nb, kit_ns, kit_nt, kit_nl, isNon_int, isNon_bl, isNon_str, isNon_tup, isNon_lst, isNon_non, DL.eq_bl, DL.ne_bl, Bool.or_false, Bool.false_or, Bool.or_true, Bool.true_or, beq_self_eq_true, Bool.not_not , eq_nil, Int.toNat_natCast , Int.cast_ofNat_Int, at_snoc, getLast_snoc])
local macro_rules | `(tactic| walk_at "dlh") => `(tactic| simp -implicitDefEqProofs only [mkF_eq, mkK_ret, mkK_nx, mkK_ex, mkK_ite, fin_nil, fin_io, fin_val, bind_ok, bind_ex, map_ok, map_ex, s_ok, s_ex, bind_ite, map_ite, s_ite, seq_ite, seq_nx, seq_ret, seq_brk, seq_cont, seq_ex, eC_eq, eVar_eq, eVarK_val, eVarK_own, asA_eq, asD_eq, d_val, d_own, peek_eq, peekK_val, peekK_own, peekK_io, pre_e, pre_n, preK_some, fin_e, fin_n, lift_some, lift_ite, fin2_some, fin1_some, eBin_eq, eBin1_eq, eBin2_eq, eUn_eq, eUn1_eq, tst_eq, tstK_ok, tstK_ex, tstK_ite, bNot_eq, bAnd_eq, bOr_eq, andK_eq, orK_eq, bYes_eq, eAnd_eq, eOr_eq, eAndK_bl, eOrK_bl, eNot_eq, eNotK_bl, eIf_eq, eIfK_eq, evs_nil, evs_cons, evsK_eq, evsA_nil, evsA_cons, evsAK_eq, eTup_eq, eLst_eq, ownLst_eq, preAll_nil, preAll_cons, preAllK_eq, finAll_nil, finAll_cons, consK_some, finL_some, eCB_eq, eCBK_eq, eCF_eq, eCFK_eq, eCF1_some, eCFR_ok, eCFR_ex, eCFR_ite, argSlots_nil, argSlots_cons, sconsK_some, argSlot_e, argSlot_n', argK_val, argK_own, argK_io, putB_nil, putB_cons, putS_none, putS_own, putS_io, putS_val, putS_un, look_nil, look_e, look_nv, look_nu, look_nio, eChain_eq, eCh0_eq, eCh1_eq, eCh2_bl, eCh3_eq, part_none, part_some, partK_int, fin3_some, eSl_eq, eSl0_eq, eSl1_eq, eSl2_eq, eApp_eq, ownL_eq, ownLK_own, ownLK_io, appK_eq, appK2_own, appK2_io, ePop_eq, eLc_eq, eLc1_eq, eLc2_some, eLcK_some, wipeE_nil, wipeE_cons, wipeK_some, wipeK2_un, wipeK2_val, unwipe_nil, unwipe_cons, unwK_some, iSeq_eq, seqK_lst, seqK_tup, seqK_str, iOf_eq, iOfK_eq, iOfK2_some, iKeysN_eq, keysK_dic, sNext_eq, sBrk_eq, sCont_eq, sSeq_eq, sIf_eq, sIfK_eq, sRet_eq, sRetN_eq, sRetK_val, sRetK_own, sExpr_eq, dropK2_eq, ioAt_eq, ioK_un, ioK_val, ioK_own, slotOf_val, slotOf_own, sSet_eq, sSetK_eq, nxO_some, nxO_none, sAsg_eq, sAsgK_eq, sPar_eq, sParK_eq, stoN_nil, stoN_cons, sto_nm, sto_tp, stos_nil, stos_cons, stosK_some, sSub_eq, sSub0_eq, sSub1_some, sSub2_eq, setSub_eq, setK_own, setK_io, nxU_eq, sParS_eq, sParS0_eq, stoS_nil, stoS_cons, stoS0_some, stoS1_eq, stoS2_some, sAug_eq, sAugK_val, sAug0_eq, sAug1_some, sFor_eq, forK_some, forK2_nx, forK2_cont, forK2_brk, forK2_ret, forK2_ex, forK2_ite, add_int, sub_int, mul_int, fdiv_int, mod_int, neg_int, lt_int, le_int, gt_int, ge_int, DL.eq_int, DL.ne_int, is_non, isn_non, is_bl, isn_bl, len_lst, len_tup, int_int, DL.abs_int, tuple_lst, tuple_tup, ix_lst, DL.ix_tup, at_lit, at_last, ixN_lit, rng1_int, rng2_int, List.getElem?_cons_zero, List.getElem?_cons_succ, List.getElem?_nil, List.set_cons_zero, List.set_cons_succ, List.cons_append, List.nil_append, List.replicate_succ, List.replicate_zero, Option.map_some, Option.map_none, Bool.and_true, Bool.true_and, Bool.and_false, Bool.false_and, Bool.not_true, Bool.not_false, if_true, if_false, ite_true, ite_false, reduceIte, reduceCtorEq, Bool.false_eq_true, List.length_cons, List.length_nil, Nat.reduceAdd, Nat.reduceLT, Nat.reduceEqDiff, eq_self, and_self, true_and, and_true, decide_eq_true_eq, beq_iff_eq , bind_no, map_no, s_no, seq_no, lift_none, tstK_no, forK2_no, mkK_no, eCFR_no , sl_scr, sl_lst, sl_tupl, eIsi_eq, isi_int, isi_bl, isi_str, isi_tup, isi_lst, isi_non, kit_ii, kit_ib, kit_is, kit_it, kit_il, kit_bi, kit_bb, kit_bs, kit_bt, kit_bl, kit_si, kit_sb, kit_ss, kit_st, kit_sl, kit_ti, kit_tb, kit_ts, kit_tt, kit_tl, kit_li, kit_lb, kit_ls, kit_lt, kit_ll, kit_ni, kit_nb, kit_ns, kit_nt, kit_nl, isNon_int, isNon_bl, isNon_str, isNon_tup, isNon_lst, isNon_non, DL.eq_bl, DL.ne_bl, Bool.or_false, Bool.false_or, Bool.or_true, Bool.true_or, beq_self_eq_true, Bool.not_not , eq_nil, Int.toNat_natCast , Int.cast_ofNat_Int, at_snoc, getLast_snoc, *])
theorem WB.all {bs : List Bk} (w : WB 0 bs) (g : Good bs) : ∀ b ∈ bs, b.1 < b.2.1 ∧ b.2.1 - b.1 ≤ 1000000000000000 := fun b hb => by
  obtain ⟨a1, a2⟩ := w.lo b hb
  have := (g b hb).1
  exact ⟨a2, by omega⟩
theorem law_true (ns : List Int) (hn : ns.length ≤ 63) : ∃ e, F_law 8 [.val (.scr ns)] = .ok (.val (.bl true)) e := by
  obtain ⟨st0, h1, hs0⟩ := start_ok ns hn
  obtain ⟨bs, st1, w, g, hb, hs1, h2⟩ := blocks_ok (n := 100) (hs0.mono (by omega))
  have h3 := is_blocks_ok w g (by omega)
  have h4 := judged_ok st1
  obtain ⟨NL0, st2, y5, y6, y7, hl, hs2, j5, j6, j7, h5⟩ := nums_for 8 (.val (.scr ns)) (.val (blD bs)) (.val (.tup [])) .un .un .un .un .un .un .un .un .un .un .un bs [] st1 .un .un .un (w.all g) (hs1.mono (by omega)) .un .un rfl (by show 0 + _ ≤ _; omega)
  rw [List.length_nil] at hl
  rw [List.map_nil] at h5
  have hadd : addD (.lst (NL0.map .int)) (.lst [.int 0, .int 1000000000000000]) = some (.own (.lst ((NL0 ++ [0, 1000000000000000]).map .int))) := by
    rw [add_lst, if_pos (by rw [PySem.sizeLine_eq, List.length_map]; show _ + 2 ≤ _; omega), List.map_append]; rfl
  have hl1 : (NL0 ++ [0, 1000000000000000] : List Int).length = NL0.length + 2 := by rw [List.length_append]; rfl
  generalize (NL0 ++ [0, 1000000000000000] : List Int) = NL1 at hadd hl1
  have hc1 := lc_pure (tg := .nm 11) (vs := [11]) (ft := bYes) (fe := C_law_2e 8) D.int (fun _ => true) (fun n => D.tup [.int n, .int 1]) [.val (.scr ns), .own (.lst st2), .val (blD bs), .val (.tup []), .own (.lst (NL0.map .int)), y5, y6, y7, .un, .un, .un, .un, .un, .un, .un, .un, .un, .un, .un] NL1 (fun n _ => by
    refine ⟨[.val (.scr ns), .own (.lst st2), .val (blD bs), .val (.tup []), .own (.lst (NL0.map .int)), y5, y6, y7, .un, .un, .un, .val (.int n), .un, .un, .un, .un, .un, .un, .un], [.val (.scr ns), .own (.lst st2), .val (blD bs), .val (.tup []), .own (.lst (NL0.map .int)), y5, y6, y7, .un, .un, .un, .val (.int n), .un, .un, .un, .un, .un, .un, .un], ?_, ?_, fun _ => ⟨[.val (.scr ns), .own (.lst st2), .val (blD bs), .val (.tup []), .own (.lst (NL0.map .int)), y5, y6, y7, .un, .un, .un, .val (.int n), .un, .un, .un, .un, .un, .un, .un], ?_, ?_⟩, fun h => by cases h⟩
    · walk_at "dl"
    · walk_at "dl"
    · unfold C_law_2e; walk_at "dl"
    · walk_at "dl") [] (by rw [PySem.sizeLine_eq]; show 0 + _ < _; omega)
  obtain ⟨ks, vs, ms, hd, hk, hlm⟩ := dict_ok NL1
  have hc2 := lc_pure (tg := .nm 16) (vs := [16]) (ft := bYes) (fe := C_law_1e 8) D.int (fun _ => true) D.int [.val (.scr ns), .own (.lst st2), .val (blD bs), .val (.tup []), .own (.lst (NL0.map .int)), y5, y6, y7, .un, .un, .un, .un, .un, .un, .un, .un, .un, .un, .un] ms (fun n _ => by
    refine ⟨[.val (.scr ns), .own (.lst st2), .val (blD bs), .val (.tup []), .own (.lst (NL0.map .int)), y5, y6, y7, .un, .un, .un, .un, .un, .un, .un, .un, .val (.int n), .un, .un], [.val (.scr ns), .own (.lst st2), .val (blD bs), .val (.tup []), .own (.lst (NL0.map .int)), y5, y6, y7, .un, .un, .un, .un, .un, .un, .un, .un, .val (.int n), .un, .un], ?_, ?_, fun _ => ⟨[.val (.scr ns), .own (.lst st2), .val (blD bs), .val (.tup []), .own (.lst (NL0.map .int)), y5, y6, y7, .un, .un, .un, .un, .un, .un, .un, .un, .val (.int n), .un, .un], ?_, ?_⟩, fun h => by cases h⟩
    · walk_at "dl"
    · walk_at "dl"
    · unfold C_law_1e; walk_at "dl"
    · walk_at "dl") [] (by rw [PySem.sizeLine_eq]; show 0 + _ < _; omega)
  rw [List.nil_append, filter_true] at hc1 hc2
  have hsrt : sortedD [.lst (ms.map .int)] = some (.own (.lst ((isort ms).map .int))) := by
    show (intsOf _).map _ = _
    rw [intsOf_map]; rfl
  have hlen : (isort ms).length ≤ 1000 := by rw [(isort_perm ms).length_eq]; omega
  obtain ⟨z1, x3, u4, u5, u6, u7, u8, u9, u10, u11, u12, u13, u14, u15, h6⟩ := turns_for (isort ms) hlen bs w g hb (.val (.scr ns)) (rangeD 0 8) [] st2 (.own (.lst ((isort ms).map .int))) y5 y6 y7 .un .un .un .un .un .un .un .un List.Pairwise.nil (by decide) hs2 (.inl rfl) j5 j6 j7 rfl rfl rfl rfl rfl rfl rfl rfl
  have hp : powD (.int 10) (.int 15) = some (.val (.int 1000000000000000)) := by kernel_rfl
  have hr : rngOk 8 := by unfold rngOk; omega
  have h8 : (8 : Int).toNat = 8 := rfl
  have hso : soD [] = .tup [] := rfl
  rw [hso] at h6
  refine ⟨[.un], ?_⟩
  unfold F_law B_law
  unfold blD at *
  clear hs0 hs1 hs2 w g hl hl1 hlm hlen hso j5 j6 j7 hn hb
  walk_at "dlh"
end LW

namespace LW
open PySem L2 DL

def spLaw (K : PySem.W.Frag) : Sp := fun vs H Q _ => ∃ (a : Addr) (ns : List Int), vs = [.ref a] ∧ SqL K H a (ns.map V.int) ∧ ns.length ≤ 63 ∧ ∀ H', Q (.bl true) H'
theorem law_imp {K : PySem.W.Frag} {mg : Str → Option Value} {F : M A} (h : ∀ ns : List Int, ns.length ≤ 63 → ∃ e, F [.val (.scr ns)] = .ok (.val (.bl true)) e) (vs : List V) (H : Hp) (Q : VK) (E : XK) (q : spLaw K vs H Q E) : spOf K mg 1 F vs H Q E := by
  obtain ⟨a, ns, rfl, hs, hl, q⟩ := q
  obtain ⟨e, he⟩ := h ns hl
  refine ⟨rfl, H, [.val (.scr ns)], ⟨rfl, fun _ _ z => z, fun i d z => ?_, fun i d z => ?_, fun i j s t p z1 z2 _ _ _ _ => ?_⟩, fun i d z => ?_, ?_⟩
  · cases i with
    | zero => cases z; exact ⟨_, rfl, .scr hs⟩
    | succ i => simp at z
  · cases i with
    | zero => rcases z with z | z <;> cases z
    | succ i => simp at z
  · cases i with
    | zero => cases z1; cases z2
    | succ i => simp at z1
  · cases i with
    | zero => cases z
    | succ i => simp at z
  · rw [he]
    intro v G' H' _ _ ra
    cases ra
    exact q H'

theorem all_mk {l : PySem.W.OpenLaw} {w : World} {K : PySem.W.Frag} {h : Heap} {mg : Str → Option Value} {fa : Addr} (X : K.In h) (G : h.Ns mainGlobals mg) (hfa : mg "law" = some (.ref fa))
    {f_is_number : Addr} {od_is_number an_is_number : Option Addr} {sl_is_number : Array (Option Value)} {oc_is_number kV_is_number dc_is_number pm_is_number cd_is_number ct_is_number : Value}
    {f_is_name : Addr} {od_is_name an_is_name : Option Addr} {sl_is_name : Array (Option Value)} {oc_is_name kV_is_name dc_is_name pm_is_name cd_is_name ct_is_name : Value}
    {f_is_blocks : Addr} {od_is_blocks an_is_blocks : Option Addr} {sl_is_blocks : Array (Option Value)} {oc_is_blocks kV_is_blocks dc_is_blocks pm_is_blocks cd_is_blocks ct_is_blocks : Value}
    {f_seller_of : Addr} {od_seller_of an_seller_of : Option Addr} {sl_seller_of : Array (Option Value)} {oc_seller_of kV_seller_of dc_seller_of pm_seller_of cd_seller_of ct_seller_of : Value}
    {f_may_sell : Addr} {od_may_sell an_may_sell : Option Addr} {sl_may_sell : Array (Option Value)} {oc_may_sell kV_may_sell dc_may_sell pm_may_sell cd_may_sell ct_may_sell : Value}
    {f_left : Addr} {od_left an_left : Option Addr} {sl_left : Array (Option Value)} {oc_left kV_left dc_left pm_left cd_left ct_left : Value}
    {f__law_start : Addr} {od__law_start an__law_start : Option Addr} {sl__law_start : Array (Option Value)} {oc__law_start kV__law_start dc__law_start pm__law_start cd__law_start ct__law_start : Value}
    {f__law_draw : Addr} {od__law_draw an__law_draw : Option Addr} {sl__law_draw : Array (Option Value)} {oc__law_draw kV__law_draw dc__law_draw pm__law_draw cd__law_draw ct__law_draw : Value}
    {f__law_alike : Addr} {od__law_alike an__law_alike : Option Addr} {sl__law_alike : Array (Option Value)} {oc__law_alike kV__law_alike dc__law_alike pm__law_alike cd__law_alike ct__law_alike : Value}
    {f__law_blocks : Addr} {od__law_blocks an__law_blocks : Option Addr} {sl__law_blocks : Array (Option Value)} {oc__law_blocks kV__law_blocks dc__law_blocks pm__law_blocks cd__law_blocks ct__law_blocks : Value}
    {f__law_seller : Addr} {od__law_seller an__law_seller : Option Addr} {sl__law_seller : Array (Option Value)} {oc__law_seller kV__law_seller dc__law_seller pm__law_seller cd__law_seller ct__law_seller : Value}
    {f__law_left : Addr} {od__law_left an__law_left : Option Addr} {sl__law_left : Array (Option Value)} {oc__law_left kV__law_left dc__law_left pm__law_left cd__law_left ct__law_left : Value}
    {f__law_judged : Addr} {od__law_judged an__law_judged : Option Addr} {sl__law_judged : Array (Option Value)} {oc__law_judged kV__law_judged dc__law_judged pm__law_judged cd__law_judged ct__law_judged : Value}
    {f_law : Addr} {od_law an_law : Option Addr} {sl_law : Array (Option Value)} {oc_law kV_law dc_law pm_law cd_law ct_law : Value}
    {t_LAST_NUMBER : Tok}
    {t_LETTERS : Tok}
    {t_LONGEST_NAME : Tok}
    {t_MOST_BLOCKS : Tok}
    (a_is_number : PySem.W.nsIn K mainGlobals "is_number" = some (some (.ref f_is_number)))
    (l_is_number : K.lookup f_is_number = some ⟨oc_is_number, od_is_number, .func (PySem.W.fnOf "is_number" "is_number" (defArgs s_is_number) (defBody s_is_number) (defScope s_is_number) .none kV_is_number dc_is_number pm_is_number an_is_number cd_is_number ct_is_number), sl_is_number⟩)
    (c_is_number : PySem.W.codeIn K cd_is_number "is_number" = true)
    (k_is_number : PySem.W.keepIn K (.ref f_is_number) = true)
    (a_is_name : PySem.W.nsIn K mainGlobals "is_name" = some (some (.ref f_is_name)))
    (l_is_name : K.lookup f_is_name = some ⟨oc_is_name, od_is_name, .func (PySem.W.fnOf "is_name" "is_name" (defArgs s_is_name) (defBody s_is_name) (defScope s_is_name) .none kV_is_name dc_is_name pm_is_name an_is_name cd_is_name ct_is_name), sl_is_name⟩)
    (c_is_name : PySem.W.codeIn K cd_is_name "is_name" = true)
    (k_is_name : PySem.W.keepIn K (.ref f_is_name) = true)
    (a_is_blocks : PySem.W.nsIn K mainGlobals "is_blocks" = some (some (.ref f_is_blocks)))
    (l_is_blocks : K.lookup f_is_blocks = some ⟨oc_is_blocks, od_is_blocks, .func (PySem.W.fnOf "is_blocks" "is_blocks" (defArgs s_is_blocks) (defBody s_is_blocks) (defScope s_is_blocks) .none kV_is_blocks dc_is_blocks pm_is_blocks an_is_blocks cd_is_blocks ct_is_blocks), sl_is_blocks⟩)
    (c_is_blocks : PySem.W.codeIn K cd_is_blocks "is_blocks" = true)
    (k_is_blocks : PySem.W.keepIn K (.ref f_is_blocks) = true)
    (a_seller_of : PySem.W.nsIn K mainGlobals "seller_of" = some (some (.ref f_seller_of)))
    (l_seller_of : K.lookup f_seller_of = some ⟨oc_seller_of, od_seller_of, .func (PySem.W.fnOf "seller_of" "seller_of" (defArgs s_seller_of) (defBody s_seller_of) (defScope s_seller_of) .none kV_seller_of dc_seller_of pm_seller_of an_seller_of cd_seller_of ct_seller_of), sl_seller_of⟩)
    (c_seller_of : PySem.W.codeIn K cd_seller_of "seller_of" = true)
    (k_seller_of : PySem.W.keepIn K (.ref f_seller_of) = true)
    (a_may_sell : PySem.W.nsIn K mainGlobals "may_sell" = some (some (.ref f_may_sell)))
    (l_may_sell : K.lookup f_may_sell = some ⟨oc_may_sell, od_may_sell, .func (PySem.W.fnOf "may_sell" "may_sell" (defArgs s_may_sell) (defBody s_may_sell) (defScope s_may_sell) .none kV_may_sell dc_may_sell pm_may_sell an_may_sell cd_may_sell ct_may_sell), sl_may_sell⟩)
    (c_may_sell : PySem.W.codeIn K cd_may_sell "may_sell" = true)
    (k_may_sell : PySem.W.keepIn K (.ref f_may_sell) = true)
    (a_left : PySem.W.nsIn K mainGlobals "left" = some (some (.ref f_left)))
    (l_left : K.lookup f_left = some ⟨oc_left, od_left, .func (PySem.W.fnOf "left" "left" (defArgs s_left) (defBody s_left) (defScope s_left) .none kV_left dc_left pm_left an_left cd_left ct_left), sl_left⟩)
    (c_left : PySem.W.codeIn K cd_left "left" = true)
    (k_left : PySem.W.keepIn K (.ref f_left) = true)
    (a__law_start : PySem.W.nsIn K mainGlobals "_law_start" = some (some (.ref f__law_start)))
    (l__law_start : K.lookup f__law_start = some ⟨oc__law_start, od__law_start, .func (PySem.W.fnOf "_law_start" "_law_start" (defArgs s__law_start) (defBody s__law_start) (defScope s__law_start) .none kV__law_start dc__law_start pm__law_start an__law_start cd__law_start ct__law_start), sl__law_start⟩)
    (c__law_start : PySem.W.codeIn K cd__law_start "_law_start" = true)
    (k__law_start : PySem.W.keepIn K (.ref f__law_start) = true)
    (a__law_draw : PySem.W.nsIn K mainGlobals "_law_draw" = some (some (.ref f__law_draw)))
    (l__law_draw : K.lookup f__law_draw = some ⟨oc__law_draw, od__law_draw, .func (PySem.W.fnOf "_law_draw" "_law_draw" (defArgs s__law_draw) (defBody s__law_draw) (defScope s__law_draw) .none kV__law_draw dc__law_draw pm__law_draw an__law_draw cd__law_draw ct__law_draw), sl__law_draw⟩)
    (c__law_draw : PySem.W.codeIn K cd__law_draw "_law_draw" = true)
    (k__law_draw : PySem.W.keepIn K (.ref f__law_draw) = true)
    (a__law_alike : PySem.W.nsIn K mainGlobals "_law_alike" = some (some (.ref f__law_alike)))
    (l__law_alike : K.lookup f__law_alike = some ⟨oc__law_alike, od__law_alike, .func (PySem.W.fnOf "_law_alike" "_law_alike" (defArgs s__law_alike) (defBody s__law_alike) (defScope s__law_alike) .none kV__law_alike dc__law_alike pm__law_alike an__law_alike cd__law_alike ct__law_alike), sl__law_alike⟩)
    (c__law_alike : PySem.W.codeIn K cd__law_alike "_law_alike" = true)
    (k__law_alike : PySem.W.keepIn K (.ref f__law_alike) = true)
    (a__law_blocks : PySem.W.nsIn K mainGlobals "_law_blocks" = some (some (.ref f__law_blocks)))
    (l__law_blocks : K.lookup f__law_blocks = some ⟨oc__law_blocks, od__law_blocks, .func (PySem.W.fnOf "_law_blocks" "_law_blocks" (defArgs s__law_blocks) (defBody s__law_blocks) (defScope s__law_blocks) .none kV__law_blocks dc__law_blocks pm__law_blocks an__law_blocks cd__law_blocks ct__law_blocks), sl__law_blocks⟩)
    (c__law_blocks : PySem.W.codeIn K cd__law_blocks "_law_blocks" = true)
    (k__law_blocks : PySem.W.keepIn K (.ref f__law_blocks) = true)
    (a__law_seller : PySem.W.nsIn K mainGlobals "_law_seller" = some (some (.ref f__law_seller)))
    (l__law_seller : K.lookup f__law_seller = some ⟨oc__law_seller, od__law_seller, .func (PySem.W.fnOf "_law_seller" "_law_seller" (defArgs s__law_seller) (defBody s__law_seller) (defScope s__law_seller) .none kV__law_seller dc__law_seller pm__law_seller an__law_seller cd__law_seller ct__law_seller), sl__law_seller⟩)
    (c__law_seller : PySem.W.codeIn K cd__law_seller "_law_seller" = true)
    (k__law_seller : PySem.W.keepIn K (.ref f__law_seller) = true)
    (a__law_left : PySem.W.nsIn K mainGlobals "_law_left" = some (some (.ref f__law_left)))
    (l__law_left : K.lookup f__law_left = some ⟨oc__law_left, od__law_left, .func (PySem.W.fnOf "_law_left" "_law_left" (defArgs s__law_left) (defBody s__law_left) (defScope s__law_left) .none kV__law_left dc__law_left pm__law_left an__law_left cd__law_left ct__law_left), sl__law_left⟩)
    (c__law_left : PySem.W.codeIn K cd__law_left "_law_left" = true)
    (k__law_left : PySem.W.keepIn K (.ref f__law_left) = true)
    (a__law_judged : PySem.W.nsIn K mainGlobals "_law_judged" = some (some (.ref f__law_judged)))
    (l__law_judged : K.lookup f__law_judged = some ⟨oc__law_judged, od__law_judged, .func (PySem.W.fnOf "_law_judged" "_law_judged" (defArgs s__law_judged) (defBody s__law_judged) (defScope s__law_judged) .none kV__law_judged dc__law_judged pm__law_judged an__law_judged cd__law_judged ct__law_judged), sl__law_judged⟩)
    (c__law_judged : PySem.W.codeIn K cd__law_judged "_law_judged" = true)
    (k__law_judged : PySem.W.keepIn K (.ref f__law_judged) = true)
    (a_law : PySem.W.nsIn K mainGlobals "law" = some (some (.ref f_law)))
    (l_law : K.lookup f_law = some ⟨oc_law, od_law, .func (PySem.W.fnOf "law" "law" (defArgs s_law) (defBody s_law) (defScope s_law) .none kV_law dc_law pm_law an_law cd_law ct_law), sl_law⟩)
    (c_law : PySem.W.codeIn K cd_law "law" = true)
    (k_law : PySem.W.keepIn K (.ref f_law) = true)
    (z_abs : PySem.W.nsIn K mainGlobals "abs" = some none)
    (z_all : PySem.W.nsIn K mainGlobals "all" = some none)
    (z_bool : PySem.W.nsIn K mainGlobals "bool" = some none)
    (z_dict : PySem.W.nsIn K mainGlobals "dict" = some none)
    (z_int : PySem.W.nsIn K mainGlobals "int" = some none)
    (z_isinstance : PySem.W.nsIn K mainGlobals "isinstance" = some none)
    (z_len : PySem.W.nsIn K mainGlobals "len" = some none)
    (z_list : PySem.W.nsIn K mainGlobals "list" = some none)
    (z_range : PySem.W.nsIn K mainGlobals "range" = some none)
    (z_sorted : PySem.W.nsIn K mainGlobals "sorted" = some none)
    (z_str : PySem.W.nsIn K mainGlobals "str" = some none)
    (z_sum : PySem.W.nsIn K mainGlobals "sum" = some none)
    (z_tuple : PySem.W.nsIn K mainGlobals "tuple" = some none)
    (g_LAST_NUMBER : PySem.W.nsIn K mainGlobals "LAST_NUMBER" = some (some (.int (1000000000000000) t_LAST_NUMBER)))
    (g_LETTERS : PySem.W.nsIn K mainGlobals "LETTERS" = some (some (.str "abcdefghijklmnopqrstuvwxyz" t_LETTERS)))
    (g_LONGEST_NAME : PySem.W.nsIn K mainGlobals "LONGEST_NAME" = some (some (.int (16) t_LONGEST_NAME)))
    (g_MOST_BLOCKS : PySem.W.nsIn K mainGlobals "MOST_BLOCKS" = some (some (.int (100) t_MOST_BLOCKS)))
    : ∃ fd : FuncData, (∀ (s : Shared) (v : Value), BindsTo s fd ⟨[v], []⟩ [("script", v)]) ∧ ∀ base : Heap, K.In base → base.Ns mainGlobals mg → FnOk l.prog w K mg base (L2.CX l.prog w) 10 fa fd ["script"] (spLaw K) := by
  have e := hfa.symm.trans (PySem.W.mg_of X G a_law)
  have ef : fa = f_law := Value.ref.inj (Option.some.inj e)
  rw [ef]
  have D_is_number : Dn K mg "is_number" s_is_number ["value", "least", "most"] f_is_number _ := ⟨fun_mk (st := s_is_number) l_is_number c_is_number k_is_number, PySem.W.mg_of X G a_is_number, (fun_mk (st := s_is_number) l_is_number c_is_number k_is_number).binds fun _ _ _ _ _ _ us hl => match us, hl with | [_, _, _], _ => rfl⟩
  have D_is_name : Dn K mg "is_name" s_is_name ["value"] f_is_name _ := ⟨fun_mk (st := s_is_name) l_is_name c_is_name k_is_name, PySem.W.mg_of X G a_is_name, (fun_mk (st := s_is_name) l_is_name c_is_name k_is_name).binds fun _ _ _ _ _ _ us hl => match us, hl with | [_], _ => rfl⟩
  have D_is_blocks : Dn K mg "is_blocks" s_is_blocks ["value"] f_is_blocks _ := ⟨fun_mk (st := s_is_blocks) l_is_blocks c_is_blocks k_is_blocks, PySem.W.mg_of X G a_is_blocks, (fun_mk (st := s_is_blocks) l_is_blocks c_is_blocks k_is_blocks).binds fun _ _ _ _ _ _ us hl => match us, hl with | [_], _ => rfl⟩
  have D_seller_of : Dn K mg "seller_of" s_seller_of ["blocks", "number"] f_seller_of _ := ⟨fun_mk (st := s_seller_of) l_seller_of c_seller_of k_seller_of, PySem.W.mg_of X G a_seller_of, (fun_mk (st := s_seller_of) l_seller_of c_seller_of k_seller_of).binds fun _ _ _ _ _ _ us hl => match us, hl with | [_, _], _ => rfl⟩
  have D_may_sell : Dn K mg "may_sell" s_may_sell ["blocks", "sold", "seller", "number"] f_may_sell _ := ⟨fun_mk (st := s_may_sell) l_may_sell c_may_sell k_may_sell, PySem.W.mg_of X G a_may_sell, (fun_mk (st := s_may_sell) l_may_sell c_may_sell k_may_sell).binds fun _ _ _ _ _ _ us hl => match us, hl with | [_, _, _, _], _ => rfl⟩
  have D_left : Dn K mg "left" s_left ["blocks", "sold", "seller"] f_left _ := ⟨fun_mk (st := s_left) l_left c_left k_left, PySem.W.mg_of X G a_left, (fun_mk (st := s_left) l_left c_left k_left).binds fun _ _ _ _ _ _ us hl => match us, hl with | [_, _, _], _ => rfl⟩
  have D__law_start : Dn K mg "_law_start" s__law_start ["script"] f__law_start _ := ⟨fun_mk (st := s__law_start) l__law_start c__law_start k__law_start, PySem.W.mg_of X G a__law_start, (fun_mk (st := s__law_start) l__law_start c__law_start k__law_start).binds fun _ _ _ _ _ _ us hl => match us, hl with | [_], _ => rfl⟩
  have D__law_draw : Dn K mg "_law_draw" s__law_draw ["state", "limit"] f__law_draw _ := ⟨fun_mk (st := s__law_draw) l__law_draw c__law_draw k__law_draw, PySem.W.mg_of X G a__law_draw, (fun_mk (st := s__law_draw) l__law_draw c__law_draw k__law_draw).binds fun _ _ _ _ _ _ us hl => match us, hl with | [_, _], _ => rfl⟩
  have D__law_alike : Dn K mg "_law_alike" s__law_alike ["found", "due"] f__law_alike _ := ⟨fun_mk (st := s__law_alike) l__law_alike c__law_alike k__law_alike, PySem.W.mg_of X G a__law_alike, (fun_mk (st := s__law_alike) l__law_alike c__law_alike k__law_alike).binds fun _ _ _ _ _ _ us hl => match us, hl with | [_, _], _ => rfl⟩
  have D__law_blocks : Dn K mg "_law_blocks" s__law_blocks ["state"] f__law_blocks _ := ⟨fun_mk (st := s__law_blocks) l__law_blocks c__law_blocks k__law_blocks, PySem.W.mg_of X G a__law_blocks, (fun_mk (st := s__law_blocks) l__law_blocks c__law_blocks k__law_blocks).binds fun _ _ _ _ _ _ us hl => match us, hl with | [_], _ => rfl⟩
  have D__law_seller : Dn K mg "_law_seller" s__law_seller ["blocks", "number"] f__law_seller _ := ⟨fun_mk (st := s__law_seller) l__law_seller c__law_seller k__law_seller, PySem.W.mg_of X G a__law_seller, (fun_mk (st := s__law_seller) l__law_seller c__law_seller k__law_seller).binds fun _ _ _ _ _ _ us hl => match us, hl with | [_, _], _ => rfl⟩
  have D__law_left : Dn K mg "_law_left" s__law_left ["blocks", "sold", "seller"] f__law_left _ := ⟨fun_mk (st := s__law_left) l__law_left c__law_left k__law_left, PySem.W.mg_of X G a__law_left, (fun_mk (st := s__law_left) l__law_left c__law_left k__law_left).binds fun _ _ _ _ _ _ us hl => match us, hl with | [_, _, _], _ => rfl⟩
  have D__law_judged : Dn K mg "_law_judged" s__law_judged ["state"] f__law_judged _ := ⟨fun_mk (st := s__law_judged) l__law_judged c__law_judged k__law_judged, PySem.W.mg_of X G a__law_judged, (fun_mk (st := s__law_judged) l__law_judged c__law_judged k__law_judged).binds fun _ _ _ _ _ _ us hl => match us, hl with | [_], _ => rfl⟩
  have D_law : Dn K mg "law" s_law ["script"] f_law _ := ⟨fun_mk (st := s_law) l_law c_law k_law, PySem.W.mg_of X G a_law, (fun_mk (st := s_law) l_law c_law k_law).binds fun _ _ _ _ _ _ us hl => match us, hl with | [_], _ => rfl⟩
  have T : Gs mg := ⟨PySem.W.mg_none_of X G z_abs, PySem.W.mg_none_of X G z_all, PySem.W.mg_none_of X G z_bool, PySem.W.mg_none_of X G z_dict, PySem.W.mg_none_of X G z_int, PySem.W.mg_none_of X G z_isinstance, PySem.W.mg_none_of X G z_len, PySem.W.mg_none_of X G z_list, PySem.W.mg_none_of X G z_range, PySem.W.mg_none_of X G z_sorted, PySem.W.mg_none_of X G z_str, PySem.W.mg_none_of X G z_sum, PySem.W.mg_none_of X G z_tuple, ⟨_, PySem.W.mg_of X G g_LAST_NUMBER⟩, ⟨_, PySem.W.mg_of X G g_LETTERS⟩, ⟨_, PySem.W.mg_of X G g_LONGEST_NAME⟩, ⟨_, PySem.W.mg_of X G g_MOST_BLOCKS⟩⟩
  refine ⟨PySem.W.fnOf "law" "law" (defArgs s_law) (defBody s_law) (defScope s_law) .none kV_law dc_law pm_law an_law cd_law ct_law, fun s v => .of_eq rfl, fun base _ _ => ?_⟩
  have G_is_number := ok_is_number (P := l.prog) (w := w) (base := base) (k := 0) T D_is_number
  have G_is_name := ok_is_name (P := l.prog) (w := w) (base := base) (k := 0) T D_is_name
  have G_is_blocks := ok_is_blocks (P := l.prog) (w := w) (base := base) (k := 1) T D_is_blocks D_is_number (by decide) G_is_number D_is_name (by decide) G_is_name
  have G_seller_of := ok_seller_of (P := l.prog) (w := w) (base := base) (k := 0) T D_seller_of
  have G_may_sell := ok_may_sell (P := l.prog) (w := w) (base := base) (k := 1) T D_may_sell D_seller_of (by decide) G_seller_of
  have G_left := ok_left (P := l.prog) (w := w) (base := base) (k := 0) T D_left
  have G__law_start := ok__law_start (P := l.prog) (w := w) (base := base) (k := 0) T D__law_start
  have G__law_draw := ok__law_draw (P := l.prog) (w := w) (base := base) (k := 0) T D__law_draw
  have G__law_alike := ok__law_alike (P := l.prog) (w := w) (base := base) (k := 0) T D__law_alike 8
  have G__law_blocks := ok__law_blocks (P := l.prog) (w := w) (base := base) (k := 1) T D__law_blocks D__law_draw (by decide) G__law_draw
  have G__law_seller := ok__law_seller (P := l.prog) (w := w) (base := base) (k := 0) T D__law_seller
  have G__law_left := ok__law_left (P := l.prog) (w := w) (base := base) (k := 0) T D__law_left
  have G__law_judged := ok__law_judged (P := l.prog) (w := w) (base := base) (k := 8) T 8 D__law_judged D_is_blocks (by decide) G_is_blocks D__law_alike (by decide) G__law_alike
  have G_law := ok_law (P := l.prog) (w := w) (base := base) (k := 9) T 8 D_law D_is_blocks (by decide) G_is_blocks D_seller_of (by decide) G_seller_of D_may_sell (by decide) G_may_sell D_left (by decide) G_left D__law_start (by decide) G__law_start D__law_draw (by decide) G__law_draw D__law_alike (by decide) G__law_alike D__law_blocks (by decide) G__law_blocks D__law_seller (by decide) G__law_seller D__law_left (by decide) G__law_left D__law_judged (by decide) G__law_judged
  exact FnOk.imp G_law (law_imp law_true)
end LW
open PySem PySem.W PyProof.Rows
set_option maxHeartbeats 0 in
theorem PySem.Challenge.cw_lotshown_k38_whole_numbers_that_are_sold_holds : PySem.Challenge.rw_lotshown_k38_whole_numbers_that_are_sold.Holds := by
  w_on; o_law; k_head; (case hw => w_witness2)
  k_fill
  refine L2.walk_of (l := PySem.Challenge.rw_lotshown_k38_whole_numbers_that_are_sold) (n := 63) (k := 10) (x := "script") (CX := fun w => L2.CX PySem.Challenge.rw_lotshown_k38_whole_numbers_that_are_sold.prog w) (sp := fun w => LW.spLaw _) rfl (by decide) rfl ⟨rfl, by decide, by decide⟩ (fun w h Y => PySem.W.kIn_of Y) ?F (fun _ _ a ns hl _ hS => ⟨a, ns, rfl, hS, hl, fun _ => rfl⟩) (fun _ _ _ _ _ h => by obtain ⟨_, _, _, _, _, _, _, _, _, _, _, _, z⟩ := h; exact z)
  case F =>
    intro w mg fa h KX G hmg
    refine' LW.all_mk KX G hmg ?a_is_number ?l_is_number ?c_is_number ?k_is_number ?a_is_name ?l_is_name ?c_is_name ?k_is_name ?a_is_blocks ?l_is_blocks ?c_is_blocks ?k_is_blocks ?a_seller_of ?l_seller_of ?c_seller_of ?k_seller_of ?a_may_sell ?l_may_sell ?c_may_sell ?k_may_sell ?a_left ?l_left ?c_left ?k_left ?a__law_start ?l__law_start ?c__law_start ?k__law_start ?a__law_draw ?l__law_draw ?c__law_draw ?k__law_draw ?a__law_alike ?l__law_alike ?c__law_alike ?k__law_alike ?a__law_blocks ?l__law_blocks ?c__law_blocks ?k__law_blocks ?a__law_seller ?l__law_seller ?c__law_seller ?k__law_seller ?a__law_left ?l__law_left ?c__law_left ?k__law_left ?a__law_judged ?l__law_judged ?c__law_judged ?k__law_judged ?a_law ?l_law ?c_law ?k_law ?z_abs ?z_all ?z_bool ?z_dict ?z_int ?z_isinstance ?z_len ?z_list ?z_range ?z_sorted ?z_str ?z_sum ?z_tuple ?g_LAST_NUMBER ?g_LETTERS ?g_LONGEST_NAME ?g_MOST_BLOCKS
    (case a_is_number => k_is)
    (case l_is_number => k_is)
    (case c_is_number => k_is)
    (case k_is_number => k_is)
    (case a_is_name => k_is)
    (case l_is_name => k_is)
    (case c_is_name => k_is)
    (case k_is_name => k_is)
    (case a_is_blocks => k_is)
    (case l_is_blocks => k_is)
    (case c_is_blocks => k_is)
    (case k_is_blocks => k_is)
    (case a_seller_of => k_is)
    (case l_seller_of => k_is)
    (case c_seller_of => k_is)
    (case k_seller_of => k_is)
    (case a_may_sell => k_is)
    (case l_may_sell => k_is)
    (case c_may_sell => k_is)
    (case k_may_sell => k_is)
    (case a_left => k_is)
    (case l_left => k_is)
    (case c_left => k_is)
    (case k_left => k_is)
    (case a__law_start => k_is)
    (case l__law_start => k_is)
    (case c__law_start => k_is)
    (case k__law_start => k_is)
    (case a__law_draw => k_is)
    (case l__law_draw => k_is)
    (case c__law_draw => k_is)
    (case k__law_draw => k_is)
    (case a__law_alike => k_is)
    (case l__law_alike => k_is)
    (case c__law_alike => k_is)
    (case k__law_alike => k_is)
    (case a__law_blocks => k_is)
    (case l__law_blocks => k_is)
    (case c__law_blocks => k_is)
    (case k__law_blocks => k_is)
    (case a__law_seller => k_is)
    (case l__law_seller => k_is)
    (case c__law_seller => k_is)
    (case k__law_seller => k_is)
    (case a__law_left => k_is)
    (case l__law_left => k_is)
    (case c__law_left => k_is)
    (case k__law_left => k_is)
    (case a__law_judged => k_is)
    (case l__law_judged => k_is)
    (case c__law_judged => k_is)
    (case k__law_judged => k_is)
    (case a_law => k_is)
    (case l_law => k_is)
    (case c_law => k_is)
    (case k_law => k_is)
    (case z_abs => k_is)
    (case z_all => k_is)
    (case z_bool => k_is)
    (case z_dict => k_is)
    (case z_int => k_is)
    (case z_isinstance => k_is)
    (case z_len => k_is)
    (case z_list => k_is)
    (case z_range => k_is)
    (case z_sorted => k_is)
    (case z_str => k_is)
    (case z_sum => k_is)
    (case z_tuple => k_is)
    (case g_LAST_NUMBER => k_is)
    (case g_LETTERS => k_is)
    (case g_LONGEST_NAME => k_is)
    (case g_MOST_BLOCKS => k_is)

