import PyProof.Rows.All
import Wide.All
import OpenK.AllK
import Wide.FinOn
import HandS.ForMost
import HandS.ForExc
import HandS.Flow
import HandS.IsInst
import HandS.Wide
import HandS.TupAny
import HandS.Deep
import HandS.Style
import HandS.Iter
import HandS.Zip
import HandS.Rev
import HandS.TupSets
import HandS.SortInts
import HandS.Zip0
import HandS.Conv
import PySem.Challenge.RW_satchelmeet_k66_hanging_together
set_option Elab.async false
set_option linter.all false
set_option maxRecDepth 100000
/-! Tl: the tree layer. Data as trees (D, OD), who owns which object, what an expression, a statement, a def comes to as a plain function. -/
namespace Tl
open PySem PySem.Spec L2

/-- data that nobody changes -/
inductive D where
  | non | bl (b : Bool) | int (i : Int) | str (x : Str)
  | tup (ds : List D) | lst (ds : List D) | scr (ds : List D)
  | dK (kvs : List (Key × D)) | dT (kvs : List (List Key × D))
  deriving Inhabited

/-- data with owned parts: fz d stays as it is; lst, dK, dT, ins stand alone and may be changed; un: not yet assigned -/
inductive OD where
  | un
  | fz (d : D)
  | lst (os : List OD)
  | tup (os : List OD)
  | dK (kvs : List (Key × OD)) | dT (kvs : List (List Key × OD))
  | ins (c : Str) (fs : List (Str × OD))
  | exc (c : Str)
  deriving Inhabited

abbrev Env := List OD

section
variable (K : PySem.W.Frag)
mutual
inductive Rep (B : Hp) : V → D → Prop where
  | non : Rep B .non .non
  | bl {b} : Rep B (.bl b) (.bl b)
  | int {i} : Rep B (.int i) (.int i)
  | str {x} : Rep B (.str x) (.str x)
  | tup {p vs ds} : SqT K B p vs → RepL B vs ds → Rep B (.ref p) (.tup ds)
  | lst {p vs ds} : B p = some (.lst vs) → RepL B vs ds → Rep B (.ref p) (.lst ds)
  | scr {p vs ds} : SqL K B p vs → RepL B vs ds → Rep B (.ref p) (.scr ds)
  | dK {p kvs ds} : B p = some (.dK kvs) → kvs.map (·.1) = ds.map (·.1) → RepL B (kvs.map (·.2)) (ds.map (·.2)) → Rep B (.ref p) (.dK ds)
  | dT {p kvs ds} : B p = some (.dT kvs) → kvs.map (·.1) = ds.map (·.1) → RepL B (kvs.map (·.2)) (ds.map (·.2)) → Rep B (.ref p) (.dT ds)
inductive RepL (B : Hp) : List V → List D → Prop where
  | nil : RepL B [] []
  | cons {v vs d ds} : Rep B v d → RepL B vs ds → RepL B (v :: vs) (d :: ds)
end

variable (mg : Str → Option Value)
mutual
inductive Own (B H : Hp) : List Addr → V → OD → Prop where
  | fz {v d} : Rep K B v d → Own B H [] v (.fz d)
  | lst {p vs F os} : H p = some (.lst vs) → B p = none → OwnL B H F vs os → Own B H (p :: F) (.ref p) (.lst os)
  | tup {p vs F os} : SqT K B p vs → OwnL B H F vs os → Own B H F (.ref p) (.tup os)
  | dK {p kvs F os} : H p = some (.dK kvs) → B p = none → kvs.map (·.1) = os.map (·.1) → OwnL B H F (kvs.map (·.2)) (os.map (·.2)) → Own B H (p :: F) (.ref p) (.dK os)
  | dT {p kvs F os} : H p = some (.dT kvs) → B p = none → kvs.map (·.1) = os.map (·.1) → OwnL B H F (kvs.map (·.2)) (os.map (·.2)) → Own B H (p :: F) (.ref p) (.dT os)
  | ins {p C dx fs F c os} : H p = some (.ins C dx fs) → B p = none → H dx = some (.own p) → B dx = none → mg c = some (.ref C) → fs.map (·.1) = os.map (·.1) →
      OwnL B H F (fs.map (·.2)) (os.map (·.2)) → Own B H (p :: dx :: F) (.ref p) (.ins c os)
inductive OwnL (B H : Hp) : List Addr → List V → List OD → Prop where
  | nil : OwnL B H [] [] []
  | cons {F G v vs o os} : Own B H F v o → OwnL B H G vs os → OwnL B H (F ++ G) (v :: vs) (o :: os)
end

/-- the frame's slots -/
inductive Slots (B H : Hp) : List Addr → St → Env → Prop where
  | nil : Slots B H [] [] []
  | un {F x σ e} : Slots B H F σ e → Slots B H F (x :: σ) (.un :: e)
  | cons {F G v o σ e} : Own K mg B H F v o → Slots B H G σ e → Slots B H (F ++ G) (some v :: σ) (o :: e)
end

/-- from a heap to a later one: what lies outside F is kept, and what belongs to nobody here (not in B) stays so; F' is of F or new -/
structure Frm (B H : Hp) (F : List Addr) (B' H' : Hp) (F' : List Addr) : Prop where
  sB : Same B B'
  keep : ∀ a o, H a = some o → a ∉ F → H' a = some o
  forg : ∀ a o, H a = some o → a ∉ F → B a = none → B' a = none
  fr : ∀ a, a ∈ F' → a ∈ F ∨ H a = none

theorem Same.seqT {K : PySem.W.Frag} {H H' : Hp} {a : Addr} {xs : List V} (e : Same H H') (h : SqT K H a xs) : SqT K H' a xs := by
  rcases h with (h | ⟨o, h⟩) | h
  · exact .inl (.inl (e _ _ h))
  · exact .inl (.inr ⟨o, e _ _ h⟩)
  · exact .inr h

section
variable {K : PySem.W.Frag} {mg : Str → Option Value} {B B' B2 H H' H2 : Hp} {F F' F2 G : List Addr} {v : V} {vs : List V} {d : D} {ds : List D} {o : OD} {os : List OD} {σ : St} {env : Env}

mutual
theorem Rep.mono (s : Same B B') : ∀ {v : V} {d : D}, Rep K B v d → Rep K B' v d
  | _, _, .non => .non
  | _, _, .bl => .bl
  | _, _, .int => .int
  | _, _, .str => .str
  | _, _, .tup h r => .tup (Same.seqT s h) (RepL.mono s r)
  | _, _, .lst h r => .lst (s _ _ h) (RepL.mono s r)
  | _, _, .scr h r => .scr (s.seq h) (RepL.mono s r)
  | _, _, .dK h e r => .dK (s _ _ h) e (RepL.mono s r)
  | _, _, .dT h e r => .dT (s _ _ h) e (RepL.mono s r)
theorem RepL.mono (s : Same B B') : ∀ {vs : List V} {ds : List D}, RepL K B vs ds → RepL K B' vs ds
  | _, _, .nil => .nil
  | _, _, .cons r t => .cons (Rep.mono s r) (RepL.mono s t)
end

mutual
/-- what is owned stands in the heap -/
theorem Own.there : ∀ {F : List Addr} {v : V} {o : OD}, Own K mg B H F v o → ∀ a ∈ F, B a = none ∧ ∃ u, H a = some u
  | _, _, _, .fz _ => fun _ h => nomatch h
  | _, _, _, .lst h b r => fun a ha => by
    rcases List.mem_cons.mp ha with e | ha
    · subst e; exact ⟨b, _, h⟩
    · exact OwnL.there r a ha
  | _, _, _, .tup _ r => fun a ha => OwnL.there r a ha
  | _, _, _, .dK h b _ r => fun a ha => by
    rcases List.mem_cons.mp ha with e | ha
    · subst e; exact ⟨b, _, h⟩
    · exact OwnL.there r a ha
  | _, _, _, .dT h b _ r => fun a ha => by
    rcases List.mem_cons.mp ha with e | ha
    · subst e; exact ⟨b, _, h⟩
    · exact OwnL.there r a ha
  | _, _, _, .ins h b h2 b2 _ _ r => fun a ha => by
    rcases List.mem_cons.mp ha with e | ha
    · subst e; exact ⟨b, _, h⟩
    · rcases List.mem_cons.mp ha with e | ha
      · subst e; exact ⟨b2, _, h2⟩
      · exact OwnL.there r a ha
theorem OwnL.there : ∀ {F : List Addr} {vs : List V} {os : List OD}, OwnL K mg B H F vs os → ∀ a ∈ F, B a = none ∧ ∃ u, H a = some u
  | _, _, _, .nil => fun _ h => nomatch h
  | _, _, _, .cons r t => fun a ha => (List.mem_append.mp ha).elim (Own.there r a) (OwnL.there t a)
end

mutual
/-- what is owned outlives all that leaves it alone -/
theorem Own.mono (s : Same B B') : ∀ {G : List Addr} {v : V} {o : OD}, Own K mg B H G v o → (∀ a ∈ G, (∀ u, H a = some u → H' a = some u) ∧ B' a = none) → Own K mg B' H' G v o
  | _, _, _, .fz r, _ => .fz (r.mono s)
  | _, _, _, .lst h b r, k => .lst ((k _ List.mem_cons_self).1 _ h) (k _ List.mem_cons_self).2 (OwnL.mono s r fun a ha => k a (List.mem_cons_of_mem _ ha))
  | _, _, _, .tup h r, k => .tup (Same.seqT s h) (OwnL.mono s r k)
  | _, _, _, .dK h b e r, k => .dK ((k _ List.mem_cons_self).1 _ h) (k _ List.mem_cons_self).2 e (OwnL.mono s r fun a ha => k a (List.mem_cons_of_mem _ ha))
  | _, _, _, .dT h b e r, k => .dT ((k _ List.mem_cons_self).1 _ h) (k _ List.mem_cons_self).2 e (OwnL.mono s r fun a ha => k a (List.mem_cons_of_mem _ ha))
  | _, _, _, .ins h b h2 b2 g e r, k => .ins ((k _ List.mem_cons_self).1 _ h) (k _ List.mem_cons_self).2 ((k _ (List.mem_cons_of_mem _ List.mem_cons_self)).1 _ h2) (k _ (List.mem_cons_of_mem _ List.mem_cons_self)).2 g e
      (OwnL.mono s r fun a ha => k a (List.mem_cons_of_mem _ (List.mem_cons_of_mem _ ha)))
theorem OwnL.mono (s : Same B B') : ∀ {G : List Addr} {vs : List V} {os : List OD}, OwnL K mg B H G vs os → (∀ a ∈ G, (∀ u, H a = some u → H' a = some u) ∧ B' a = none) → OwnL K mg B' H' G vs os
  | _, _, _, .nil, _ => .nil
  | _, _, _, .cons r t, k => .cons (Own.mono s r fun a ha => k a (List.mem_append_left _ ha)) (OwnL.mono s t fun a ha => k a (List.mem_append_right _ ha))
end
theorem Slots.there (x : Slots K mg B H F σ env) : ∀ a ∈ F, B a = none ∧ ∃ u, H a = some u := by
  induction x with
  | nil => exact fun _ h => nomatch h
  | un _ ih => exact ih
  | cons r _ ih => exact fun a ha => (List.mem_append.mp ha).elim (r.there a) (ih a)
theorem Slots.mono (s : Same B B') (x : Slots K mg B H F σ env) (k : ∀ a ∈ F, (∀ u, H a = some u → H' a = some u) ∧ B' a = none) : Slots K mg B' H' F σ env := by
  induction x with
  | nil => exact .nil
  | un _ ih => exact .un (ih k)
  | cons r _ ih => exact .cons (r.mono s fun a ha => k a (List.mem_append_left _ ha)) (ih fun a ha => k a (List.mem_append_right _ ha))
theorem Frm.refl : Frm B H F B H F := ⟨Same.refl _, fun _ _ h _ => h, fun _ _ _ _ b => b, fun _ h => .inl h⟩
theorem Frm.trans (a : Frm B H F B' H' F') (b : Frm B' H' F' B2 H2 F2) : Frm B H F B2 H2 F2 := by
  have nin : ∀ c u, H c = some u → c ∉ F → c ∉ F' := fun c u e n m => by
    rcases a.fr c m with z | z
    · exact n z
    · rw [e] at z; cases z
  refine ⟨a.sB.trans b.sB, fun c u e n => b.keep c u (a.keep c u e n) (nin c u e n), fun c u e n z => b.forg c u (a.keep c u e n) (nin c u e n) (a.forg c u e n z), fun c m => ?_⟩
  rcases b.fr c m with z | z
  · exact a.fr c z
  · cases q : H c with
    | none => exact .inr rfl
    | some u =>
      by_cases n : c ∈ F
      · exact .inl n
      · rw [a.keep c u q n] at z; cases z
/-- more is let be changed -/
theorem Frm.wide (a : Frm B H F B' H' F') (h : ∀ c ∈ F, c ∈ G) (h' : ∀ c ∈ F2, c ∈ F' ∨ c ∈ G) : Frm B H G B' H' F2 :=
  ⟨a.sB, fun c u e n => a.keep c u e fun m => n (h c m), fun c u e n => a.forg c u e fun m => n (h c m), fun c m => (h' c m).elim (fun z => (a.fr c z).imp (h c) id) .inl⟩
theorem Frm.own (a : Frm B H F B' H' F') (r : Own K mg B H G v o) (n : ∀ c ∈ G, c ∉ F) : Own K mg B' H' G v o :=
  r.mono a.sB fun c m => ⟨fun u e => a.keep c u e (n c m), let ⟨b, u, e⟩ := r.there c m; a.forg c u e (n c m) b⟩
theorem Frm.ownL (a : Frm B H F B' H' F') (r : OwnL K mg B H G vs os) (n : ∀ c ∈ G, c ∉ F) : OwnL K mg B' H' G vs os :=
  r.mono a.sB fun c m => ⟨fun u e => a.keep c u e (n c m), let ⟨b, u, e⟩ := r.there c m; a.forg c u e (n c m) b⟩
theorem Frm.slots (a : Frm B H F B' H' F') (r : Slots K mg B H G σ env) (n : ∀ c ∈ G, c ∉ F) : Slots K mg B' H' G σ env :=
  r.mono a.sB fun c m => ⟨fun u e => a.keep c u e (n c m), let ⟨b, u, e⟩ := r.there c m; a.forg c u e (n c m) b⟩
end

/-! ### outcomes -/
/-- what an expression gives: its own (nobody else's), or a look at what stands elsewhere -/
inductive RV where
  | own (o : OD) | view (o : OD)
  deriving Inhabited
@[simp] def RV.od : RV → OD
  | .own o => o
  | .view o => o
/-- an expression's outcome: ok: nothing was changed; eff: the frame's data are now env -/
inductive O (α : Type) where
  | ok (a : α) | eff (a : α) (env : Env) | exc (c : Str) (env : Env) | bad
/-- a statement's -/
inductive SO where
  | nx (env : Env) | rt (o : OD) (env : Env) | bk (env : Env) | ct (env : Env) | exc (c : Str) (env : Env) | bad
/-- a def's: what it hands back, what its arguments are then -/
inductive FO where
  | ret (o : OD) (args : List OD) | exc (c : Str) (args : List OD) | bad
end Tl
namespace Tl
open PySem PySem.Spec L2

/-- the state of a frame -/
structure Sta (K : PySem.W.Frag) (mg : Str → Option Value) (B H : Hp) (F : List Addr) (σ : St) (env : Env) : Prop where
  sub : Same B H
  sl : Slots K mg B H F σ env
  nd : F.Nodup

abbrev Rl (α β : Type) := Hp → Hp → List Addr → α → β → Prop
/-- a relation between results and what they stand for: what is owned is there; it outlives what leaves it alone -/
structure Stb {α β : Type} (R : Rl α β) (safe : β → Bool) : Prop where
  there : ∀ B H G x a, R B H G x a → ∀ c ∈ G, B c = none ∧ ∃ u, H c = some u
  keep : ∀ B H F B' H' F' G x a, R B H G x a → Frm B H F B' H' F' → (∀ c ∈ G, c ∉ F) → (safe a = true ∨ F = []) → R B' H' G x a

def rvR (K : PySem.W.Frag) (mg : Str → Option Value) : Rl V RV := fun B H G v r =>
  match r with
  | .own o => Own K mg B H G v o
  | .view o => G = [] ∧ ∃ G', Own K mg B H G' v o
def RV.safe : RV → Bool
  | .own _ => true
  | .view _ => false
theorem stb_rv {K : PySem.W.Frag} {mg : Str → Option Value} : Stb (rvR K mg) RV.safe where
  there := fun B H G x a h => by
    cases a with
    | own o => exact Own.there h
    | view o => obtain ⟨rfl, _⟩ := h; exact fun _ z => nomatch z
  keep := fun B H F B' H' F' G x a h f n s => by
    cases a with
    | own o => exact f.own h n
    | view o =>
      obtain ⟨rfl, G', r⟩ := h
      rcases s with s | rfl
      · cases s
      · exact ⟨rfl, G', f.own r fun _ _ z => nomatch z⟩
def boR : Rl Bool Bool := fun _ _ G a b => G = [] ∧ a = b
theorem stb_bo : Stb boR (fun _ => true) where
  there := fun B H G x a h => by obtain ⟨rfl, _⟩ := h; exact fun _ z => nomatch z
  keep := fun _ _ _ _ _ _ _ _ _ h _ _ _ => h
/-- two in a row -/
def prR {α β γ δ : Type} (R : Rl α β) (R' : Rl γ δ) : Rl (α × γ) (β × δ) := fun B H G p q => ∃ G1 G2, G = G1 ++ G2 ∧ R B H G1 p.1 q.1 ∧ R' B H G2 p.2 q.2
theorem stb_pr {α β γ δ : Type} {R : Rl α β} {R' : Rl γ δ} {sf : β → Bool} {sf' : δ → Bool} (h : Stb R sf) (h' : Stb R' sf') : Stb (prR R R') (fun q => sf q.1 && sf' q.2) where
  there := fun B H G x a ⟨G1, G2, e, r1, r2⟩ c hc => by
    subst e
    exact (List.mem_append.mp hc).elim (h.there _ _ _ _ _ r1 c) (h'.there _ _ _ _ _ r2 c)
  keep := fun B H F B' H' F' G x a ⟨G1, G2, e, r1, r2⟩ f n s => by
    subst e
    refine ⟨G1, G2, rfl, h.keep _ _ _ _ _ _ _ _ _ r1 f (fun c z => n c (List.mem_append_left _ z)) (s.imp (fun z => ?_) id), h'.keep _ _ _ _ _ _ _ _ _ r2 f (fun c z => n c (List.mem_append_right _ z)) (s.imp (fun z => ?_) id)⟩
    · simp at z; exact z.1
    · simp at z; exact z.2
inductive lsR {α β : Type} (R : Rl α β) (B H : Hp) : List Addr → List α → List β → Prop
  | nil : lsR R B H [] [] []
  | cons {F G x a xs as} : R B H F x a → lsR R B H G xs as → lsR R B H (F ++ G) (x :: xs) (a :: as)
theorem stb_ls {α β : Type} {R : Rl α β} {sf : β → Bool} (h : Stb R sf) : Stb (lsR R) (fun q => q.all sf) where
  there := fun B H G x a r => by
    induction r with
    | nil => exact fun _ z => nomatch z
    | cons r1 _ ih => exact fun c hc => (List.mem_append.mp hc).elim (h.there _ _ _ _ _ r1 c) (ih c)
  keep := fun B H F B' H' F' G x a r f n s => by
    induction r with
    | nil => exact .nil
    | cons r1 _ ih =>
      refine .cons (h.keep _ _ _ _ _ _ _ _ _ r1 f (fun c z => n c (List.mem_append_left _ z)) (s.imp (fun z => ?_) id)) (ih (fun c z => n c (List.mem_append_right _ z)) (s.imp (fun z => ?_) id))
      · simp at z; exact z.1
      · simp at z ⊢; exact z.2

/-- what is wanted of an exception of the class named c -/
def Raised (X : Cx) (W : WX) (c : Str) (σ : St) (H : Hp) : Prop := ∀ C, X.mg c = some (.ref C) → W (.ref C) none σ H

abbrev TX (α : Type) := St → Hp → (α → Hp → Prop) → Prop
/-- what must be so of Q that an outcome be fine -/
def EPost {α β : Type} (X : Cx) (W : WX) (R : Rl α β) (B H : Hp) (F : List Addr) (σ : St) (Q : α → Hp → Prop) : O β → Prop
  | .ok r => ∀ x B' H' G, R B' H' G x r → Same B' H' → G.Nodup → Frm B H [] B' H' G → Q x H'
  | .eff r env' => ∀ x B' H' G F', R B' H' G x r → Slots X.K X.mg B' H' F' σ env' → Same B' H' → (G ++ F').Nodup → Frm B H F B' H' (G ++ F') → Q x H'
  | .exc c env' => ∀ B' H' F', Sta X.K X.mg B' H' F' σ env' → Frm B H F B' H' F' → Raised X W c σ H'
  | .bad => False
def EOkS {α β : Type} (X : Cx) (W : WX) (R : St → Rl α β) (t : TX α) (f : Env → O β) : Prop :=
  ∀ B H F σ env Q, Sta X.K X.mg B H F σ env → EPost X W (R σ) B H F σ Q (f env) → t σ H Q
abbrev EOk {α β : Type} (X : Cx) (W : WX) (R : Rl α β) (t : TX α) (f : Env → O β) : Prop := EOkS X W (fun _ => R) t f

/-! ### two in a row -/
def O.andThen {β γ δ : Type} (safe : β → Bool) (x : O β) (env : Env) (k : β → Env → O γ) (j : β → γ → δ) : O δ :=
  match x with
  | .ok a => match k a env with
    | .ok b => .ok (j a b)
    | .eff b env2 => if safe a then .eff (j a b) env2 else .bad
    | .exc c e => .exc c e
    | .bad => .bad
  | .eff a env1 => match k a env1 with
    | .ok b => .eff (j a b) env1
    | .eff b env2 => if safe a then .eff (j a b) env2 else .bad
    | .exc c e => .exc c e
    | .bad => .bad
  | .exc c e => .exc c e
  | .bad => .bad

section
variable {X : Cx} {W : WX} {α β γ δ : Type}
theorem Sta.pure {B H B' H' : Hp} {F G : List Addr} {σ : St} {env : Env} (S : Sta X.K X.mg B H F σ env) (s' : Same B' H') (f : Frm B H [] B' H' G) : Sta X.K X.mg B' H' F σ env :=
  ⟨s', f.slots S.sl (fun _ _ z => nomatch z), S.nd⟩
theorem Frm.wide0 {B H B' H' : Hp} {F G : List Addr} (f : Frm B H [] B' H' G) : Frm B H F B' H' (G ++ F) :=
  f.wide (fun _ z => nomatch z) fun c m => List.mem_append.mp m
theorem nodup_new {B H B' H' : Hp} {F G : List Addr} (hF : ∀ a ∈ F, ∃ u, H a = some u) (nF : F.Nodup) (nG : G.Nodup) (f : Frm B H [] B' H' G) : (G ++ F).Nodup := by
  refine List.nodup_append.mpr ⟨nG, nF, fun a ha b hb e => ?_⟩
  subst e
  obtain ⟨u, q⟩ := hF a hb
  rcases f.fr a ha with z | z
  · cases z
  · rw [q] at z; cases z
/-- an outcome's Q, seen from an earlier heap: an outcome without effect -/
theorem EOkS.andThen {ε ζ : Type} {R : St → Rl α β} {R' : St → Rl γ δ} {R'' : St → Rl ε ζ} {jx : α → γ → ε} {jb : β → δ → ζ} {t : TX α} {u : α → TX γ} {f : Env → O β} {k : β → Env → O δ} {safe : β → Bool} {sf' : δ → Bool} (hs : ∀ σ, Stb (R σ) safe) (hs' : ∀ σ, Stb (R' σ) sf') (hj : ∀ σ B H G1 G2 x y a b, R σ B H G1 x a → R' σ B H G2 y b → R'' σ B H (G1 ++ G2) (jx x y) (jb a b))
    (h : EOkS X W R t f) (h' : ∀ x a, (∃ σ B H G, R σ B H G x a) → EOkS X W R' (u x) (k a)) :
    EOkS X W R'' (fun σ H Q => t σ H fun x H1 => u x σ H1 fun y H2 => Q (jx x y) H2) (fun env => (f env).andThen safe env k jb) := by
  intro B H F σ env Q S q
  refine h B H F σ env _ S ?_
  dsimp only [O.andThen] at q
  cases e : f env with
  | bad => rw [e] at q; exact q
  | exc c e1 => rw [e] at q; exact q
  | ok a =>
    rw [e] at q
    intro x B1 H1 G1 r1 s1 n1 f1
    have S1 := S.pure s1 f1
    refine h' x a ⟨_, _, _, _, r1⟩ B1 H1 F σ env _ S1 ?_
    dsimp only at q
    cases e2 : k a env with
    | bad => rw [e2] at q; exact q
    | exc c e1 =>
      rw [e2] at q
      intro B2 H2 F2 S2 f2
      refine q B2 H2 F2 S2 ((Frm.wide (F2 := F) f1 (fun _ z => nomatch z) fun c z => .inr z).trans f2)
    | ok b =>
      rw [e2] at q
      intro y B2 H2 G2 r2 s2 n2 f2
      refine q (jx x y) B2 H2 (G1 ++ G2) (hj _ _ _ _ _ _ _ _ _ ((hs σ).keep _ _ _ _ _ _ _ _ _ r1 f2 (fun _ _ z => nomatch z) (.inr rfl)) r2) s2 ?_ ?_
      · have z := List.nodup_append.mp (nodup_new (F := G1) (fun a ha => ((hs σ).there _ _ _ _ _ r1 a ha).2) n1 n2 f2)
        exact List.nodup_append.mpr ⟨z.2.1, z.1, fun a ha b hb e => z.2.2 b hb a ha e.symm⟩
      · refine f1.trans (f2.wide (fun _ z => nomatch z) fun c m => ?_)
        exact (List.mem_append.mp m).symm
    | eff b env2 =>
      rw [e2] at q
      dsimp only at q
      by_cases hsf : safe a = true
      · rw [if_pos hsf] at q
        intro y B2 H2 G2 F2 r2 l2 s2 n2 f2
        have dj : ∀ c ∈ G1, c ∉ F := fun c m z => by
          obtain ⟨_, u, e⟩ := S.sl.there c z
          rcases f1.fr c m with y | y
          · cases y
          · rw [e] at y; cases y
        refine q (jx x y) B2 H2 (G1 ++ G2) F2 (hj _ _ _ _ _ _ _ _ _ ((hs σ).keep _ _ _ _ _ _ _ _ _ r1 f2 dj (.inl hsf)) r2) l2 s2 ?_ ?_
        · rw [List.append_assoc]
          refine List.nodup_append.mpr ⟨n1, n2, fun c hc b hb ec => ?_⟩
          subst ec
          rcases f2.fr c hb with z | z
          · exact dj c hc z
          · obtain ⟨_, u, e⟩ := (hs σ).there _ _ _ _ _ r1 c hc
            rw [e] at z; cases z
        · refine (f1.wide0 (F := F)).trans (f2.wide (fun c z => List.mem_append_right _ z) fun c m => ?_)
          rw [List.append_assoc] at m
          rcases List.mem_append.mp m with m | m
          · exact .inr (List.mem_append_left _ m)
          · exact .inl m
      · rw [if_neg hsf] at q; exact q.elim
  | eff a env1 =>
    rw [e] at q
    intro x B1 H1 G1 F1 r1 l1 s1 n1 f1
    have S1 : Sta X.K X.mg B1 H1 F1 σ env1 := ⟨s1, l1, (List.nodup_append.mp n1).2.1⟩
    have ng1 := (List.nodup_append.mp n1).1
    have dj : ∀ c ∈ G1, c ∉ F1 := fun c m z => (List.nodup_append.mp n1).2.2 c m c z rfl
    refine h' x a ⟨_, _, _, _, r1⟩ B1 H1 F1 σ env1 _ S1 ?_
    dsimp only at q
    have wd : ∀ {B2 H2 : Hp} {F2 : List Addr}, Frm B1 H1 F1 B2 H2 F2 → Frm B1 H1 (G1 ++ F1) B2 H2 F2 := fun f2 => f2.wide (fun c z => List.mem_append_right _ z) fun c m => .inl m
    cases e2 : k a env1 with
    | bad => rw [e2] at q; exact q
    | exc c e1 =>
      rw [e2] at q
      intro B2 H2 F2 S2 f2
      exact q B2 H2 F2 S2 (f1.trans (wd f2))
    | ok b =>
      rw [e2] at q
      intro y B2 H2 G2 r2 s2 n2 f2
      have l2 := f2.slots l1 fun _ _ z => nomatch z
      refine q (jx x y) B2 H2 (G1 ++ G2) F1 (hj _ _ _ _ _ _ _ _ _ ((hs σ).keep _ _ _ _ _ _ _ _ _ r1 f2 (fun _ _ z => nomatch z) (.inr rfl)) r2) l2 s2 ?_ ?_
      · have z := nodup_new (F := G1 ++ F1) (fun a ha => ?_) n1 n2 f2
        · rw [List.append_assoc]
          have z2 := List.nodup_append.mp z
          refine List.nodup_append.mpr ⟨ng1, List.nodup_append.mpr ⟨n2, S1.nd, fun a ha b hb => z2.2.2 a ha b (List.mem_append_right _ hb)⟩, fun a ha b hb => ?_⟩
          rcases List.mem_append.mp hb with hb | hb
          · exact fun e => z2.2.2 b hb a (List.mem_append_left _ ha) e.symm
          · exact fun e => dj a ha (e ▸ hb)
        · rcases List.mem_append.mp ha with ha | ha
          · exact ((hs σ).there _ _ _ _ _ r1 a ha).2
          · exact (l1.there a ha).2
      · refine f1.trans (f2.wide (fun _ z => nomatch z) fun c m => ?_)
        rw [List.append_assoc] at m
        rcases List.mem_append.mp m with m | m
        · exact .inr (List.mem_append_left _ m)
        · exact (List.mem_append.mp m).imp id fun z => List.mem_append_right _ z
    | eff b env2 =>
      rw [e2] at q
      dsimp only at q
      by_cases hsf : safe a = true
      · rw [if_pos hsf] at q
        intro y B2 H2 G2 F2 r2 l2 s2 n2 f2
        refine q (jx x y) B2 H2 (G1 ++ G2) F2 (hj _ _ _ _ _ _ _ _ _ ((hs σ).keep _ _ _ _ _ _ _ _ _ r1 f2 dj (.inl hsf)) r2) l2 s2 ?_ ?_
        · rw [List.append_assoc]
          refine List.nodup_append.mpr ⟨ng1, n2, fun c hc b hb ec => ?_⟩
          subst ec
          rcases f2.fr c hb with z | z
          · exact dj c hc z
          · obtain ⟨_, u, e⟩ := (hs σ).there _ _ _ _ _ r1 c hc
            rw [e] at z; cases z
        · refine f1.trans (f2.wide (fun c z => List.mem_append_right _ z) fun c m => ?_)
          rw [List.append_assoc] at m
          rcases List.mem_append.mp m with m | m
          · exact .inr (List.mem_append_left _ m)
          · exact .inl m
      · rw [if_neg hsf] at q; exact q.elim

theorem EOk.andThen {ε ζ : Type} {R : Rl α β} {R' : Rl γ δ} {R'' : Rl ε ζ} {jx : α → γ → ε} {jb : β → δ → ζ} {t : TX α} {u : α → TX γ} {f : Env → O β} {k : β → Env → O δ} {safe : β → Bool} {sf' : δ → Bool} (hs : Stb R safe) (hs' : Stb R' sf')
    (hj : ∀ B H G1 G2 x y a b, R B H G1 x a → R' B H G2 y b → R'' B H (G1 ++ G2) (jx x y) (jb a b)) (h : EOk X W R t f) (h' : ∀ x a, (∃ B H G, R B H G x a) → EOk X W R' (u x) (k a)) :
    EOk X W R'' (fun σ H Q => t σ H fun x H1 => u x σ H1 fun y H2 => Q (jx x y) H2) (fun env => (f env).andThen safe env k jb) :=
  EOkS.andThen (fun _ => hs) (fun _ => hs') (fun _ => hj) h fun x a ⟨_, z⟩ => h' x a z

/-! ### a step on values -/
def O.mapP {β γ : Type} (g : β → Option γ) : O β → O γ
  | .ok a => match g a with
    | some b => .ok b
    | none => .bad
  | .eff a env => match g a with
    | some b => .eff b env
    | none => .bad
  | .exc c e => .exc c e
  | .bad => .bad
/-- what is wanted behind a step on values -/
def VPost {β γ : Type} (R' : Rl γ β) (B H : Hp) (G : List Addr) (Q : γ → Hp → Prop) : Option β → Prop
  | some b => ∀ y B' H' G', R' B' H' G' y b → Same B' H' → G'.Nodup → Frm B H G B' H' G' → Q y H'
  | none => False
def VOk {α β γ δ : Type} (R : Rl α β) (R' : Rl γ δ) (r : α → Hp → (γ → Hp → Prop) → Prop) (g : β → Option δ) : Prop :=
  ∀ B H G x a Q, Same B H → R B H G x a → G.Nodup → VPost R' B H G Q (g a) → r x H Q
theorem EOkS.map {R : St → Rl α β} {R' : St → Rl γ δ} {t : TX α} {r : α → Hp → (γ → Hp → Prop) → Prop} {f : Env → O β} {g : β → Option δ} (h : EOkS X W R t f) (v : ∀ σ, VOk (R σ) (R' σ) r g) :
    EOkS X W R' (fun σ H Q => t σ H fun x H1 => r x H1 Q) (fun env => (f env).mapP g) := by
  intro B H F σ env Q S q
  refine h B H F σ env _ S ?_
  dsimp only [O.mapP] at q
  cases e : f env with
  | bad => rw [e] at q; exact q
  | exc c e1 => rw [e] at q; exact q
  | ok a =>
    rw [e] at q
    intro x B1 H1 G1 r1 s1 n1 f1
    refine v σ B1 H1 G1 x a Q s1 r1 n1 ?_
    dsimp only at q
    cases e2 : g a with
    | none => rw [e2] at q; exact q
    | some b =>
      rw [e2] at q
      intro y B2 H2 G2 r2 s2 n2 f2
      exact q y B2 H2 G2 r2 s2 n2 (f1.trans f2)
  | eff a env1 =>
    rw [e] at q
    intro x B1 H1 G1 F1 r1 l1 s1 n1 f1
    have ng1 := (List.nodup_append.mp n1)
    refine v σ B1 H1 G1 x a Q s1 r1 ng1.1 ?_
    dsimp only at q
    cases e2 : g a with
    | none => rw [e2] at q; exact q
    | some b =>
      rw [e2] at q
      intro y B2 H2 G2 r2 s2 n2 f2
      refine q y B2 H2 G2 F1 r2 (f2.slots l1 fun c m z => ng1.2.2 c z c m rfl) s2 ?_ (f1.trans (f2.wide (fun c z => List.mem_append_left _ z) fun c m => ?_))
      · refine List.nodup_append.mpr ⟨n2, ng1.2.1, fun a ha b hb e => ?_⟩
        subst e
        rcases f2.fr a ha with z | z
        · exact ng1.2.2 a z a hb rfl
        · obtain ⟨_, u, e⟩ := l1.there a hb
          rw [e] at z; cases z
      · exact (List.mem_append.mp m).imp id fun z => List.mem_append_right _ z
theorem EOk.map {R : Rl α β} {R' : Rl γ δ} {t : TX α} {r : α → Hp → (γ → Hp → Prop) → Prop} {f : Env → O β} {g : β → Option δ} (h : EOk X W R t f) (v : VOk R R' r g) :
    EOk X W R' (fun σ H Q => t σ H fun x H1 => r x H1 Q) (fun env => (f env).mapP g) := EOkS.map h fun _ => v
end
end Tl
namespace Tl
open PySem PySem.Spec L2

/-! ### looks at data -/
def fzs : List OD → Option (List D)
  | [] => some []
  | .fz d :: r => match fzs r with
    | some ds => some (d :: ds)
    | none => none
  | _ :: _ => none
@[simp] theorem fzs_nil : fzs [] = some [] := rfl
@[simp] theorem fzs_cons {d : D} {r : List OD} : fzs (.fz d :: r) = (fzs r).map (d :: ·) := by
  show (match fzs r with | some ds => some (d :: ds) | none => none) = _
  cases fzs r <;> rfl
@[simp] theorem fzs_map {α : Type} {xs : List α} {f : α → D} : fzs (xs.map fun x => .fz (f x)) = some (xs.map f) := by
  induction xs with
  | nil => rfl
  | cons x xs ih => rw [List.map_cons, fzs_cons, ih]; rfl
@[simp] theorem fzs_mapfz {ds : List D} : fzs (ds.map OD.fz) = some ds := by
  have := fzs_map (xs := ds) (f := id)
  simpa using this
/-- the items of a list -/
def OD.items : OD → Option (List D)
  | .fz (.lst ds) => some ds
  | .fz (.scr ds) => some ds
  | .lst os => fzs os
  | _ => none
/-- of a list that is no script -/
def OD.litems : OD → Option (List D)
  | .fz (.lst ds) => some ds
  | .lst os => fzs os
  | _ => none
/-- of a tuple -/
def OD.titems : OD → Option (List D)
  | .fz (.tup ds) => some ds
  | .tup os => fzs os
  | _ => none
/-- of either -/
def OD.sitems : OD → Option (List D)
  | .fz (.lst ds) => some ds
  | .fz (.scr ds) => some ds
  | .lst os => fzs os
  | .fz (.tup ds) => some ds
  | .tup os => fzs os
  | _ => none

section
variable {K : PySem.W.Frag} {mg : Str → Option Value} {B H : Hp} {F G : List Addr} {v : V} {vs : List V} {d : D} {ds : List D} {o : OD} {os : List OD} {r : RV}
theorem RepL.length (h : RepL K B vs ds) : vs.length = ds.length := by
  induction vs generalizing ds with
  | nil => cases h; rfl
  | cons v vs ih => cases h with | cons _ t => simp [ih t]
theorem OwnL.length (h : OwnL K mg B H F vs os) : vs.length = os.length := by
  induction vs generalizing os F with
  | nil => cases h; rfl
  | cons v vs ih => cases h with | cons _ t => simp [ih t]
theorem RepL.get {i : Nat} (h : RepL K B vs ds) (e : ds[i]? = some d) : ∃ v, vs[i]? = some v ∧ Rep K B v d := by
  induction vs generalizing ds i with
  | nil => cases h; simp at e
  | cons v vs ih =>
    cases h with
    | cons r t =>
      cases i with
      | zero => simp at e; subst e; exact ⟨v, rfl, r⟩
      | succ i => simp at e; exact ih t e
theorem OwnL.get {i : Nat} (h : OwnL K mg B H F vs os) (e : os[i]? = some o) : ∃ v G, vs[i]? = some v ∧ Own K mg B H G v o ∧ (∀ a ∈ G, a ∈ F) ∧ (F.Nodup → G.Nodup) := by
  induction vs generalizing os i F with
  | nil => cases h; simp at e
  | cons v vs ih =>
    cases h with
    | cons r t =>
      cases i with
      | zero => simp at e; subst e; exact ⟨v, _, rfl, r, fun a m => List.mem_append_left _ m, fun n => (List.nodup_append.mp n).1⟩
      | succ i =>
        simp at e
        obtain ⟨v', G, h1, h2, h3, h4⟩ := ih t e
        exact ⟨v', G, h1, h2, fun a m => List.mem_append_right _ (h3 a m), fun n => h4 (List.nodup_append.mp n).2.1⟩
/-- owned items that are all plain -/
theorem OwnL.rep (h : OwnL K mg B H F vs os) (e : fzs os = some ds) : F = [] ∧ RepL K B vs ds := by
  induction vs generalizing os F ds with
  | nil => cases h; simp at e; subst e; exact ⟨rfl, .nil⟩
  | cons v vs ih =>
    cases h with
    | @cons F1 G1 _ _ o os r t =>
      cases r with
      | fz r =>
        rw [fzs_cons] at e
        cases q : fzs os with
        | none => rw [q] at e; cases e
        | some ds' =>
          rw [q] at e; cases e
          obtain ⟨e1, e2⟩ := ih t q
          subst e1
          exact ⟨rfl, .cons r e2⟩
      | _ => cases e
theorem RepL.ownL (h : RepL K B vs ds) : OwnL K mg B H [] vs (ds.map .fz) := by
  induction vs generalizing ds with
  | nil => cases h; exact .nil
  | cons v vs ih => cases h with | cons r t => exact .cons (F := []) (.fz r) (ih t)
theorem rv_own (h : rvR K mg B H G v r) : ∃ G', Own K mg B H G' v r.od := by
  cases r with
  | own o => exact ⟨G, h⟩
  | view o => exact h.2
theorem rv_fz (h : rvR K mg B H G v r) (e : r.od = .fz d) : Rep K B v d := by
  obtain ⟨G', q⟩ := rv_own h
  rw [e] at q
  cases q with | fz r => exact r
theorem rv_items (s : Same B H) (h : rvR K mg B H G v r) (e : r.od.items = some ds) : ∃ p vs, v = .ref p ∧ SqL K H p vs ∧ RepL K B vs ds := by
  obtain ⟨G', q⟩ := rv_own h
  generalize r.od = o at q e
  cases q with
  | fz r =>
    cases r <;> first
      | (cases e; done)
      | (rename_i h1 h2; cases e; exact ⟨_, _, rfl, s.seq h1, h2⟩)
      | (rename_i h1 h2; cases e; exact ⟨_, _, rfl, SqL.of (s _ _ h1), h2⟩)
  | lst h1 _ h3 => exact ⟨_, _, rfl, SqL.of h1, (h3.rep e).2⟩
  | _ => cases e
theorem rv_litems (s : Same B H) (h : rvR K mg B H G v r) (e : r.od.litems = some ds) : ∃ p vs, v = .ref p ∧ H p = some (.lst vs) ∧ RepL K B vs ds := by
  obtain ⟨G', q⟩ := rv_own h
  generalize r.od = o at q e
  cases q with
  | fz r =>
    cases r <;> first
      | (cases e; done)
      | (rename_i h1 h2; cases e; exact ⟨_, _, rfl, s _ _ h1, h2⟩)
  | lst h1 _ h3 => exact ⟨_, _, rfl, h1, (h3.rep e).2⟩
  | _ => cases e
theorem rv_titems (s : Same B H) (h : rvR K mg B H G v r) (e : r.od.titems = some ds) : ∃ p vs, v = .ref p ∧ SqT K H p vs ∧ RepL K B vs ds := by
  obtain ⟨G', q⟩ := rv_own h
  generalize r.od = o at q e
  cases q with
  | fz r =>
    cases r <;> first
      | (cases e; done)
      | (rename_i h1 h2; cases e; exact ⟨_, _, rfl, Same.seqT s h1, h2⟩)
  | tup h1 h3 => exact ⟨_, _, rfl, Same.seqT s h1, (h3.rep e).2⟩
  | _ => cases e
theorem rv_sitems (s : Same B H) (h : rvR K mg B H G v r) (e : r.od.sitems = some ds) : ∃ p vs, v = .ref p ∧ (SqL K H p vs ∨ SqT K H p vs) ∧ RepL K B vs ds := by
  obtain ⟨G', q⟩ := rv_own h
  generalize r.od = o at q e
  cases q with
  | fz r =>
    cases r <;> first
      | (cases e; done)
      | (rename_i h1 h2; cases e; exact ⟨_, _, rfl, .inl (s.seq h1), h2⟩)
      | (rename_i h1 h2; cases e; exact ⟨_, _, rfl, .inl (SqL.of (s _ _ h1)), h2⟩)
      | (rename_i h1 h2; cases e; exact ⟨_, _, rfl, .inr (Same.seqT s h1), h2⟩)
  | lst h1 _ h3 => exact ⟨_, _, rfl, .inl (SqL.of h1), (h3.rep e).2⟩
  | tup h1 h3 => exact ⟨_, _, rfl, .inr (Same.seqT s h1), (h3.rep e).2⟩
  | _ => cases e
/-- a plain value handed on, the heap as it was -/
theorem VPost.fz {Q : VK} (q : VPost (rvR K mg) B H G Q (some (.own (.fz d)))) (s : Same B H) (r : Rep K B v d) : Q v H :=
  q v B H [] (.fz r) s List.nodup_nil ⟨Same.refl _, fun _ _ h _ => h, fun _ _ _ _ b => b, fun _ z => nomatch z⟩
/-- a new list -/
theorem VPost.lst {Q : VK} (q : VPost (rvR K mg) B H G Q (some (.own (.lst (ds.map .fz))))) (s : Same B H) (r : RepL K B vs ds) {p : Addr} (hp : H p = none) : Q (.ref p) (upd H p (.lst vs)) := by
  have hb : B p = none := s.free hp
  refine q (.ref p) B _ [p] (.lst upd_same hb ?_) (fun a u e => ?_) (by simp) ⟨Same.refl _, fun a u e _ => ?_, fun _ _ _ _ b => b, fun a m => ?_⟩
  · exact r.ownL
  · have := s a u e
    rw [upd_ne (ne_of_none this hp)]; exact this
  · rw [upd_ne (ne_of_none e hp)]; exact e
  · have : a = p := by simpa using m
    subst this; exact .inr hp
/-- a new tuple -/
theorem VPost.tup {Q : VK} (q : VPost (rvR K mg) B H G Q (some (.own (.fz (.tup ds))))) (s : Same B H) (r : RepL K B vs ds) {p : Addr} (hp : H p = none) : Q (.ref p) (upd H p (.tup vs)) := by
  have hb : B p = none := s.free hp
  have sb : Same B (upd B p (.tup vs)) := fun a u e => by rw [upd_ne (ne_of_none e hb)]; exact e
  refine q (.ref p) (upd B p (.tup vs)) _ [] (.fz (.tup (.inl (.inl upd_same)) (r.mono sb))) (fun a u e => ?_) List.nodup_nil ⟨sb, fun a u e _ => ?_, fun a u e _ b => ?_, fun _ z => nomatch z⟩
  · by_cases h : a = p
    · subst h; rw [upd_same] at e ⊢; exact e
    · rw [upd_ne h] at e ⊢; exact s a u e
  · rw [upd_ne (ne_of_none e hp)]; exact e
  · rw [upd_ne (ne_of_none e hp)]; exact b
end

/-! ### expressions -/
def PEr (X : Cx) (W : WX) (e : Expr) (f : Env → O RV) : Prop := ∃ t, PE X e t ∧ EOk X W (rvR X.K X.mg) t f
def PTr (X : Cx) (W : WX) (e : Expr) (f : Env → O Bool) : Prop := ∃ t, PT X e t ∧ EOk X W boR t f
def PWr (X : Cx) (W : WX) (e : Expr) (f : Env → O Bool) : Prop := ∃ t, PW X e t ∧ EOk X W boR t f
def PAr (X : Cx) (W : WX) (es : List Expr) (f : Env → O (List RV)) : Prop := ∃ t, PA X es t ∧ EOk X W (lsR (rvR X.K X.mg)) t f

abbrev RV.i (n : Int) : RV := .own (.fz (.int n))
abbrev RV.b (b : Bool) : RV := .own (.fz (.bl b))
abbrev RV.s (x : Str) : RV := .own (.fz (.str x))
abbrev RV.n : RV := .own (.fz .non)

/-- a name: what stands there, plain, or a look at it -/
def eVar (i : Nat) : Env → O RV := fun env =>
  match env[i]? with
  | some (.fz d) => .ok (.own (.fz d))
  | some .un => .bad
  | some o => .ok (.view o)
  | none => .bad
def eC (d : D) : Env → O RV := fun _ => .ok (.own (.fz d))
def e1 (g : RV → Option RV) (f : Env → O RV) : Env → O RV := fun env => (f env).mapP g
def e2 (g : RV × RV → Option RV) (f1 f2 : Env → O RV) : Env → O RV := fun env => ((f1 env).andThen RV.safe env (fun _ e => f2 e) Prod.mk).mapP g
def aNil : Env → O (List RV) := fun _ => .ok []
def aCons (f : Env → O RV) (r : Env → O (List RV)) : Env → O (List RV) := fun env => (f env).andThen RV.safe env (fun _ e => r e) List.cons
def eL (g : List RV → Option RV) (f : Env → O (List RV)) : Env → O RV := fun env => (f env).mapP g

section
variable {X : Cx} {W : WX} {a b c e : Expr} {es : List Expr} {f fa fb fc : Env → O RV} {pos : Pos}
theorem Slots.get {K : PySem.W.Frag} {mg : Str → Option Value} {B H : Hp} {F : List Addr} {σ : St} {env : Env} (x : Slots K mg B H F σ env) {i : Nat} {o : OD} (e : env[i]? = some o) (n : o ≠ .un) :
    ∃ v G, σ[i]? = some (some v) ∧ Own K mg B H G v o ∧ (∀ a ∈ G, a ∈ F) := by
  induction x generalizing i with
  | nil => simp at e
  | un _ ih =>
    cases i with
    | zero => simp at e; exact absurd e.symm n
    | succ i => simp at e; simpa using ih e
  | cons r _ ih =>
    cases i with
    | zero => simp at e; subst e; exact ⟨_, _, rfl, r, fun a m => List.mem_append_left _ m⟩
    | succ i =>
      simp at e
      obtain ⟨v, G, h1, h2, h3⟩ := ih e
      exact ⟨v, G, by simpa using h1, h2, fun a m => List.mem_append_right _ (h3 a m)⟩
theorem Frm.none {B H : Hp} {F : List Addr} : Frm B H F B H [] := ⟨Same.refl _, fun _ _ h _ => h, fun _ _ _ _ b => b, fun _ z => nomatch z⟩
theorem r_var (i : Nat) {x : Str} {pos : Pos} (hN : X.N[i]? = some x := by rfl) (hv : Vis X.env.scope x := by first | exact Or.inl rfl | exact Or.inr (Or.inl rfl) | exact Or.inr (Or.inr rfl))
    (hd : (x == ("__debug__" : Str)) = false := by decide) (hcd : (x == ("__classdict__" : Str)) = false := by decide) : PEr X W (.Name x pos) (eVar i) := by
  refine ⟨_, pe_var hN hv hd hcd, fun B H F σ env Q S q => ?_⟩
  dsimp only [eVar] at q
  cases e : env[i]? with
  | none => rw [e] at q; exact q.elim
  | some o =>
    rw [e] at q
    by_cases n : o = .un
    · subst n; exact q.elim
    · obtain ⟨v, G, h1, h2, h3⟩ := S.sl.get e n
      refine ⟨v, h1, ?_⟩
      cases o with
      | un => exact absurd rfl n
      | fz d =>
        cases h2 with
        | fz r => exact q v B H [] (.fz r) S.sub List.nodup_nil Frm.none
      | _ => exact q v B H [] ⟨rfl, G, h2⟩ S.sub List.nodup_nil Frm.none
theorem r_const {t : TE} {d : D} {v : V} (h : PE X e t) (ht : t = tC v) (r : ∀ B, Rep X.K B v d) : PEr X W e (eC d) := by
  subst ht
  exact ⟨_, h, fun B H F σ env Q S q => q v B H [] (.fz (r B)) S.sub List.nodup_nil Frm.none⟩
theorem r_int {i j pos} : PEr X W (.Constant (.int i) j pos) (eC (.int i)) := r_const pe_int rfl fun _ => .int
theorem r_bl {b j pos} : PEr X W (.Constant (.bool b) j pos) (eC (.bl b)) := r_const pe_bl rfl fun _ => .bl
theorem r_non {j pos} : PEr X W (.Constant .none j pos) (eC .non) := r_const pe_non rfl fun _ => .non
theorem r_str {x j pos} : PEr X W (.Constant (.str x) j pos) (eC (.str x)) := r_const pe_str rfl fun _ => .str
/-- a module's constant -/
theorem r_glob {x : Str} {v : V} {u : Value} {d : D} {pos : Pos} (hg : Gl X x) (hm : X.mg x = some u) (r : RelV v u) (rd : ∀ B, Rep X.K B v d) (hd : (x == ("__debug__" : Str)) = false := by decide) : PEr X W (.Name x pos) (eC d) :=
  r_const (pe_glob hg hm r hd) rfl rd
theorem pe_sub1 {f : Env → O RV} {g : RV → Option RV} {t : TE} {r : V → Hp → VK → Prop} (h : EOk X W (rvR X.K X.mg) t f) (v : VOk (rvR X.K X.mg) (rvR X.K X.mg) r g) :
    EOk X W (rvR X.K X.mg) (fun σ H Q => t σ H fun x H1 => r x H1 Q) (e1 g f) := h.map v
theorem EOk.two {ta tb : TE} {r : V → V → Hp → VK → Prop} {g : RV × RV → Option RV} (h1 : EOk X W (rvR X.K X.mg) ta fa) (h2 : EOk X W (rvR X.K X.mg) tb fb) (v : VOk (prR (rvR X.K X.mg) (rvR X.K X.mg)) (rvR X.K X.mg) (fun p => r p.1 p.2) g) :
    EOk X W (rvR X.K X.mg) (fun σ H Q => ta σ H fun x H1 => tb σ H1 fun y H2 => r x y H2 Q) (e2 g fa fb) :=
  (EOk.andThen (jx := Prod.mk) (jb := Prod.mk) (R'' := prR (rvR X.K X.mg) (rvR X.K X.mg)) (u := fun _ => tb) stb_rv stb_rv (fun _ _ G1 G2 _ _ _ _ a b => ⟨G1, G2, rfl, a, b⟩) h1 fun _ _ _ => h2).map v
theorem r_op {op : Operator} {r : R2} {g : RV × RV → Option RV} (ho : OpR X (binaryOp op) r) (v : VOk (prR (rvR X.K X.mg) (rvR X.K X.mg)) (rvR X.K X.mg) (fun p => r p.1 p.2) g) (ha : PEr X W a fa) (hb : PEr X W b fb) :
    PEr X W (.BinOp a op b pos) (e2 g fa fb) := by
  obtain ⟨ta, ha, ka⟩ := ha
  obtain ⟨tb, hb, kb⟩ := hb
  exact ⟨_, pe_op ho ha hb, ka.two kb v⟩
theorem r_cmp {op : CmpOp} {r : R2} {g : RV × RV → Option RV} (ho : OpR X (compareOp op) r) (v : VOk (prR (rvR X.K X.mg) (rvR X.K X.mg)) (rvR X.K X.mg) (fun p => r p.1 p.2) g) (ha : PEr X W a fa) (hb : PEr X W b fb) (hm : behindInMarks op b = false) :
    PEr X W (.Compare a [op] [b] pos) (e2 g fa fb) := by
  obtain ⟨ta, ha, ka⟩ := ha
  obtain ⟨tb, hb, kb⟩ := hb
  exact ⟨_, pe_cmpR ho ha hb hm, ka.two kb v⟩
/-- a comparison by values -/
def CmpOk (X : Cx) (op : CmpOp) (g : RV × RV → Option RV) : Prop := ∃ r, OpR X (compareOp op) r ∧ VOk (prR (rvR X.K X.mg) (rvR X.K X.mg)) (rvR X.K X.mg) (fun p => r p.1 p.2) g
theorem r_c {op : CmpOp} {g : RV × RV → Option RV} (h : CmpOk X op g) (ha : PEr X W a fa) (hb : PEr X W b fb) (hm : behindInMarks op b = false := by first | exact nomark _ | with_unfolding_all rfl) : PEr X W (.Compare a [op] [b] pos) (e2 g fa fb) := by
  obtain ⟨r, ho, v⟩ := h
  exact r_cmp ho v ha hb hm
theorem r_anil : PAr X W [] aNil := ⟨_, pa_nil, fun B H F σ env Q S q => q [] B H [] .nil S.sub List.nodup_nil Frm.none⟩
theorem r_acons {fr : Env → O (List RV)} (ha : PEr X W e f) (hr : PAr X W es fr) (hs : starEach (e :: es) X.env = (false, eval e X.env) :: starEach es X.env := by rfl) : PAr X W (e :: es) (aCons f fr) := by
  obtain ⟨ta, ha, ka⟩ := ha
  obtain ⟨tb, hb, kb⟩ := hr
  exact ⟨_, pa_cons ha hb hs, EOk.andThen (jx := List.cons) (jb := List.cons) (u := fun _ => tb) stb_rv (stb_ls stb_rv) (fun _ _ _ _ _ _ _ _ a b => .cons a b) ka fun _ _ _ => kb⟩
end
end Tl
namespace Tl
open PySem PySem.Spec L2

/-! ### arithmetic -/
def g2i (op : Int → Int → Option D) (p : RV × RV) : Option RV :=
  match p.1.od, p.2.od with
  | .fz (.int i), .fz (.int j) => (op i j).map fun d => .own (.fz d)
  | _, _ => none
section
variable {X : Cx} {W : WX} {a b c e : Expr} {es : List Expr} {f fa fb fc : Env → O RV} {pos : Pos}
abbrev rr (X : Cx) := prR (rvR X.K X.mg) (rvR X.K X.mg)
theorem v2i {C : Int → Int → Prop} {g : Int → Int → V} {op : Int → Int → Option D} (h : ∀ i j d, op i j = some d → C i j ∧ ∀ B, Rep X.K B (g i j) d) :
    VOk (rr X) (rvR X.K X.mg) (fun p => rI C g p.1 p.2) (g2i op) := by
  rintro B H G ⟨x, y⟩ ⟨r1, r2⟩ Q s ⟨G1, G2, _, h1, h2⟩ n q
  dsimp only [g2i] at q h1 h2 ⊢
  split at q
  · rename_i i j e1 e2
    have z1 := rv_fz h1 e1
    have z2 := rv_fz h2 e2
    cases z1; cases z2
    cases e : op i j with
    | none => rw [e] at q; exact q.elim
    | some d =>
      rw [e] at q
      obtain ⟨hc, hr⟩ := h i j d e
      exact ⟨i, j, rfl, rfl, hc, VPost.fz q s (hr B)⟩
  · exact q.elim
theorem v2i0 {g : Int → Int → V} {op : Int → Int → D} (h : ∀ i j B, Rep X.K B (g i j) (op i j)) :
    VOk (rr X) (rvR X.K X.mg) (fun p => rI0 g p.1 p.2) (g2i fun i j => some (op i j)) := by
  intro B H G p a Q s r n q
  obtain ⟨i, j, e1, e2, _, z⟩ := v2i (X := X) (C := fun _ _ => True) (g := g) (op := fun i j => some (op i j)) (fun i j d e => ⟨True.intro, fun B => by cases e; exact h i j B⟩) B H G p a Q s r n q
  exact ⟨i, j, e1, e2, z⟩
def iSub (i j : Int) : D := .int (i - j)
def iLt (i j : Int) : D := .bl (decide (i < j))
def iLe (i j : Int) : D := .bl (decide (i ≤ j))
def iGt (i j : Int) : D := .bl (decide (j < i))
def iGe (i j : Int) : D := .bl (decide (j ≤ i))
def iDiv (i j : Int) : Option D := if 0 < j ∧ j.natAbs.log2 < 9000 then some (.int (i / j)) else none
def iMod (i j : Int) : Option D := if 0 < j then some (.int (i % j)) else none
def iPow (i j : Int) : Option D := if 0 ≤ j ∧ j ≤ 1000000 ∧ i.natAbs < 2 ^ 64 then some (.int (i ^ j.toNat)) else none
def iShl (i j : Int) : Option D := if 0 ≤ j ∧ j ≤ 1000000 ∧ i.natAbs < 2 ^ 64 then some (.int (i * 2 ^ j.toNat)) else none
def iShr (i j : Int) : Option D := if 0 ≤ j then some (.int (i / 2 ^ j.toNat)) else none
def mulSafe (i j : Int) : Prop := (-(2 ^ 64) < i ∧ i < 2 ^ 64) ∨ (-(2 ^ 64) < j ∧ j < 2 ^ 64) ∨ i.natAbs.log2 + j.natAbs.log2 < 1000000
instance {i j : Int} : Decidable (mulSafe i j) := by unfold mulSafe; exact inferInstance
theorem r_sub (ha : PEr X W a fa) (hb : PEr X W b fb) : PEr X W (.BinOp a .Sub b pos) (e2 (g2i fun i j => some (iSub i j)) fa fb) := r_op op_sub (v2i0 fun _ _ _ => .int) ha hb
theorem r_div (ha : PEr X W a fa) (hb : PEr X W b fb) : PEr X W (.BinOp a .FloorDiv b pos) (e2 (g2i iDiv) fa fb) :=
  r_op op_fdivW (v2i fun i j d e => by unfold iDiv at e; split at e <;> cases e; rename_i h; exact ⟨h, fun _ => .int⟩) ha hb
theorem r_mod (ha : PEr X W a fa) (hb : PEr X W b fb) : PEr X W (.BinOp a .Mod b pos) (e2 (g2i iMod) fa fb) :=
  r_op op_mod (v2i fun i j d e => by unfold iMod at e; split at e <;> cases e; rename_i h; exact ⟨h, fun _ => .int⟩) ha hb
theorem r_pow (ha : PEr X W a fa) (hb : PEr X W b fb) : PEr X W (.BinOp a .Pow b pos) (e2 (g2i iPow) fa fb) :=
  r_op op_pow (v2i fun i j d e => by unfold iPow at e; split at e <;> cases e; rename_i h; exact ⟨h, fun _ => .int⟩) ha hb
theorem r_shl (ha : PEr X W a fa) (hb : PEr X W b fb) : PEr X W (.BinOp a .LShift b pos) (e2 (g2i iShl) fa fb) :=
  r_op op_shl (v2i fun i j d e => by unfold iShl at e; split at e <;> cases e; rename_i h; exact ⟨h, fun _ => .int⟩) ha hb
theorem r_shr (ha : PEr X W a fa) (hb : PEr X W b fb) : PEr X W (.BinOp a .RShift b pos) (e2 (g2i iShr) fa fb) :=
  r_op op_shr (v2i fun i j d e => by unfold iShr at e; split at e <;> cases e; rename_i h; exact ⟨h, fun _ => .int⟩) ha hb
theorem r_and (ha : PEr X W a fa) (hb : PEr X W b fb) : PEr X W (.BinOp a .BitAnd b pos) (e2 (g2i fun i j => some (.int (Builtin.bitAnd i j))) fa fb) := r_op op_and (v2i0 fun _ _ _ => .int) ha hb
theorem r_or (ha : PEr X W a fa) (hb : PEr X W b fb) : PEr X W (.BinOp a .BitOr b pos) (e2 (g2i fun i j => some (.int (Builtin.bitOr i j))) fa fb) := r_op op_or (v2i0 fun _ _ _ => .int) ha hb
theorem r_xor (ha : PEr X W a fa) (hb : PEr X W b fb) : PEr X W (.BinOp a .BitXor b pos) (e2 (g2i fun i j => some (.int (Builtin.bitXor i j))) fa fb) := r_op op_xor (v2i0 fun _ _ _ => .int) ha hb
theorem c_lt : CmpOk X .Lt (g2i fun i j => some (iLt i j)) := ⟨_, op_lt, v2i0 fun _ _ _ => .bl⟩
theorem c_le : CmpOk X .LtE (g2i fun i j => some (iLe i j)) := ⟨_, op_le, v2i0 fun _ _ _ => .bl⟩
theorem c_gt : CmpOk X .Gt (g2i fun i j => some (iGt i j)) := ⟨_, op_gt, v2i0 fun _ _ _ => .bl⟩
theorem c_ge : CmpOk X .GtE (g2i fun i j => some (iGe i j)) := ⟨_, op_ge, v2i0 fun _ _ _ => .bl⟩
/-! ### + and * of any kind -/
def gAdd (p : RV × RV) : Option RV :=
  match p.1.od, p.2.od with
  | .fz (.int i), .fz (.int j) => some (.own (.fz (.int (i + j))))
  | .fz (.str x), .fz (.str y) => if x.length + y.length ≤ sizeLine then some (.own (.fz (.str (x ++ y)))) else none
  | o, u => match o.litems, u.litems with
    | some xs, some ys => if xs.length + ys.length ≤ sizeLine then some (.own (.lst ((xs ++ ys).map .fz))) else none
    | _, _ => match o.titems, u.titems with
      | some xs, some ys => if xs.length + ys.length ≤ sizeLine then some (.own (.fz (.tup (xs ++ ys)))) else none
      | _, _ => none
def gMul (p : RV × RV) : Option RV :=
  match p.1.od, p.2.od with
  | .fz (.int i), .fz (.int j) => if mulSafe i j then some (.own (.fz (.int (i * j)))) else none
  | o, .fz (.int k) => match o.litems with
    | some xs => if -(2 ^ 63) ≤ k ∧ k < 2 ^ 63 ∧ xs.length * k.toNat ≤ sizeLine then some (.own (.lst ((List.replicate k.toNat xs).flatten.map .fz))) else none
    | none => none
  | _, _ => none
theorem RepL.append {K : PySem.W.Frag} {B : Hp} {vs us : List V} {ds es : List D} (h : RepL K B vs ds) (h' : RepL K B us es) : RepL K B (vs ++ us) (ds ++ es) := by
  induction vs generalizing ds with
  | nil => cases h; exact h'
  | cons v vs ih => cases h with | cons r t => exact .cons r (ih t)
theorem RepL.rep {K : PySem.W.Frag} {B : Hp} {vs : List V} {ds : List D} (h : RepL K B vs ds) (n : Nat) : RepL K B (List.replicate n vs).flatten (List.replicate n ds).flatten := by
  induction n with
  | zero => exact .nil
  | succ n ih => simpa [List.replicate_succ] using h.append ih
theorem RepL.nil_iff {K : PySem.W.Frag} {B : Hp} {vs : List V} {ds : List D} (h : RepL K B vs ds) : vs = [] ↔ ds = [] := by
  have := h.length
  constructor <;> intro e <;> subst e <;> simp at this
  · exact List.eq_nil_of_length_eq_zero this.symm
  · exact this
theorem rv_tfz {K : PySem.W.Frag} {mg : Str → Option Value} {B H : Hp} {G : List Addr} {v : V} {r : RV} {ds : List D} (h : rvR K mg B H G v r) (e : r.od.titems = some ds) : Rep K B v (.tup ds) := by
  obtain ⟨G', z⟩ := rv_own h
  generalize r.od = o at z e
  cases z with
  | fz r => cases r with
    | tup k1 k2 => cases e; exact .tup k1 k2
    | _ => cases e
  | tup k1 k2 => exact .tup k1 (k2.rep e).2
  | _ => cases e
theorem v_add : VOk (rr X) (rvR X.K X.mg) (fun p H Q => ((rI0 (fun i j => V.int (i + j)) p.1 p.2 H Q ∨ (∃ i j, p.1 = .str i ∧ p.2 = .str j ∧ i.length + j.length ≤ sizeLine ∧ Q (.str (i ++ j)) H)) ∨ rCat p.1 p.2 H Q) ∨ rCatA X.K p.1 p.2 H Q) gAdd := by
  rintro B H G ⟨x, y⟩ ⟨r1, r2⟩ Q s ⟨G1, G2, _, h1, h2⟩ n q
  dsimp only [gAdd] at q h1 h2 ⊢
  split at q
  · rename_i i j e1 e2
    have z1 := rv_fz h1 e1
    have z2 := rv_fz h2 e2
    cases z1; cases z2
    exact .inl (.inl (.inl ⟨i, j, rfl, rfl, VPost.fz q s .int⟩))
  · rename_i i j e1 e2
    have z1 := rv_fz h1 e1
    have z2 := rv_fz h2 e2
    cases z1; cases z2
    split at q
    · rename_i hl
      exact .inl (.inl (.inr ⟨i, j, rfl, rfl, hl, VPost.fz q s .str⟩))
    · exact q.elim
  · split at q
    · rename_i xs ys e1 e2
      obtain ⟨p1, v1, rfl, a1, b1⟩ := rv_litems s h1 e1
      obtain ⟨p2, v2, rfl, a2, b2⟩ := rv_litems s h2 e2
      split at q
      · rename_i hl
        exact .inl (.inr ⟨p1, p2, v1, v2, rfl, rfl, a1, a2, by rw [b1.length, b2.length]; exact hl, fun p hp => VPost.lst q s (b1.append b2) hp⟩)
      · exact q.elim
    · split at q
      · rename_i xs ys e1 e2
        obtain ⟨p1, v1, rfl, a1, b1⟩ := rv_titems s h1 e1
        obtain ⟨p2, v2, rfl, a2, b2⟩ := rv_titems s h2 e2
        split at q
        · rename_i hl
          refine .inr ⟨p1, p2, v1, v2, rfl, rfl, a1, a2, by rw [b1.length, b2.length]; exact hl, fun e => ?_, fun _ e => ?_, fun _ _ p hp => VPost.tup q s (b1.append b2) hp⟩
          · have e' := (b1.nil_iff).mp e
            subst e'
            exact VPost.fz q s (rv_tfz h2 e2)
          · have e' := (b2.nil_iff).mp e
            subst e'
            rw [List.append_nil] at q
            exact VPost.fz q s (rv_tfz h1 e1)
        · exact q.elim
      · exact q.elim
theorem r_add (ha : PEr X W a fa) (hb : PEr X W b fb) : PEr X W (.BinOp a .Add b pos) (e2 gAdd fa fb) := r_op (((op_add.or op_add_str).or op_cat).or op_catA) v_add ha hb
theorem v_mul : VOk (rr X) (rvR X.K X.mg) (fun p H Q => ((rI CMul (fun i j => V.int (i * j)) p.1 p.2 H Q ∨ rI CMulW (fun i j => V.int (i * j)) p.1 p.2 H Q) ∨ rRep p.1 p.2 H Q)) gMul := by
  rintro B H G ⟨x, y⟩ ⟨r1, r2⟩ Q s ⟨G1, G2, _, h1, h2⟩ n q
  dsimp only [gMul] at q h1 h2 ⊢
  split at q
  · rename_i i j e1 e2
    have z1 := rv_fz h1 e1
    have z2 := rv_fz h2 e2
    cases z1; cases z2
    split at q
    · rename_i hm
      have q' := VPost.fz (v := .int (i * j)) q s .int
      rcases hm with hm | hm | hm
      · exact .inl (.inl ⟨i, j, rfl, rfl, .inl hm, q'⟩)
      · exact .inl (.inl ⟨i, j, rfl, rfl, .inr hm, q'⟩)
      · exact .inl (.inr ⟨i, j, rfl, rfl, hm, q'⟩)
    · exact q.elim
  · rename_i k e2 _
    have z2 := rv_fz h2 e2
    cases z2
    split at q
    · rename_i xs e1
      obtain ⟨p1, v1, rfl, a1, b1⟩ := rv_litems s h1 e1
      split at q
      · rename_i hl
        exact .inr ⟨p1, k, v1, rfl, rfl, a1, hl.1, hl.2.1, by rw [b1.length]; exact hl.2.2, fun p hp => VPost.lst q s (b1.rep _) hp⟩
      · exact q.elim
    · exact q.elim
  · exact q.elim
theorem r_mul (ha : PEr X W a fa) (hb : PEr X W b fb) : PEr X W (.BinOp a .Mult b pos) (e2 gMul fa fb) := r_op ((op_mul.or op_mulW).or op_rep) v_mul ha hb
def gNeg (r : RV) : Option RV := match r.od with
  | .fz (.int i) => some (.own (.fz (.int (-i))))
  | _ => none
theorem r_neg (ha : PEr X W a fa) : PEr X W (.UnaryOp .USub a pos) (e1 gNeg fa) := by
  obtain ⟨ta, ha, ka⟩ := ha
  refine ⟨_, pe_un un_neg ha, ka.map (r := rU fun i => V.int (-i)) fun B H G x r Q s h n q => ?_⟩
  dsimp only [gNeg] at q
  split at q
  · rename_i i e
    have z := rv_fz h e
    cases z
    exact ⟨i, rfl, VPost.fz q s .int⟩
  · exact q.elim
/-! ### is None -/
def gIsN (p : RV × RV) : Option RV := match p.1.od, p.2.od with
  | .fz .non, .fz .non => some (.b true)
  | .un, _ => none
  | _, .fz .non => some (.b false)
  | _, _ => none
def gNotN (p : RV × RV) : Option RV := match p.1.od, p.2.od with
  | .fz .non, .fz .non => some (.b false)
  | .un, _ => none
  | _, .fz .non => some (.b true)
  | _, _ => none
theorem rv_non {K : PySem.W.Frag} {mg : Str → Option Value} {B H : Hp} {G : List Addr} {v : V} {r : RV} (h : rvR K mg B H G v r) : r.od ≠ .fz .non → v ≠ .non := by
  obtain ⟨G', q⟩ := rv_own h
  generalize r.od = o at q
  intro n e
  subst e
  cases q with
  | fz r => cases r; exact n rfl
theorem c_isN : CmpOk X .Is gIsN := by
  refine ⟨_, op_isN, ?_⟩
  rintro B H G ⟨x, y⟩ ⟨r1, r2⟩ Q s ⟨G1, G2, _, h1, h2⟩ n q
  dsimp only [gIsN] at q h1 h2 ⊢
  split at q
  · rename_i e1 e2
    have z1 := rv_fz h1 e1
    have z2 := rv_fz h2 e2
    cases z1; cases z2
    exact ⟨rfl, VPost.fz q s .bl⟩
  · exact q.elim
  · rename_i e2 n2 n1
    have z2 := rv_fz h2 e2
    cases z2
    refine ⟨rfl, ?_⟩
    rw [decide_eq_false (rv_non h1 fun z => n2 z)]
    exact VPost.fz q s .bl
  · exact q.elim
theorem c_notN : CmpOk X .IsNot gNotN := by
  refine ⟨_, op_notN, ?_⟩
  rintro B H G ⟨x, y⟩ ⟨r1, r2⟩ Q s ⟨G1, G2, _, h1, h2⟩ n q
  dsimp only [gNotN] at q h1 h2 ⊢
  split at q
  · rename_i e1 e2
    have z1 := rv_fz h1 e1
    have z2 := rv_fz h2 e2
    cases z1; cases z2
    exact ⟨rfl, VPost.fz q s .bl⟩
  · exact q.elim
  · rename_i e2 n2 n1
    have z2 := rv_fz h2 e2
    cases z2
    refine ⟨rfl, ?_⟩
    rw [decide_eq_false (rv_non h1 fun z => n2 z)]
    exact VPost.fz q s .bl
  · exact q.elim
end
end Tl
namespace Tl
open PySem PySem.Spec L2

section
variable {X : Cx} {W : WX} {a b c e : Expr} {es : List Expr} {f fa fb fc : Env → O RV} {pos : Pos}

/-! ### displays -/
def owns : List RV → Option (List OD)
  | [] => some []
  | .own o :: r => match owns r with
    | some os => some (o :: os)
    | none => none
  | .view _ :: _ => none
@[simp] theorem owns_nil : owns [] = some [] := rfl
@[simp] theorem owns_cons {o : OD} {r : List RV} : owns (.own o :: r) = (owns r).map (o :: ·) := by
  show (match owns r with | some os => some (o :: os) | none => none) = _
  cases owns r <;> rfl
theorem lsR_owns {K : PySem.W.Frag} {mg : Str → Option Value} {B H : Hp} {G : List Addr} {vs : List V} {rs : List RV} {os : List OD} (h : lsR (rvR K mg) B H G vs rs) (e : owns rs = some os) : OwnL K mg B H G vs os := by
  induction h generalizing os with
  | nil => cases e; exact .nil
  | @cons F1 G1 x a xs as r _ ih =>
    cases a with
    | view o => cases e
    | own o =>
      rw [owns_cons] at e
      cases q : owns as with
      | none => rw [q] at e; cases e
      | some os' => rw [q] at e; cases e; exact .cons r (ih q)
theorem lsR_len {α β : Type} {R : Rl α β} {B H : Hp} {G : List Addr} {xs : List α} {as : List β} (h : lsR R B H G xs as) : xs.length = as.length := by
  induction h with
  | nil => rfl
  | cons _ _ ih => simp [ih]
def gLst (rs : List RV) : Option RV := if rs.length ≤ 1000 then (owns rs).map fun os => .own (.lst os) else none
def gTup (rs : List RV) : Option RV := if rs.length ≤ 1000 then (owns rs).map fun os => match fzs os with
  | some ds => .own (.fz (.tup ds))
  | none => .own (.tup os) else none
theorem small {n : Nat} (h : n ≤ 1000) : n ≤ sizeLine := Nat.le_trans h (by decide)
theorem VPost.list {K : PySem.W.Frag} {mg : Str → Option Value} {B H : Hp} {G : List Addr} {vs : List V} {os : List OD} {Q : VK} (q : VPost (rvR K mg) B H G Q (some (.own (.lst os)))) (s : Same B H) (r : OwnL K mg B H G vs os) (n : G.Nodup) {p : Addr} (hp : H p = none) : Q (.ref p) (upd H p (.lst vs)) := by
  have hb : B p = none := s.free hp
  have np : ∀ a ∈ G, a ≠ p := fun a m e => by
    obtain ⟨_, u, z⟩ := r.there a m
    rw [e, hp] at z; cases z
  refine q (.ref p) B _ (p :: G) (.lst upd_same hb (r.mono (Same.refl _) fun a m => ⟨fun u e => by rw [upd_ne (np a m)]; exact e, (r.there a m).1⟩)) (fun a u e => ?_) (List.nodup_cons.mpr ⟨fun m => np p m rfl, n⟩) ⟨Same.refl _, fun a u e _ => ?_, fun _ _ _ _ b => b, fun a m => ?_⟩
  · have := s a u e
    rw [upd_ne (ne_of_none this hp)]; exact this
  · rw [upd_ne (ne_of_none e hp)]; exact e
  · rcases List.mem_cons.mp m with e | m
    · subst e; exact .inr hp
    · exact .inl m
theorem VPost.tuple {K : PySem.W.Frag} {mg : Str → Option Value} {B H : Hp} {G : List Addr} {vs : List V} {os : List OD} {Q : VK} (q : VPost (rvR K mg) B H G Q (some (.own (.tup os)))) (s : Same B H) (r : OwnL K mg B H G vs os) (n : G.Nodup) {p : Addr} (hp : H p = none) : Q (.ref p) (upd H p (.tup vs)) := by
  have hb : B p = none := s.free hp
  have sb : Same B (upd B p (.tup vs)) := fun a u e => by rw [upd_ne (ne_of_none e hb)]; exact e
  have np : ∀ a ∈ G, a ≠ p := fun a m e => by
    obtain ⟨_, u, z⟩ := r.there a m
    rw [e, hp] at z; cases z
  refine q (.ref p) (upd B p (.tup vs)) _ G (.tup (.inl (.inl upd_same)) (r.mono sb fun a m => ⟨fun u e => by rw [upd_ne (np a m)]; exact e, by rw [upd_ne (np a m)]; exact (r.there a m).1⟩)) (fun a u e => ?_) n ⟨sb, fun a u e _ => ?_, fun a u e _ b => ?_, fun a m => .inl m⟩
  · by_cases h : a = p
    · subst h; rw [upd_same] at e ⊢; exact e
    · rw [upd_ne h] at e ⊢; exact s a u e
  · rw [upd_ne (ne_of_none e hp)]; exact e
  · rw [upd_ne (ne_of_none e hp)]; exact b
theorem r_lst {fr : Env → O (List RV)} (h : PAr X W es fr) : PEr X W (.List es pos) (eL gLst fr) := by
  obtain ⟨t, h, k⟩ := h
  refine ⟨_, pe_lst h, k.map (r := fun (xs : List V) (H : Hp) (Q : VK) => xs.length ≤ sizeLine ∧ ∀ p, H p = none → Q (V.ref p) (upd H p (.lst xs))) fun B H G xs rs Q s r n q => ?_⟩
  dsimp only [gLst] at q
  split at q
  · rename_i hl
    cases e : owns rs with
    | none => rw [e] at q; exact q.elim
    | some os =>
      rw [e] at q
      exact ⟨by rw [lsR_len r]; exact small hl, fun p hp => VPost.list q s (lsR_owns r e) n hp⟩
  · exact q.elim
theorem r_tup {x1} {fr : Env → O (List RV)} (h : PAr X W es fr) : PEr X W (.Tuple es x1 pos) (eL gTup fr) := by
  obtain ⟨t, h, k⟩ := h
  refine ⟨_, pe_tup h, k.map (r := fun (xs : List V) (H : Hp) (Q : VK) => xs.length ≤ sizeLine ∧ ∀ p, H p = none → Q (V.ref p) (upd H p (.tup xs))) fun B H G xs rs Q s r n q => ?_⟩
  dsimp only [gTup] at q
  split at q
  · rename_i hl
    cases e : owns rs with
    | none => rw [e] at q; exact q.elim
    | some os =>
      rw [e] at q
      refine ⟨by rw [lsR_len r]; exact small hl, fun p hp => ?_⟩
      have z := lsR_owns r e
      dsimp only [Option.map] at q
      cases e2 : fzs os with
      | none => rw [e2] at q; exact VPost.tuple q s z n hp
      | some ds =>
        rw [e2] at q
        obtain ⟨e3, z'⟩ := z.rep e2
        exact VPost.tup q s z' hp
  · exact q.elim

/-! ### subscripts -/
/-- a part of what one has: own where the whole is -/
def RV.part (r : RV) (o : OD) : RV := match o with
  | .fz d => .own (.fz d)
  | o => match r with
    | .own _ => .own o
    | .view _ => .view o
def gIx (p : RV × RV) : Option RV :=
  match p.1.od, p.2.od with
  | .fz (.str z), .fz (.int i) => if z.length ≤ sizeLine then (atI z.cps.toList i).map fun c => .own (.fz (.str ⟨#[c]⟩)) else none
  | .lst os, .fz (.int i) => (atI os i).map p.1.part
  | .tup os, .fz (.int i) => (atI os i).map p.1.part
  | .fz (.lst ds), .fz (.int i) => (atI ds i).map fun d => .own (.fz d)
  | .fz (.tup ds), .fz (.int i) => (atI ds i).map fun d => .own (.fz d)
  | .fz (.scr ds), .fz (.int i) => (atI ds i).map fun d => .own (.fz d)
  | _, _ => none
theorem atI_len {α β : Type} {xs : List α} {ys : List β} {i : Int} {y : β} (hl : xs.length = ys.length) (h : atI ys i = some y) : ∃ j, ixN xs.length i = some j ∧ ys[j]? = some y := by
  unfold atI at h
  rw [hl]
  cases e : ixN ys.length i with
  | none => rw [e] at h; cases h
  | some j => rw [e] at h; exact ⟨j, rfl, h⟩
theorem RepL.at {K : PySem.W.Frag} {B : Hp} {vs : List V} {ds : List D} {i : Int} {d : D} (r : RepL K B vs ds) (h : atI ds i = some d) : ∃ v, atI vs i = some v ∧ Rep K B v d := by
  obtain ⟨j, h1, h2⟩ := atI_len r.length h
  obtain ⟨v, h3, h4⟩ := r.get h2
  exact ⟨v, by unfold atI; rw [h1]; exact h3, h4⟩
theorem OwnL.at {K : PySem.W.Frag} {mg : Str → Option Value} {B H : Hp} {F : List Addr} {vs : List V} {os : List OD} {i : Int} {o : OD} (r : OwnL K mg B H F vs os) (h : atI os i = some o) :
    ∃ v G, atI vs i = some v ∧ Own K mg B H G v o ∧ (∀ a ∈ G, a ∈ F) ∧ (F.Nodup → G.Nodup) := by
  obtain ⟨j, h1, h2⟩ := atI_len r.length h
  obtain ⟨v, G, h3, h4⟩ := r.get h2
  exact ⟨v, G, by unfold atI; rw [h1]; exact h3, h4⟩
/-- a part of what one has, handed on -/
theorem VPost.part {K : PySem.W.Frag} {mg : Str → Option Value} {B H : Hp} {G : List Addr} {v v2 : V} {r : RV} {o : OD} {Q : VK} (q : VPost (rvR K mg) B H G Q (some (r.part o))) (s : Same B H) (n : G.Nodup)
    (hr : rvR K mg B H G v r) (ho : ∀ F, Own K mg B H F v r.od → ∃ G2, Own K mg B H G2 v2 o ∧ (∀ a ∈ G2, a ∈ F) ∧ (F.Nodup → G2.Nodup)) : Q v2 H := by
  cases r with
  | own w =>
    obtain ⟨G2, h1, h2, h3⟩ := ho G hr
    have e : RV.part (.own w) o = .own o := by cases o <;> rfl
    rw [e] at q
    exact q v2 B H G2 h1 s (h3 n) ⟨Same.refl _, fun _ _ h _ => h, fun _ _ _ _ b => b, fun a m => .inl (h2 a m)⟩
  | view w =>
    obtain ⟨e, G', hr⟩ := hr
    subst e
    obtain ⟨G2, h1, h2, h3⟩ := ho G' hr
    cases o with
    | fz d => cases h1 with | fz z => exact VPost.fz q s z
    | _ => exact q v2 B H [] ⟨rfl, G2, h1⟩ s List.nodup_nil Frm.refl
theorem v_ix : VOk (rr X) (rvR X.K X.mg) (fun p H Q => rIx X.K p.1 p.2 H Q) gIx := by
  rintro B H G ⟨x, y⟩ ⟨r1, r2⟩ Q s ⟨G1, G2, eG, h1, h2⟩ n q
  have q0 : ∀ o, VPost (rvR X.K X.mg) B H G Q (some (r1.part o)) → VPost (rvR X.K X.mg) B H G1 Q (some (r1.part o)) := fun o z v B' H' G' a b c d =>
    z v B' H' G' a b c (d.wide (fun a m => by rw [eG]; exact List.mem_append_left _ m) fun a m => .inl m)
  have n1 : G1.Nodup := by rw [eG] at n; exact (List.nodup_append.mp n).1
  dsimp only [gIx] at q h1 h2 ⊢
  split at q
  · rename_i z i e1 e2
    have z1 := rv_fz h1 e1
    have z2 := rv_fz h2 e2
    cases z1; cases z2
    split at q
    · rename_i hl
      cases e : atI z.cps.toList i with
      | none => rw [e] at q; exact q.elim
      | some c => rw [e] at q; exact .inr (.inr ⟨z, i, c, rfl, rfl, hl, e, VPost.fz q s .str⟩)
    · exact q.elim
  · rename_i os i e1 e2
    have z2 := rv_fz h2 e2
    cases z2
    cases e : atI os i with
    | none => rw [e] at q; exact q.elim
    | some o =>
      rw [e] at q
      obtain ⟨G', k⟩ := rv_own h1
      rw [e1] at k
      cases k with
      | @lst p vs F' _ hp hb hr =>
        obtain ⟨v2, G2, a1, _⟩ := hr.at e
        refine .inl ⟨p, vs, i, v2, rfl, rfl, SqL.of hp, a1, VPost.part (q0 o q) s n1 h1 fun F k2 => ?_⟩
        rw [e1] at k2
        cases k2 with
        | lst hp2 hb2 hr2 =>
          rw [hp] at hp2; cases hp2
          obtain ⟨v3, G3, b1, b2, b3, b4⟩ := hr2.at e
          rw [a1] at b1; cases b1
          exact ⟨G3, b2, fun a m => List.mem_cons_of_mem _ (b3 a m), fun nd => b4 (List.nodup_cons.mp nd).2⟩
  · rename_i os i e1 e2
    have z2 := rv_fz h2 e2
    cases z2
    cases e : atI os i with
    | none => rw [e] at q; exact q.elim
    | some o =>
      rw [e] at q
      cases r1 with
      | own w =>
        dsimp only [RV.od] at e1
        subst e1
        cases h1 with
        | @tup p vs _ _ hp hr =>
          obtain ⟨v2, G2, a1, b2, b3, b4⟩ := hr.at e
          have ee : RV.part (.own (.tup os)) o = .own o := by cases o <;> rfl
          dsimp only [Option.map] at q
          rw [ee] at q
          refine .inr (.inl ⟨p, vs, i, v2, rfl, rfl, Same.seqT s hp, a1, q v2 B H G2 b2 s (b4 n1) ⟨Same.refl _, fun _ _ h _ => h, fun _ _ _ _ b => b, fun a m => .inl (by rw [eG]; exact List.mem_append_left _ (b3 a m))⟩⟩)
      | view w =>
        dsimp only [RV.od] at e1
        subst e1
        obtain ⟨eg, G', k⟩ := h1
        cases k with
        | @tup p vs _ _ hp hr =>
          obtain ⟨v2, G2, a1, b2, b3, b4⟩ := hr.at e
          refine .inr (.inl ⟨p, vs, i, v2, rfl, rfl, Same.seqT s hp, a1, ?_⟩)
          cases o with
          | fz d => cases b2 with | fz z => exact VPost.fz q s z
          | _ => exact q v2 B H [] ⟨rfl, G2, b2⟩ s List.nodup_nil Frm.none
  · rename_i ds i e1 e2
    have z1 := rv_fz h1 e1
    have z2 := rv_fz h2 e2
    cases z2
    cases e : atI ds i with
    | none => rw [e] at q; exact q.elim
    | some d =>
      rw [e] at q
      cases z1 with
      | @lst p vs _ hp hr =>
        obtain ⟨v2, a1, a2⟩ := hr.at e
        exact .inl ⟨p, vs, i, v2, rfl, rfl, SqL.of (s _ _ hp), a1, VPost.fz q s a2⟩
  · rename_i ds i e1 e2
    have z1 := rv_fz h1 e1
    have z2 := rv_fz h2 e2
    cases z2
    cases e : atI ds i with
    | none => rw [e] at q; exact q.elim
    | some d =>
      rw [e] at q
      cases z1 with
      | @tup p vs _ hp hr =>
        obtain ⟨v2, a1, a2⟩ := hr.at e
        exact .inr (.inl ⟨p, vs, i, v2, rfl, rfl, Same.seqT s hp, a1, VPost.fz q s a2⟩)
  · rename_i ds i e1 e2
    have z1 := rv_fz h1 e1
    have z2 := rv_fz h2 e2
    cases z2
    cases e : atI ds i with
    | none => rw [e] at q; exact q.elim
    | some d =>
      rw [e] at q
      cases z1 with
      | @scr p vs _ hp hr =>
        obtain ⟨v2, a1, a2⟩ := hr.at e
        exact .inl ⟨p, vs, i, v2, rfl, rfl, s.seq hp, a1, VPost.fz q s a2⟩
  · exact q.elim
theorem r_ix (ha : PEr X W a fa) (hb : PEr X W b fb) (hs : PlainIx b := by exact fun _ _ => rfl) : PEr X W (.Subscript a b pos) (e2 gIx fa fb) := by
  obtain ⟨ta, ha, ka⟩ := ha
  obtain ⟨tb, hb, kb⟩ := hb
  exact ⟨_, pe_ix ix_seq ha hb hs, ka.two kb v_ix⟩
end
end Tl
namespace Tl
open PySem PySem.Spec L2

/-! ### truth -/
def OD.tru : OD → Option Bool
  | .fz .non => some false
  | .fz (.bl b) => some b
  | .fz (.int i) => some (i != 0)
  | .fz (.str y) => if y.length ≤ sizeLine then some ((y.length : Int) != 0) else none
  | .fz (.lst ds) => some (!ds.isEmpty)
  | .fz (.scr ds) => some (!ds.isEmpty)
  | .fz (.tup ds) => some (!ds.isEmpty)
  | .lst os => some (!os.isEmpty)
  | .tup os => some (!os.isEmpty)
  | _ => none
def RV.bool? (r : RV) : Option Bool := match r.od with
  | .fz (.bl b) => some b
  | _ => none
def vbR : Rl V Bool := fun _ _ G v b => G = [] ∧ v = .bl b
theorem stb_vb : Stb vbR (fun _ => true) where
  there := fun B H G x a h => by obtain ⟨rfl, _⟩ := h; exact fun _ z => nomatch z
  keep := fun _ _ _ _ _ _ _ _ _ h _ _ _ => h

section
variable {X : Cx} {W : WX} {a b c e : Expr} {es rest : List Expr} {f fa fb fc : Env → O RV} {pos : Pos}
theorem isEmpty_eq {α β : Type} {xs : List α} {ys : List β} (h : xs.length = ys.length) : xs.isEmpty = ys.isEmpty := by
  cases xs <;> cases ys <;> first | rfl | simp at h
theorem rv_tru {K : PySem.W.Frag} {mg : Str → Option Value} {B H : Hp} {G : List Addr} {v : V} {r : RV} {k : Bool} (s : Same B H) (h : rvR K mg B H G v r) (e : r.od.tru = some k) : TruV K v H k := by
  obtain ⟨G', z⟩ := rv_own h
  generalize r.od = o at z e
  cases z with
  | fz r => cases r with
    | non => cases e; rfl
    | bl => cases e; rfl
    | int => cases e; rfl
    | str =>
      dsimp only [OD.tru] at e
      split at e
      · cases e; rename_i hl; exact ⟨hl, rfl⟩
      · cases e
    | tup k1 k2 => cases e; exact .inr (.inl ⟨_, Same.seqT s k1, by rw [isEmpty_eq k2.length]⟩)
    | lst k1 k2 => cases e; exact .inl ⟨_, SqL.of (s _ _ k1), by rw [isEmpty_eq k2.length]⟩
    | scr k1 k2 => cases e; exact .inl ⟨_, s.seq k1, by rw [isEmpty_eq k2.length]⟩
    | _ => cases e
  | lst k1 _ k2 => cases e; exact .inl ⟨_, SqL.of k1, by rw [isEmpty_eq k2.length]⟩
  | tup k1 k2 => cases e; exact .inr (.inl ⟨_, Same.seqT s k1, by rw [isEmpty_eq k2.length]⟩)
  | _ => cases e
theorem rv_bool {K : PySem.W.Frag} {mg : Str → Option Value} {B H : Hp} {G : List Addr} {v : V} {r : RV} {k : Bool} (h : rvR K mg B H G v r) (e : r.bool? = some k) : v = .bl k := by
  unfold RV.bool? at e
  split at e
  · rename_i b e2
    cases e
    have z := rv_fz h e2
    cases z; rfl
  · cases e

/-- what is wanted behind a step that gives a bool -/
theorem VPost.bo {B H : Hp} {G : List Addr} {b : Bool} {Q : Bool → Hp → Prop} (q : VPost boR B H G Q (some b)) (s : Same B H) : Q b H :=
  q b B H [] ⟨rfl, rfl⟩ s List.nodup_nil Frm.none
theorem VPost.vb {B H : Hp} {G : List Addr} {b : Bool} {Q : V → Hp → Prop} (q : VPost vbR B H G Q (some b)) (s : Same B H) : Q (.bl b) H :=
  q (.bl b) B H [] ⟨rfl, rfl⟩ s List.nodup_nil Frm.none

def tV (g : RV → Option Bool) (f : Env → O RV) : Env → O Bool := fun env => (f env).mapP g
/-- a plain expression as a test -/
theorem t_val (h : PEr X W e f) (he : ∀ whole, isTrue e X.env whole = (do let v ← whole; standAt e.pos; holding [v] (truthy v)) := by intro _; rfl) : PTr X W e (tV (fun r => r.od.tru) f) := by
  obtain ⟨t, h, k⟩ := h
  refine ⟨_, pt_truth h he, k.map (r := fun (x : V) (H : Hp) (Q : Bool → Hp → Prop) => ∃ k, TruV X.K x H k ∧ Q k H) fun B H G x r Q s h n q => ?_⟩
  cases e : r.od.tru with
  | none => rw [e] at q; exact q.elim
  | some k => rw [e] at q; exact ⟨k, rv_tru s h e, VPost.bo q s⟩
theorem t_c {op : CmpOp} {g : RV × RV → Option RV} (h : CmpOk X op g) (ha : PEr X W a fa) (hb : PEr X W b fb) (hm : behindInMarks op b = false := by first | exact nomark _ | with_unfolding_all rfl) :
    PTr X W (.Compare a [op] [b] pos) (tV RV.bool? (e2 g fa fb)) := by
  obtain ⟨r, ho, v⟩ := h
  obtain ⟨ta, ha, ka⟩ := ha
  obtain ⟨tb, hb, kb⟩ := hb
  refine ⟨_, pt_cmpR ho ha hb hm, (ka.two kb v).map (r := fun (x : V) (H : Hp) (Q : Bool → Hp → Prop) => ∃ k, x = .bl k ∧ Q k H) fun B H G x r Q s h n q => ?_⟩
  cases e : r.bool? with
  | none => rw [e] at q; exact q.elim
  | some k => rw [e] at q; exact ⟨k, rv_bool h e, VPost.bo q s⟩
/-! ### and, or, not -/
def bNot (f : Env → O Bool) : Env → O Bool := fun env => (f env).mapP fun b => some (!b)
def bAnd (f g : Env → O Bool) : Env → O Bool := fun env => (f env).andThen (fun _ => true) env (fun b e => if b = true then g e else .ok false) (fun _ c => c)
def bOr (f g : Env → O Bool) : Env → O Bool := fun env => (f env).andThen (fun _ => true) env (fun b e => if b = true then .ok true else g e) (fun _ c => c)
theorem t_not {f : Env → O Bool} (ha : PTr X W a f) : PTr X W (.UnaryOp .Not a pos) (bNot f) := by
  obtain ⟨ta, ha, ka⟩ := ha
  exact ⟨_, pt_not ha, ka.map (r := fun (x : Bool) (H : Hp) (Q : Bool → Hp → Prop) => Q (!x) H) fun B H G x b Q s h n q => by obtain ⟨_, rfl⟩ := h; exact VPost.bo q s⟩
theorem EOk.konst {α β : Type} {R : Rl α β} {x : α} {b : β} (h : ∀ B H, R B H [] x b) : EOk X W R (fun σ H Q => Q x H) (fun _ => .ok b) :=
  fun B H F σ env Q S q => q x B H [] (h B H) S.sub List.nodup_nil Frm.none
theorem EOk.ite {α β : Type} {R : Rl α β} {t u : TX α} {f g : Env → O β} {b : Bool} (h1 : EOk X W R t f) (h2 : EOk X W R u g) : EOk X W R (fun σ H Q => if b = true then t σ H Q else u σ H Q) (fun env => if b = true then f env else g env) := by
  intro B H F σ env Q S q
  cases b with
  | true => exact h1 B H F σ env Q S q
  | false => exact h2 B H F σ env Q S q
theorem EOk.and {t u : TT} {f g : Env → O Bool} (h1 : EOk X W boR t f) (h2 : EOk X W boR u g) : EOk X W boR (tAnd t u) (bAnd f g) := by
  refine EOk.andThen (R'' := boR) (jx := fun _ c => c) (jb := fun _ c => c) (u := fun b σ H Q => if b = true then u σ H Q else Q false H) stb_bo stb_bo (fun B H G1 G2 x y a b h h' => ⟨by rw [h.1, h'.1]; rfl, h'.2⟩) h1 fun x a hx => ?_
  obtain ⟨_, _, _, _, e⟩ := hx
  subst e
  exact EOk.ite h2 (EOk.konst fun _ _ => ⟨rfl, rfl⟩)
theorem EOk.or {t u : TT} {f g : Env → O Bool} (h1 : EOk X W boR t f) (h2 : EOk X W boR u g) : EOk X W boR (tOr t u) (bOr f g) := by
  refine EOk.andThen (R'' := boR) (jx := fun _ c => c) (jb := fun _ c => c) (u := fun b σ H Q => if b = true then Q true H else u σ H Q) stb_bo stb_bo (fun B H G1 G2 x y a b h h' => ⟨by rw [h.1, h'.1]; rfl, h'.2⟩) h1 fun x a hx => ?_
  obtain ⟨_, _, _, _, e⟩ := hx
  subst e
  exact EOk.ite (EOk.konst fun _ _ => ⟨rfl, rfl⟩) h2
theorem w_and1 {f : Env → O Bool} (ha : PTr X W a f) : PWr X W (.BoolOp .And [a] pos) f := by
  obtain ⟨ta, ha, ka⟩ := ha
  exact ⟨_, pw_and1 ha, ka⟩
theorem w_or1 {f : Env → O Bool} (ha : PTr X W a f) : PWr X W (.BoolOp .Or [a] pos) f := by
  obtain ⟨ta, ha, ka⟩ := ha
  exact ⟨_, pw_or1 ha, ka⟩
theorem w_and {f g : Env → O Bool} (ha : PTr X W a f) (hb : PWr X W (.BoolOp .And (b :: rest) pos) g) : PWr X W (.BoolOp .And (a :: b :: rest) pos) (bAnd f g) := by
  obtain ⟨ta, ha, ka⟩ := ha
  obtain ⟨tb, hb, kb⟩ := hb
  exact ⟨_, pw_and ha hb, ka.and kb⟩
theorem w_or {f g : Env → O Bool} (ha : PTr X W a f) (hb : PWr X W (.BoolOp .Or (b :: rest) pos) g) : PWr X W (.BoolOp .Or (a :: b :: rest) pos) (bOr f g) := by
  obtain ⟨ta, ha, ka⟩ := ha
  obtain ⟨tb, hb, kb⟩ := hb
  exact ⟨_, pw_or ha hb, ka.or kb⟩
theorem t_w {f : Env → O Bool} (h : PWr X W e f) : PTr X W e f := by
  obtain ⟨t, h, k⟩ := h
  exact ⟨t, h.pt, k⟩
/-- as values: of bools -/
def eB (f : Env → O Bool) : Env → O RV := fun env => (f env).mapP fun b => some (.own (.fz (.bl b)))
def eAnd (f g : Env → O RV) : Env → O RV := fun env => ((f env).mapP RV.bool?).andThen (fun _ => true) env (fun b e => if b = true then g e else .ok (.own (.fz (.bl false)))) (fun _ c => c)
def eOr (f g : Env → O RV) : Env → O RV := fun env => ((f env).mapP RV.bool?).andThen (fun _ => true) env (fun b e => if b = true then .ok (.own (.fz (.bl true))) else g e) (fun _ c => c)
theorem EOk.vb {t : TE} {f : Env → O RV} (h : EOk X W (rvR X.K X.mg) t f) : EOk X W vbR t (fun env => (f env).mapP RV.bool?) := by
  refine h.map (r := fun (x : V) (H : Hp) (Q : VK) => Q x H) fun B H G x r Q s h n q => ?_
  cases e : r.bool? with
  | none => rw [e] at q; exact q.elim
  | some k => rw [e] at q; rw [rv_bool h e]; exact VPost.vb q s
theorem r_one {op} (h : PEr X W a f) : PEr X W (.BoolOp op [a] pos) f := by
  obtain ⟨t, h, k⟩ := h
  exact ⟨_, pe_one h, k⟩
theorem r_land (ha : PEr X W a fa) (hb : PEr X W (.BoolOp .And (b :: rest) pos) fb) : PEr X W (.BoolOp .And (a :: b :: rest) pos) (eAnd fa fb) := by
  obtain ⟨ta, ha, ka⟩ := ha
  obtain ⟨tb, hb, kb⟩ := hb
  refine ⟨_, pe_andT ha hb, EOk.andThen (R'' := rvR X.K X.mg) (jx := fun _ c => c) (jb := fun _ c => c) (u := fun x σ H Q => ∃ k, TruV X.K x H k ∧ if k = true then tb σ H Q else Q x H) stb_vb stb_rv (fun B H G1 G2 x y a b h h' => by rw [h.1]; exact h') ka.vb fun x k hx => ?_⟩
  obtain ⟨_, _, _, _, e⟩ := hx
  subst e
  intro B H F σ env Q S q
  refine ⟨k, rfl, ?_⟩
  cases k with
  | true => exact kb B H F σ env Q S q
  | false => exact q (.bl false) B H [] (.fz .bl) S.sub List.nodup_nil Frm.none
theorem r_lor (ha : PEr X W a fa) (hb : PEr X W (.BoolOp .Or (b :: rest) pos) fb) : PEr X W (.BoolOp .Or (a :: b :: rest) pos) (eOr fa fb) := by
  obtain ⟨ta, ha, ka⟩ := ha
  obtain ⟨tb, hb, kb⟩ := hb
  refine ⟨_, pe_orT ha hb, EOk.andThen (R'' := rvR X.K X.mg) (jx := fun _ c => c) (jb := fun _ c => c) (u := fun x σ H Q => ∃ k, TruV X.K x H k ∧ if k = true then Q x H else tb σ H Q) stb_vb stb_rv (fun B H G1 G2 x y a b h h' => by rw [h.1]; exact h') ka.vb fun x k hx => ?_⟩
  obtain ⟨_, _, _, _, e⟩ := hx
  subst e
  intro B H F σ env Q S q
  refine ⟨k, rfl, ?_⟩
  cases k with
  | false => exact kb B H F σ env Q S q
  | true => exact q (.bl true) B H [] (.fz .bl) S.sub List.nodup_nil Frm.none
theorem r_not (ha : PEr X W a fa) : PEr X W (.UnaryOp .Not a pos) (eB (bNot (tV (fun r => r.od.tru) fa))) := by
  obtain ⟨ta, ha, ka⟩ := ha
  have k1 : EOk X W boR (fun σ H Q => ta σ H fun x H1 => ∃ k, TruV X.K x H1 k ∧ Q k H1) (tV (fun r => r.od.tru) fa) := ka.map (r := fun (x : V) (H : Hp) (Q : Bool → Hp → Prop) => ∃ k, TruV X.K x H k ∧ Q k H) fun B H G x r Q s h n q => by
    cases e : r.od.tru with
    | none => rw [e] at q; exact q.elim
    | some k => rw [e] at q; exact ⟨k, rv_tru s h e, VPost.bo q s⟩
  have k2 : EOk X W boR (fun σ H Q => ta σ H fun x H1 => ∃ k, TruV X.K x H1 k ∧ Q (!k) H1) (bNot (tV (fun r => r.od.tru) fa)) := k1.map (r := fun (x : Bool) (H : Hp) (Q : Bool → Hp → Prop) => Q (!x) H) fun B H G x b Q s h n q => by obtain ⟨_, rfl⟩ := h; exact VPost.bo q s
  exact ⟨_, pe_notT ha, k2.map (r := fun (x : Bool) (H : Hp) (Q : VK) => Q (.bl x) H) fun B H G x b Q s h n q => by obtain ⟨_, rfl⟩ := h; exact VPost.fz q s .bl⟩
/-- a test's outcome as a value (not, comparisons): where the value of a test-like expression is wanted -/
def bIf {β : Type} (c : Env → O Bool) (f g : Env → O β) : Env → O β := fun env => (c env).andThen (fun _ => true) env (fun b e => if b = true then f e else g e) (fun _ d => d)
theorem r_ifx {fc : Env → O Bool} (hc : PTr X W c fc) (ha : PEr X W a fa) (hb : PEr X W b fb) : PEr X W (.IfExp c a b pos) (bIf fc fa fb) := by
  obtain ⟨tc, hc, kc⟩ := hc
  obtain ⟨ta, ha, ka⟩ := ha
  obtain ⟨tb, hb, kb⟩ := hb
  refine ⟨_, pe_ifExp hc ha hb, EOk.andThen (R'' := rvR X.K X.mg) (jx := fun _ c => c) (jb := fun _ c => c) (u := fun b σ H Q => if b = true then ta σ H Q else tb σ H Q) stb_bo stb_rv (fun B H G1 G2 x y a b h h' => by rw [h.1]; exact h') kc fun x k hx => ?_⟩
  obtain ⟨_, _, _, _, e⟩ := hx
  subst e
  exact EOk.ite ka kb
/-! ### a op b op c, b an int -/
def ch1 (g : RV × RV → Option RV) (p : RV × RV) : Option (Bool × Int) :=
  match p.2.od with
  | .fz (.int j) => match g p with
    | some r => match r.bool? with
      | some k => some (k, j)
      | none => none
    | none => none
  | _ => none
def e3c (g g' : RV × RV → Option RV) (fa fb fc : Env → O RV) : Env → O RV := fun env =>
  (((fa env).andThen RV.safe env (fun _ e => fb e) Prod.mk).mapP (ch1 g)).andThen (fun _ => true) env (fun p e => if p.1 = true then (fc e).mapP (fun r => g' (.own (.fz (.int p.2)), r)) else .ok (.own (.fz (.bl false)))) (fun _ c => c)
def chR : Rl (V × V) (Bool × Int) := fun _ _ G v p => G = [] ∧ v = (.bl p.1, .int p.2)
theorem stb_ch : Stb chR (fun _ => true) where
  there := fun B H G x a h => by obtain ⟨rfl, _⟩ := h; exact fun _ z => nomatch z
  keep := fun _ _ _ _ _ _ _ _ _ h _ _ _ => h
theorem VPost.none_elim {β γ : Type} {R' : Rl γ β} {B H : Hp} {G : List Addr} {Q : γ → Hp → Prop} (q : VPost R' B H G Q none) : False := q
theorem EOk.chain {r r' : R2} {g g' : RV × RV → Option RV} {ta tb tc : TE} (v : VOk (prR (rvR X.K X.mg) (rvR X.K X.mg)) (rvR X.K X.mg) (fun p => r p.1 p.2) g) (v' : VOk (prR (rvR X.K X.mg) (rvR X.K X.mg)) (rvR X.K X.mg) (fun p => r' p.1 p.2) g')
    (ka : EOk X W (rvR X.K X.mg) ta fa) (kb : EOk X W (rvR X.K X.mg) tb fb) (kc : EOk X W (rvR X.K X.mg) tc fc) : EOk X W (rvR X.K X.mg) (tChain r r' ta tb tc) (e3c g g' fa fb fc) := by
  have k1 : EOk X W (prR (rvR X.K X.mg) (rvR X.K X.mg)) (fun σ H Q => ta σ H fun x H1 => tb σ H1 fun y H2 => Q (x, y) H2) (fun env => (fa env).andThen RV.safe env (fun _ e => fb e) Prod.mk) :=
    EOk.andThen (jx := Prod.mk) (jb := Prod.mk) (R'' := prR (rvR X.K X.mg) (rvR X.K X.mg)) (u := fun _ => tb) stb_rv stb_rv (fun _ _ G1 G2 _ _ _ _ a b => ⟨G1, G2, rfl, a, b⟩) ka fun _ _ _ => kb
  have k2 : EOk X W chR (fun σ H Q => ta σ H fun x H1 => tb σ H1 fun y H2 => r x y H2 fun z H3 => Q (z, y) H3) (fun env => ((fa env).andThen RV.safe env (fun _ e => fb e) Prod.mk).mapP (ch1 g)) :=
    k1.map (R' := chR) (r := fun (p : V × V) (H : Hp) (Q : V × V → Hp → Prop) => r p.1 p.2 H fun z H3 => Q (z, p.2) H3) fun B H G x p Q s h n q => by
      refine v B H G x p _ s h n ?_
      obtain ⟨G1, G2, _, h1, h2⟩ := h
      dsimp only [ch1] at q
      split at q
      · rename_i j e2
        have z2 := rv_fz h2 e2
        cases e : g p with
        | none => rw [e] at q; exact q.elim
        | some w =>
          rw [e] at q
          dsimp only at q
          cases e3 : w.bool? with
          | none => rw [e3] at q; exact q.elim
          | some k =>
            rw [e3] at q
            intro y B' H' G' r1 s1 n1 f1
            rw [rv_bool r1 e3]
            generalize x.2 = x2 at z2
            cases z2
            exact q (.bl k, .int j) B' H' [] ⟨rfl, rfl⟩ s1 List.nodup_nil (f1.trans Frm.none)
      · exact q.elim
  refine EOk.andThen (R'' := rvR X.K X.mg) (jx := fun _ c => c) (jb := fun _ c => c) (u := fun z σ H Q => ∃ k, z.1 = .bl k ∧ if k = true then tc σ H fun w' H4 => r' z.2 w' H4 Q else Q (.bl false) H) stb_ch stb_rv (fun B H G1 G2 x y a b h h' => by rw [h.1]; exact h') k2 fun x p hx => ?_
  obtain ⟨_, _, _, _, e⟩ := hx
  subst e
  obtain ⟨k, j⟩ := p
  intro B H F σ env Q S q
  refine ⟨k, rfl, ?_⟩
  cases k with
  | false => exact q (.bl false) B H [] (.fz .bl) S.sub List.nodup_nil Frm.none
  | true =>
    refine (kc.map (R' := rvR X.K X.mg) (r := fun (w : V) (H : Hp) (Q : VK) => r' (.int j) w H Q) (g := fun r => g' (.own (.fz (.int j)), r)) fun B H G w a Q s h n q => ?_) B H F σ env Q S q
    exact v' B H G (.int j, w) (.own (.fz (.int j)), a) Q s ⟨[], G, rfl, .fz .int, h⟩ n q
theorem r_chain {op op' : CmpOp} {g g' : RV × RV → Option RV} (h : CmpOk X op g) (h' : CmpOk X op' g') (ha : PEr X W a fa) (hb : PEr X W b fb) (hc : PEr X W c fc) (hm : lastMarks [op, op'] [b, c] = false := by with_unfolding_all rfl) :
    PEr X W (.Compare a [op, op'] [b, c] pos) (e3c g g' fa fb fc) := by
  obtain ⟨r, ho, v⟩ := h
  obtain ⟨r', ho', v'⟩ := h'
  obtain ⟨ta, ha, ka⟩ := ha
  obtain ⟨tb, hb, kb⟩ := hb
  obtain ⟨tc, hc, kc⟩ := hc
  exact ⟨_, pe_chain ho ho' ha hb hc hm, EOk.chain v v' ka kb kc⟩
theorem t_chain {op op' : CmpOp} {g g' : RV × RV → Option RV} (h : CmpOk X op g) (h' : CmpOk X op' g') (ha : PEr X W a fa) (hb : PEr X W b fb) (hc : PEr X W c fc) (hm : lastMarks [op, op'] [b, c] = false := by with_unfolding_all rfl) :
    PTr X W (.Compare a [op, op'] [b, c] pos) (tV RV.bool? (e3c g g' fa fb fc)) := by
  obtain ⟨r, ho, v⟩ := h
  obtain ⟨r', ho', v'⟩ := h'
  obtain ⟨ta, ha, ka⟩ := ha
  obtain ⟨tb, hb, kb⟩ := hb
  obtain ⟨tc, hc, kc⟩ := hc
  refine ⟨_, pt_chain ho ho' ha hb hc hm, (EOk.chain v v' ka kb kc).map (r := fun (x : V) (H : Hp) (Q : Bool → Hp → Prop) => ∃ k, x = .bl k ∧ Q k H) fun B H G x r Q s h n q => ?_⟩
  cases e : r.bool? with
  | none => rw [e] at q; exact q.elim
  | some k => rw [e] at q; exact ⟨k, rv_bool h e, VPost.bo q s⟩
end
end Tl
namespace Tl
open PySem PySem.Spec L2

/-! ### owned data taken as plain -/
mutual
def frz : OD → Option D
  | .un => none
  | .fz d => some d
  | .lst os => (frzL os).map .lst
  | .tup os => (frzL os).map .tup
  | .dK kvs => (frzK kvs).map .dK
  | .dT kvs => (frzT kvs).map .dT
  | .ins _ _ => none
  | .exc _ => none
def frzL : List OD → Option (List D)
  | [] => some []
  | o :: os => match frz o, frzL os with
    | some d, some ds => some (d :: ds)
    | _, _ => none
def frzK : List (Key × OD) → Option (List (Key × D))
  | [] => some []
  | (k, o) :: os => match frz o, frzK os with
    | some d, some ds => some ((k, d) :: ds)
    | _, _ => none
def frzT : List (List Key × OD) → Option (List (List Key × D))
  | [] => some []
  | (k, o) :: os => match frz o, frzT os with
    | some d, some ds => some ((k, d) :: ds)
    | _, _ => none
end
theorem frzK_keys : ∀ {kvs : List (Key × OD)} {ds}, frzK kvs = some ds → kvs.map (·.1) = ds.map (·.1) ∧ frzL (kvs.map (·.2)) = some (ds.map (·.2))
  | [], ds, e => by cases e; exact ⟨rfl, rfl⟩
  | (k, o) :: os, ds, e => by
    unfold frzK at e
    split at e
    · rename_i d ds' e1 e2
      cases e
      obtain ⟨h1, h2⟩ := frzK_keys e2
      refine ⟨by simp [h1], ?_⟩
      show frzL (o :: os.map (·.2)) = _
      unfold frzL
      rw [e1, h2]
      rfl
    · cases e
theorem frzT_keys : ∀ {kvs : List (List Key × OD)} {ds}, frzT kvs = some ds → kvs.map (·.1) = ds.map (·.1) ∧ frzL (kvs.map (·.2)) = some (ds.map (·.2))
  | [], ds, e => by cases e; exact ⟨rfl, rfl⟩
  | (k, o) :: os, ds, e => by
    unfold frzT at e
    split at e
    · rename_i d ds' e1 e2
      cases e
      obtain ⟨h1, h2⟩ := frzT_keys e2
      refine ⟨by simp [h1], ?_⟩
      show frzL (o :: os.map (·.2)) = _
      unfold frzL
      rw [e1, h2]
      rfl
    · cases e
@[simp] theorem frzL_nil : frzL [] = some [] := by unfold frzL; rfl
@[simp] theorem frzL_cons {o : OD} {os : List OD} : frzL (o :: os) = (frz o).bind fun d => (frzL os).map fun ds => d :: ds := by
  rw [frzL]
  cases frz o <;> cases frzL os <;> rfl
@[simp] theorem frz_fz {d : D} : frz (.fz d) = some d := by unfold frz; rfl
@[simp] theorem frz_lst {os : List OD} : frz (.lst os) = (frzL os).map .lst := by rw [frz]
@[simp] theorem frz_tup {os : List OD} : frz (.tup os) = (frzL os).map .tup := by rw [frz]
@[simp] theorem frzL_map {α : Type} {xs : List α} {f : α → D} : frzL (xs.map fun x => .fz (f x)) = some (xs.map f) := by
  induction xs with
  | nil => simp
  | cons x xs ih => simp [ih]
@[simp] theorem frzL_mapfz {ds : List D} : frzL (ds.map OD.fz) = some ds := by
  have := frzL_map (xs := ds) (f := id)
  simpa using this
section
variable {K : PySem.W.Frag} {mg : Str → Option Value} {B B' H H' : Hp}
mutual
theorem Own.frz (s : Same B B') : ∀ {F : List Addr} {v : V} {o : OD} {d : D}, Own K mg B H F v o → Tl.frz o = some d → (∀ a ∈ F, ∀ u, H a = some u → B' a = some u) → Rep K B' v d
  | _, _, _, _, .fz r, e, _ => by rw [frz_fz] at e; cases e; exact r.mono s
  | _, _, _, _, .lst (os := os) h b r, e, k => by
    rw [frz_lst] at e
    cases q : frzL os with
    | none => rw [q] at e; cases e
    | some ds => rw [q] at e; cases e; exact .lst (k _ List.mem_cons_self _ h) (OwnL.frz s r q fun a m => k a (List.mem_cons_of_mem _ m))
  | _, _, _, _, .tup (os := os) h r, e, k => by
    rw [frz_tup] at e
    cases q : frzL os with
    | none => rw [q] at e; cases e
    | some ds => rw [q] at e; cases e; exact .tup (Same.seqT s h) (OwnL.frz s r q k)
  | _, _, _, _, .dK (os := os) h b ke r, e, k => by
    rw [Tl.frz] at e
    cases q : frzK os with
    | none => rw [q] at e; cases e
    | some ds =>
      rw [q] at e; cases e
      obtain ⟨q1, q2⟩ := frzK_keys q
      exact .dK (k _ List.mem_cons_self _ h) (ke.trans q1) (OwnL.frz s r q2 fun a m => k a (List.mem_cons_of_mem _ m))
  | _, _, _, _, .dT (os := os) h b ke r, e, k => by
    rw [Tl.frz] at e
    cases q : frzT os with
    | none => rw [q] at e; cases e
    | some ds =>
      rw [q] at e; cases e
      obtain ⟨q1, q2⟩ := frzT_keys q
      exact .dT (k _ List.mem_cons_self _ h) (ke.trans q1) (OwnL.frz s r q2 fun a m => k a (List.mem_cons_of_mem _ m))
  | _, _, _, _, .ins .., e, _ => by rw [Tl.frz] at e; cases e
theorem OwnL.frz (s : Same B B') : ∀ {F : List Addr} {vs : List V} {os : List OD} {ds : List D}, OwnL K mg B H F vs os → frzL os = some ds → (∀ a ∈ F, ∀ u, H a = some u → B' a = some u) → RepL K B' vs ds
  | _, _, _, _, .nil, e, _ => by rw [frzL_nil] at e; cases e; exact .nil
  | _, _, _, _, .cons (o := o) (os := os) r t, e, k => by
    rw [frzL_cons] at e
    cases q : Tl.frz o with
    | none => rw [q] at e; cases e
    | some d =>
      rw [q] at e
      cases q2 : frzL os with
      | none => rw [q2] at e; cases e
      | some ds => rw [q2] at e; cases e; exact .cons (Own.frz s r q fun a m => k a (List.mem_append_left _ m)) (OwnL.frz s t q2 fun a m => k a (List.mem_append_right _ m))
end

/-! ### no plain list or dict within -/
mutual
def nfl : D → Bool
  | .non => true
  | .bl _ => true
  | .int _ => true
  | .str _ => true
  | .tup ds => nflL ds
  | .lst _ => false
  | .scr _ => false
  | .dK _ => false
  | .dT _ => false
def nflL : List D → Bool
  | [] => true
  | d :: ds => nfl d && nflL ds
end
mutual
def nfo : OD → Bool
  | .un => true
  | .fz d => nfl d
  | .lst os => nfoL os
  | .tup os => nfoL os
  | .dK kvs => nfoK kvs
  | .dT kvs => nfoT kvs
  | .ins _ fs => nfoS fs
  | .exc _ => true
def nfoL : List OD → Bool
  | [] => true
  | o :: os => nfo o && nfoL os
def nfoK : List (Key × OD) → Bool
  | [] => true
  | (_, o) :: os => nfo o && nfoK os
def nfoT : List (List Key × OD) → Bool
  | [] => true
  | (_, o) :: os => nfo o && nfoT os
def nfoS : List (Str × OD) → Bool
  | [] => true
  | (_, o) :: os => nfo o && nfoS os
end
theorem nfoK_L : ∀ {kvs : List (Key × OD)}, nfoK kvs = nfoL (kvs.map (·.2))
  | [] => by simp [nfoK, nfoL]
  | (k, o) :: r => by simp [nfoK, nfoL, nfoK_L (kvs := r)]
theorem nfoT_L : ∀ {kvs : List (List Key × OD)}, nfoT kvs = nfoL (kvs.map (·.2))
  | [] => by simp [nfoT, nfoL]
  | (k, o) :: r => by simp [nfoT, nfoL, nfoT_L (kvs := r)]
theorem nfoS_L : ∀ {kvs : List (Str × OD)}, nfoS kvs = nfoL (kvs.map (·.2))
  | [] => by simp [nfoS, nfoL]
  | (k, o) :: r => by simp [nfoS, nfoL, nfoS_L (kvs := r)]
/-- what no tuple is -/
def noTup : HO → Bool
  | .tup _ => false
  | .frz _ _ => false
  | _ => true
mutual
theorem Own.kind : ∀ {F : List Addr} {v : V} {o : OD}, Own K mg B H F v o → ∀ a ∈ F, ∃ u, H a = some u ∧ noTup u = true
  | _, _, _, .fz _ => fun _ h => nomatch h
  | _, _, _, .lst h b r => fun a ha => by
    rcases List.mem_cons.mp ha with e | ha
    · subst e; exact ⟨_, h, rfl⟩
    · exact OwnL.kind r a ha
  | _, _, _, .tup _ r => fun a ha => OwnL.kind r a ha
  | _, _, _, .dK h b _ r => fun a ha => by
    rcases List.mem_cons.mp ha with e | ha
    · subst e; exact ⟨_, h, rfl⟩
    · exact OwnL.kind r a ha
  | _, _, _, .dT h b _ r => fun a ha => by
    rcases List.mem_cons.mp ha with e | ha
    · subst e; exact ⟨_, h, rfl⟩
    · exact OwnL.kind r a ha
  | _, _, _, .ins h b h2 b2 _ _ r => fun a ha => by
    rcases List.mem_cons.mp ha with e | ha
    · subst e; exact ⟨_, h, rfl⟩
    · rcases List.mem_cons.mp ha with e | ha
      · subst e; exact ⟨_, h2, rfl⟩
      · exact OwnL.kind r a ha
theorem OwnL.kind : ∀ {F : List Addr} {vs : List V} {os : List OD}, OwnL K mg B H F vs os → ∀ a ∈ F, ∃ u, H a = some u ∧ noTup u = true
  | _, _, _, .nil => fun _ h => nomatch h
  | _, _, _, .cons r t => fun a ha => (List.mem_append.mp ha).elim (Own.kind r a) (OwnL.kind t a)
end
/-- B without what stands at L -/
def less (B : Hp) (L : List Addr) : Hp := fun a => if a ∈ L then none else B a
/-- B with what stands in H at L -/
def more (B H : Hp) (L : List Addr) : Hp := fun a => if a ∈ L then H a else B a
theorem seqT_less {L : List Addr} {p : Addr} {vs : List V} (k : ∀ a ∈ L, ∀ u, B a = some u → noTup u = true) (h : SqT K B p vs) : SqT K (less B L) p vs := by
  have z : ∀ u, B p = some u → noTup u = false → less B L p = some u := fun u e n => by
    unfold less
    by_cases m : p ∈ L
    · rw [k p m u e] at n; cases n
    · rw [if_neg m]; exact e
  rcases h with (h | ⟨o, h⟩) | h
  · exact .inl (.inl (z _ h rfl))
  · exact .inl (.inr ⟨o, z _ h rfl⟩)
  · exact .inr h
mutual
theorem Rep.less {L : List Addr} (k : ∀ a ∈ L, ∀ u, B a = some u → noTup u = true) : ∀ {v : V} {d : D}, Rep K B v d → nfl d = true → Rep K (less B L) v d
  | _, _, .non, _ => .non
  | _, _, .bl, _ => .bl
  | _, _, .int, _ => .int
  | _, _, .str, _ => .str
  | _, _, .tup h r, e => by rw [nfl] at e; exact .tup (seqT_less k h) (RepL.less k r e)
  | _, _, .lst _ _, e => by rw [nfl] at e; cases e
  | _, _, .scr _ _, e => by rw [nfl] at e; cases e
  | _, _, .dK _ _ _, e => by rw [nfl] at e; cases e
  | _, _, .dT _ _ _, e => by rw [nfl] at e; cases e
theorem RepL.less {L : List Addr} (k : ∀ a ∈ L, ∀ u, B a = some u → noTup u = true) : ∀ {vs : List V} {ds : List D}, RepL K B vs ds → nflL ds = true → RepL K (less B L) vs ds
  | _, _, .nil, _ => .nil
  | _, _, .cons r t, e => by
    rw [nflL, Bool.and_eq_true] at e
    exact .cons (Rep.less k r e.1) (RepL.less k t e.2)
end
theorem less_none {L : List Addr} {a : Addr} (h : B a = none) : less B L a = none := by
  unfold less; split
  · rfl
  · exact h
mutual
theorem Own.less {L : List Addr} (k : ∀ a ∈ L, ∀ u, B a = some u → noTup u = true) : ∀ {F : List Addr} {v : V} {o : OD}, Own K mg B H F v o → nfo o = true → Own K mg (less B L) H F v o
  | _, _, _, .fz r, e => by rw [nfo] at e; exact .fz (r.less k e)
  | _, _, _, .lst h b r, e => by rw [nfo] at e; exact .lst h (less_none b) (OwnL.less k r e)
  | _, _, _, .tup h r, e => by rw [nfo] at e; exact .tup (seqT_less k h) (OwnL.less k r e)
  | _, _, _, .dK h b ke r, e => by rw [nfo, nfoK_L] at e; exact .dK h (less_none b) ke (OwnL.less k r e)
  | _, _, _, .dT h b ke r, e => by rw [nfo, nfoT_L] at e; exact .dT h (less_none b) ke (OwnL.less k r e)
  | _, _, _, .ins h b h2 b2 g ke r, e => by rw [nfo, nfoS_L] at e; exact .ins h (less_none b) h2 (less_none b2) g ke (OwnL.less k r e)
theorem OwnL.less {L : List Addr} (k : ∀ a ∈ L, ∀ u, B a = some u → noTup u = true) : ∀ {F : List Addr} {vs : List V} {os : List OD}, OwnL K mg B H F vs os → nfoL os = true → OwnL K mg (less B L) H F vs os
  | _, _, _, .nil, _ => .nil
  | _, _, _, .cons r t, e => by
    rw [nfoL, Bool.and_eq_true] at e
    exact .cons (Own.less k r e.1) (OwnL.less k t e.2)
end
end
end Tl
namespace Tl
open PySem PySem.Spec L2

/-! ### == -/
mutual
def pd : D → PyData
  | .non => .none
  | .bl b => .bool b
  | .int i => .int i
  | .str x => .str x
  | .tup ds => .tuple (pdL ds)
  | .lst ds => .list (pdL ds)
  | .scr ds => .list (pdL ds)
  | .dK _ => .dict []
  | .dT _ => .dict []
def pdL : List D → List PyData
  | [] => []
  | d :: ds => pd d :: pdL ds
end
theorem pdL_eq : ∀ ds : List D, pdL ds = ds.map pd
  | [] => rfl
  | d :: ds => by show pd d :: pdL ds = _; rw [pdL_eq ds]; rfl
def OD.plain : OD → Option D := frz
section
variable {K : PySem.W.Frag} {mg : Str → Option Value} {B H : Hp}
mutual
theorem Rep.dp (s : Same B H) : ∀ {v : V} {d : D}, Rep K B v d → (pd d).canLay0 = true → Dp K H v (pd d)
  | _, _, .non, _ => .non
  | _, _, .bl, _ => .bl _
  | _, _, .int, _ => .int _
  | _, _, .str, _ => .str _
  | _, _, .tup h r, e => .tup (Same.seqT s h) (RepL.dp s r e)
  | _, _, .lst h r, e => .lst (SqL.of (s _ _ h)) (RepL.dp s r e)
  | _, _, .scr h r, e => .lst (s.seq h) (RepL.dp s r e)
  | _, _, .dK _ _ _, e => nomatch e
  | _, _, .dT _ _ _, e => nomatch e
theorem RepL.dp (s : Same B H) : ∀ {vs : List V} {ds : List D}, RepL K B vs ds → PyData.canLayAll0 (pdL ds) = true → DpAll K H vs (pdL ds)
  | _, _, .nil, _ => .nil
  | _, _, .cons r t, e => by
    have e' : (_ && _) = true := e
    rw [Bool.and_eq_true] at e'
    exact .cons (Rep.dp s r e'.1) (RepL.dp s t e'.2)
end
theorem rv_dp {G : List Addr} {v : V} {r : RV} {d : D} (s : Same B H) (h : rvR K mg B H G v r) (e : r.od.plain = some d) (l : (pd d).canLay0 = true) : Dp K H v (pd d) := by
  obtain ⟨G', z⟩ := rv_own h
  exact Rep.dp (Same.refl _) (Own.frz s z e fun _ _ _ h => h) l
end
def dEq (d e : D) : Bool := PyData.eqv (pd d) (pd e)
def dOk (d : D) : Bool := SeqAt.shaped (pd d)
def gEq (p : RV × RV) : Option RV := match p.1.od.plain, p.2.od.plain with
  | some d, some e => if dOk d = true ∧ dOk e = true then some (.b (dEq d e)) else none
  | _, _ => none
def gNe (p : RV × RV) : Option RV := match p.1.od.plain, p.2.od.plain with
  | some d, some e => if dOk d = true ∧ dOk e = true then some (.b (!dEq d e)) else none
  | _, _ => none
/-- x in a list, a tuple (of plain things), a text -/
def gIn (p : RV × RV) : Option RV := match p.1.od, p.2.od with
  | .fz (.str x), .fz (.str y) => some (.b (!(Builtin.Str.occurrences y x 0 y.length 1).isEmpty))
  | o, u => match o.plain with
    | none => none
    | some d => match u.items with
      | some ds => if dOk d = true ∧ dOk (.lst ds) = true then some (.b (ds.any fun z => dEq z d)) else none
      | none => match u.titems with
        | some ds => match flatD d, flatDs ds with
          | some x, some xs => some (.b (inV x xs))
          | _, _ => none
        | none => none
where
  flatD : D → Option V
    | .non => some .non
    | .bl b => some (.bl b)
    | .int i => some (.int i)
    | .str x => some (.str x)
    | _ => none
  flatDs : List D → Option (List V)
    | [] => some []
    | d :: ds => match flatD d, flatDs ds with
      | some x, some xs => some (x :: xs)
      | _, _ => none
theorem frz_flat {o : OD} {d : D} {x : V} (h : frz o = some d) (k : gIn.flatD d = some x) : o = .fz d := by
  cases o with
  | fz e => rw [frz_fz] at h; cases h; rfl
  | lst os => rw [frz_lst] at h; cases q : frzL os <;> rw [q] at h <;> cases h; cases k
  | tup os => rw [frz_tup] at h; cases q : frzL os <;> rw [q] at h <;> cases h; cases k
  | dK os => unfold frz at h; cases q : frzK os <;> rw [q] at h <;> cases h; cases k
  | dT os => unfold frz at h; cases q : frzT os <;> rw [q] at h <;> cases h; cases k
  | _ => unfold frz at h; cases h
def gNotIn (p : RV × RV) : Option RV := (gIn p).bind fun r => match r.bool? with
  | some k => some (.b (!k))
  | none => none
section
variable {X : Cx} {W : WX} {a b c e : Expr} {es rest : List Expr} {f fa fb fc : Env → O RV} {pos : Pos}
theorem canLay (d : D) (h : dOk d = true) : (pd d).canLay0 = true := SeqAt.canLay_of_shaped h
theorem c_eq (hu : X.A.units + 64 < cLine) : CmpOk X .Eq gEq := by
  refine ⟨_, op_eqD hu, ?_⟩
  rintro B H G ⟨x, y⟩ ⟨r1, r2⟩ Q s ⟨G1, G2, _, h1, h2⟩ n q
  dsimp only [gEq] at q h1 h2 ⊢
  split at q
  · rename_i d e e1 e2
    split at q
    · rename_i hk
      exact ⟨_, _, rv_dp s h1 e1 (canLay d hk.1), rv_dp s h2 e2 (canLay e hk.2), hk.1, hk.2, VPost.fz q s .bl⟩
    · exact q.elim
  · exact q.elim
theorem c_ne (hu : X.A.units + 64 < cLine) : CmpOk X .NotEq gNe := by
  refine ⟨_, op_neD hu, ?_⟩
  rintro B H G ⟨x, y⟩ ⟨r1, r2⟩ Q s ⟨G1, G2, _, h1, h2⟩ n q
  dsimp only [gNe] at q h1 h2 ⊢
  split at q
  · rename_i d e e1 e2
    split at q
    · rename_i hk
      exact ⟨_, _, rv_dp s h1 e1 (canLay d hk.1), rv_dp s h2 e2 (canLay e hk.2), hk.1, hk.2, VPost.fz q s .bl⟩
    · exact q.elim
  · exact q.elim
theorem flat_rep {K : PySem.W.Frag} {B : Hp} {v : V} {d : D} {x : V} (h : Rep K B v d) (e : gIn.flatD d = some x) : v = x ∧ flatV x = true := by
  cases h <;> first
    | (cases e; exact ⟨rfl, rfl⟩)
    | (cases e; done)
theorem flat_reps {K : PySem.W.Frag} {B : Hp} {vs : List V} {ds : List D} {xs : List V} (h : RepL K B vs ds) (e : gIn.flatDs ds = some xs) : vs = xs ∧ xs.all flatV = true := by
  induction vs generalizing ds xs with
  | nil => cases h; cases e; exact ⟨rfl, rfl⟩
  | cons v vs ih =>
    cases h with
    | @cons _ _ d ds r t =>
      unfold gIn.flatDs at e
      split at e
      · rename_i x xs' e1 e2
        cases e
        obtain ⟨rfl, f1⟩ := flat_rep r e1
        obtain ⟨rfl, f2⟩ := ih t e2
        exact ⟨rfl, by rw [List.all_cons, f1, f2]; rfl⟩
      · cases e
/-- in, not in: what is asked, in one -/
def rInA (K : PySem.W.Frag) (neg : Bool) : R2 := fun x y H Q =>
  ((∃ i j, x = .str i ∧ y = .str j ∧ Q (.bl (if neg then !(!(Builtin.Str.occurrences j i 0 j.length 1).isEmpty) else !(Builtin.Str.occurrences j i 0 j.length 1).isEmpty)) H) ∨
   (∃ d ds, Dp K H x d ∧ Dp K H y (.list ds) ∧ SeqAt.shaped d = true ∧ SeqAt.shaped (.list ds) = true ∧ Q (.bl (if neg then !ds.any fun z => PyData.eqv z d else ds.any fun z => PyData.eqv z d)) H)) ∨ rIn K neg x y H Q
theorem any_pd {d : D} : ∀ ds : List D, ((pdL ds).any fun z => PyData.eqv z (pd d)) = ds.any fun z => dEq z d
  | [] => rfl
  | e :: ds => by show (PyData.eqv (pd e) (pd d) || (pdL ds).any fun z => PyData.eqv z (pd d)) = _; rw [any_pd ds]; rfl
theorem rv_idp {K : PySem.W.Frag} {mg : Str → Option Value} {B H : Hp} {G : List Addr} {v : V} {r : RV} {ds : List D} (s : Same B H) (h : rvR K mg B H G v r) (e : r.od.items = some ds) (l : (pd (.lst ds)).canLay0 = true) : Dp K H v (.list (pdL ds)) := by
  obtain ⟨p, vs, rfl, h1, h2⟩ := rv_items s h e
  exact .lst h1 (RepL.dp s h2 l)
theorem v_in (neg : Bool) : VOk (prR (rvR X.K X.mg) (rvR X.K X.mg)) (rvR X.K X.mg) (fun p => rInA X.K neg p.1 p.2) (if neg then gNotIn else gIn) := by
  rintro B H G ⟨x, y⟩ ⟨r1, r2⟩ Q s ⟨G1, G2, _, h1, h2⟩ n q
  have key : ∀ k : Bool, gIn (r1, r2) = some (.b k) → Q (.bl (if neg then !k else k)) H := fun k e => by
    cases neg with
    | false => rw [if_neg Bool.false_ne_true, e] at q; exact VPost.fz q s .bl
    | true =>
      rw [if_pos rfl] at q
      dsimp only [gNotIn] at q
      rw [e] at q
      exact VPost.fz q s .bl
  have bad : gIn (r1, r2) = none → False := fun e => by
    cases neg with
    | false => rw [if_neg Bool.false_ne_true, e] at q; exact q
    | true =>
      rw [if_pos rfl] at q
      dsimp only [gNotIn] at q
      rw [e] at q
      exact q
  clear q
  dsimp only [gIn] at key bad h1 h2 ⊢
  split at key
  · rename_i i j e1 e2
    have z1 := rv_fz h1 e1
    have z2 := rv_fz h2 e2
    cases z1; cases z2
    refine .inl (.inl ⟨i, j, rfl, rfl, ?_⟩)
    have := key _ rfl
    cases neg <;> exact this
  · rename_i hno
    split at bad
    · rename_i e1 e2
      exact absurd e2 (fun e2 => hno _ _ e1 e2)
    · clear hno
      cases e1 : r1.od.plain with
      | none => rw [e1] at bad; exact (bad rfl).elim
      | some d =>
        rw [e1] at key bad
        dsimp only at key bad
        split at key
        · rename_i ds e2
          split at key
          · rename_i hk
            refine .inl (.inr ⟨pd d, pdL ds, rv_dp s h1 e1 (canLay d hk.1), rv_idp s h2 e2 (canLay _ hk.2), hk.1, hk.2, ?_⟩)
            rw [any_pd]
            have := key _ rfl
            cases neg <;> exact this
          · rename_i hk
            rw [e2] at bad
            dsimp only at bad
            rw [if_neg hk] at bad
            exact (bad rfl).elim
        · rename_i e2
          split at key
          · rename_i ds e3
            obtain ⟨p, vs, rfl, a1, a2⟩ := rv_titems s h2 e3
            split at key
            · rename_i x' xs e4 e5
              have z1 : Rep X.K B x d := by
                obtain ⟨G', z⟩ := rv_own h1
                rw [frz_flat e1 e4] at z
                cases z with
                | fz r => exact r
              obtain ⟨rfl, f1⟩ := flat_rep z1 e4
              obtain ⟨rfl, f2⟩ := flat_reps a2 e5
              refine .inr ⟨p, vs, rfl, .inr a1, f1, f2, ?_⟩
              have := key _ rfl
              cases neg <;> exact this
            · rename_i hk
              rw [e2, e3] at bad
              dsimp only at bad
              split at bad
              · rename_i x' xs e4 e5
                exact (hk _ _ e4 e5).elim
              · exact (bad rfl).elim
          · rename_i e3
            rw [e2, e3] at bad
            exact (bad rfl).elim
theorem c_in (hu : X.A.units + 65 < cLine) : CmpOk X .In gIn := by
  refine ⟨rInA X.K false, ?_, v_in false⟩
  exact (op_in_str.or (op_inD hu)).or op_in_seq
theorem c_nin (hu : X.A.units + 65 < cLine) : CmpOk X .NotIn gNotIn := by
  refine ⟨rInA X.K true, ?_, v_in true⟩
  exact (op_notIn_str.or (op_notInD hu)).or op_notIn_seq
end
end Tl
namespace Tl
open PySem PySem.Spec L2

/-! ### slots taken out and put back -/
section
variable {K : PySem.W.Frag} {mg : Str → Option Value} {B B' H H' : Hp}
theorem Slots.take {F : List Addr} {σ : St} {env : Env} (x : Slots K mg B H F σ env) {i : Nat} {o : OD} (e : env[i]? = some o) (n : o ≠ .un) :
    ∃ v Fi Fr, σ[i]? = some (some v) ∧ Own K mg B H Fi v o ∧ Slots K mg B H Fr σ (env.set i .un) ∧ F.Perm (Fi ++ Fr) := by
  induction x generalizing i with
  | nil => simp at e
  | @un F x σ env h ih =>
    cases i with
    | zero => simp at e; exact absurd e.symm n
    | succ i =>
      simp at e
      obtain ⟨v, Fi, Fr, h1, h2, h3, h4⟩ := ih e
      exact ⟨v, Fi, Fr, by simpa using h1, h2, .un h3, h4⟩
  | @cons F G v o' σ env r h ih =>
    cases i with
    | zero => simp at e; subst e; exact ⟨v, F, G, rfl, r, .un h, List.Perm.refl _⟩
    | succ i =>
      simp at e
      obtain ⟨w, Fi, Fr, h1, h2, h3, h4⟩ := ih e
      refine ⟨w, Fi, F ++ Fr, by simpa using h1, h2, .cons r h3, ?_⟩
      refine (h4.append_left F).trans ?_
      rw [← List.append_assoc, ← List.append_assoc]
      exact (List.perm_append_comm).append_right Fr
theorem Slots.put {F : List Addr} {σ : St} {env : Env} (x : Slots K mg B H F σ env) {i : Nat} (e : env[i]? = some .un) {v : V} (hv : σ[i]? = some (some v)) {Fi : List Addr} {o : OD} (r : Own K mg B H Fi v o) :
    ∃ F', Slots K mg B H F' σ (env.set i o) ∧ F'.Perm (Fi ++ F) := by
  induction x generalizing i with
  | nil => simp at e
  | @un F x σ env h ih =>
    cases i with
    | zero => simp at hv; subst hv; exact ⟨Fi ++ F, .cons r h, List.Perm.refl _⟩
    | succ i =>
      simp at e hv
      obtain ⟨F', h1, h2⟩ := ih e hv
      exact ⟨F', .un h1, h2⟩
  | @cons F G w o' σ env r' h ih =>
    cases i with
    | zero => simp at e; subst e; cases r'
    | succ i =>
      simp at e hv
      obtain ⟨F', h1, h2⟩ := ih e hv
      refine ⟨F ++ F', .cons r' h1, ?_⟩
      refine (h2.append_left F).trans ?_
      rw [← List.append_assoc, ← List.append_assoc]
      exact (List.perm_append_comm).append_right G
end

/-! ### a def's promise -/
def FPost (K : PySem.W.Frag) (mg : Str → Option Value) (B H : Hp) (G : List Addr) (vs : List V) (Q : VK) (E : XK) : FO → Prop
  | .ret o ds' => ∀ v B' H' Fr G', Own K mg B' H' Fr v o → OwnL K mg B' H' G' vs ds' → Same B' H' → (Fr ++ G').Nodup → Frm B H G B' H' (Fr ++ G') → Q v H'
  | .exc c ds' => ∀ B' H' G', OwnL K mg B' H' G' vs ds' → Same B' H' → G'.Nodup → Frm B H G B' H' G' → ∀ C, mg c = some (.ref C) → E (.ref C) none H'
  | .bad => False
def spOf (K : PySem.W.Frag) (mg : Str → Option Value) (n : Nat) (Fm : List OD → FO) : Sp := fun vs H Q E =>
  vs.length = n ∧ ∃ B G ds, Same B H ∧ OwnL K mg B H G vs ds ∧ G.Nodup ∧ FPost K mg B H G vs Q E (Fm ds)

/-! ### arguments of a call: values; names whose objects the def may change -/
inductive AR where
  | rv (r : RV) | io (i : Nat) | tmp (o : OD)
def aR (K : PySem.W.Frag) (mg : Str → Option Value) (σ : St) : Rl V AR := fun B H G v a =>
  match a with
  | .rv r => rvR K mg B H G v r
  | .io i => G = [] ∧ σ[i]? = some (some v)
  | .tmp o => Own K mg B H G v o
def AR.safe : AR → Bool
  | .rv r => r.safe
  | .io _ => true
  | .tmp _ => true
theorem stb_aR {K : PySem.W.Frag} {mg : Str → Option Value} (σ : St) : Stb (aR K mg σ) AR.safe where
  there := fun B H G x a h => by
    cases a with
    | rv r => exact stb_rv.there B H G x r h
    | io i => obtain ⟨rfl, _⟩ := h; exact fun _ z => nomatch z
    | tmp o => exact Own.there h
  keep := fun B H F B' H' F' G x a h f n s => by
    cases a with
    | rv r => exact stb_rv.keep B H F B' H' F' G x r h f n s
    | io i => exact h
    | tmp o => exact f.own h n
def PCr (X : Cx) (W : WX) (es : List Expr) (f : Env → O (List AR)) : Prop := ∃ t, PA X es t ∧ EOkS X W (fun σ => lsR (aR X.K X.mg σ)) t f
def cNil : Env → O (List AR) := fun _ => .ok []
def cVal (f : Env → O RV) (r : Env → O (List AR)) : Env → O (List AR) := fun env => (f env).andThen RV.safe env (fun _ e => r e) (fun a b => .rv a :: b)
def cTmp (f : Env → O RV) (r : Env → O (List AR)) : Env → O (List AR) := fun env => ((f env).mapP fun r => match r with
  | .own o => some o
  | .view _ => none).andThen (fun _ => true) env (fun _ e => r e) (fun a b => .tmp a :: b)
def cIo (i : Nat) (r : Env → O (List AR)) : Env → O (List AR) := fun env => match env[i]? with
  | some .un => .bad
  | some _ => match r env with
    | .ok b => .ok (.io i :: b)
    | .eff b e => .eff (.io i :: b) e
    | .exc c e => .exc c e
    | .bad => .bad
  | none => .bad
section
variable {X : Cx} {W : WX} {a b c e : Expr} {es rest : List Expr} {f fa fb fc : Env → O RV} {pos : Pos}
theorem ca_nil : PCr X W [] cNil := ⟨_, pa_nil, fun B H F σ env Q S q => q [] B H [] .nil S.sub List.nodup_nil Frm.none⟩
theorem ca_val {fr : Env → O (List AR)} (ha : PEr X W e f) (hr : PCr X W es fr) (hs : starEach (e :: es) X.env = (false, eval e X.env) :: starEach es X.env := by rfl) : PCr X W (e :: es) (cVal f fr) := by
  obtain ⟨ta, ha, ka⟩ := ha
  obtain ⟨tb, hb, kb⟩ := hr
  exact ⟨_, pa_cons ha hb hs, EOkS.andThen (R := fun _ => rvR X.K X.mg) (R' := fun σ => lsR (aR X.K X.mg σ)) (R'' := fun σ => lsR (aR X.K X.mg σ)) (jx := List.cons) (jb := fun a b => .rv a :: b) (u := fun _ => tb) (fun _ => stb_rv) (fun σ => stb_ls (stb_aR σ)) (fun _ _ _ _ _ _ _ _ _ a b => .cons (R := aR X.K X.mg _) a b) ka fun _ _ _ => kb⟩
def owR (K : PySem.W.Frag) (mg : Str → Option Value) : Rl V OD := fun B H G v o => Own K mg B H G v o
theorem stb_ow {K : PySem.W.Frag} {mg : Str → Option Value} : Stb (owR K mg) (fun _ => true) where
  there := fun B H G x a h => Own.there h
  keep := fun B H F B' H' F' G x a h f n _ => f.own h n
theorem ca_tmp {fr : Env → O (List AR)} (ha : PEr X W e f) (hr : PCr X W es fr) (hs : starEach (e :: es) X.env = (false, eval e X.env) :: starEach es X.env := by rfl) : PCr X W (e :: es) (cTmp f fr) := by
  obtain ⟨ta, ha, ka⟩ := ha
  obtain ⟨tb, hb, kb⟩ := hr
  have k1 : EOk X W (owR X.K X.mg) (fun σ H Q => ta σ H fun x H1 => Q x H1) (fun env => (f env).mapP fun r => match r with
      | .own o => some o
      | .view _ => none) := ka.map (R' := owR X.K X.mg) (r := fun (x : V) (H : Hp) (Q : VK) => Q x H) fun B H G v r Q s h n q => by
    cases r with
    | view o => exact q.elim
    | own o => exact q v B H G h s n Frm.refl
  exact ⟨_, pa_cons ha hb hs, EOkS.andThen (R := fun _ => owR X.K X.mg) (R' := fun σ => lsR (aR X.K X.mg σ)) (R'' := fun σ => lsR (aR X.K X.mg σ)) (jx := List.cons) (jb := fun a b => .tmp a :: b) (u := fun _ => tb) (fun _ => stb_ow) (fun σ => stb_ls (stb_aR σ)) (fun _ _ _ _ _ _ _ _ _ a b => .cons (R := aR X.K X.mg _) a b) k1 fun _ _ _ => kb⟩
theorem ca_io (i : Nat) {x : Str} {pos : Pos} {fr : Env → O (List AR)} (hr : PCr X W es fr) (hN : X.N[i]? = some x := by rfl) (hv : Vis X.env.scope x := by first | exact Or.inl rfl | exact Or.inr (Or.inl rfl) | exact Or.inr (Or.inr rfl))
    (hd : (x == ("__debug__" : Str)) = false := by decide) (hcd : (x == ("__classdict__" : Str)) = false := by decide)
    (hs : starEach (.Name x pos :: es) X.env = (false, eval (.Name x pos) X.env) :: starEach es X.env := by rfl) : PCr X W (.Name x pos :: es) (cIo i fr) := by
  obtain ⟨tb, hb, kb⟩ := hr
  refine ⟨_, pa_cons (pe_var hN hv hd hcd) hb hs, fun B H F σ env Q S q => ?_⟩
  dsimp only [cIo] at q
  cases e : env[i]? with
  | none => rw [e] at q; exact q.elim
  | some o =>
    rw [e] at q
    by_cases n : o = .un
    · subst n; exact q.elim
    · obtain ⟨v, G, h1, h2, h3⟩ := S.sl.get e n
      refine ⟨v, h1, kb B H F σ env _ S ?_⟩
      have q' : EPost X W (lsR (aR X.K X.mg σ)) B H F σ Q (match fr env with
        | .ok b => .ok (.io i :: b)
        | .eff b e => .eff (.io i :: b) e
        | .exc c e => .exc c e
        | .bad => .bad) := by cases o <;> first | exact q | exact absurd rfl n
      cases e2 : fr env with
      | bad => rw [e2] at q'; exact q'
      | exc c e3 => rw [e2] at q'; exact q'
      | ok b => rw [e2] at q'; exact fun x B' H' G' r s' nd f => q' _ B' H' G' (.cons (R := aR X.K X.mg σ) (F := []) ⟨rfl, h1⟩ r) s' nd f
      | eff b e3 => rw [e2] at q'; exact fun x B' H' G' F' r l s' nd f => q' _ B' H' G' F' (.cons (R := aR X.K X.mg σ) (F := []) ⟨rfl, h1⟩ r) l s' nd f
end

/-! ### what a def is handed -/
def RV.plainArg (r : RV) : Option D := match r.od with
  | .fz d => some d
  | o => frz o
def RV.lent (r : RV) : Bool := match r.od with
  | .fz _ => false
  | _ => true
def gath : List AR → Env → Option (List OD × Env)
  | [], env => some ([], env)
  | .rv r :: as, env => match r.plainArg with
    | some d => match gath as env with
      | some (ds, e) => some (.fz d :: ds, e)
      | none => none
    | none => none
  | .tmp o :: as, env => match gath as env with
    | some (ds, e) => some (o :: ds, e)
    | none => none
  | .io i :: as, env => match env[i]? with
    | some .un => none
    | some o => match gath as (env.set i .un) with
      | some (ds, e) => some (o :: ds, e)
      | none => none
    | none => none
def putB : List AR → List OD → Env → Env
  | .tmp _ :: as, _ :: ds, env => putB as ds env
  | .io i :: as, o :: ds, env => (putB as ds env).set i o
  | .rv _ :: as, _ :: ds, env => putB as ds env
  | _, _, env => env
def hasIo : List AR → Bool
  | [] => false
  | .io _ :: _ => true
  | .tmp _ :: as => hasIo as
  | .rv _ :: as => hasIo as
def hasTmp : List AR → Bool
  | [] => false
  | .tmp _ :: _ => true
  | _ :: as => hasTmp as
def lends : List AR → Bool
  | [] => false
  | .rv r :: as => r.lent || lends as
  | .io _ :: as => lends as
  | .tmp _ :: as => lends as
def looks : List AR → Bool
  | [] => false
  | .rv (.view o) :: as => (RV.view o).lent || looks as
  | _ :: as => looks as
def nfIo : List AR → List OD → Bool
  | .io _ :: as, o :: ds => nfo o && nfIo as ds
  | .rv _ :: as, _ :: ds => nfIo as ds
  | .tmp _ :: as, _ :: ds => nfIo as ds
  | _, _ => true
def ioAll (P : OD → Prop) : List AR → List OD → Prop
  | .io _ :: as, o :: ds => P o ∧ ioAll P as ds
  | .rv _ :: as, _ :: ds => ioAll P as ds
  | .tmp _ :: as, _ :: ds => ioAll P as ds
  | _, _ => True
theorem ioAll_nf : ∀ {ars : List AR} {ds : List OD}, nfIo ars ds = true → ioAll (fun o => nfo o = true) ars ds
  | .io _ :: as, o :: ds, h => by
    rw [nfIo, Bool.and_eq_true] at h
    exact ⟨h.1, ioAll_nf h.2⟩
  | .rv _ :: as, _ :: ds, h => ioAll_nf (ars := as) (ds := ds) h
  | .tmp _ :: as, _ :: ds, h => ioAll_nf (ars := as) (ds := ds) h
  | .tmp _ :: _, [], _ => True.intro
  | [], _, _ => True.intro
  | .io _ :: _, [], _ => True.intro
  | .rv _ :: _, [], _ => True.intro
theorem ioAll_true : ∀ {ars : List AR} {ds : List OD}, ioAll (fun _ => True) ars ds
  | .io _ :: as, o :: ds => ⟨True.intro, ioAll_true⟩
  | .rv _ :: as, _ :: ds => ioAll_true (ars := as) (ds := ds)
  | .tmp _ :: as, _ :: ds => ioAll_true (ars := as) (ds := ds)
  | .tmp _ :: _, [] => True.intro
  | [], _ => True.intro
  | .io _ :: _, [] => True.intro
  | .rv _ :: _, [] => True.intro
section
variable {K : PySem.W.Frag} {mg : Str → Option Value}
theorem gath_un {i : Nat} : ∀ {ars : List AR} {env : Env} {ds : List OD} {e : Env}, gath ars env = some (ds, e) → env[i]? = some .un → e[i]? = some .un ∧ ∀ (ds' : List OD) (e' : Env), e'[i]? = some .un → (putB ars ds' e')[i]? = some .un
  | [], env, ds, e, h, hu => by cases h; exact ⟨hu, fun ds' e' h => by cases ds' <;> exact h⟩
  | .rv r :: as, env, ds, e, h, hu => by
    rw [gath] at h
    split at h
    · split at h
      · rename_i e1
        cases h
        obtain ⟨h1, h2⟩ := gath_un e1 hu
        exact ⟨h1, fun ds' e' h => by cases ds' with | nil => exact h | cons o ds' => exact h2 ds' e' h⟩
      · cases h
    · cases h
  | .tmp o :: as, env, ds, e, h, hu => by
    rw [gath] at h
    split at h
    · rename_i e1
      cases h
      obtain ⟨h1, h2⟩ := gath_un e1 hu
      exact ⟨h1, fun ds' e' h => by cases ds' with | nil => exact h | cons o ds' => exact h2 ds' e' h⟩
    · cases h
  | .io j :: as, env, ds, e, h, hu => by
    rw [gath] at h
    split at h
    · cases h
    · rename_i o hn e0
      split at h
      · rename_i ds1 e1 e2
        cases h
        have hij : i ≠ j := fun z => by subst z; rw [hu] at e0; cases e0; exact hn rfl
        obtain ⟨h1, h2⟩ := gath_un e2 (i := i) (by rw [List.getElem?_set_ne (Ne.symm hij)]; exact hu)
        refine ⟨h1, fun ds' e' h => ?_⟩
        cases ds' with
        | nil => exact h
        | cons o' ds' =>
          show ((putB as ds' e').set j o')[i]? = _
          rw [List.getElem?_set_ne (Ne.symm hij)]
          exact h2 ds' e' h
      · cases h
    · cases h
/-- the arguments, gathered -/
theorem perm3 {α : Type} {A B C D E F G : List α} (h : A.Perm (B ++ C ++ D)) (k : E.Perm (F ++ G)) : (E ++ A).Perm ((F ++ B) ++ C ++ (G ++ D)) := by
  refine (k.append h).trans ?_
  have := (List.perm_append_comm (l₁ := G) (l₂ := B ++ C)).append_right D
  simp only [List.append_assoc] at this ⊢
  exact List.Perm.append_left F this
theorem perm3' {α : Type} {A B C D E : List α} (h : A.Perm (B ++ C ++ D)) : (E ++ A).Perm (B ++ (E ++ C) ++ D) := by
  refine (h.append_left E).trans ?_
  rw [← List.append_assoc, ← List.append_assoc]
  refine List.Perm.append_right D ?_
  rw [← List.append_assoc]
  exact (List.perm_append_comm).append_right C
theorem gath_ok {B H : Hp} {σ : St} {F G : List Addr} {vs : List V} {ars : List AR} {env envh : Env} {ds : List OD} (s : Slots K mg B H F σ env) (h : lsR (aR K mg σ) B H G vs ars) (e : gath ars env = some (ds, envh)) :
    ∃ L Gio Gt Gc Fh, Slots K mg B H Fh σ envh ∧ F.Perm (Gio ++ Fh) ∧ Gc.Perm (Gio ++ Gt) ∧ (hasTmp ars = false → Gt = []) ∧ (looks ars = false → ∃ M, G.Perm (L ++ Gt ++ M)) ∧ Gt.Sublist G ∧
      (∀ Bp, Same B Bp → (∀ a ∈ L, ∀ u, H a = some u → Bp a = some u) → (∀ a ∈ Gc, Bp a = none) → OwnL K mg Bp H Gc vs ds) ∧
      (∀ a ∈ L, B a = none ∧ ∃ u, H a = some u ∧ noTup u = true) ∧ (lends ars = false → L = []) ∧ (hasIo ars = false → Gio = [] ∧ envh = env) ∧
      (∀ B2 B3 H2 Fh' (P : OD → Prop) vs' (G' : List Addr) ds', Slots K mg B2 H2 Fh' σ envh → vs' = vs → OwnL K mg B3 H2 G' vs' ds' → (∀ F v o, P o → Own K mg B3 H2 F v o → Own K mg B2 H2 F v o) → ioAll P ars ds' → ∃ F2 Gi, Slots K mg B2 H2 F2 σ (putB ars ds' envh) ∧ F2.Perm (Gi ++ Fh') ∧ Gi.Sublist G') := by
  induction h generalizing env envh ds F with
  | nil =>
    cases e
    exact ⟨[], [], [], [], F, s, List.Perm.refl _, List.Perm.refl _, fun _ => rfl, fun _ => ⟨[], List.Perm.refl _⟩, List.Sublist.refl _, fun _ _ _ _ => .nil, (fun _ z => nomatch z), fun _ => rfl, fun _ => ⟨rfl, rfl⟩, fun B2 B3 H2 Fh' P vs' G' ds' s2 ev r _ _ => by subst ev; cases r; exact ⟨Fh', [], s2, List.Perm.refl _, List.Sublist.refl _⟩⟩
  | @cons F1 G1 v a vs as r t ih =>
    cases a with
    | rv r1 =>
      rw [gath] at e
      split at e
      · rename_i d e1
        split at e
        · rename_i ds1 envh1 e2
          cases e
          obtain ⟨L, Gio, Gt, Gc, Fh, a1, a2, p1, p2, p3, p4, a3, a4, a5, a6, a8⟩ := ih s e2
          -- this one's own
          obtain ⟨L1, b1, b2, b3, b4⟩ : ∃ L1 : List Addr, (∀ Bp, Same B Bp → (∀ a ∈ L1, ∀ u, H a = some u → Bp a = some u) → Rep K Bp v d) ∧ (∀ a ∈ L1, B a = none ∧ ∃ u, H a = some u ∧ noTup u = true) ∧ (r1.lent = false → L1 = []) ∧
              (((∃ o, r1 = .own o) ∨ r1.lent = false) → ∃ M, F1.Perm (L1 ++ M)) := by
            unfold RV.plainArg at e1
            split at e1
            · rename_i d' e3
              cases e1
              exact ⟨[], fun Bp sp _ => (rv_fz (show rvR K mg B H F1 v r1 from r) e3).mono sp, (fun _ z => nomatch z), fun _ => rfl, fun _ => ⟨F1, List.Perm.refl _⟩⟩
            · rename_i hno
              obtain ⟨G', k⟩ := rv_own (show rvR K mg B H F1 v r1 from r)
              have ln : r1.lent = true := by
                unfold RV.lent
                split
                · rename_i d' e3; exact absurd e3 (hno d')
                · rfl
              cases r1 with
              | own o => exact ⟨F1, fun Bp sp l => Own.frz sp (show Own K mg B H F1 v o from r) e1 l, fun a m => ⟨(Own.there (show Own K mg B H F1 v o from r) a m).1, Own.kind (show Own K mg B H F1 v o from r) a m⟩, (fun z => by rw [ln] at z; cases z), fun _ => ⟨[], by simp⟩⟩
              | view o => exact ⟨G', fun Bp sp l => k.frz sp e1 l, fun a m => ⟨(k.there a m).1, k.kind a m⟩, (fun z => by rw [ln] at z; cases z), (fun z => by rcases z with ⟨o', z⟩ | z; cases z; rw [ln] at z; cases z)⟩
          refine ⟨L1 ++ L, Gio, Gt, Gc, Fh, a1, a2, p1, fun z => p2 z, fun z => ?_, p4.trans (List.sublist_append_right _ _), fun Bp sp l n => ?_, fun a m => (List.mem_append.mp m).elim (b2 a) (a4 a), fun z => ?_, fun z => a6 z, fun B2 B3 H2 Fh' P vs' G' ds' s2 ev r2 cv io => ?_⟩
          · have z' : looks as = false ∧ ((∃ o, r1 = .own o) ∨ r1.lent = false) := by
              cases r1 with
              | own o => exact ⟨z, .inl ⟨o, rfl⟩⟩
              | view o =>
                have z' : ((RV.view o).lent || looks as) = false := z
                rw [Bool.or_eq_false_iff] at z'
                exact ⟨z'.2, .inr z'.1⟩
            obtain ⟨M1, k1⟩ := b4 z'.2
            obtain ⟨M2, k2⟩ := p3 z'.1
            exact ⟨M1 ++ M2, perm3 k2 k1⟩
          · exact .cons (F := []) (.fz (b1 Bp sp fun a m => l a (List.mem_append_left _ m))) (a3 Bp sp (fun a m => l a (List.mem_append_right _ m)) n)
          · have z' : (r1.lent || lends as) = false := z
            rw [Bool.or_eq_false_iff] at z'
            rw [b3 z'.1, a5 z'.2]; rfl
          · subst ev
            cases r2 with
            | @cons F3 G3 _ _ o' ds3 r3 t3 =>
              obtain ⟨F2, Gi, c1, c2, c3⟩ := a8 B2 B3 H2 Fh' P vs G3 ds3 s2 rfl t3 cv io
              exact ⟨F2, Gi, c1, c2, c3.trans (List.sublist_append_right _ _)⟩
        · cases e
      · cases e
    | tmp o =>
      rw [gath] at e
      split at e
      · rename_i ds1 envh1 e2
        cases e
        obtain ⟨L, Gio, Gt, Gc, Fh, a1, a2, p1, p2, p3, p4, a3, a4, a5, a6, a8⟩ := ih s e2
        have r' : Own K mg B H F1 v o := r
        refine ⟨L, Gio, F1 ++ Gt, F1 ++ Gc, Fh, a1, a2, ?_, (fun z => by cases z), fun z => ?_, (List.Sublist.refl F1).append p4, fun Bp sp l n => ?_, a4, fun z => a5 z, fun z => a6 z, fun B2 B3 H2 Fh' P vs' G' ds' s2 ev r2 cv io => ?_⟩
        · refine (p1.append_left F1).trans ?_
          rw [← List.append_assoc, ← List.append_assoc]
          exact (List.perm_append_comm).append_right Gt
        · obtain ⟨M, k⟩ := p3 z
          exact ⟨M, perm3' k⟩
        · exact .cons (r'.mono sp fun a m => ⟨fun _ z => z, n a (List.mem_append_left _ m)⟩) (a3 Bp sp l fun a m => n a (List.mem_append_right _ m))
        · subst ev
          cases r2 with
          | @cons F3 G3 _ _ o' ds3 r3 t3 =>
            obtain ⟨F2, Gi, c1, c2, c3⟩ := a8 B2 B3 H2 Fh' P vs G3 ds3 s2 rfl t3 cv io
            exact ⟨F2, Gi, c1, c2, c3.trans (List.sublist_append_right _ _)⟩
      · cases e
    | io i =>
      rw [gath] at e
      split at e
      · cases e
      · rename_i o hn e0
        split at e
        · rename_i ds1 envh1 e2
          cases e
          obtain ⟨rfl, hv⟩ := r
          obtain ⟨w, Fi, Fr, b1, b2, b3, b4⟩ := s.take e0 (fun z => hn (by subst z; rfl))
          rw [hv] at b1; cases b1
          obtain ⟨L, Gio, Gt, Gc, Fh, a1, a2, p1, p2, p3, p4, a3, a4, a5, a6, a8⟩ := ih b3 e2
          have hu : (env.set i OD.un)[i]? = some .un := by
            rw [List.getElem?_set_self]; exact (List.getElem?_eq_some_iff.mp e0).1
          obtain ⟨u1, u2⟩ := gath_un e2 hu
          refine ⟨L, Fi ++ Gio, Gt, Fi ++ Gc, Fh, a1, ?_, ?_, fun z => p2 z, fun z => p3 z, p4, fun Bp sp l n => ?_, a4, fun z => a5 z, (fun z => by cases z), fun B2 B3 H2 Fh' P vs' G' ds' s2 ev r2 cv io => ?_⟩
          · rw [List.append_assoc]
            exact b4.trans (a2.append_left Fi)
          · rw [List.append_assoc]; exact p1.append_left Fi
          · exact .cons (b2.mono sp fun a m => ⟨fun _ z => z, n a (List.mem_append_left _ m)⟩) (a3 Bp sp l fun a m => n a (List.mem_append_right _ m))
          · subst ev
            cases r2 with
            | @cons F3 G3 _ _ o' ds3 r3 t3 =>
              obtain ⟨F2, Gi, c1, c2, c3⟩ := a8 B2 B3 H2 Fh' P vs G3 ds3 s2 rfl t3 cv io.2
              obtain ⟨F4, d1, d2⟩ := c1.put (u2 ds3 _ u1) hv (cv _ _ _ io.1 r3)
              refine ⟨F4, F3 ++ Gi, d1, ?_, (List.Sublist.refl F3).append c3⟩
              rw [List.append_assoc]
              exact d2.trans (c2.append_left F3)
        · cases e
      · cases e
end
end Tl
namespace Tl
open PySem PySem.Spec L2

/-! ### the call of a def -/
def callAt (Fm : List OD → FO) (ars : List AR) (env : Env) (touched : Bool) : O RV :=
  match gath ars env with
  | none => .bad
  | some (ds, envh) => if (looks ars && (hasIo ars || hasTmp ars)) = true then .bad else
    match Fm ds with
    | .ret o ds' => if (lends ars && !(nfo o && nfIo ars ds')) = true then .bad else if (hasIo ars || touched) = true then .eff (.own o) (putB ars ds' envh) else .ok (.own o)
    | .exc c ds' => if (lends ars && !(nfIo ars ds')) = true then .bad else .exc c (putB ars ds' envh)
    | .bad => .bad
def eCall (Fm : List OD → FO) (f : Env → O (List AR)) : Env → O RV := fun env =>
  match f env with
  | .ok ars => callAt Fm ars env false
  | .eff ars env1 => callAt Fm ars env1 true
  | .exc c e => .exc c e
  | .bad => .bad
section
variable {X : Cx} {W : WX}
theorem more_in {B H : Hp} {L : List Addr} {a : Addr} (h : a ∈ L) : more B H L a = H a := if_pos h
theorem more_out {B H : Hp} {L : List Addr} {a : Addr} (h : a ∉ L) : more B H L a = B a := if_neg h
theorem less_in {B : Hp} {L : List Addr} {a : Addr} (h : a ∈ L) : less B L a = none := if_pos h
theorem less_out {B : Hp} {L : List Addr} {a : Addr} (h : a ∉ L) : less B L a = B a := if_neg h
theorem less_nil {B : Hp} : less B [] = B := by funext a; exact less_out (by simp)
/-- the call, from the state behind the arguments -/
theorem call_ok {Fm : List OD → FO} {n : Nat} {B0 H0 B H : Hp} {F0 F G : List Addr} {σ : St} {env : Env} {vs : List V} {ars : List AR} {Q : VK} {t : Bool} (S : Sta X.K X.mg B H F σ env) (h : lsR (aR X.K X.mg σ) B H G vs ars) (hl : vs.length = n)
    (nGF : (G ++ F).Nodup) (f0 : Frm B0 H0 F0 B H (G ++ F)) (fp : t = false → F0 = F ∧ Frm B0 H0 [] B H G) (q : EPost X W (rvR X.K X.mg) B0 H0 F0 σ Q (callAt Fm ars env t)) : spOf X.K X.mg n Fm vs H Q (WE W σ) := by
  have dj : ∀ a ∈ G, a ∉ F := fun a m z => (List.nodup_append.mp nGF).2.2 a m a z rfl
  have nG : G.Nodup := (List.nodup_append.mp nGF).1
  unfold callAt at q
  split at q
  · exact q.elim
  · rename_i ds envh e
    split at q
    · exact q.elim
    · rename_i hlk
      obtain ⟨L, Gio, Gt, Gc, Fh, a1, a2, p1, p2, p3, p4, a3, a4, a5, a6, a8⟩ := gath_ok S.sl h e
      have nd := a2.nodup_iff.mp S.nd
      have ndg := (List.nodup_append.mp nd).1
      have ndh := (List.nodup_append.mp nd).2.1
      have inF : ∀ a, a ∈ Gio ∨ a ∈ Fh → a ∈ F := fun a m => a2.mem_iff.mpr (List.mem_append.mpr m)
      have inC : ∀ a, a ∈ Gc → a ∈ G ++ F := fun a m => (List.mem_append.mp (p1.mem_iff.mp m)).elim (fun z => List.mem_append_right _ (inF a (.inl z))) fun z => List.mem_append_left _ (p4.subset z)
      have nGc : Gc.Nodup := p1.nodup_iff.mpr (List.nodup_append.mpr ⟨ndg, nG.sublist p4, fun a ha b hb e => by subst e; exact dj a (p4.subset hb) (inF a (.inl ha))⟩)
      -- what is lent is not handed on to be changed
      have lg : ∀ a ∈ L, a ∉ Gc := fun a m z => by
        cases hq : looks ars with
        | false =>
          obtain ⟨M, k⟩ := p3 hq
          rcases List.mem_append.mp (p1.mem_iff.mp z) with y | y
          · exact dj a (k.mem_iff.mpr (List.mem_append_left _ (List.mem_append_left _ m))) (inF a (.inl y))
          · have := k.nodup_iff.mp nG
            exact (List.nodup_append.mp (List.nodup_append.mp this).1).2.2 a m a y rfl
        | true =>
          have hn : hasIo ars = false ∧ hasTmp ars = false := by
            rw [hq, Bool.true_and] at hlk
            simpa using hlk
          have z2 := p1.mem_iff.mp z
          rw [(a6 hn.1).1, p2 hn.2] at z2
          cases z2
      have sp : Same B (more B H L) := fun a u z => by
        rw [more_out]
        · exact z
        · intro m; rw [(a4 a m).1] at z; cases z
      have sp2 : Same (more B H L) H := fun a u z => by
        by_cases m : a ∈ L
        · rw [more_in m] at z; exact z
        · rw [more_out m] at z; exact S.sub a u z
      have thGF : ∀ a ∈ G ++ F, B a = none ∧ ∃ u, H a = some u := fun a m => (List.mem_append.mp m).elim ((stb_ls (stb_aR (K := X.K) (mg := X.mg) σ)).there _ _ _ _ _ h a) (S.sl.there a)
      have gn : ∀ a ∈ Gc, more B H L a = none := fun a m => by
        rw [more_out fun z => lg a z m]
        exact (thGF a (inC a m)).1
      refine ⟨hl, more B H L, Gc, ds, sp2, a3 _ sp (fun a m u z => by rw [more_in m]; exact z) gn, nGc, ?_⟩
      have fhc : ∀ a ∈ Fh, a ∉ Gc := fun a m z => by
        rcases List.mem_append.mp (p1.mem_iff.mp z) with y | y
        · exact (List.nodup_append.mp nd).2.2 a y a m rfl
        · exact dj a (p4.subset y) (inF a (.inr m))
      -- what comes behind
      have back : ∀ {B' H' : Hp} {F' : List Addr}, Same B' H' → Frm (more B H L) H Gc B' H' F' → Same B (less B' L) ∧ Same (less B' L) H' ∧ (∀ a ∈ L, ∀ u, B' a = some u → noTup u = true) ∧
          (∀ a u, H a = some u → a ∉ Gc → H' a = some u) ∧ (∀ a u, H a = some u → a ∉ Gc → B a = none → less B' L a = none) := fun {B' H' F'} s' f => by
        have inL : ∀ a ∈ L, ∀ u, H a = some u → B' a = some u := fun a m u z => f.sB a u (by rw [more_in m]; exact z)
        refine ⟨fun a u z => ?_, fun a u z => ?_, fun a m u z => ?_, fun a u z m => f.keep a u z m, fun a u z m b => ?_⟩
        · have m : a ∉ L := fun m => by rw [(a4 a m).1] at z; cases z
          rw [less_out m]
          exact f.sB a u (sp a u z)
        · by_cases m : a ∈ L
          · rw [less_in m] at z; cases z
          · rw [less_out m] at z; exact s' a u z
        · obtain ⟨_, w, e1, e2⟩ := a4 a m
          rw [inL a m w e1] at z; cases z
          exact e2
        · by_cases ml : a ∈ L
          · exact less_in ml
          · rw [less_out ml]
            exact f.forg a u z m (by rw [more_out ml]; exact b)
      have slots : ∀ {B' H' : Hp} {F' : List Addr}, Same B' H' → Frm (more B H L) H Gc B' H' F' → Slots X.K X.mg (less B' L) H' Fh σ envh := fun {B' H' F'} s' f => by
        obtain ⟨b1, b2, b3, b4, b5⟩ := back s' f
        refine a1.mono b1 fun a m => ?_
        obtain ⟨c1, u, c2⟩ := S.sl.there a (inF a (.inr m))
        have ng := fhc a m
        exact ⟨fun u z => b4 a u z ng, b5 a u c2 ng c1⟩
      -- results put back
      have putq : ∀ {B' H' : Hp} {F' G' : List Addr} {ds' : List OD}, Same B' H' → Frm (more B H L) H Gc B' H' F' → OwnL X.K X.mg B' H' G' vs ds' → (lends ars = true → nfIo ars ds' = true) →
          ∃ F2 Gi, Slots X.K X.mg (less B' L) H' F2 σ (putB ars ds' envh) ∧ F2.Perm (Gi ++ Fh) ∧ Gi.Sublist G' := fun {B' H' F' G' ds'} s' f r nf => by
        obtain ⟨b1, b2, b3, b4, b5⟩ := back s' f
        cases hle : lends ars with
        | true => exact a8 _ B' H' Fh (fun o => nfo o = true) vs G' ds' (slots s' f) rfl r (fun F v o p z => z.less b3 p) (ioAll_nf (nf hle))
        | false =>
          have e0 := a5 hle
          have sl := slots s' f
          rw [e0, less_nil] at sl ⊢
          exact a8 _ B' H' Fh (fun _ => True) vs G' ds' sl rfl r (fun F v o p z => z) ioAll_true
      have frm : ∀ {B' H' : Hp} {Fr G' F2 Gi : List Addr}, Same B' H' → Frm (more B H L) H Gc B' H' (Fr ++ G') → F2.Perm (Gi ++ Fh) → Gi.Sublist G' → (Fr ++ G').Nodup → (Fr ++ F2).Nodup ∧ F2.Nodup ∧ Frm B H (G ++ F) (less B' L) H' (Fr ++ F2) := fun {B' H' Fr G' F2 Gi} s' f pm sb nn => by
        obtain ⟨b1, b2, b3, b4, b5⟩ := back s' f
        have fh : ∀ a ∈ Fh, ∃ u, H a = some u := fun a m => (S.sl.there a (inF a (.inr m))).2
        have nfg : ∀ a, a ∈ Fr ++ G' → a ∉ Fh := fun a m z => by
          rcases f.fr a m with y | y
          · exact fhc a z y
          · obtain ⟨u, e⟩ := fh a z
            rw [e] at y; cases y
        have ngi : Gi.Nodup := (List.nodup_append.mp nn).2.1.sublist sb
        have n2 : F2.Nodup := pm.nodup_iff.mpr (List.nodup_append.mpr ⟨ngi, ndh, fun a ha b hb z => by subst z; exact nfg a (List.mem_append_right _ (sb.subset ha)) hb⟩)
        refine ⟨List.nodup_append.mpr ⟨(List.nodup_append.mp nn).1, n2, fun a ha b hb z => ?_⟩, n2, b1, fun a u z m => b4 a u z fun y => m (inC a y), fun a u z m b => b5 a u z (fun y => m (inC a y)) b, fun a m => ?_⟩
        · subst z
          rcases List.mem_append.mp (pm.mem_iff.mp hb) with y | y
          · exact (List.nodup_append.mp nn).2.2 a ha a (sb.subset y) rfl
          · exact nfg a (List.mem_append_left _ ha) y
        · rcases List.mem_append.mp m with m | m
          · exact (f.fr a (List.mem_append_left _ m)).imp (fun y => inC a y) id
          · rcases List.mem_append.mp (pm.mem_iff.mp m) with y | y
            · exact (f.fr a (List.mem_append_right _ (sb.subset y))).imp (fun y => inC a y) id
            · exact .inl (List.mem_append_right _ (inF a (.inr y)))
      cases e2 : Fm ds with
      | bad => rw [e2] at q; exact q.elim
      | exc c ds' =>
        rw [e2] at q
        dsimp only at q
        split at q
        · exact q.elim
        · rename_i hn
          intro B' H' G' r s' nn f C hC
          have nf : lends ars = true → nfIo ars ds' = true := fun z => by
            rw [z] at hn; simpa using hn
          obtain ⟨F2, Gi, c1, c2, c3⟩ := putq s' f r nf
          obtain ⟨d1, d2, d3⟩ := frm (Fr := []) (G' := G') s' f c2 c3 nn
          exact q (less B' L) H' F2 ⟨(back s' f).2.1, c1, d2⟩ (f0.trans d3) C hC
      | ret o ds' =>
        rw [e2] at q
        dsimp only at q
        split at q
        · exact q.elim
        · rename_i hn
          intro v B' H' Fr G' ro r s' nn f
          have nf : lends ars = true → nfo o = true ∧ nfIo ars ds' = true := fun z => by
            rw [z] at hn; simpa using hn
          obtain ⟨F2, Gi, c1, c2, c3⟩ := putq s' f r fun z => (nf z).2
          obtain ⟨d1, d2, d3⟩ := frm s' f c2 c3 nn
          have ro2 : Own X.K X.mg (less B' L) H' Fr v o := by
            cases hle : lends ars with
            | true => exact ro.less (back s' f).2.2.1 (nf hle).1
            | false => rw [a5 hle, less_nil]; exact ro
          split at q
          · exact q v (less B' L) H' Fr F2 ro2 c1 (back s' f).2.1 d1 (f0.trans d3)
          · rename_i hno
            have hno2 : hasIo ars = false ∧ t = false := by simpa using hno
            obtain ⟨eF, fq⟩ := fp hno2.2
            have e0 := (a6 hno2.1).1
            have inG : ∀ a, a ∈ Gc → a ∈ G := fun a m => by
              have z := p1.mem_iff.mp m
              rw [e0] at z
              exact p4.subset z
            refine q v (less B' L) H' Fr ro2 (back s' f).2.1 (List.nodup_append.mp nn).1 (fq.trans ⟨d3.sB, fun a u z m => (back s' f).2.2.2.1 a u z fun y => m (inG a y), fun a u z m b => (back s' f).2.2.2.2 a u z (fun y => m (inG a y)) b, fun a m => ?_⟩)
            exact (f.fr a (List.mem_append_left _ m)).imp (inG a) id
theorem EOk.call {t : TA} {f : Env → O (List AR)} {Fm : List OD → FO} {n : Nat} (hn : ∀ env ars, (f env = .ok ars ∨ ∃ e, f env = .eff ars e) → ars.length = n) (h : EOkS X W (fun σ => lsR (aR X.K X.mg σ)) t f) :
    EOk X W (rvR X.K X.mg) (tCallS (spOf X.K X.mg n Fm) (WE W) t) (eCall Fm f) := by
  intro B H F σ env Q S q
  refine h B H F σ env _ S ?_
  dsimp only [eCall] at q
  cases e : f env with
  | bad => rw [e] at q; exact q
  | exc c e1 => rw [e] at q; exact q
  | ok ars =>
    rw [e] at q
    intro vs B1 H1 G1 r1 s1 n1 f1
    exact call_ok (t := false) (S.pure s1 f1) r1 ((lsR_len r1).trans (hn env ars (.inl e))) (nodup_new (fun a m => (S.sl.there a m).2) S.nd n1 f1) f1.wide0 (fun _ => ⟨rfl, f1⟩) q
  | eff ars env1 =>
    rw [e] at q
    intro vs B1 H1 G1 F1 r1 l1 s1 n1 f1
    exact call_ok (t := true) ⟨s1, l1, (List.nodup_append.mp n1).2.1⟩ r1 ((lsR_len r1).trans (hn env ars (.inr ⟨_, e⟩))) n1 f1 (fun z => nomatch z) q
end
end Tl
namespace Tl
open PySem PySem.Spec L2

/-! ### statements -/
/-- the slots of io hold what they held -/
def Agree (io : List Nat) (σ σ' : St) : Prop := ∀ i ∈ io, σ'[i]? = σ[i]?
theorem Agree.refl {io : List Nat} {σ : St} : Agree io σ σ := fun _ _ => rfl
theorem Agree.trans {io : List Nat} {σ σ' σ2 : St} (a : Agree io σ σ') (b : Agree io σ' σ2) : Agree io σ σ2 := fun i m => (b i m).trans (a i m)
def SPost (X : Cx) (W : WX) (io : List Nat) (B H : Hp) (F : List Addr) (σ : St) (D : Ends) : SO → Prop
  | .nx env' => ∀ B' H' F' σ', Sta X.K X.mg B' H' F' σ' env' → Frm B H F B' H' F' → Agree io σ σ' → D.nx σ' H'
  | .rt o env' => ∀ v B' H' G F' σ', Own X.K X.mg B' H' G v o → Slots X.K X.mg B' H' F' σ' env' → Same B' H' → (G ++ F').Nodup → Frm B H F B' H' (G ++ F') → Agree io σ σ' → D.rt v H'
  | .bk env' => ∀ B' H' F' σ', Sta X.K X.mg B' H' F' σ' env' → Frm B H F B' H' F' → Agree io σ σ' → D.bk σ' H'
  | .ct env' => ∀ B' H' F' σ', Sta X.K X.mg B' H' F' σ' env' → Frm B H F B' H' F' → Agree io σ σ' → D.ct σ' H'
  | .exc c env' => ∀ B' H' F' σ', Sta X.K X.mg B' H' F' σ' env' → Frm B H F B' H' F' → Agree io σ σ' → Raised X W c σ' H'
  | .bad => False
def SOk (X : Cx) (W : WX) (io : List Nat) (t : TS) (f : Env → SO) : Prop :=
  ∀ B H F σ env D, Sta X.K X.mg B H F σ env → SPost X W io B H F σ D (f env) → t D σ H
def PSr (X : Cx) (W : WX) (io : List Nat) (st : Stmt) (f : Env → SO) : Prop := ∃ t, PS X st t ∧ SOk X W io t f
def PSsr (X : Cx) (W : WX) (io : List Nat) (st : List Stmt) (f : Env → SO) : Prop := ∃ t, PSs X st t ∧ SOk X W io t f

section
variable {X : Cx} {W : WX} {io : List Nat} {a b c e : Expr} {es : List Expr} {f fa fb fc : Env → O RV} {st : Stmt} {sts rest : List Stmt} {pos : Pos}
/-- later -/
theorem SPost.later {B H B1 H1 : Hp} {F F1 : List Addr} {σ σ1 : St} {D : Ends} {o : SO} (q : SPost X W io B H F σ D o) (f : Frm B H F B1 H1 F1) (ag : Agree io σ σ1) : SPost X W io B1 H1 F1 σ1 D o := by
  cases o with
  | bad => exact q
  | rt o env' => exact fun v B' H' G F' σ' a b c d f' g => q v B' H' G F' σ' a b c d (f.trans f') (ag.trans g)
  | _ => exact fun B' H' F' σ' s f' g => q B' H' F' σ' s (f.trans f') (ag.trans g)
def sSeq (f g : Env → SO) : Env → SO := fun env => match f env with
  | .nx e => g e
  | o => o
def sNx : Env → SO := fun env => .nx env
theorem SOk.seq {t u : TS} {f g : Env → SO} (h : SOk X W io t f) (k : SOk X W io u g) : SOk X W io (tSeq t u) (sSeq f g) := by
  intro B H F σ env D S q
  refine h B H F σ env _ S ?_
  dsimp only [sSeq] at q
  cases e : f env with
  | nx env1 =>
    rw [e] at q
    exact fun B1 H1 F1 σ1 S1 f1 g1 => k B1 H1 F1 σ1 env1 D S1 (SPost.later q f1 g1)
  | _ => rw [e] at q; exact q
theorem ss_nil : PSsr X W io [] sNx := ⟨_, pss_nil, fun B H F σ env D S q => q B H F σ S Frm.refl Agree.refl⟩
theorem ss_cons {f g : Env → SO} (h : PSr X W io st f) (k : PSsr X W io rest g) : PSsr X W io (st :: rest) (sSeq f g) := by
  obtain ⟨t, h1, h2⟩ := h
  obtain ⟨u, k1, k2⟩ := k
  exact ⟨_, pss_cons h1 k1, h2.seq k2⟩
theorem ss_one {f : Env → SO} (h : PSr X W io st f) : PSsr X W io [st] f := by
  obtain ⟨t, h1, h2⟩ := h
  exact ⟨_, pss_one h1, h2⟩
theorem s_pass : PSr X W io (.Pass pos) sNx := ⟨_, ps_pass, fun B H F σ env D S q => q B H F σ S Frm.refl Agree.refl⟩
def sBk : Env → SO := fun env => .bk env
def sCt : Env → SO := fun env => .ct env
theorem s_break : PSr X W io (.Break pos) sBk := ⟨_, ps_break, fun B H F σ env D S q => q B H F σ S Frm.refl Agree.refl⟩
theorem s_cont : PSr X W io (.Continue pos) sCt := ⟨_, ps_continue, fun B H F σ env D S q => q B H F σ S Frm.refl Agree.refl⟩
theorem s_doc {x j pos pos'} : PSr X W io (.Expr (.Constant (.str x) j pos) pos') sNx := ⟨_, ps_doc, fun B H F σ env D S q => q B H F σ S Frm.refl Agree.refl⟩
/-- an expression, its value dropped -/
def sE {β : Type} (f : Env → O β) (k : β → Env → SO) : Env → SO := fun env => match f env with
  | .ok r => k r env
  | .eff r e => k r e
  | .exc c e => .exc c e
  | .bad => .bad
def sExpr (f : Env → O RV) : Env → SO := sE f fun _ e => .nx e
theorem s_expr (h : PEr X W e f) (hs : swapsWith e none pos.line X.env = pure false := by rfl) : PSr X W io (.Expr e pos) (sExpr f) := by
  obtain ⟨t, h, k⟩ := h
  refine ⟨_, ps_expr h hs, fun B H F σ env D S q => k B H F σ env _ S ?_⟩
  dsimp only [sExpr, sE] at q
  cases e2 : f env with
  | bad => rw [e2] at q; exact q
  | exc c e => rw [e2] at q; exact fun B' H' F' S' f' => q B' H' F' σ S' f' Agree.refl
  | ok r => rw [e2] at q; exact fun v B' H' G r s n f => q B' H' F σ (S.pure s f) (f.wide (fun _ z => nomatch z) fun c m => .inr m) Agree.refl
  | eff r e => rw [e2] at q; exact fun v B' H' G F' r l s n f => q B' H' F' σ ⟨s, l, (List.nodup_append.mp n).2.1⟩ (f.wide (fun c m => m) fun c m => .inl (List.mem_append_right _ m)) Agree.refl
def kRet (r : RV) (e : Env) : SO := match r with
  | .own o => .rt o e
  | .view _ => .bad
def sRet (f : Env → O RV) : Env → SO := sE f kRet
theorem s_ret (h : PEr X W e f) : PSr X W io (.Return (some e) pos) (sRet f) := by
  obtain ⟨t, h, k⟩ := h
  refine ⟨_, ps_ret h, fun B H F σ env D S q => k B H F σ env _ S ?_⟩
  dsimp only [sRet, sE] at q
  cases e2 : f env with
  | bad => rw [e2] at q; exact q
  | exc c e => rw [e2] at q; exact fun B' H' F' S' f' => q B' H' F' σ S' f' Agree.refl
  | ok r =>
    rw [e2] at q
    cases r with
    | view o => exact q.elim
    | own o => exact fun v B' H' G r s n f => q v B' H' G F σ r (S.pure s f).sl s (nodup_new (fun a m => (S.sl.there a m).2) S.nd n f) f.wide0 Agree.refl
  | eff r e =>
    rw [e2] at q
    cases r with
    | view o => exact q.elim
    | own o => exact fun v B' H' G F' r l s n f => q v B' H' G F' σ r l s n f Agree.refl
def sRetN : Env → SO := fun env => .rt (.fz .non) env
theorem s_retN : PSr X W io (.Return none pos) sRetN := ⟨_, ps_retN, fun B H F σ env D S q => q .non B H [] F σ (.fz .non) S.sl S.sub S.nd Frm.refl Agree.refl⟩
def sIf (c : Env → O Bool) (f g : Env → SO) : Env → SO := sE c fun b e => if b = true then f e else g e
theorem s_if {c : Expr} {cc : Env → O Bool} {f g : Env → SO} {p q : List Stmt} (hc : PTr X W c cc) (hp : PSsr X W io p f) (hq : PSsr X W io q g) : PSr X W io (.If c p q pos) (sIf cc f g) := by
  obtain ⟨t, h, k⟩ := hc
  obtain ⟨t1, h1, k1⟩ := hp
  obtain ⟨t2, h2, k2⟩ := hq
  refine ⟨_, ps_if h h1 h2, fun B H F σ env D S q => k B H F σ env _ S ?_⟩
  dsimp only [sIf, sE] at q
  have fin : ∀ (b : Bool) (B' H' : Hp) (F' : List Addr) (e : Env), Sta X.K X.mg B' H' F' σ e → Frm B H F B' H' F' → SPost X W io B H F σ D (if b = true then f e else g e) → if b = true then t1 D σ H' else t2 D σ H' := fun b B' H' F' e S' f' q' => by
    cases b with
    | true => exact k1 B' H' F' σ e D S' (SPost.later q' f' Agree.refl)
    | false => exact k2 B' H' F' σ e D S' (SPost.later q' f' Agree.refl)
  cases e2 : cc env with
  | bad => rw [e2] at q; exact q
  | exc c e => rw [e2] at q; exact fun B' H' F' S' f' => q B' H' F' σ S' f' Agree.refl
  | ok b =>
    rw [e2] at q
    intro b' B' H' G r s n f
    obtain ⟨rfl, rfl⟩ := r
    exact fin _ B' H' F env (S.pure s f) (f.wide (fun _ z => nomatch z) fun c m => .inr m) q
  | eff b e =>
    rw [e2] at q
    intro b' B' H' G F' r l s n f
    obtain ⟨rfl, rfl⟩ := r
    exact fin _ B' H' F' e ⟨s, l, n⟩ f q

/-! ### targets -/
def GPost (X : Cx) (io : List Nat) (B H : Hp) (F : List Addr) (σ : St) (Q : St → Hp → Prop) : Option Env → Prop
  | some env' => ∀ B' H' F' σ', Sta X.K X.mg B' H' F' σ' env' → Frm B H F B' H' F' → Agree io σ σ' → Q σ' H'
  | none => False
def PGr (X : Cx) (io : List Nat) (tg : Expr) (g : OD → Env → Option Env) : Prop := ∃ t, PG X tg t ∧ ∀ B H F G σ env v o Q, Slots X.K X.mg B H F σ env → Same B H → Own X.K X.mg B H G v o → (G ++ F).Nodup → GPost X io B H (G ++ F) σ Q (g o env) → t v σ H Q
def PGsr (X : Cx) (io : List Nat) (tgs : List Expr) (g : List OD → Env → Option Env) : Prop := ∃ t, PGs X tgs t ∧ ∀ B H F G σ env vs os Q, Slots X.K X.mg B H F σ env → Same B H → OwnL X.K X.mg B H G vs os → (G ++ F).Nodup → GPost X io B H (G ++ F) σ Q (g os env) → t vs σ H Q
theorem Slots.store {K : PySem.W.Frag} {mg : Str → Option Value} {B H : Hp} {F : List Addr} {σ : St} {env : Env} (x : Slots K mg B H F σ env) {i : Nat} (hi : i < env.length) {v : V} {G : List Addr} {o : OD} (r : Own K mg B H G v o) :
    ∃ F' Fr, Slots K mg B H F' (σ.set i (some v)) (env.set i o) ∧ F'.Perm (G ++ Fr) ∧ Fr.Sublist F := by
  induction x generalizing i with
  | nil => simp at hi
  | @un F x σ env h ih =>
    cases i with
    | zero => exact ⟨G ++ F, F, .cons r h, List.Perm.refl _, List.Sublist.refl _⟩
    | succ i =>
      obtain ⟨F', Fr, h1, h2, h3⟩ := ih (by simpa using hi)
      exact ⟨F', Fr, .un h1, h2, h3⟩
  | @cons F1 G1 w o' σ env r' h ih =>
    cases i with
    | zero => exact ⟨G ++ G1, G1, .cons r h, List.Perm.refl _, List.sublist_append_right _ _⟩
    | succ i =>
      obtain ⟨F', Fr, h1, h2, h3⟩ := ih (by simpa using hi)
      refine ⟨F1 ++ F', F1 ++ Fr, .cons r' h1, ?_, (List.Sublist.refl _).append h3⟩
      refine (h2.append_left F1).trans ?_
      rw [← List.append_assoc, ← List.append_assoc]
      exact (List.perm_append_comm).append_right Fr
def gSet (i : Nat) : OD → Env → Option Env := fun o env => if i < env.length then some (env.set i o) else none
theorem Slots.len {K : PySem.W.Frag} {mg : Str → Option Value} {B H : Hp} {F : List Addr} {σ : St} {env : Env} (x : Slots K mg B H F σ env) : σ.length = env.length := by
  induction x with
  | nil => rfl
  | un _ ih => simp [ih]
  | cons _ _ ih => simp [ih]
theorem Agree.set {i : Nat} {σ : St} {v : Option V} (h : io.contains i = false) : Agree io σ (σ.set i v) := fun j m => by
  have : i ≠ j := fun e => by
    subst e
    have : io.contains i = true := by simpa using m
    rw [h] at this; cases this
  rw [List.getElem?_set_ne this]
/-- a slot's data put anew: what was there is nobody's then -/
theorem store_ok {B H : Hp} {F G : List Addr} {σ : St} {env : Env} {v : V} {o : OD} {i : Nat} (sl : Slots X.K X.mg B H F σ env) (s : Same B H) (r : Own X.K X.mg B H G v o) (n : (G ++ F).Nodup) (hi : i < env.length) (hio : io.contains i = false) :
    ∃ F', Sta X.K X.mg B H F' (σ.set i (some v)) (env.set i o) ∧ Frm B H (G ++ F) B H F' ∧ Agree io σ (σ.set i (some v)) := by
  obtain ⟨F', Fr, h1, h2, h3⟩ := sl.store hi r
  have nn : (G ++ Fr).Nodup := n.sublist ((List.Sublist.refl _).append h3)
  exact ⟨F', ⟨s, h1, h2.nodup_iff.mpr nn⟩, ⟨Same.refl _, fun _ _ e _ => e, fun _ _ _ _ b => b, fun a m => .inl (((List.Sublist.refl _).append h3).subset (h2.mem_iff.mp m))⟩, Agree.set hio⟩
theorem g_name (i : Nat) {x : Str} (hN : X.N.Nodup) (hi : X.N[i]? = some x := by rfl) (hx : Loc X.env.scope x := by first | exact Or.inl rfl | exact Or.inr rfl) (hio : io.contains i = false := by rfl)
    (hf : X.fn x = true ∨ X.env.scope.names.lookup x = some .local := by first | exact .inl rfl | exact .inr rfl) : PGr X io (.Name x pos) (gSet i) := by
  refine ⟨_, pg_name hN hi hx hf, fun B H F G σ env v o Q sl s r n q => ?_⟩
  dsimp only [gSet] at q
  split at q
  · rename_i hl
    obtain ⟨F', h1, h2, h3⟩ := store_ok (io := io) sl s r n hl hio
    exact q B H F' _ h1 h2 h3
  · exact q.elim
def kAsg (g : OD → Env → Option Env) (r : RV) (e : Env) : SO := match r with
  | .own o => match g o e with
    | some e' => .nx e'
    | none => .bad
  | .view _ => .bad
def sAsg (f : Env → O RV) (g : OD → Env → Option Env) : Env → SO := sE f (kAsg g)
theorem s_asg {tg : Expr} {g : OD → Env → Option Env} (he : PEr X W e f) (hg : PGr X io tg g) (hs : swapsWithSole [tg] e pos.line X.env = pure false := by rfl) (hw : swappedStores [tg] e X.env = pure none := by rfl)
    (h1 : (assignEach [tg] X.env).map (·.2) = [assign tg X.env] := by rfl) : PSr X W io (.Assign [tg] e pos) (sAsg f g) := by
  obtain ⟨t, h, k⟩ := he
  obtain ⟨u, h2, k2⟩ := hg
  refine ⟨_, ps_asg h h2 hs hw h1, fun B H F σ env D S q => k B H F σ env _ S ?_⟩
  dsimp only [sAsg, sE] at q
  cases e2 : f env with
  | bad => rw [e2] at q; exact q
  | exc c e => rw [e2] at q; exact fun B' H' F' S' f' => q B' H' F' σ S' f' Agree.refl
  | ok r =>
    rw [e2] at q
    cases r with
    | view o => exact q.elim
    | own o =>
      intro v B' H' G r s n f
      refine k2 B' H' F G σ env v o D.nx (S.pure s f).sl s r (nodup_new (fun a m => (S.sl.there a m).2) S.nd n f) ?_
      dsimp only [kAsg] at q
      cases e3 : g o env with
      | none => rw [e3] at q; exact q
      | some e' => rw [e3] at q; exact fun B2 H2 F2 σ2 S2 f2 g2 => q B2 H2 F2 σ2 S2 (f.wide0.trans f2) g2
  | eff r e =>
    rw [e2] at q
    cases r with
    | view o => exact q.elim
    | own o =>
      intro v B' H' G F' r l s n f
      refine k2 B' H' F' G σ e v o D.nx l s r n ?_
      dsimp only [kAsg] at q
      cases e3 : g o e with
      | none => rw [e3] at q; exact q
      | some e' => rw [e3] at q; exact fun B2 H2 F2 σ2 S2 f2 g2 => q B2 H2 F2 σ2 S2 (f.trans f2) g2
/-- x = e, the plain way -/
theorem s_set (i : Nat) {x : Str} {pos' : Pos} (hN : X.N.Nodup) (he : PEr X W e f) (hi : X.N[i]? = some x := by rfl) (hx : Loc X.env.scope x := by first | exact Or.inl rfl | exact Or.inr rfl) (hio : io.contains i = false := by rfl)
    (hs : swapsWith e (some (.Name x pos')) pos.line X.env = pure false := by rfl)
    (hf : X.fn x = true ∨ X.env.scope.names.lookup x = some .local := by first | exact .inl rfl | exact .inr rfl) : PSr X W io (.Assign [.Name x pos'] e pos) (sAsg f (gSet i)) := by
  obtain ⟨t, h, k⟩ := he
  refine ⟨_, ps_set hN hi hx h hs hf, fun B H F σ env D S q => k B H F σ env _ S ?_⟩
  dsimp only [sAsg, sE] at q
  cases e2 : f env with
  | bad => rw [e2] at q; exact q
  | exc c e => rw [e2] at q; exact fun B' H' F' S' f' => q B' H' F' σ S' f' Agree.refl
  | ok r =>
    rw [e2] at q
    cases r with
    | view o => exact q.elim
    | own o =>
      intro v B' H' G r s n f
      dsimp only [kAsg, gSet] at q
      split at q
      · rename_i e3
        split at e3
        · rename_i hl
          cases e3
          obtain ⟨F2, h1, h2, h3⟩ := store_ok (io := io) (S.pure s f).sl s r (nodup_new (fun a m => (S.sl.there a m).2) S.nd n f) hl hio
          exact q B' H' F2 _ h1 (f.wide0.trans h2) h3
        · cases e3
      · exact q.elim
  | eff r e =>
    rw [e2] at q
    cases r with
    | view o => exact q.elim
    | own o =>
      intro v B' H' G F' r l s n f
      dsimp only [kAsg, gSet] at q
      split at q
      · rename_i e3
        split at e3
        · rename_i hl
          cases e3
          obtain ⟨F2, h1, h2, h3⟩ := store_ok (io := io) l s r n hl hio
          exact q B' H' F2 _ h1 (f.trans h2) h3
        · cases e3
      · exact q.elim
end
end Tl
namespace Tl
open PySem PySem.Spec L2

section
variable {X : Cx} {W : WX} {io : List Nat} {a b c e : Expr} {es : List Expr} {f fa fb fc : Env → O RV} {st : Stmt} {sts rest : List Stmt} {pos : Pos}
/-! ### tuple targets -/
def gsNil : List OD → Env → Option Env := fun os env => match os with
  | [] => some env
  | _ :: _ => none
def gsCons (g : OD → Env → Option Env) (gs : List OD → Env → Option Env) : List OD → Env → Option Env := fun os env => match os with
  | [] => none
  | o :: r => match g o env with
    | some e => gs r e
    | none => none
def gTupT (n : Nat) (gs : List OD → Env → Option Env) : OD → Env → Option Env := fun o env => match o with
  | .fz (.tup ds) => if ds.length = n then gs (ds.map .fz) env else none
  | .tup os => if os.length = n then gs os env else none
  | _ => none
theorem gs_nil : PGsr X io [] gsNil := by
  refine ⟨_, pgs_nil, fun B H F G σ env vs os Q sl s r n q => ?_⟩
  cases r with
  | nil => exact ⟨rfl, q B H F σ ⟨s, sl, by simpa using n⟩ Frm.refl Agree.refl⟩
  | cons _ _ => exact q.elim
theorem gs_cons {tg : Expr} {tgs : List Expr} {g : OD → Env → Option Env} {gs : List OD → Env → Option Env} (h : PGr X io tg g) (k : PGsr X io tgs gs) (h2 : (assignEach (tg :: tgs) X.env).map (·.2) = assign tg X.env :: (assignEach tgs X.env).map (·.2) := by rfl) : PGsr X io (tg :: tgs) (gsCons g gs) := by
  obtain ⟨t, h1, h3⟩ := h
  obtain ⟨u, k1, k3⟩ := k
  refine ⟨_, pgs_cons h1 k1 h2, fun B H F G σ env vs os Q sl s r n q => ?_⟩
  cases r with
  | nil => exact q.elim
  | @cons F1 G1 v vs o os r1 r2 =>
    have n' := n
    rw [List.append_assoc] at n'
    have na := List.nodup_append.mp n'
    have nb := List.nodup_append.mp na.2.1
    refine ⟨v, vs, rfl, h3 B H F F1 σ env v o _ sl s r1 (List.nodup_append.mpr ⟨na.1, nb.2.1, fun a ha b hb => na.2.2 a ha b (List.mem_append_right _ hb)⟩) ?_⟩
    dsimp only [gsCons] at q
    cases e : g o env with
    | none => rw [e] at q; exact q
    | some e1 =>
      rw [e] at q
      intro B1 H1 F' σ1 S1 f1 g1
      have dj : ∀ a ∈ G1, a ∉ F1 ++ F := fun a m z => by
        rcases List.mem_append.mp z with z | z
        · exact na.2.2 a z a (List.mem_append_left _ m) rfl
        · exact nb.2.2 a m a z rfl
      have r2' := f1.ownL r2 dj
      refine k3 B1 H1 F' G1 σ1 e1 vs os Q S1.sl S1.sub r2' ?_ ?_
      · refine List.nodup_append.mpr ⟨nb.1, S1.nd, fun a ha b hb z => ?_⟩
        subst z
        rcases f1.fr a hb with y | y
        · exact dj a ha y
        · obtain ⟨_, u, e⟩ := r2.there a ha
          rw [e] at y; cases y
      · dsimp only at q
        cases e2 : gs os e1 with
        | none => rw [e2] at q; exact q
        | some e' =>
          rw [e2] at q
          refine fun B2 H2 F2 σ2 S2 f2 g2 => q B2 H2 F2 σ2 S2 (Frm.trans (f1.wide (G := F1 ++ G1 ++ F) (F2 := G1 ++ F') (fun c m => ?_) fun c m => ?_) f2) (g1.trans g2)
          · rcases List.mem_append.mp m with m | m
            · exact List.mem_append_left _ (List.mem_append_left _ m)
            · exact List.mem_append_right _ m
          · rcases List.mem_append.mp m with m | m
            · exact .inr (List.mem_append_left _ (List.mem_append_right _ m))
            · exact .inl m
theorem g_tup {k : Nat} {n : Nat} {gs : List OD → Env → Option Env} (hc : X.calm = true) (h : PGsr X io es gs) (hn : (assignEach es X.env).length = n := by rfl) (hst : (assignEach es X.env).findIdx? (·.1) = none := by rfl) : PGr X io (.Tuple es k pos) (gTupT n gs) := by
  obtain ⟨t, h1, h3⟩ := h
  refine ⟨_, pg_tup hc h1 hn hst, fun B H F G σ env v o Q sl s r nd q => ?_⟩
  dsimp only [gTupT] at q
  split at q
  · rename_i ds
    split at q
    · rename_i hl
      cases r with
      | fz r =>
        cases r with
        | @tup p vs _ k1 k2 => exact ⟨p, vs, rfl, Same.seqT s k1, k2.length.trans hl, h3 B H F [] σ env vs _ Q sl s k2.ownL nd q⟩
    · exact q.elim
  · rename_i os
    split at q
    · rename_i hl
      cases r with
      | @tup p vs _ _ k1 k2 => exact ⟨p, vs, rfl, Same.seqT s k1, k2.length.trans hl, h3 B H F G σ env vs _ Q sl s k2 nd q⟩
    · exact q.elim
  · exact q.elim

/-! ### raise -/
/-- an own exception class named c -/
structure ExcT (K : PySem.W.Frag) (mg : Str → Option Value) (c : Str) : Prop where
  ex : ∃ C, mg c = some (.ref C) ∧ PySem.W.excIn K C [.type "ValueError", .type "Exception", .type "BaseException", .type "object"] "ValueError.__new__" = true ∧ PySem.W.keepIn K (.ref C) = true ∧
    PySem.W.subIn K (.ref C) (.type "BaseException") = some true ∧ PySem.W.typeIn K (.ref C) = some (.type "type")
def sRaise (c : Str) : Env → SO := fun env => .exc c env
theorem s_raise {x m : Str} {j : Nat} {p p2 p3 : Pos} (hc : X.calm = true) (tk : Takes X W) (T : ExcT X.K X.mg x) (hg : Gl X x := by rfl) (hdb : (x == ("__debug__" : Str)) = false := by decide) :
    PSr X W io (.Raise (some (.Call (.Name x p) [.Constant (.str m) j p2] [] p3)) none pos) (sRaise x) := by
  obtain ⟨C, gC, xC, kC, bC, tC⟩ := T.ex
  exact ⟨_, ps_raise hc tk (pmk_own PySem.F.excBase_ValueError xC gC kC (raises_own bC tC) hg hdb), fun B H F σ env D S q => q B H F σ S Frm.refl Agree.refl C gC⟩

/-! ### calls -/
theorem r_call {k n : Nat} {fn : Addr} {fd : FuncData} {ps : List Str} {x : Str} {p : Pos} {Fm : List OD → FO} {fr : Env → O (List AR)} (tk : Takes X W) (F : FnOk X.prog X.w X.K X.mg X.base (L2.CX X.prog X.w) k fn fd ps (spOf X.K X.mg n Fm)) (hr : Room k X.A)
    (hm : X.mg x = some (.ref fn)) (hk : PySem.W.keepIn X.K (.ref fn) = true) (hb : Binds X.K fd ps []) (ha : PCr X W (e :: es) fr) (hl : ∀ env ars, (fr env = .ok ars ∨ ∃ e, fr env = .eff ars e) → ars.length = n) (hg : Gl X x := by rfl) (hdb : (x == ("__debug__" : Str)) = false := by decide)
    (he : starEach (e :: es) X.env = (false, eval e X.env) :: starEach es X.env := by rfl) (hpl : (backTo pos (starEach es X.env)).any (·.1) = false := by rfl) : PEr X W (.Call (.Name x p) (e :: es) [] pos) (eCall Fm fr) := by
  obtain ⟨t, h, k⟩ := ha
  exact ⟨_, pe_callS F hr hg hm hk hb (fun σ => passAt tk σ) h hdb he hpl, EOk.call hl k⟩
theorem cl_nil : ∀ env ars, (cNil env = .ok ars ∨ ∃ e, cNil env = .eff ars e) → ars.length = 0 := fun env ars h => by
  rcases h with h | ⟨e, h⟩ <;> cases h
  rfl
theorem andThen_len {β : Type} {x : O β} {safe : β → Bool} {env : Env} {g : Env → O (List AR)} {j : β → List AR → List AR} {n : Nat} (hj : ∀ a b, (j a b).length = b.length + 1) (h : ∀ env ars, (g env = .ok ars ∨ ∃ e, g env = .eff ars e) → ars.length = n) :
    ∀ ars, (x.andThen safe env (fun _ e => g e) j = .ok ars ∨ ∃ e, x.andThen safe env (fun _ e => g e) j = .eff ars e) → ars.length = n + 1 := fun ars z => by
  have key : ∀ e1 b, (g e1 = .ok b ∨ ∃ e, g e1 = .eff b e) → ∀ a, (j a b).length = n + 1 := fun e1 b z a => by rw [hj, h e1 b z]
  unfold O.andThen at z
  cases x with
  | bad => rcases z with z | ⟨e, z⟩ <;> cases z
  | exc c e => rcases z with z | ⟨e, z⟩ <;> cases z
  | ok a =>
    dsimp only at z
    cases q : g env with
    | bad => rw [q] at z; rcases z with z | ⟨e, z⟩ <;> cases z
    | exc c e => rw [q] at z; rcases z with z | ⟨e, z⟩ <;> cases z
    | ok b => rw [q] at z; rcases z with z | ⟨e, z⟩ <;> cases z; exact key env b (.inl q) a
    | eff b e =>
      rw [q] at z; dsimp only at z
      split at z
      · rcases z with z | ⟨e, z⟩ <;> cases z; exact key env b (.inr ⟨_, q⟩) a
      · rcases z with z | ⟨e, z⟩ <;> cases z
  | eff a e1 =>
    dsimp only at z
    cases q : g e1 with
    | bad => rw [q] at z; rcases z with z | ⟨e, z⟩ <;> cases z
    | exc c e => rw [q] at z; rcases z with z | ⟨e, z⟩ <;> cases z
    | ok b => rw [q] at z; rcases z with z | ⟨e, z⟩ <;> cases z; exact key e1 b (.inl q) a
    | eff b e =>
      rw [q] at z; dsimp only at z
      split at z
      · rcases z with z | ⟨e, z⟩ <;> cases z; exact key e1 b (.inr ⟨_, q⟩) a
      · rcases z with z | ⟨e, z⟩ <;> cases z
theorem cl_val {fr : Env → O (List AR)} {n : Nat} (h : ∀ env ars, (fr env = .ok ars ∨ ∃ e, fr env = .eff ars e) → ars.length = n) : ∀ env ars, (cVal f fr env = .ok ars ∨ ∃ e, cVal f fr env = .eff ars e) → ars.length = n + 1 :=
  fun env ars z => andThen_len (fun _ _ => rfl) h ars z
theorem cl_io {i : Nat} {fr : Env → O (List AR)} {n : Nat} (h : ∀ env ars, (fr env = .ok ars ∨ ∃ e, fr env = .eff ars e) → ars.length = n) : ∀ env ars, (cIo i fr env = .ok ars ∨ ∃ e, cIo i fr env = .eff ars e) → ars.length = n + 1 := fun env ars z => by
  unfold cIo at z
  split at z
  · rcases z with z | ⟨e, z⟩ <;> cases z
  · cases q : fr env with
    | bad => rw [q] at z; rcases z with z | ⟨e, z⟩ <;> cases z
    | exc c e => rw [q] at z; rcases z with z | ⟨e, z⟩ <;> cases z
    | ok b => rw [q] at z; rcases z with z | ⟨e, z⟩ <;> cases z; simp [h env b (.inl q)]
    | eff b e => rw [q] at z; rcases z with z | ⟨e, z⟩ <;> cases z; simp [h env b (.inr ⟨_, q⟩)]
  · rcases z with z | ⟨e, z⟩ <;> cases z
theorem cl_tmp {fr : Env → O (List AR)} {n : Nat} (h : ∀ env ars, (fr env = .ok ars ∨ ∃ e, fr env = .eff ars e) → ars.length = n) : ∀ env ars, (cTmp f fr env = .ok ars ∨ ∃ e, cTmp f fr env = .eff ars e) → ars.length = n + 1 :=
  fun env ars z => andThen_len (fun _ _ => rfl) h ars z
end

/-! ### a def -/
def isFz : OD → Bool
  | .fz _ => true
  | _ => false
/-- the arguments at the end: those of io as they are then, the others as they were (plain) -/
def outs (io : List Nat) (env : Env) : Nat → List OD → Option (List OD)
  | _, [] => some []
  | k, d :: ds => if io.contains k = true then match env[k]? with
      | some .un => none
      | some o => match outs io (env.set k .un) (k + 1) ds with
        | some r => some (o :: r)
        | none => none
      | none => none
    else if isFz d = true then match outs io env (k + 1) ds with
      | some r => some (d :: r)
      | none => none
    else none
def runB (m : Nat) (io : List Nat) (body : Env → SO) : List OD → FO := fun ds => match body (ds ++ List.replicate m .un) with
  | .nx e => match outs io e 0 ds with
    | some r => .ret (.fz .non) r
    | none => .bad
  | .rt o e => match outs io e 0 ds with
    | some r => .ret o r
    | none => .bad
  | .exc c e => match outs io e 0 ds with
    | some r => .exc c r
    | none => .bad
  | _ => .bad
section
variable {K : PySem.W.Frag} {mg : Str → Option Value}
theorem slots_start {B H : Hp} {G : List Addr} {vs : List V} {ds : List OD} (m : Nat) (h : OwnL K mg B H G vs ds) : Slots K mg B H G (vs.map some ++ List.replicate m none) (ds ++ List.replicate m .un) := by
  induction vs generalizing ds G with
  | nil =>
    cases h
    induction m with
    | zero => exact .nil
    | succ m ih => simp only [List.map_nil, List.nil_append, List.replicate_succ] at ih ⊢; exact .un ih
  | cons v vs ih => cases h with | cons r t => exact .cons r (ih t)
theorem outs_ok {io : List Nat} {B0 H0 B H : Hp} {G0 : List Addr} {σ : St} : ∀ {k : Nat} {vs : List V} {ds os : List OD} {F : List Addr} {env : Env}, Slots K mg B H F σ env → Same B0 B → OwnL K mg B0 H0 G0 vs ds → outs io env k ds = some os → (∀ j v, vs[j]? = some v → io.contains (k + j) = true → σ[k + j]? = some (some v)) →
    ∃ G Fr, OwnL K mg B H G vs os ∧ F.Perm (G ++ Fr) := by
  intro k vs ds os F env sl s h e hv
  induction vs generalizing G0 ds os F env k with
  | nil => cases h; cases e; exact ⟨[], F, .nil, List.Perm.refl _⟩
  | cons v vs ih =>
    cases h with
    | @cons F1 G1 _ _ d ds r t =>
      unfold outs at e
      have hv' : ∀ j w, vs[j]? = some w → io.contains (k + 1 + j) = true → σ[k + 1 + j]? = some (some w) := fun j w e1 e2 => by
        have := hv (j + 1) w (by simpa using e1)
        rw [show k + (j + 1) = k + 1 + j by omega] at this
        exact this e2
      split at e
      · rename_i hio
        split at e
        · cases e
        · rename_i o hn e0
          split at e
          · rename_i r' e1
            cases e
            obtain ⟨w, Fi, Fr, b1, b2, b3, b4⟩ := sl.take e0 (fun z => hn (by subst z; rfl))
            have := hv 0 v (by simp) (by simpa using hio)
            rw [Nat.add_zero] at this
            rw [this] at b1; cases b1
            obtain ⟨G, Fr2, c1, c2⟩ := ih b3 t e1 hv'
            exact ⟨Fi ++ G, Fr2, .cons b2 c1, by rw [List.append_assoc]; exact b4.trans (c2.append_left Fi)⟩
          · cases e
        · cases e
      · split at e
        · rename_i hf
          split at e
          · rename_i r' e1
            cases e
            obtain ⟨G, Fr2, c1, c2⟩ := ih sl t e1 hv'
            cases r with
            | fz r => exact ⟨G, Fr2, .cons (F := []) (.fz (r.mono s)) c1, c2⟩
            | _ => cases hf
          · cases e
        · cases e
end
section
variable {P : Program} {w : World} {K : PySem.W.Frag} {mg : Str → Option Value} {base : Heap}
/-- a def keeps its promise -/
theorem fn_ok {x qual : Str} {st : Stmt} {f : Addr} {fd : FuncData} {N ps : List Str} {k n m : Nat} {io : List Nat} {body : Env → SO} (F : Fun K x qual st f fd) (S : FnScope N ps (defScope st)) (hn : ps.length = n) (hm : N.length = n + m) (hio : io.all (fun i => decide (i < n)) = true)
    (hb : ∀ (cdv : Value) (A : Around) (outer : List PySem.Env) (s : Shared) (H : Hp) (E : XK), Room k (A.deeper (PyProof.Rows.envOfC qual (defScope st) s.heap.objs.size f cdv)) →
      PSsr (cxOf (L2.CX P w) P w K mg base N qual (defScope st) f cdv A outer s H E) (fun cls d _ H => E cls d H) io (defBody st) body) :
    FnOk P w K mg base (L2.CX P w) (k + 1) f fd ps (spOf K mg n (runB m io body)) := by
  refine F.okX S (fun vs H Q E h => h.1.trans hn.symm) (fun cdv A outer s H vs Q E hr h => ?_)
  obtain ⟨t, ht, kt⟩ := hb cdv A outer s H E hr
  obtain ⟨hl, B, G, ds, sb, r, nd, q⟩ := h
  refine ⟨t, ht, ?_⟩
  have est : L2.start N vs = vs.map some ++ List.replicate m none := by
    unfold L2.start
    rw [hl, hm]
    congr 2
    omega
  have sl := slots_start m r
  rw [← est] at sl
  refine kt B H G (L2.start N vs) _ _ ⟨sb, sl, nd⟩ ?_
  have at0 : ∀ j v, vs[j]? = some v → (L2.start N vs)[j]? = some (some v) := fun j v e => by
    rw [est, List.getElem?_append_left (by rw [List.length_map]; exact (List.getElem?_eq_some_iff.mp e).1), List.getElem?_map, e]
    rfl
  have pins : ∀ {σ' : St}, Agree io (L2.start N vs) σ' → ∀ j v, vs[j]? = some v → io.contains (0 + j) = true → σ'[0 + j]? = some (some v) := fun ag j v e hj => by
    rw [Nat.zero_add] at hj ⊢
    rw [ag j (by simpa using hj)]
    exact at0 j v e
  dsimp only [runB] at q
  cases e : body (ds ++ List.replicate m .un) with
  | bad => rw [e] at q; exact q.elim
  | bk _ => rw [e] at q; exact q.elim
  | ct _ => rw [e] at q; exact q.elim
  | nx env' =>
    rw [e] at q
    intro B' H' F' σ' S' f' ag
    dsimp only at q
    cases e2 : outs io env' 0 ds with
    | none => rw [e2] at q; exact q.elim
    | some os =>
      rw [e2] at q
      obtain ⟨G', Fr, c1, c2⟩ := outs_ok S'.sl f'.sB r e2 (pins ag)
      have nn := c2.nodup_iff.mp S'.nd
      exact q .non B' H' [] G' (.fz .non) c1 S'.sub (List.nodup_append.mp nn).1 ⟨f'.sB, f'.keep, f'.forg, fun a m => f'.fr a (c2.mem_iff.mpr (List.mem_append_left _ m))⟩
  | rt o env' =>
    rw [e] at q
    intro v B' H' Gr F' σ' ro sl' s' nn f' ag
    dsimp only at q
    cases e2 : outs io env' 0 ds with
    | none => rw [e2] at q; exact q.elim
    | some os =>
      rw [e2] at q
      obtain ⟨G', Fr, c1, c2⟩ := outs_ok sl' f'.sB r e2 (pins ag)
      have n2 := List.nodup_append.mp nn
      refine q v B' H' Gr G' ro c1 s' (List.nodup_append.mpr ⟨n2.1, (List.nodup_append.mp (c2.nodup_iff.mp n2.2.1)).1, fun a ha b hb => n2.2.2 a ha b (c2.mem_iff.mpr (List.mem_append_left _ hb))⟩) ⟨f'.sB, f'.keep, f'.forg, fun a m => f'.fr a ?_⟩
      rcases List.mem_append.mp m with m | m
      · exact List.mem_append_left _ m
      · exact List.mem_append_right _ (c2.mem_iff.mpr (List.mem_append_left _ m))
  | exc c env' =>
    rw [e] at q
    intro B' H' F' σ' S' f' ag C hC
    dsimp only at q
    cases e2 : outs io env' 0 ds with
    | none => rw [e2] at q; exact q.elim
    | some os =>
      rw [e2] at q
      obtain ⟨G', Fr, c1, c2⟩ := outs_ok S'.sl f'.sB r e2 (pins ag)
      have nn := c2.nodup_iff.mp S'.nd
      exact q B' H' G' c1 S'.sub (List.nodup_append.mp nn).1 ⟨f'.sB, f'.keep, f'.forg, fun a m => f'.fr a (c2.mem_iff.mpr (List.mem_append_left _ m))⟩ C hC
end
end Tl
namespace Tl
open PySem PySem.Spec L2

/-! ### built-in functions -/
def CallOk (X : Cx) (f : Value) (g : List RV → Option RV) : Prop := ∃ r, CallR X f r ∧ VOk (lsR (rvR X.K X.mg)) (rvR X.K X.mg) r g
section
variable {X : Cx} {W : WX} {a b c e : Expr} {es rest : List Expr} {f fa fb fc : Env → O RV} {pos : Pos}
theorem r_cb {id : String} {x : Str} {p : Pos} {g : List RV → Option RV} {fr : Env → O (List RV)} (h : CallOk X (.builtin id) g) (hm : X.mg x = none) (hv : bootBuiltins x = some (.builtin id)) (ha : PAr X W (e :: es) fr) (hg : Gl X x := by rfl) (hn : x ≠ "__name__" := by decide) (hdb : (x == ("__debug__" : Str)) = false := by decide)
    (he : starEach (e :: es) X.env = (false, eval e X.env) :: starEach es X.env := by rfl) (hpl : (backTo pos (starEach es X.env)).any (·.1) = false := by rfl) : PEr X W (.Call (.Name x p) (e :: es) [] pos) (eL g fr) := by
  obtain ⟨r, hc, v⟩ := h
  obtain ⟨t, h, k⟩ := ha
  exact ⟨_, pe_callB hc hg hm hv h hn hdb he hpl, k.map v⟩
theorem r_ct {T : String} {x : Str} {p : Pos} {g : List RV → Option RV} {fr : Env → O (List RV)} (h : CallOk X (.type T) g) (hm : X.mg x = none) (hv : bootBuiltins x = some (.type T)) (ha : PAr X W (e :: es) fr) (hg : Gl X x := by rfl) (hn : x ≠ "__name__" := by decide) (hdb : (x == ("__debug__" : Str)) = false := by decide)
    (he : starEach (e :: es) X.env = (false, eval e X.env) :: starEach es X.env := by rfl) (hpl : (backTo pos (starEach es X.env)).any (·.1) = false := by rfl) : PEr X W (.Call (.Name x p) (e :: es) [] pos) (eL g fr) := by
  obtain ⟨r, hc, v⟩ := h
  obtain ⟨t, h, k⟩ := ha
  exact ⟨_, pe_callTy hc hg hm hv h hn hdb he hpl, k.map v⟩
theorem lsR_one {K : PySem.W.Frag} {mg : Str → Option Value} {B H : Hp} {G : List Addr} {vs : List V} {r : RV} (h : lsR (rvR K mg) B H G vs [r]) : ∃ v, vs = [v] ∧ rvR K mg B H G v r := by
  cases h with
  | @cons F1 G1 x _ xs _ h t =>
    cases t
    exact ⟨x, rfl, by rw [List.append_nil]; exact h⟩
theorem lsR_two {K : PySem.W.Frag} {mg : Str → Option Value} {B H : Hp} {G : List Addr} {vs : List V} {r r' : RV} (h : lsR (rvR K mg) B H G vs [r, r']) : ∃ v v' G1 G2, vs = [v, v'] ∧ rvR K mg B H G1 v r ∧ rvR K mg B H G2 v' r' := by
  cases h with
  | cons h t =>
    obtain ⟨v', rfl, h'⟩ := lsR_one t
    exact ⟨_, _, _, _, rfl, h, h'⟩
/-! len -/
def OD.len : OD → Option Int
  | .fz (.lst ds) => some ds.length
  | .fz (.scr ds) => some ds.length
  | .fz (.tup ds) => some ds.length
  | .fz (.str x) => if x.length ≤ sizeLine then some x.length else none
  | .lst os => some os.length
  | .tup os => some os.length
  | _ => none
def gLen (rs : List RV) : Option RV := match rs with
  | [r] => r.od.len.map fun n => .own (.fz (.int n))
  | _ => none
theorem rv_len {K : PySem.W.Frag} {mg : Str → Option Value} {B H : Hp} {G : List Addr} {v : V} {r : RV} {k : Int} (s : Same B H) (h : rvR K mg B H G v r) (e : r.od.len = some k) : ∃ n : Nat, k = n ∧ LenV K v H n := by
  obtain ⟨G', z⟩ := rv_own h
  generalize r.od = o at z e
  cases z with
  | fz r => cases r with
    | str =>
      dsimp only [OD.len] at e
      split at e
      · cases e; rename_i hl; exact ⟨_, rfl, hl, rfl⟩
      · cases e
    | tup k1 k2 => cases e; exact ⟨_, rfl, .inr ⟨_, Same.seqT s k1, k2.length.symm⟩⟩
    | lst k1 k2 => cases e; exact ⟨_, rfl, .inl ⟨_, SqL.of (s _ _ k1), k2.length.symm⟩⟩
    | scr k1 k2 => cases e; exact ⟨_, rfl, .inl ⟨_, s.seq k1, k2.length.symm⟩⟩
    | _ => cases e
  | lst k1 _ k2 => cases e; exact ⟨_, rfl, .inl ⟨_, SqL.of k1, k2.length.symm⟩⟩
  | tup k1 k2 => cases e; exact ⟨_, rfl, .inr ⟨_, Same.seqT s k1, k2.length.symm⟩⟩
  | _ => cases e
theorem b_len : CallOk X (.builtin "len") gLen := by
  refine ⟨_, call_len, fun B H G vs rs Q s h n q => ?_⟩
  dsimp only [gLen] at q
  split at q
  · rename_i r
    obtain ⟨v, rfl, h1⟩ := lsR_one h
    cases e : r.od.len with
    | none => rw [e] at q; exact q.elim
    | some k =>
      rw [e] at q
      obtain ⟨n, rfl, z⟩ := rv_len s h1 e
      exact ⟨v, n, rfl, z, VPost.fz q s .int⟩
  · exact q.elim
/-! ints -/
def gI2 (op : Int → Int → Int) (rs : List RV) : Option RV := match rs with
  | [r, r'] => match r.od, r'.od with
    | .fz (.int i), .fz (.int j) => some (.own (.fz (.int (op i j))))
    | _, _ => none
  | _ => none
def pyMax (i j : Int) : Int := if j > i then j else i
def pyMin (i j : Int) : Int := if j < i then j else i
theorem v_i2 {op : Int → Int → Int} : VOk (lsR (rvR X.K X.mg)) (rvR X.K X.mg) (fun xs H Q => ∃ i j, xs = [.int i, .int j] ∧ Q (.int (op i j)) H) (gI2 op) := by
  intro B H G vs rs Q s h n q
  dsimp only [gI2] at q
  split at q
  · rename_i r r'
    obtain ⟨v, v', G1, G2, rfl, h1, h2⟩ := lsR_two h
    split at q
    · rename_i i j e1 e2
      have z1 := rv_fz h1 e1
      have z2 := rv_fz h2 e2
      cases z1; cases z2
      exact ⟨i, j, rfl, VPost.fz q s .int⟩
    · exact q.elim
  · exact q.elim
/-! a list's least, greatest, sum, all, any -/
def dInts : List D → Option (List Int)
  | [] => some []
  | .int i :: ds => match dInts ds with
    | some ns => some (i :: ns)
    | none => none
  | _ :: _ => none
@[simp] theorem dInts_nil : dInts [] = some [] := rfl
@[simp] theorem dInts_cons {i : Int} {ds : List D} : dInts (.int i :: ds) = (dInts ds).map (i :: ·) := by
  show (match dInts ds with | some ns => some (i :: ns) | none => none) = _
  cases dInts ds <;> rfl
@[simp] theorem dInts_map {α : Type} {xs : List α} {f : α → Int} : dInts (xs.map fun x => .int (f x)) = some (xs.map f) := by
  induction xs with
  | nil => rfl
  | cons x xs ih => rw [List.map_cons, dInts_cons, ih]; rfl
theorem RepL.dInts {K : PySem.W.Frag} {B : Hp} {vs : List V} {ds : List D} {ns : List Int} (h : RepL K B vs ds) (e : Tl.dInts ds = some ns) : vs = ns.map V.int := by
  induction vs generalizing ds ns with
  | nil => cases h; cases e; rfl
  | cons v vs ih =>
    cases h with
    | cons r t =>
      cases r <;> first
        | (cases e; done)
        | (rw [dInts_cons] at e
           rename_i ds i
           cases q : Tl.dInts ds with
           | none => rw [q] at e; cases e
           | some ns' => rw [q] at e; cases e; rw [ih t q]; rfl)
def dBools : List D → Option (List Bool)
  | [] => some []
  | .bl i :: ds => match dBools ds with
    | some ns => some (i :: ns)
    | none => none
  | _ :: _ => none
@[simp] theorem bools_nil : dBools [] = some [] := rfl
@[simp] theorem bools_cons {i : Bool} {ds : List D} : dBools (.bl i :: ds) = (dBools ds).map (i :: ·) := by
  show (match dBools ds with | some ns => some (i :: ns) | none => none) = _
  cases dBools ds <;> rfl
@[simp] theorem bools_map {α : Type} {xs : List α} {f : α → Bool} : dBools (xs.map fun x => .bl (f x)) = some (xs.map f) := by
  induction xs with
  | nil => rfl
  | cons x xs ih => rw [List.map_cons, bools_cons, ih]; rfl
theorem RepL.dBools {K : PySem.W.Frag} {B : Hp} {vs : List V} {ds : List D} {ns : List Bool} (h : RepL K B vs ds) (e : Tl.dBools ds = some ns) : vs = ns.map V.bl := by
  induction vs generalizing ds ns with
  | nil => cases h; cases e; rfl
  | cons v vs ih =>
    cases h with
    | cons r t =>
      cases r <;> first
        | (cases e; done)
        | (rw [bools_cons] at e
           rename_i ds i
           cases q : Tl.dBools ds with
           | none => rw [q] at e; cases e
           | some ns' => rw [q] at e; cases e; rw [ih t q]; rfl)
def leastL : List Int → Int
  | [] => 0
  | [n] => n
  | n :: ns => min n (leastL ns)
def mostL : List Int → Int
  | [] => 0
  | [n] => n
  | n :: ns => max n (mostL ns)
theorem leastL_is : ∀ {ns : List Int}, 0 < ns.length → leastL ns ∈ ns ∧ ∀ y ∈ ns, leastL ns ≤ y
  | [], h => nomatch h
  | [n], _ => ⟨by simp [leastL], fun y m => by simp at m; subst m; exact Int.le_refl _⟩
  | n :: m :: ns, _ => by
    obtain ⟨h1, h2⟩ := leastL_is (ns := m :: ns) (by simp)
    have e : leastL (n :: m :: ns) = min n (leastL (m :: ns)) := rfl
    rw [e]
    refine ⟨?_, fun y hy => ?_⟩
    · by_cases h : n ≤ leastL (m :: ns)
      · rw [Int.min_eq_left h]; exact List.mem_cons_self
      · rw [Int.min_eq_right (by omega)]; exact List.mem_cons_of_mem _ h1
    · rcases List.mem_cons.mp hy with rfl | hy
      · omega
      · have := h2 y hy; omega
theorem mostL_is : ∀ {ns : List Int}, 0 < ns.length → mostL ns ∈ ns ∧ ∀ y ∈ ns, y ≤ mostL ns
  | [], h => nomatch h
  | [n], _ => ⟨by simp [mostL], fun y m => by simp at m; subst m; exact Int.le_refl _⟩
  | n :: m :: ns, _ => by
    obtain ⟨h1, h2⟩ := mostL_is (ns := m :: ns) (by simp)
    have e : mostL (n :: m :: ns) = max n (mostL (m :: ns)) := rfl
    rw [e]
    refine ⟨?_, fun y hy => ?_⟩
    · by_cases h : mostL (m :: ns) ≤ n
      · rw [Int.max_eq_left h]; exact List.mem_cons_self
      · rw [Int.max_eq_right (by omega)]; exact List.mem_cons_of_mem _ h1
    · rcases List.mem_cons.mp hy with rfl | hy
      · omega
      · have := h2 y hy; omega
def gIs (g : List Int → Option D) (rs : List RV) : Option RV := match rs with
  | [r] => match r.od.items with
    | some ds => match dInts ds with
      | some ns => (g ns).map fun d => .own (.fz d)
      | none => none
    | none => none
  | _ => none
theorem v_ints {r : List V → Hp → VK → Prop} {g : List Int → Option D} (h : ∀ H a ns d Q, SqL X.K H a (ns.map V.int) → g ns = some d → (∀ v, (∀ B, Rep X.K B v d) → Q v H) → r [.ref a] H Q) : VOk (lsR (rvR X.K X.mg)) (rvR X.K X.mg) r (gIs g) := by
  intro B H G vs rs Q s h1 n q
  dsimp only [gIs] at q
  split at q
  · rename_i r
    obtain ⟨v, rfl, h2⟩ := lsR_one h1
    split at q
    · rename_i ds e1
      obtain ⟨p, vs, rfl, a1, a2⟩ := rv_items s h2 e1
      split at q
      · rename_i ns e2
        rw [a2.dInts e2] at a1
        cases e3 : g ns with
        | none => rw [e3] at q; exact q.elim
        | some d => rw [e3] at q; exact h H p ns d Q a1 e3 fun v hv => VPost.fz q s (hv B)
      · exact q.elim
    · exact q.elim
  · exact q.elim
theorem b_sum (hc : X.calm = true) : CallOk X (.builtin "sum") (gIs fun ns => some (.int ns.sum)) := ⟨_, cr_sum hc, v_ints fun H a ns d Q h e k => by cases e; exact ⟨a, ns, rfl, h, k _ fun _ => .int⟩⟩
def oLeast (ns : List Int) : Option D := if 0 < ns.length then some (.int (leastL ns)) else none
def oMost (ns : List Int) : Option D := if 0 < ns.length then some (.int (mostL ns)) else none
/-! min and max: of two ints, of a list of ints -/
def gMin (rs : List RV) : Option RV := match rs with
  | [r] => gIs oLeast [r]
  | rs => gI2 pyMin rs
def gMax (rs : List RV) : Option RV := match rs with
  | [r] => gIs oMost [r]
  | rs => gI2 pyMax rs
theorem CallR.or {f : Value} {r r' : List V → Hp → VK → Prop} (h : CallR X f r) (h' : CallR X f r') : CallR X f (fun xs H Q => r xs H Q ∨ r' xs H Q) := by
  intro pins s σ H xs us Q I rs q
  rcases q with q | q
  · exact h pins s σ H xs us Q I rs q
  · exact h' pins s σ H xs us Q I rs q
theorem b_min (hc : X.calm = true) : CallOk X (.builtin "min") gMin := by
  refine ⟨_, CallR.or (cr_min hc) (call_min2 hc), fun B H G vs rs Q s h n q => ?_⟩
  dsimp only [gMin] at q
  split at q
  · refine .inl (v_ints (X := X) (r := rMin X.K) (g := oLeast) (fun H a ns d Q h e k => ?_) B H G vs _ Q s h n q)
    unfold oLeast at e
    split at e
    · rename_i hl
      cases e
      refine ⟨a, ns, rfl, h, hl, fun m h1 h2 => ?_⟩
      obtain ⟨k1, k2⟩ := leastL_is hl
      have : m = leastL ns := Int.le_antisymm (h2 _ k1) (k2 _ h1)
      rw [this]; exact k _ fun _ => .int
    · cases e
  · exact .inr (v_i2 (X := X) B H G vs rs Q s h n q)
theorem b_max (hc : X.calm = true) : CallOk X (.builtin "max") gMax := by
  refine ⟨_, CallR.or (cr_max hc) (call_max2 hc), fun B H G vs rs Q s h n q => ?_⟩
  dsimp only [gMax] at q
  split at q
  · refine .inl (v_ints (X := X) (r := rMax X.K) (g := oMost) (fun H a ns d Q h e k => ?_) B H G vs _ Q s h n q)
    unfold oMost at e
    split at e
    · rename_i hl
      cases e
      refine ⟨a, ns, rfl, h, hl, fun m h1 h2 => ?_⟩
      obtain ⟨k1, k2⟩ := mostL_is hl
      have : m = mostL ns := Int.le_antisymm (k2 _ h1) (h2 _ k1)
      rw [this]; exact k _ fun _ => .int
    · cases e
  · exact .inr (v_i2 (X := X) B H G vs rs Q s h n q)
def gBs (g : List Bool → Bool) (rs : List RV) : Option RV := match rs with
  | [r] => match r.od.items with
    | some ds => match dBools ds with
      | some ns => some (.own (.fz (.bl (g ns))))
      | none => none
    | none => none
  | _ => none
theorem v_bools {g : List Bool → Bool} : VOk (lsR (rvR X.K X.mg)) (rvR X.K X.mg) (fun vs H Q => ∃ (a : Addr) (bs : List Bool), vs = [V.ref a] ∧ SqL X.K H a (bs.map V.bl) ∧ Q (.bl (g bs)) H) (gBs g) := by
  intro B H G vs rs Q s h1 n q
  dsimp only [gBs] at q
  split at q
  · rename_i r
    obtain ⟨v, rfl, h2⟩ := lsR_one h1
    split at q
    · rename_i ds e1
      obtain ⟨p, vs, rfl, a1, a2⟩ := rv_items s h2 e1
      split at q
      · rename_i ns e2
        rw [a2.dBools e2] at a1
        exact ⟨p, ns, rfl, a1, VPost.fz q s .bl⟩
      · exact q.elim
    · exact q.elim
  · exact q.elim
theorem b_all (hc : X.calm = true) : CallOk X (.builtin "all") (gBs fun bs => bs.all id) := ⟨_, cr_all hc, v_bools⟩
theorem b_any (hc : X.calm = true) : CallOk X (.builtin "any") (gBs fun bs => bs.any id) := ⟨_, cr_any hc, v_bools⟩
/-! list(..), tuple(..), int(..), str(..), abs -/
def gList (rs : List RV) : Option RV := match rs with
  | [r] => (r.od.sitems).map fun ds => .own (.lst (ds.map .fz))
  | _ => none
def gTuple (rs : List RV) : Option RV := match rs with
  | [r] => match r.od.items with
    | some ds => some (.own (.fz (.tup ds)))
    | none => match r.od.titems with
      | some ds => some (.own (.fz (.tup ds)))
      | none => none
  | _ => none
theorem b_list : CallOk X (.type "list") gList := by
  refine ⟨_, call_list_of, fun B H G vs rs Q s h n q => ?_⟩
  dsimp only [gList] at q
  split at q
  · rename_i r
    obtain ⟨v, rfl, h2⟩ := lsR_one h
    cases e : r.od.sitems with
    | none => rw [e] at q; exact q.elim
    | some ds =>
      rw [e] at q
      obtain ⟨p, vs, rfl, a1, a2⟩ := rv_sitems s h2 e
      exact ⟨p, vs, rfl, a1, fun l hl => VPost.lst q s a2 hl⟩
  · exact q.elim
theorem b_tuple : CallOk X (.type "tuple") gTuple := by
  refine ⟨_, call_tuple_of, fun B H G vs rs Q s h n q => ?_⟩
  dsimp only [gTuple] at q
  split at q
  · rename_i r
    obtain ⟨v, rfl, h2⟩ := lsR_one h
    split at q
    · rename_i ds e
      obtain ⟨p, vs, rfl, a1, a2⟩ := rv_items s h2 e
      exact ⟨p, vs, rfl, .inl ⟨a1, fun l hl => VPost.tup q s a2 hl⟩⟩
    · split at q
      · rename_i ds e
        have z := rv_tfz h2 e
        obtain ⟨p, vs, rfl, a1, a2⟩ := rv_titems s h2 e
        exact ⟨p, vs, rfl, .inr ⟨a1, VPost.fz q s z⟩⟩
      · exact q.elim
  · exact q.elim
def gInt (rs : List RV) : Option RV := match rs with
  | [r] => match r.od with
    | .fz (.int i) => some (.own (.fz (.int i)))
    | .fz (.bl b) => some (.own (.fz (.int (if b then 1 else 0))))
    | _ => none
  | _ => none
theorem b_int : CallOk X (.type "int") gInt := by
  refine ⟨_, call_int1, fun B H G vs rs Q s h n q => ?_⟩
  dsimp only [gInt] at q
  split at q
  · rename_i r
    obtain ⟨v, rfl, h2⟩ := lsR_one h
    split at q
    · rename_i i e
      have z := rv_fz h2 e
      cases z
      exact .inl ⟨i, rfl, VPost.fz q s .int⟩
    · rename_i i e
      have z := rv_fz h2 e
      cases z
      exact .inr ⟨i, rfl, VPost.fz q s .int⟩
    · exact q.elim
  · exact q.elim
def gStr (rs : List RV) : Option RV := match rs with
  | [r] => match r.od with
    | .fz (.int i) => if i.natAbs.log2 < 1920 then some (.own (.fz (.str (toString i)))) else none
    | _ => none
  | _ => none
theorem b_str : CallOk X (.type "str") gStr := by
  refine ⟨_, call_str_int, fun B H G vs rs Q s h n q => ?_⟩
  dsimp only [gStr] at q
  split at q
  · rename_i r
    obtain ⟨v, rfl, h2⟩ := lsR_one h
    split at q
    · rename_i i e
      have z := rv_fz h2 e
      cases z
      split at q
      · rename_i hl
        exact ⟨i, rfl, hl, VPost.fz q s .str⟩
      · exact q.elim
    · exact q.elim
  · exact q.elim
/-! isinstance(x, T), T a built-in type -/
inductive Ty where
  | non | bool | int | str | list | tuple | dict
  deriving DecidableEq
def Ty.name : Ty → String
  | .non => "NoneType" | .bool => "bool" | .int => "int" | .str => "str" | .list => "list" | .tuple => "tuple" | .dict => "dict"
def Ty.is (a b : Ty) : Bool := decide (a = b) || (decide (a = .bool) && decide (b = .int))
theorem Ty.is_kit (a b : Ty) (hb : b ≠ .non) : kitB a.name b.name = some (a.is b) := by
  cases b <;> first
    | exact absurd rfl hb
    | (cases a <;> decide +kernel)
def OD.ty : OD → Option Ty
  | .un => none
  | .fz .non => some .non
  | .fz (.bl _) => some .bool
  | .fz (.int _) => some .int
  | .fz (.str _) => some .str
  | .fz (.tup _) => some .tuple
  | .fz (.lst _) => some .list
  | .fz (.scr _) => some .list
  | .fz (.dK _) => some .dict
  | .fz (.dT _) => some .dict
  | .lst _ => some .list
  | .tup _ => some .tuple
  | .dK _ => some .dict
  | .dT _ => some .dict
  | .ins _ _ => none
  | .exc _ => none
theorem sqL_ty {K : PySem.W.Frag} {H : Hp} {p : Addr} {xs : List V} (h : SqL K H p xs) : TyX K H (.ref p) (.type "list") := by
  rcases h with (h | ⟨o, h⟩) | ⟨o, its, n, e, c, _⟩
  · exact .base (.lst h)
  · exact .base (.frz h)
  · exact .kList e c
theorem sqT_ty {K : PySem.W.Frag} {H : Hp} {p : Addr} {xs : List V} (h : SqT K H p xs) : TyX K H (.ref p) (.type "tuple") := by
  rcases h with (h | ⟨o, h⟩) | ⟨o, its, n, e, c, _⟩
  · exact .base (.tup h)
  · exact .fTuple h
  · exact .kTuple e c
theorem rv_ty {K : PySem.W.Frag} {mg : Str → Option Value} {B H : Hp} {G : List Addr} {v : V} {r : RV} {t : Ty} (s : Same B H) (h : rvR K mg B H G v r) (e : r.od.ty = some t) : TyX K H v (.type t.name) := by
  obtain ⟨G', z⟩ := rv_own h
  generalize r.od = o at z e
  cases z with
  | fz r => cases r with
    | non => cases e; exact .base .non
    | bl => cases e; exact .base (.bl _)
    | int => cases e; exact .base (.int _)
    | str => cases e; exact .base (.str _)
    | tup k1 k2 => cases e; exact sqT_ty (Same.seqT s k1)
    | lst k1 k2 => cases e; exact .base (.lst (s _ _ k1))
    | scr k1 k2 => cases e; exact sqL_ty (s.seq k1)
    | dK k1 => cases e; exact .base (.dK (s _ _ k1))
    | dT k1 => cases e; exact .base (.dT (s _ _ k1))
  | lst k1 => cases e; exact .base (.lst k1)
  | tup k1 k2 => cases e; exact sqT_ty (Same.seqT s k1)
  | dK k1 => cases e; exact .base (.dK k1)
  | dT k1 => cases e; exact .base (.dT k1)
  | ins => cases e
def gIsi (T : Ty) (r : RV) : Option RV := match r.od.ty with
  | some t => some (.own (.fz (.bl (t.is T))))
  | none => none
theorem r_isi (T : Ty) {x y : Str} {p p2 : Pos} (hT : T ≠ .non) (hm : X.mg x = none) (hv : bootBuiltins x = some (.builtin "isinstance")) (hm2 : X.mg y = none) (hv2 : bootBuiltins y = some (.type T.name)) (ha : PEr X W e f) (hg : Gl X x := by rfl) (hg2 : Gl X y := by rfl) (hn : x ≠ "__name__" := by decide) (hdb : (x == ("__debug__" : Str)) = false := by decide)
    (hn2 : y ≠ "__name__" := by decide) (hdb2 : (y == ("__debug__" : Str)) = false := by decide)
    (he : starEach (e :: [.Name y p2]) X.env = (false, eval e X.env) :: starEach [.Name y p2] X.env := by rfl) (hpl : (backTo pos (starEach [.Name y p2] X.env)).any (·.1) = false := by rfl)
    (he2 : starEach ([.Name y p2]) X.env = (false, eval (.Name y p2) X.env) :: starEach [] X.env := by rfl) : PEr X W (.Call (.Name x p) [e, .Name y p2] [] pos) (e1 (gIsi T) f) := by
  obtain ⟨t, h, k⟩ := ha
  refine ⟨_, pe_callB call_isi hg hm hv (pa_cons h (pa_cons (pe_bltn hg2 hm2 hv2 (show RelV (.ty T.name) (.type T.name) from rfl) hn2 hdb2) pa_nil he2) he) hn hdb he hpl, k.map (r := fun (x : V) (H : Hp) (Q : VK) => rIsi X.K [x, .ty T.name] H Q) fun B H G v r Q s h n q => ?_⟩
  dsimp only [gIsi] at q
  split at q
  · rename_i t e
    exact ⟨v, .ty T.name, _, _, _, rfl, .ty _, rv_ty s h e, kit_ty (Ty.is_kit t T hT), VPost.fz q s .bl⟩
  · exact q.elim
end
end Tl
namespace Tl
open PySem PySem.Spec L2

/-! ### what is walked -/
/-- J gives just ds, one after another, while B's things stand -/
def Spec (K : PySem.W.Frag) (B : Hp) (J : It) (ds : List D) : Prop := ∀ B2 H2, Same B B2 → Same B2 H2 →
  (∀ i d, ds[i]? = some d → J.go i H2 ∧ ∀ x H3, J.yld i H2 x H3 → ∃ B3, Frm B2 H2 [] B3 H3 [] ∧ Same B3 H3 ∧ Rep K B3 x d) ∧ J.stop ds.length H2
def itR (K : PySem.W.Frag) : Rl It (List D) := fun B _ G J ds => G = [] ∧ Spec K B J ds
theorem stb_it {K : PySem.W.Frag} : Stb (itR K) (fun _ => true) where
  there := fun B H G x a h => by obtain ⟨rfl, _⟩ := h; exact fun _ z => nomatch z
  keep := fun B H F B' H' F' G x a h f _ _ => ⟨h.1, fun B2 H2 s s2 => h.2 B2 H2 (f.sB.trans s) s2⟩
def PIr (X : Cx) (W : WX) (tg iter : Expr) (f : Env → O (List D)) : Prop := ∃ wi, PI X tg iter wi ∧ EOk X W (itR X.K) wi f

section
variable {X : Cx} {W : WX} {io : List Nat} {a b c e tg : Expr} {es rest : List Expr} {f fa fb fc : Env → O RV} {pos : Pos}
theorem spec_list {K : PySem.W.Frag} {B : Hp} {p : Addr} {vs : List V} {ds : List D} (h : SqL K B p vs) (r : RepL K B vs ds) : Spec K B (Itl K p) ds := fun B2 H2 s s2 => by
  have h2 := (s.trans s2).seq h
  refine ⟨fun i d e => ?_, vs, h2, by rw [r.length]; exact Nat.le_refl _⟩
  obtain ⟨v, e1, r1⟩ := r.get e
  refine ⟨⟨vs, v, h2, e1⟩, fun x H3 y => ?_⟩
  obtain ⟨rfl, y⟩ := y
  have := y vs h2
  rw [e1] at this; cases this
  exact ⟨B2, Frm.none, s2, r1.mono s⟩
theorem spec_tup {K : PySem.W.Frag} {B : Hp} {p : Addr} {vs : List V} {ds : List D} (h : SqT K B p vs) (r : RepL K B vs ds) : Spec K B (Itt K p) ds := fun B2 H2 s s2 => by
  have h2 := Same.seqT (s.trans s2) h
  refine ⟨fun i d e => ?_, vs, h2, by rw [r.length]; exact Nat.le_refl _⟩
  obtain ⟨v, e1, r1⟩ := r.get e
  refine ⟨⟨vs, v, h2, e1⟩, fun x H3 y => ?_⟩
  obtain ⟨rfl, y⟩ := y
  have := y vs h2
  rw [e1] at this; cases this
  exact ⟨B2, Frm.none, s2, r1.mono s⟩
/-- own things taken as plain from now on -/
theorem frm_more {K : PySem.W.Frag} {mg : Str → Option Value} {B H : Hp} {G : List Addr} (s : Same B H) (h : ∀ a ∈ G, B a = none ∧ ∃ u, H a = some u) : Same B (more B H G) ∧ Same (more B H G) H ∧ Frm B H G (more B H G) H [] := by
  have s1 : Same B (more B H G) := fun a u e => by
    unfold more
    split
    · rename_i m; rw [(h a m).1] at e; cases e
    · exact e
  refine ⟨s1, fun a u e => ?_, s1, fun a u e _ => e, fun a u e n b => ?_, fun _ z => nomatch z⟩
  · unfold more at e
    split at e
    · exact e
    · exact s a u e
  · unfold more; rw [if_neg n]; exact b
/-- a list or a tuple, plain or nobody else's -/
def gItems (r : RV) : Option (List D) := match r with
  | .own o => o.sitems
  | .view _ => none
/-- list or tuple, walked -/
def iSeq (K : PySem.W.Frag) (tl : TE) : TI := fun σ H R => tl σ H fun x H1 => ∃ a, x = .ref a ∧ (((∃ xs, SqL K H1 a xs) ∧ R (Itl K a) H1) ∨ ((∃ xs, SqT K H1 a xs) ∧ R (Itt K a) H1))
theorem pi_seq {l : Expr} {tl : TE} (hl : PE X l tl) : PI X tg l (iSeq X.K tl) := by
  refine ⟨fun pins s σ H R I h => ?_⟩
  refine thn (hl.run pins s σ H _ I h) fun v s1 ⟨x, H1, I1, r1, q1⟩ => ?_
  obtain ⟨a, e, q⟩ := q1
  subst e
  cases r1
  rcases q with ⟨⟨xs, hq⟩, q⟩ | ⟨⟨xs, hq⟩, q⟩
  · obtain ⟨its, rv, p, hz⟩ := I1.list hq
    refine wpAny_pyIter_list p.isList ?_
    refine ⟨s1.heap.objs.size, [s1.heap.objs.size], _, _, H1, rfl, I1.kept (t' := s1.toks) fun b o e => Heap.get?_push_of_some _ e, turn_list a _, ⟨_, Heap.get?_push_size _ rfl, rfl, rfl⟩, fun b hb => ?_, q⟩
    have e : b = s1.heap.objs.size := by simpa using hb
    subst e
    exact I1.fpOk (Nat.le_refl _) (I1.hok.fresh (Nat.le_refl _))
  · obtain ⟨its, rv, p, hz⟩ := I1.tuple hq
    refine wpAny_pyIter_tuple (show s1.heap.IsTuple a its.toArray from p) ?_
    refine ⟨s1.heap.objs.size, [s1.heap.objs.size], _, _, H1, rfl, I1.kept (t' := s1.toks) fun b o e => Heap.get?_push_of_some _ e, turn_tuple a _, ⟨_, Heap.get?_push_size _ rfl, rfl, rfl⟩, fun b hb => ?_, q⟩
    have e : b = s1.heap.objs.size := by simpa using hb
    subst e
    exact I1.fpOk (Nat.le_refl _) (I1.hok.fresh (Nat.le_refl _))
/-- what is walked, as plain data that stays -/
theorem rv_sit {K : PySem.W.Frag} {mg : Str → Option Value} {B H : Hp} {G : List Addr} {v : V} {r : RV} {ds : List D} (s : Same B H) (h : rvR K mg B H G v r) (e : gItems r = some ds) :
    ∃ p vs, v = .ref p ∧ (SqL K (more B H G) p vs ∨ SqT K (more B H G) p vs) ∧ RepL K (more B H G) vs ds := by
  cases r with
  | view o => cases e
  | own o =>
    obtain ⟨s1, s2, f⟩ := frm_more (K := K) (mg := mg) (G := G) s (Own.there (show Own K mg B H G v o from h))
    have h' : Own K mg B H G v o := h
    have e' : o.sitems = some ds := e
    clear e h
    cases h' with
    | fz r => cases r <;> first
      | (cases e'; done)
      | (rename_i h1 h2; cases e'; exact ⟨_, _, rfl, .inl (s1.seq h1), h2.mono s1⟩)
      | (rename_i h1 h2; cases e'; exact ⟨_, _, rfl, .inl (SqL.of (s1 _ _ h1)), h2.mono s1⟩)
      | (rename_i h1 h2; cases e'; exact ⟨_, _, rfl, .inr (Same.seqT s1 h1), h2.mono s1⟩)
    | @lst p vs F os h1 h2 h3 =>
      obtain ⟨rfl, h4⟩ := h3.rep e'
      exact ⟨_, _, rfl, .inl (SqL.of (by rw [more_in (by simp)]; exact h1)), h4.mono s1⟩
    | tup h1 h3 => exact ⟨_, _, rfl, .inr (Same.seqT s1 h1), (h3.rep e').2.mono s1⟩
    | _ => cases e'
theorem VPost.it {K : PySem.W.Frag} {mg : Str → Option Value} {B H : Hp} {G : List Addr} {ds : List D} {J : It} {R : It → Hp → Prop} (q : VPost (itR K) B H G R (some ds)) (s : Same B H) (h : ∀ a ∈ G, B a = none ∧ ∃ u, H a = some u) (sp : Spec K (more B H G) J ds) : R J H := by
  obtain ⟨s1, s2, f⟩ := frm_more (K := K) (mg := mg) (G := G) s h
  exact q J (more B H G) H [] ⟨rfl, sp⟩ s2 List.nodup_nil f
theorem i_seq (h : PEr X W e f) : PIr X W tg e (fun env => (f env).mapP gItems) := by
  obtain ⟨t, h, k⟩ := h
  refine ⟨_, pi_seq h, EOk.map (r := fun (x : V) (H1 : Hp) (R : It → Hp → Prop) => ∃ a, x = .ref a ∧ (((∃ xs, SqL X.K H1 a xs) ∧ R (Itl X.K a) H1) ∨ ((∃ xs, SqT X.K H1 a xs) ∧ R (Itt X.K a) H1))) k fun B H G v r R s h n q => ?_⟩
  cases e2 : gItems r with
  | none => rw [e2] at q; exact q.elim
  | some ds =>
    rw [e2] at q
    have th := stb_rv.there _ _ _ _ _ h
    obtain ⟨p, vs, rfl, a1, a2⟩ := rv_sit s h e2
    obtain ⟨s1, s2, f⟩ := frm_more (K := X.K) (mg := X.mg) (G := G) s th
    refine ⟨p, rfl, ?_⟩
    rcases a1 with a1 | a1
    · exact .inl ⟨⟨vs, s2.seq a1⟩, VPost.it (mg := X.mg) q s th (spec_list a1 a2)⟩
    · exact .inr ⟨⟨vs, Same.seqT s2 a1⟩, VPost.it (mg := X.mg) q s th (spec_tup a1 a2)⟩
/-! ranges -/
def rng (lo : Int) (n : Nat) : List D := (List.range n).map fun (k : Nat) => D.int (lo + (k : Int))
theorem rng_get {lo : Int} {n i : Nat} {d : D} (h : (rng lo n)[i]? = some d) : i < n ∧ d = .int (lo + i) := by
  unfold rng at h
  rw [List.getElem?_map] at h
  cases e : (List.range n)[i]? with
  | none => rw [e] at h; cases h
  | some k =>
    rw [e] at h; cases h
    obtain ⟨h1, h2⟩ := List.getElem?_eq_some_iff.mp e
    rw [List.length_range] at h1
    rw [List.getElem_range] at h2
    exact ⟨h1, by rw [h2]⟩
theorem rng_len {lo : Int} {n : Nat} : (rng lo n).length = n := by simp [rng]
theorem spec_rng {K : PySem.W.Frag} {B : Hp} {lo : Int} {n : Nat} : Spec K B (Itr lo n) (rng lo n) := fun B2 H2 s s2 => by
  refine ⟨fun i d e => ?_, by rw [rng_len]; exact Nat.le_refl _⟩
  obtain ⟨h1, rfl⟩ := rng_get e
  refine ⟨h1, fun x H3 y => ?_⟩
  obtain ⟨rfl, rfl⟩ := y
  exact ⟨B2, Frm.none, s2, .int⟩
def gR1 (rs : List RV) : Option (List D) := match rs with
  | [r] => match r.od with
    | .fz (.int j) => if -(2 ^ 62) ≤ j ∧ j < 2 ^ 62 then some (rng 0 j.toNat) else none
    | _ => none
  | _ => none
def gR2 (rs : List RV) : Option (List D) := match rs with
  | [r, r'] => match r.od, r'.od with
    | .fz (.int i), .fz (.int j) => if -(2 ^ 62) ≤ i ∧ i < 2 ^ 62 ∧ -(2 ^ 62) ≤ j ∧ j < 2 ^ 62 then some (rng i (j - i).toNat) else none
    | _, _ => none
  | _ => none
theorem VPost.it0 {K : PySem.W.Frag} {B H : Hp} {G : List Addr} {ds : List D} {J : It} {R : It → Hp → Prop} (q : VPost (itR K) B H G R (some ds)) (s : Same B H) (sp : Spec K B J ds) : R J H :=
  q J B H [] ⟨rfl, sp⟩ s List.nodup_nil Frm.none
theorem i_range1 {p : Pos} {fr : Env → O (List RV)} (hm : X.mg "range" = none) (ha : PAr X W [a] fr) (hg : Gl X "range" := by rfl) (hs : starEach [a] X.env = [(false, eval a X.env)] := by rfl) : PIr X W tg (.Call (.Name "range" p) [a] [] pos) (fun env => (fr env).mapP gR1) := by
  obtain ⟨t, h, k⟩ := ha
  refine ⟨_, pi_range1 hg hm h hs, EOk.map (r := fun (vs : List V) (H1 : Hp) (R : It → Hp → Prop) => ∃ j : Int, vs = [.int j] ∧ -(2 ^ 62) ≤ j ∧ j < 2 ^ 62 ∧ R (Itr 0 j.toNat) H1) k fun B H G vs rs R s h n q => ?_⟩
  dsimp only [gR1] at q
  split at q
  · obtain ⟨v, rfl, h1⟩ := lsR_one h
    split at q
    · rename_i j e
      have z := rv_fz h1 e
      cases z
      split at q
      · rename_i hj
        exact ⟨j, rfl, hj.1, hj.2, VPost.it0 q s spec_rng⟩
      · exact q.elim
    · exact q.elim
  · exact q.elim
theorem i_range2 {p : Pos} {fr : Env → O (List RV)} (hm : X.mg "range" = none) (ha : PAr X W [a, b] fr) (hg : Gl X "range" := by rfl) (hs : starEach [a, b] X.env = [(false, eval a X.env), (false, eval b X.env)] := by rfl) (hs2 : starEach [b] X.env = [(false, eval b X.env)] := by rfl) :
    PIr X W tg (.Call (.Name "range" p) [a, b] [] pos) (fun env => (fr env).mapP gR2) := by
  obtain ⟨t, h, k⟩ := ha
  refine ⟨_, pi_range2 hg hm h hs hs2, EOk.map (r := fun (vs : List V) (H1 : Hp) (R : It → Hp → Prop) => ∃ i j : Int, vs = [.int i, .int j] ∧ (-(2 ^ 62) ≤ i ∧ i < 2 ^ 62 ∧ -(2 ^ 62) ≤ j ∧ j < 2 ^ 62) ∧ R (Itr i (j - i).toNat) H1) k fun B H G vs rs R s h n q => ?_⟩
  dsimp only [gR2] at q
  split at q
  · obtain ⟨v, v', G1, G2, rfl, h1, h2⟩ := lsR_two h
    split at q
    · rename_i i j e1 e2
      have z1 := rv_fz h1 e1
      have z2 := rv_fz h2 e2
      cases z1; cases z2
      split at q
      · rename_i hj
        exact ⟨i, j, rfl, hj, VPost.it0 q s spec_rng⟩
      · exact q.elim
    · exact q.elim
  · exact q.elim
/-- range(i, j, -1) -/
def rngD (hi : Int) (n : Nat) : List D := (List.range n).map fun (k : Nat) => D.int (hi - (k : Int))
def gR3 (rs : List RV) : Option (List D) := match rs with
  | [r, r', r''] => match r.od, r'.od, r''.od with
    | .fz (.int i), .fz (.int j), .fz (.int c) => if -(2 ^ 62) ≤ i ∧ i < 2 ^ 62 ∧ -(2 ^ 62) ≤ j ∧ j < 2 ^ 62 ∧ c = -1 then some (rngD i (i - j).toNat) else none
    | _, _, _ => none
  | _ => none
theorem spec_rngD {K : PySem.W.Frag} {B : Hp} {hi : Int} {n : Nat} : Spec K B (Itc hi (-1) n) (rngD hi n) := fun B2 H2 s s2 => by
  refine ⟨fun i d e => ?_, by show n ≤ (rngD hi n).length; simp [rngD]⟩
  unfold rngD at e
  rw [List.getElem?_map] at e
  cases e2 : (List.range n)[i]? with
  | none => rw [e2] at e; cases e
  | some k =>
    rw [e2] at e; cases e
    obtain ⟨h1, h2⟩ := List.getElem?_eq_some_iff.mp e2
    rw [List.length_range] at h1
    rw [List.getElem_range] at h2
    subst h2
    refine ⟨h1, fun x H3 y => ?_⟩
    obtain ⟨rfl, rfl⟩ := y
    refine ⟨B2, Frm.none, s2, ?_⟩
    have : hi + (i : Int) * -1 = hi - i := by omega
    rw [this]
    exact .int
theorem i_range3 {p : Pos} {fr : Env → O (List RV)} (hm : X.mg "range" = none) (ha : PAr X W [a, b, c] fr) (hg : Gl X "range" := by rfl) (hs : starEach [a, b, c] X.env = (false, eval a X.env) :: starEach [b, c] X.env := by rfl) (hpl : (backTo pos (starEach [b, c] X.env)).any (·.1) = false := by rfl) :
    PIr X W tg (.Call (.Name "range" p) [a, b, c] [] pos) (fun env => (fr env).mapP gR3) := by
  obtain ⟨t, h, k⟩ := ha
  refine ⟨_, pi_range3 hg hm h hs hpl, EOk.map (r := fun (vs : List V) (H1 : Hp) (R : It → Hp → Prop) => ∃ (i j c : Int) (n : Nat), vs = [.int i, .int j, .int c] ∧ RgC i j c n ∧ R (Itc i c n) H1) k fun B H G vs rs R s h n q => ?_⟩
  dsimp only [gR3] at q
  split at q
  · cases h with
    | cons h1 t =>
      obtain ⟨v, v', G1, G2, rfl, h2, h3⟩ := lsR_two t
      split at q
      · rename_i i j c e1 e2 e3
        have z1 := rv_fz h1 e1
        have z2 := rv_fz h2 e2
        have z3 := rv_fz h3 e3
        cases z1; cases z2; cases z3
        split at q
        · rename_i hj
          obtain ⟨j1, j2, j3, j4, rfl⟩ := hj
          exact ⟨i, j, -1, (i - j).toNat, rfl, RgC.neg j1 j2 j3 j4, VPost.it0 q s spec_rngD⟩
        · exact q.elim
      · exact q.elim
  · exact q.elim
end
/-! ### for, while -/
def forGo (g : OD → Env → Option Env) (body : Env → SO) : List D → Env → SO
  | [], env => .nx env
  | d :: ds, env => match g (.fz d) env with
    | none => .bad
    | some e1 => match body e1 with
      | .nx e2 => forGo g body ds e2
      | .ct e2 => forGo g body ds e2
      | .bk e2 => .nx e2
      | o => o
def sFor (f : Env → O (List D)) (g : OD → Env → Option Env) (body : Env → SO) : Env → SO := sE f (forGo g body)
def whileGo (c : Env → O Bool) (body : Env → SO) : Nat → Env → SO
  | 0, _ => .bad
  | n + 1, env => sE c (fun b e => if b = true then match body e with
      | .nx e2 => whileGo c body n e2
      | .ct e2 => whileGo c body n e2
      | .bk e2 => .nx e2
      | o => o else .nx e) env
section
variable {X : Cx} {W : WX} {io : List Nat} {tg iter : Expr} {st : List Stmt} {pos : Pos}
theorem s_for {f : Env → O (List D)} {g : OD → Env → Option Env} {body : Env → SO} (hp : PassesOwn (model X.prog X.w) X.A X.env X.xe) (hc : X.calm = true) (hi : PIr X W tg iter f) (hg : PGr X io tg g) (hb : PSsr X W io st body)
    (hs : ∀ x, foldedSetIterable iter X.env x = pure x := by intro _; rfl) : PSr X W io (.For tg iter st [] pos) (sFor f g body) := by
  obtain ⟨wi, hi, ki⟩ := hi
  obtain ⟨tg', hg, kg⟩ := hg
  obtain ⟨tb, hb, kb⟩ := hb
  refine ⟨_, ps_for hp hc hi hg hb hs, fun B H F σ env D S q => ?_⟩
  refine ki B H F σ env _ S ?_
  dsimp only [sFor, sE] at q
  -- the loop from a state
  have core : ∀ {J : It} {B1 H1 : Hp} {F1 : List Addr} {env1 : Env} {ds : List Tl.D}, Spec X.K B1 J ds → Sta X.K X.mg B1 H1 F1 σ env1 → Frm B H F B1 H1 F1 → SPost X W io B H F σ D (forGo g body ds env1) →
      ∃ W' : Nat → Nat → St → Hp → Prop, (∃ m, W' 0 m σ H1) ∧ ∀ i m σ H, W' i m σ H →
        (J.stop i H ∧ D.nx σ H) ∨ (J.go i H ∧ ∃ N : St → Hp → Prop, (∀ σ' H', N σ' H' → ∃ m', m' < m ∧ W' (i + 1) m' σ' H') ∧ ∀ x H', J.yld i H x H' → tg' x σ H' fun σ2 H2 => tb { D with nx := N, ct := N, bk := D.nx } σ2 H2) := by
    intro J B1 H1 F1 env1 ds sp S1 f1 q1
    refine ⟨fun i m σ H => m = ds.length - i ∧ i ≤ ds.length ∧ ∃ B F env, Sta X.K X.mg B H F σ env ∧ Same B1 B ∧ SPost X W io B H F σ D (forGo g body (ds.drop i) env), ⟨ds.length, by simp, Nat.zero_le _, B1, F1, env1, S1, Same.refl _, by rw [List.drop_zero]; exact SPost.later q1 f1 Agree.refl⟩, ?_⟩
    rintro i m σ2 H2 ⟨rfl, hi, B2, F2, env2, S2, s12, q2⟩
    obtain ⟨sp1, sp2⟩ := sp B2 H2 s12 S2.sub
    by_cases hlt : i < ds.length
    · have e0 : ds[i]? = some ds[i] := by simp [hlt]
      obtain ⟨go, yl⟩ := sp1 i ds[i] e0
      refine .inr ⟨go, fun σ' H' => (ds.length - (i + 1)) = ds.length - (i + 1) ∧ i + 1 ≤ ds.length ∧ ∃ B F env, Sta X.K X.mg B H' F σ' env ∧ Same B1 B ∧ SPost X W io B H' F σ' D (forGo g body (ds.drop (i + 1)) env), fun σ' H' h => ⟨ds.length - (i + 1), by omega, h⟩, fun x H3 y => ?_⟩
      obtain ⟨B3, f3, s3, r3⟩ := yl x H3 y
      have S3 := S2.pure s3 f3
      have f23 : Frm B2 H2 F2 B3 H3 F2 := f3.wide (fun _ z => nomatch z) fun c m => .inr m
      rw [List.drop_eq_getElem_cons hlt] at q2
      dsimp only [forGo] at q2
      refine kg B3 H3 F2 [] σ2 env2 x (.fz ds[i]) _ S3.sl s3 (.fz r3) S3.nd ?_
      cases e1 : g (.fz ds[i]) env2 with
      | none => rw [e1] at q2; exact q2
      | some e4 =>
        rw [e1] at q2
        intro B4 H4 F4 σ4 S4 f4 g4
        have f24 := f23.trans f4
        refine kb B4 H4 F4 σ4 e4 _ S4 ?_
        have next : ∀ {e5 : Env}, SPost X W io B2 H2 F2 σ2 D (forGo g body (ds.drop (i + 1)) e5) → ∀ (B5 H5 : Hp) (F5 : List Addr) (σ5 : St), Sta X.K X.mg B5 H5 F5 σ5 e5 → Frm B4 H4 F4 B5 H5 F5 → Agree io σ4 σ5 →
            (ds.length - (i + 1)) = ds.length - (i + 1) ∧ i + 1 ≤ ds.length ∧ ∃ B F env, Sta X.K X.mg B H5 F σ5 env ∧ Same B1 B ∧ SPost X W io B H5 F σ5 D (forGo g body (ds.drop (i + 1)) env) := fun {e5} q5 B5 H5 F5 σ5 S5 f5 g5 =>
          ⟨rfl, hlt, B5, F5, e5, S5, s12.trans (f24.sB.trans f5.sB), SPost.later q5 (f24.trans f5) (g4.trans g5)⟩
        dsimp only at q2
        cases e5 : body e4 with
        | bad => rw [e5] at q2; exact q2
        | nx e6 => rw [e5] at q2; exact next q2
        | ct e6 => rw [e5] at q2; exact next q2
        | bk e6 => rw [e5] at q2; exact fun B5 H5 F5 σ5 S5 f5 g5 => q2 B5 H5 F5 σ5 S5 (f24.trans f5) (g4.trans g5)
        | rt o e6 => rw [e5] at q2; exact fun v B5 H5 G5 F5 σ5 a b c d f5 g5 => q2 v B5 H5 G5 F5 σ5 a b c d (f24.trans f5) (g4.trans g5)
        | exc c e6 => rw [e5] at q2; exact fun B5 H5 F5 σ5 S5 f5 g5 => q2 B5 H5 F5 σ5 S5 (f24.trans f5) (g4.trans g5)
    · have e0 : i = ds.length := by omega
      subst e0
      rw [List.drop_length] at q2
      exact .inl ⟨sp2, q2 B2 H2 F2 σ2 S2 Frm.refl Agree.refl⟩
  cases e2 : f env with
  | bad => rw [e2] at q; exact q
  | exc c e => rw [e2] at q; exact fun B' H' F' S' f' => q B' H' F' σ S' f' Agree.refl
  | ok ds =>
    rw [e2] at q
    intro J B' H' G r s n f'
    obtain ⟨rfl, sp⟩ := r
    exact core sp (S.pure s f') (f'.wide (fun _ z => nomatch z) fun c m => .inr m) q
  | eff ds e =>
    rw [e2] at q
    intro J B' H' G F' r l s n f'
    obtain ⟨rfl, sp⟩ := r
    exact core sp ⟨s, l, n⟩ f' q
theorem s_while {c : Expr} {cc : Env → O Bool} {body : Env → SO} (n : Nat) (hp : PassesOwn (model X.prog X.w) X.A X.env X.xe) (hc : PTr X W c cc) (hb : PSsr X W io st body) : PSr X W io (.While c st [] pos) (whileGo cc body n) := by
  obtain ⟨tc, hc, kc⟩ := hc
  obtain ⟨tb, hb, kb⟩ := hb
  refine ⟨_, ps_while hp hc hb, fun B H F σ env D S q => ?_⟩
  refine ⟨fun m σ H => ∃ B F env, Sta X.K X.mg B H F σ env ∧ SPost X W io B H F σ D (whileGo cc body m env), ⟨n, B, F, env, S, q⟩, ?_⟩
  rintro m σ2 H2 ⟨B2, F2, env2, S2, q2⟩
  cases m with
  | zero => exact q2.elim
  | succ m =>
    refine kc B2 H2 F2 σ2 env2 _ S2 ?_
    dsimp only [whileGo, sE] at q2
    have fin : ∀ (b : Bool) (B3 H3 : Hp) (F3 : List Addr) (e : Env), Sta X.K X.mg B3 H3 F3 σ2 e → Frm B2 H2 F2 B3 H3 F3 → SPost X W io B2 H2 F2 σ2 D (if b = true then match body e with
        | .nx e2 => whileGo cc body m e2
        | .ct e2 => whileGo cc body m e2
        | .bk e2 => .nx e2
        | o => o else .nx e) → if b = true then ∃ N : St → Hp → Prop, (∀ σ' H', N σ' H' → ∃ m', m' < m + 1 ∧ ∃ B F env, Sta X.K X.mg B H' F σ' env ∧ SPost X W io B H' F σ' D (whileGo cc body m' env)) ∧ tb { D with nx := N, ct := N, bk := D.nx } σ2 H3 else D.nx σ2 H3 := fun b B3 H3 F3 e S3 f3 q3 => by
      cases b with
      | false => exact q3 B3 H3 F3 σ2 S3 f3 Agree.refl
      | true =>
        rw [if_pos rfl] at q3
        rw [if_pos rfl]
        refine ⟨fun σ' H' => ∃ B F env, Sta X.K X.mg B H' F σ' env ∧ SPost X W io B H' F σ' D (whileGo cc body m env), fun σ' H' h => ⟨m, Nat.lt_succ_self m, h⟩, ?_⟩
        refine kb B3 H3 F3 σ2 e _ S3 ?_
        have next : ∀ {e5 : Env}, SPost X W io B2 H2 F2 σ2 D (whileGo cc body m e5) → ∀ (B5 H5 : Hp) (F5 : List Addr) (σ5 : St), Sta X.K X.mg B5 H5 F5 σ5 e5 → Frm B3 H3 F3 B5 H5 F5 → Agree io σ2 σ5 →
            ∃ B F env, Sta X.K X.mg B H5 F σ5 env ∧ SPost X W io B H5 F σ5 D (whileGo cc body m env) := fun {e5} q5 B5 H5 F5 σ5 S5 f5 g5 => ⟨B5, F5, e5, S5, SPost.later q5 (f3.trans f5) g5⟩
        cases e5 : body e with
        | bad => rw [e5] at q3; exact q3
        | nx e6 => rw [e5] at q3; exact next q3
        | ct e6 => rw [e5] at q3; exact next q3
        | bk e6 => rw [e5] at q3; exact fun B5 H5 F5 σ5 S5 f5 g5 => q3 B5 H5 F5 σ5 S5 (f3.trans f5) g5
        | rt o e6 => rw [e5] at q3; exact fun v B5 H5 G5 F5 σ5 a b c d f5 g5 => q3 v B5 H5 G5 F5 σ5 a b c d (f3.trans f5) g5
        | exc c e6 => rw [e5] at q3; exact fun B5 H5 F5 σ5 S5 f5 g5 => q3 B5 H5 F5 σ5 S5 (f3.trans f5) g5
    cases e2 : cc env2 with
    | bad => rw [e2] at q2; exact q2
    | exc c e => rw [e2] at q2; exact fun B' H' F' S' f' => q2 B' H' F' σ2 S' f' Agree.refl
    | ok b =>
      rw [e2] at q2
      intro b' B' H' G r s nn f'
      obtain ⟨rfl, rfl⟩ := r
      exact fin _ B' H' F2 env2 (S2.pure s f') (f'.wide (fun _ z => nomatch z) fun c m => .inr m) q2
    | eff b e =>
      rw [e2] at q2
      intro b' B' H' G F' r l s nn f'
      obtain ⟨rfl, rfl⟩ := r
      exact fin _ B' H' F' e ⟨s, l, nn⟩ f' q2
end
end Tl
namespace Tl
open PySem PySem.Spec L2

/-! ### places: what stands there may be changed -/
/-- what is put back at a place, the rest being as it was -/
def Plug (K : PySem.W.Frag) (mg : Str → Option Value) (B H : Hp) (Fr : List Addr) (σ : St) (put : OD → Env) (v : V) : Prop :=
  ∀ B' H' Fo' o', Same B B' → (∀ a ∈ Fr, (∀ u, H a = some u → H' a = some u) ∧ B' a = none) → Own K mg B' H' Fo' v o' → ∃ F', Slots K mg B' H' F' σ (put o') ∧ F'.Perm (Fo' ++ Fr)
def PLr (X : Cx) (e : Expr) (get : Env → Option OD) (put : Env → OD → Env) : Prop := ∃ t, PE X e t ∧ ∀ B H F σ env o (Q : VK), Sta X.K X.mg B H F σ env → get env = some o →
  (∀ v B1 H1 Fo Fr, Frm B H [] B1 H1 [] → Same B1 H1 → F.Perm (Fo ++ Fr) → Own X.K X.mg B1 H1 Fo v o → Plug X.K X.mg B1 H1 Fr σ (put env) v → Q v H1) → t σ H Q
def vGet (i : Nat) : Env → Option OD := fun env => match env[i]? with
  | some .un => none
  | o => o
def vPut (i : Nat) : Env → OD → Env := fun env o => env.set i o
section
variable {X : Cx} {W : WX} {io : List Nat} {a b c e : Expr} {es rest : List Expr} {f fa fb fc : Env → O RV} {pos : Pos}
theorem slots_plug {K : PySem.W.Frag} {mg : Str → Option Value} {B H : Hp} {F : List Addr} {σ : St} {env : Env} {i : Nat} {o : OD} (sl : Slots K mg B H F σ env) (e : vGet i env = some o) :
    ∃ v Fo Fr, σ[i]? = some (some v) ∧ F.Perm (Fo ++ Fr) ∧ Own K mg B H Fo v o ∧ Plug K mg B H Fr σ (vPut i env) v := by
  have e0 : env[i]? = some o ∧ o ≠ .un := by
    unfold vGet at e
    split at e
    · cases e
    · rename_i h; exact ⟨e, fun z => h (by subst z; exact e)⟩
  obtain ⟨v, Fo, Fr, h1, h2, h3, h4⟩ := sl.take e0.1 e0.2
  refine ⟨v, Fo, Fr, h1, h4, h2, fun B' H' Fo' o' s k r => ?_⟩
  have hu : (env.set i OD.un)[i]? = some .un := by
    rw [List.getElem?_set_self]; exact (List.getElem?_eq_some_iff.mp e0.1).1
  obtain ⟨F', c1, c2⟩ := (h3.mono s k).put hu h1 r
  rw [List.set_set] at c1
  exact ⟨F', c1, c2⟩
theorem p_var (i : Nat) {x : Str} {pos : Pos} (hN : X.N[i]? = some x := by rfl) (hv : Vis X.env.scope x := by first | exact Or.inl rfl | exact Or.inr (Or.inl rfl) | exact Or.inr (Or.inr rfl))
    (hd : (x == ("__debug__" : Str)) = false := by decide) (hcd : (x == ("__classdict__" : Str)) = false := by decide) : PLr X (.Name x pos) (vGet i) (vPut i) := by
  refine ⟨_, pe_var hN hv hd hcd, fun B H F σ env o Q S e q => ?_⟩
  obtain ⟨v, Fo, Fr, h1, h2, h3, h4⟩ := slots_plug S.sl e
  exact ⟨v, h1, q v B H Fo Fr Frm.none S.sub h2 h3 h4⟩
/-! ### a list's items changed -/
theorem OwnL.set {K : PySem.W.Frag} {mg : Str → Option Value} {B H : Hp} {F : List Addr} {vs : List V} {os : List OD} (h : OwnL K mg B H F vs os) {j : Nat} (hj : j < os.length) {v : V} {G : List Addr} {o : OD} (r : Own K mg B H G v o) :
    ∃ F' Fr, OwnL K mg B H F' (vs.set j v) (os.set j o) ∧ F'.Perm (G ++ Fr) ∧ Fr.Sublist F := by
  induction vs generalizing os F j with
  | nil => cases h; simp at hj
  | cons w vs ih =>
    cases h with
    | @cons F1 G1 _ _ o1 os r1 t =>
      cases j with
      | zero => exact ⟨G ++ G1, G1, .cons r t, List.Perm.refl _, List.sublist_append_right _ _⟩
      | succ j =>
        obtain ⟨F', Fr, h1, h2, h3⟩ := ih t (by simpa using hj)
        refine ⟨F1 ++ F', F1 ++ Fr, .cons r1 h1, ?_, (List.Sublist.refl _).append h3⟩
        refine (h2.append_left F1).trans ?_
        rw [← List.append_assoc, ← List.append_assoc]
        exact (List.perm_append_comm).append_right Fr
theorem OwnL.append {K : PySem.W.Frag} {mg : Str → Option Value} {B H : Hp} {F G : List Addr} {vs us : List V} {os ps : List OD} (h : OwnL K mg B H F vs os) (k : OwnL K mg B H G us ps) : OwnL K mg B H (F ++ G) (vs ++ us) (os ++ ps) := by
  induction vs generalizing os F with
  | nil => cases h; exact k
  | cons w vs ih =>
    cases h with
    | cons r1 t => rw [List.append_assoc]; exact .cons r1 (ih t)
/-- what a method of a list does: its items, its arguments; what it gives, the items then -/
def MPost (X : Cx) (B H : Hp) (p : Addr) (F G : List Addr) (Q : VK) : Option (OD × List OD) → Prop
  | some (o, os') => ∀ v vs' Fr F' B' H', Own X.K X.mg B' H' Fr v o → OwnL X.K X.mg B' H' F' vs' os' → H' p = some (.lst vs') → Same B B' → (∀ a u, a ≠ p → H a = some u → H' a = some u) → (∀ a u, H a = some u → B a = none → B' a = none) → Same B' H' →
      (∃ L, (F ++ G).Perm (Fr ++ F' ++ L)) → Q v H'
  | none => False
def MOk (X : Cx) (id : String) (g : List OD → List RV → Option (OD × List OD)) : Prop := ∃ r, MtR X id r ∧ ∀ B H p F G vs os xs rs Q, Same B H → H p = some (.lst vs) → B p = none → OwnL X.K X.mg B H F vs os → lsR (rvR X.K X.mg) B H G xs rs → (p :: F ++ G).Nodup →
  MPost X B H p F G Q (g os rs) → r (.ref p) xs H Q
theorem own_upd {K : PySem.W.Frag} {mg : Str → Option Value} {B H : Hp} {F : List Addr} {v : V} {o : OD} {p : Addr} {u : HO} (r : Own K mg B H F v o) (n : p ∉ F) : Own K mg B (upd H p u) F v o :=
  r.mono (Same.refl _) fun a m => ⟨fun w e => by rw [upd_ne (fun z => by subst z; exact n m)]; exact e, (r.there a m).1⟩
theorem ownL_upd {K : PySem.W.Frag} {mg : Str → Option Value} {B H : Hp} {F : List Addr} {vs : List V} {os : List OD} {p : Addr} {u : HO} (r : OwnL K mg B H F vs os) (n : p ∉ F) : OwnL K mg B (upd H p u) F vs os :=
  r.mono (Same.refl _) fun a m => ⟨fun w e => by rw [upd_ne (fun z => by subst z; exact n m)]; exact e, (r.there a m).1⟩
theorem same_upd {B H : Hp} {p : Addr} {u : HO} (s : Same B H) (b : B p = none) : Same B (upd H p u) := fun a w e => by
  rw [upd_ne (ne_of_none e b)]; exact s a w e
/-- the usual way: the list alone is changed -/
theorem MPost.upd {X : Cx} {B H : Hp} {p : Addr} {F G : List Addr} {Q : VK} {o : OD} {os' : List OD} (q : MPost X B H p F G Q (some (o, os'))) (s : Same B H) (b : B p = none) {v : V} {vs' : List V} {Fr F' : List Addr} (r : Own X.K X.mg B H Fr v o) (rl : OwnL X.K X.mg B H F' vs' os') (n1 : p ∉ Fr) (n2 : p ∉ F')
    (pm : ∃ L, (F ++ G).Perm (Fr ++ F' ++ L)) : Q v (upd H p (.lst vs')) :=
  q v vs' Fr F' B _ (own_upd r n1) (ownL_upd rl n2) upd_same (Same.refl _) (fun a u h e => by rw [upd_ne h]; exact e) (fun _ _ _ b => b) (same_upd s b) pm
def mAppend (os : List OD) (rs : List RV) : Option (OD × List OD) := match rs with
  | [.own o] => if os.length < 10000000 then some (.fz .non, os ++ [o]) else none
  | _ => none
theorem m_append : MOk X "list.append" mAppend := by
  refine ⟨rAppend, mt_append, fun B H p F G vs os xs rs Q s hp hb r rs' nd q => ?_⟩
  dsimp only [mAppend] at q
  split at q
  · rename_i o
    split at q
    · rename_i hl
      obtain ⟨v, rfl, h1⟩ := lsR_one rs'
      have nd' := List.nodup_append.mp nd
      have n1 := (List.nodup_cons.mp nd'.1).1
      have n2 : p ∉ G := fun m => nd'.2.2 p List.mem_cons_self p m rfl
      have ra : OwnL X.K X.mg B H (F ++ G) (vs ++ [v]) (os ++ [o]) := by
        have := r.append (.cons (show Own X.K X.mg B H G v o from h1) .nil)
        rw [List.append_nil] at this
        exact this
      refine ⟨p, vs, v, rfl, rfl, hp, by rw [r.length]; exact Nat.lt_trans hl (by decide), MPost.upd q s hb (.fz .non) ra (by simp) (fun m => (List.mem_append.mp m).elim n1 n2) ⟨[], by simp⟩⟩
    · exact q.elim
  · exact q.elim
def mClear (os : List OD) (rs : List RV) : Option (OD × List OD) := match rs with
  | [] => some (.fz .non, [])
  | _ => none
theorem m_clear : MOk X "list.clear" mClear := by
  refine ⟨rClear, mt_clear, fun B H p F G vs os xs rs Q s hp hb r rs' nd q => ?_⟩
  dsimp only [mClear] at q
  split at q
  · cases rs'
    exact ⟨p, vs, rfl, rfl, hp, MPost.upd q s hb (.fz .non) .nil (by simp) (by simp) ⟨F, by simp⟩⟩
  · exact q.elim
/-- pop() of plain items -/
def mPop (os : List OD) (rs : List RV) : Option (OD × List OD) := match rs with
  | [] => match fzs os with
    | some ds => match ds[ds.length - 1]? with
      | some d => some (.fz d, ds.dropLast.map .fz)
      | none => none
    | none => none
  | _ => none
theorem RepL.dropLast {K : PySem.W.Frag} {B : Hp} {vs : List V} {ds : List D} (h : RepL K B vs ds) : RepL K B vs.dropLast ds.dropLast := by
  induction vs generalizing ds with
  | nil => cases h; exact .nil
  | cons v vs ih =>
    cases h with
    | cons r t =>
      cases vs with
      | nil => cases t; exact .nil
      | cons w vs => cases t with | cons r2 t2 => exact .cons r (ih (.cons r2 t2))
theorem m_pop : MOk X "list.pop" mPop := by
  refine ⟨rPop, mt_pop, fun B H p F G vs os xs rs Q s hp hb r rs' nd q => ?_⟩
  dsimp only [mPop] at q
  split at q
  · cases rs'
    cases e : fzs os with
    | none => rw [e] at q; exact q.elim
    | some ds =>
      rw [e] at q
      obtain ⟨rfl, rr⟩ := r.rep e
      dsimp only at q
      cases e2 : ds[ds.length - 1]? with
      | none => rw [e2] at q; exact q.elim
      | some d =>
        rw [e2] at q
        obtain ⟨v, e3, r3⟩ := rr.get e2
        exact ⟨p, vs, v, rfl, rfl, hp, by rw [rr.length]; exact e3, MPost.upd q s hb (.fz r3) rr.dropLast.ownL (by simp) (by simp) ⟨[], by simp⟩⟩
  · exact q.elim
def mReverse (os : List OD) (rs : List RV) : Option (OD × List OD) := match rs with
  | [] => match fzs os with
    | some ds => some (.fz .non, ds.reverse.map .fz)
    | none => none
  | _ => none
theorem RepL.reverse {K : PySem.W.Frag} {B : Hp} {vs : List V} {ds : List D} (h : RepL K B vs ds) : RepL K B vs.reverse ds.reverse := by
  induction vs generalizing ds with
  | nil => cases h; exact .nil
  | cons v vs ih =>
    cases h with
    | cons r t => rw [List.reverse_cons, List.reverse_cons]; exact (ih t).append (.cons r .nil)
theorem m_reverse : MOk X "list.reverse" mReverse := by
  refine ⟨rReverse, mt_reverse, fun B H p F G vs os xs rs Q s hp hb r rs' nd q => ?_⟩
  dsimp only [mReverse] at q
  split at q
  · cases rs'
    cases e : fzs os with
    | none => rw [e] at q; exact q.elim
    | some ds =>
      rw [e] at q
      obtain ⟨rfl, rr⟩ := r.rep e
      exact ⟨p, vs, rfl, rfl, hp, MPost.upd q s hb (.fz .non) rr.reverse.ownL (by simp) (by simp) ⟨[], by simp⟩⟩
  · exact q.elim
def mExtend (os : List OD) (rs : List RV) : Option (OD × List OD) := match rs with
  | [r] => match fzs os, r.od.litems with
    | some ds, some es => if ds.length + es.length ≤ 10000000 then some (.fz .non, (ds ++ es).map .fz) else none
    | _, _ => none
  | _ => none
theorem m_extend : MOk X "list.extend" mExtend := by
  refine ⟨rExtend, mt_extend, fun B H p F G vs os xs rs Q s hp hb r rs' nd q => ?_⟩
  dsimp only [mExtend] at q
  split at q
  · rename_i r1
    obtain ⟨v, rfl, h1⟩ := lsR_one rs'
    split at q
    · rename_i ds es e1 e2
      obtain ⟨rfl, rr⟩ := r.rep e1
      obtain ⟨b, us, rfl, k1, k2⟩ := rv_litems s h1 e2
      split at q
      · rename_i hl
        exact ⟨p, b, vs, us, rfl, rfl, hp, k1, by rw [rr.length, k2.length]; exact Nat.le_trans hl (by decide), MPost.upd q s hb (.fz .non) (rr.append k2).ownL (by simp) (by simp) ⟨G, by simp⟩⟩
      · exact q.elim
    · exact q.elim
  · exact q.elim

/-- a method of the list that stands at a name; its arguments first -/
def eMethV (i : Nat) (g : List OD → List RV → Option (OD × List OD)) (fr : Env → O (List RV)) : Env → O RV := fun env =>
  match vGet i env with
  | some (.lst _) =>
    let fin := fun rs e => match vGet i e with
      | some (.lst os) => match g os rs with
        | some (o, os') => O.eff (RV.own o) (e.set i (.lst os'))
        | none => .bad
      | _ => .bad
    match fr env with
    | .ok rs => fin rs env
    | .eff rs e => fin rs e
    | .exc c e => .exc c e
    | .bad => .bad
  | _ => .bad
/-- .. at any place -/
def eMethP (get : Env → Option OD) (put : Env → OD → Env) (g : List OD → List RV → Option (OD × List OD)) (fr : Env → O (List RV)) : Env → O RV := fun env =>
  match get env with
  | some (.lst os) => match fr env with
    | .ok rs => match g os rs with
      | some (o, os') => O.eff (RV.own o) (put env (.lst os'))
      | none => .bad
    | _ => .bad
  | _ => .bad
theorem sublist_perm_nodup {α : Type} {l a b : List α} (h : l.Perm (a ++ b)) (n : l.Nodup) : a.Nodup ∧ b.Nodup ∧ ∀ x ∈ a, x ∉ b := by
  have := List.nodup_append.mp (h.nodup_iff.mp n)
  exact ⟨this.1, this.2.1, fun x m z => this.2.2 x m x z rfl⟩
/-- the changed list put back -/
theorem meth_back {X : Cx} {B1 H1 : Hp} {F1 G Fo Fr : List Addr} {σ : St} {put : OD → Env} {v : V} {os : List OD} {rs : List RV} {xs : List V} {id : String} {g : List OD → List RV → Option (OD × List OD)} {r : V → List V → Hp → VK → Prop} {Q : VK}
    (hm : ∀ B H p F G vs os xs rs Q, Same B H → H p = some (.lst vs) → B p = none → OwnL X.K X.mg B H F vs os → lsR (rvR X.K X.mg) B H G xs rs → (p :: F ++ G).Nodup → MPost X B H p F G Q (g os rs) → r (.ref p) xs H Q)
    (s : Same B1 H1) (pm : F1.Perm (Fo ++ Fr)) (nd : (G ++ F1).Nodup) (ho : Own X.K X.mg B1 H1 Fo v (.lst os)) (pl : Plug X.K X.mg B1 H1 Fr σ put v) (th : ∀ a ∈ Fr, B1 a = none ∧ ∃ u, H1 a = some u) (ra : lsR (rvR X.K X.mg) B1 H1 G xs rs) {o : OD} {os' : List OD} (eg : g os rs = some (o, os'))
    (q : ∀ w B' H' Gr F', Own X.K X.mg B' H' Gr w o → Slots X.K X.mg B' H' F' σ (put (.lst os')) → Same B' H' → (Gr ++ F').Nodup → Frm B1 H1 (G ++ F1) B' H' (Gr ++ F') → Q w H') : r v xs H1 Q := by
  cases ho with
  | @lst p vs Fi _ hp hb hr =>
    have n2 : (G ++ (p :: Fi ++ Fr)).Nodup := (pm.append_left G).nodup_iff.mp nd
    have n3 := List.nodup_append.mp n2
    have n4 := List.nodup_append.mp n3.2.1
    have n5 : (p :: Fi ++ G).Nodup := List.nodup_append.mpr ⟨n4.1, n3.1, fun a ha b hb e => n3.2.2 b hb a (List.mem_append_left _ ha) e.symm⟩
    refine hm B1 H1 p Fi G vs os xs rs Q s hp hb hr ra n5 ?_
    rw [eg]
    rintro w vs' Fw F' B' H' ow ol hp' sb kp fg s' ⟨L, pL⟩
    have nfg : (Fi ++ G).Nodup := (List.nodup_cons.mp n5).2
    have npfg : p ∉ Fi ++ G := (List.nodup_cons.mp n5).1
    have n6 := pL.nodup_iff.mp nfg
    rw [List.append_assoc] at n6
    have n7 := List.nodup_append.mp n6
    have n8 := List.nodup_append.mp n7.2.1
    have mem : ∀ a, a ∈ Fw ∨ a ∈ F' → a ∈ Fi ++ G := fun a m => pL.mem_iff.mpr (List.mem_append_left _ (List.mem_append.mpr m))
    have frk : ∀ a ∈ Fr, (∀ u, H1 a = some u → H' a = some u) ∧ B' a = none := fun a m => by
      obtain ⟨b, u, e⟩ := th a m
      refine ⟨fun u e => kp a u (fun z => ?_) e, fg a u e b⟩
      exact n4.2.2 p List.mem_cons_self a m z.symm
    obtain ⟨F2, sl, p2⟩ := pl B' H' (p :: F') (.lst os') sb frk (.lst hp' (fg p _ hp hb) ol)
    have fr2 : ∀ a ∈ Fr, a ∉ Fi ++ G := fun a m z => by
      rcases List.mem_append.mp z with z | z
      · exact n4.2.2 a (List.mem_cons_of_mem _ z) a m rfl
      · exact n3.2.2 a z a (List.mem_append_right _ m) rfl
    have nF2 : F2.Nodup := p2.nodup_iff.mpr (List.nodup_append.mpr ⟨List.nodup_cons.mpr ⟨fun m => npfg (mem p (.inr m)), n8.1⟩, n4.2.1, fun a ha b hb e => by
      subst e
      rcases List.mem_cons.mp ha with z | z
      · exact n4.2.2 p List.mem_cons_self a hb z.symm
      · exact fr2 a hb (mem a (.inr z))⟩)
    refine q w B' H' Fw F2 ow sl s' (List.nodup_append.mpr ⟨n7.1, nF2, fun a ha b hb e => ?_⟩) ⟨sb, fun a u e m => kp a u (fun z => ?_) e, fun a u e _ b => fg a u e b, fun a m => ?_⟩
    · subst e
      rcases List.mem_append.mp (p2.mem_iff.mp hb) with z | z
      · rcases List.mem_cons.mp z with z | z
        · exact npfg (z ▸ mem a (.inl ha))
        · exact n7.2.2 a ha a (List.mem_append_left _ z) rfl
      · exact fr2 a z (mem a (.inl ha))
    · subst z
      exact m (List.mem_append_right _ (pm.mem_iff.mpr (List.mem_append_left _ List.mem_cons_self)))
    · left
      have inFG : ∀ a, a ∈ Fi ++ G → a ∈ G ++ F1 := fun a z => by
        rcases List.mem_append.mp z with z | z
        · exact List.mem_append_right _ (pm.mem_iff.mpr (List.mem_append_left _ (List.mem_cons_of_mem _ z)))
        · exact List.mem_append_left _ z
      rcases List.mem_append.mp m with m | m
      · exact inFG a (mem a (.inl m))
      · rcases List.mem_append.mp (p2.mem_iff.mp m) with z | z
        · rcases List.mem_cons.mp z with z | z
          · subst z; exact List.mem_append_right _ (pm.mem_iff.mpr (List.mem_append_left _ List.mem_cons_self))
          · exact inFG a (mem a (.inr z))
        · exact List.mem_append_right _ (pm.mem_iff.mpr (List.mem_append_right _ z))
theorem EOk.methV {id : String} {g : List OD → List RV → Option (OD × List OD)} {r : V → List V → Hp → VK → Prop} {i : Nat} {t : TA} {fr : Env → O (List RV)}
    (hm : ∀ B H p F G vs os xs rs Q, Same B H → H p = some (.lst vs) → B p = none → OwnL X.K X.mg B H F vs os → lsR (rvR X.K X.mg) B H G xs rs → (p :: F ++ G).Nodup → MPost X B H p F G Q (g os rs) → r (.ref p) xs H Q)
    (ka : EOk X W (lsR (rvR X.K X.mg)) t fr) : EOk X W (rvR X.K X.mg) (fun σ H Q => ∃ v, σ[i]? = some (some v) ∧ (tyV X.K "list" v H ∧ t σ H fun xs H2 => r v xs H2 Q)) (eMethV i g fr) := by
  intro B H F σ env Q S q
  dsimp only [eMethV] at q
  cases e0 : vGet i env with
  | none => rw [e0] at q; exact q.elim
  | some o0 =>
    rw [e0] at q
    cases o0 with
    | lst os0 =>
      dsimp only at q
      obtain ⟨v, Fo0, Fr0, h1, h2, h3, h4⟩ := slots_plug S.sl e0
      have ty : tyV X.K "list" v H := by
        cases h3 with
        | lst hp _ _ => exact .inl ⟨rfl, _, .inl (.inl hp)⟩
      refine ⟨v, h1, ty, ka B H F σ env _ S ?_⟩
      have fin : ∀ {B1 H1 : Hp} {F1 G : List Addr} {env1 : Env} {xs : List V} {rs : List RV}, Slots X.K X.mg B1 H1 F1 σ env1 → Same B1 H1 → (G ++ F1).Nodup → Frm B H F B1 H1 (G ++ F1) → lsR (rvR X.K X.mg) B1 H1 G xs rs →
          EPost X W (rvR X.K X.mg) B H F σ Q (match vGet i env1 with
            | some (.lst os) => match g os rs with
              | some (o, os') => O.eff (RV.own o) (env1.set i (.lst os'))
              | none => .bad
            | _ => .bad) → r v xs H1 Q := by
        intro B1 H1 F1 G env1 xs rs sl s nd f ra q
        cases e1 : vGet i env1 with
        | none => rw [e1] at q; exact q.elim
        | some o1 =>
          rw [e1] at q
          cases o1 with
          | lst os =>
            dsimp only at q
            obtain ⟨v', Fo, Fr, k1, k2, k3, k4⟩ := slots_plug sl e1
            rw [h1] at k1; cases k1
            cases eg : g os rs with
            | none => rw [eg] at q; exact q.elim
            | some z =>
              obtain ⟨o, os'⟩ := z
              rw [eg] at q
              exact meth_back (id := id) hm s k2 nd k3 k4 (fun a m => sl.there a (k2.mem_iff.mpr (List.mem_append_right _ m))) ra eg fun w B' H' Gr F' a b c d e => q w B' H' Gr F' a b c d (f.trans e)
          | _ => exact q.elim
      cases e2 : fr env with
      | bad => rw [e2] at q; exact q
      | exc c e => rw [e2] at q; exact q
      | ok rs => rw [e2] at q; exact fun xs B1 H1 G ra s n f => fin (S.pure s f).sl s (nodup_new (fun a m => (S.sl.there a m).2) S.nd n f) f.wide0 ra (by rw [e0]; exact q)
      | eff rs e => rw [e2] at q; exact fun xs B1 H1 G F1 ra sl s n f => fin sl s n f ra q
    | _ => exact q.elim
/-- x.m(..), x a name that holds a list -/
theorem r_methV {id : String} {name x : Str} {g : List OD → List RV → Option (OD × List OD)} {apos cpos p : Pos} {fr : Env → O (List RV)} (i : Nat) (pa : PlainAttrs "list") (slot : Slot "list" name id) (hty : typeOf (.builtin id) = pure (.type "method_descriptor")) (hm : MOk X id g) (ha : PAr X W (e :: es) fr)
    (hN : X.N[i]? = some x := by rfl) (hv : Vis X.env.scope x := by first | exact Or.inl rfl | exact Or.inr (Or.inl rfl) | exact Or.inr (Or.inr rfl)) (hd : (x == ("__debug__" : Str)) = false := by decide) (hcd : (x == ("__classdict__" : Str)) = false := by decide)
    (hbase : attributeBase (.Name x p) name X.env (eval (.Name x p) X.env) = eval (.Name x p) X.env := by rfl)
    (hfew : ((backTo cpos (starEach (e :: es) X.env)).all (fun x => !x.1) && (backToKw cpos (keywordEach [] X.env)).all (fun x => x.1.isSome)
      && decide ((e :: es).length + ([] : List Keyword).length + (if ([] : List Keyword).isEmpty then 0 else 1) < 30)) = true := by rfl)
    (hline : (apos.endLine == cpos.line) = true := by rfl) (hs : starEach (e :: es) X.env = (false, eval e X.env) :: starEach es X.env := by rfl) (hplain : (backTo cpos (starEach es X.env)).any (·.1) = false := by rfl) :
    PEr X W (.Call (.Attribute (.Name x p) name apos) (e :: es) [] cpos) (eMethV i g fr) := by
  obtain ⟨r, hr, hm⟩ := hm
  obtain ⟨t, h, k⟩ := ha
  exact ⟨_, pe_bm pa slot hty hr (pe_var hN hv hd hcd) h hbase hfew hline hs hplain, EOk.methV (id := id) hm k⟩
theorem r_methV0 {id : String} {name x : Str} {g : List OD → List RV → Option (OD × List OD)} {apos cpos p : Pos} (i : Nat) (pa : PlainAttrs "list") (slot : Slot "list" name id) (hty : typeOf (.builtin id) = pure (.type "method_descriptor")) (hm : MOk X id g)
    (hN : X.N[i]? = some x := by rfl) (hv : Vis X.env.scope x := by first | exact Or.inl rfl | exact Or.inr (Or.inl rfl) | exact Or.inr (Or.inr rfl)) (hd : (x == ("__debug__" : Str)) = false := by decide) (hcd : (x == ("__classdict__" : Str)) = false := by decide)
    (hbase : attributeBase (.Name x p) name X.env (eval (.Name x p) X.env) = eval (.Name x p) X.env := by rfl) (hline : (apos.endLine == cpos.line) = true := by rfl) :
    PEr X W (.Call (.Attribute (.Name x p) name apos) [] [] cpos) (eMethV i g aNil) := by
  obtain ⟨r, hr, hm⟩ := hm
  have k : EOk X W (lsR (rvR X.K X.mg)) tNil aNil := fun B H F σ env Q S q => q [] B H [] .nil S.sub List.nodup_nil Frm.none
  exact ⟨_, pe_bm0 pa slot hty hr (pe_var hN hv hd hcd) hbase hline, EOk.methV (id := id) hm k⟩
end
end Tl
namespace Tl
open PySem PySem.Spec L2

section
variable {X : Cx} {W : WX} {io : List Nat} {a b c e : Expr} {es rest : List Expr} {f fa fb fc : Env → O RV} {pos : Pos}
/-! ### place[k] = .. -/
def gSub (get : Env → Option OD) (put : Env → OD → Env) (fk : Env → O RV) : OD → Env → Option Env := fun o env =>
  match get env with
  | some (.lst os) => match fk env with
    | .ok r => match r.od with
      | .fz (.int k) => (ixN os.length k).map fun j => put env (.lst (os.set j o))
      | _ => none
    | _ => none
  | _ => none
theorem set_back {K : PySem.W.Frag} {mg : Str → Option Value} {B H : Hp} {F G Fo Fr : List Addr} {σ : St} {put : OD → Env} {p : Addr} {vs : List V} {os : List OD} {v : V} {o : OD} {j : Nat} (s : Same B H) (pm : F.Perm (Fo ++ Fr)) (nd : (G ++ F).Nodup) (ho : Own K mg B H Fo (.ref p) (.lst os)) (hp : H p = some (.lst vs))
    (pl : Plug K mg B H Fr σ put (.ref p)) (th : ∀ a ∈ F, B a = none ∧ ∃ u, H a = some u) (r : Own K mg B H G v o) (hj : j < os.length) : ∃ F2, Sta K mg B (upd H p (.lst (vs.set j v))) F2 σ (put (.lst (os.set j o))) ∧ Frm B H (G ++ F) B (upd H p (.lst (vs.set j v))) F2 := by
  cases ho with
  | @lst _ vs' Fi _ hp' hb hr =>
    rw [hp] at hp'; cases hp'
    have n2 : (G ++ (p :: Fi ++ Fr)).Nodup := (pm.append_left G).nodup_iff.mp nd
    have n3 := List.nodup_append.mp n2
    have n4 := List.nodup_append.mp n3.2.1
    have npG : p ∉ G := fun m => n3.2.2 p m p (List.mem_append_left _ List.mem_cons_self) rfl
    have npFi := (List.nodup_cons.mp n4.1).1
    obtain ⟨F', Fs, h1, h2, h3⟩ := hr.set hj r
    have inF' : ∀ a, a ∈ F' → a ∈ G ∨ a ∈ Fi := fun a m => (List.mem_append.mp (h2.mem_iff.mp m)).imp id fun z => h3.subset z
    have npF' : p ∉ F' := fun m => (inF' p m).elim npG npFi
    have nF' : F'.Nodup := h2.nodup_iff.mpr (List.nodup_append.mpr ⟨n3.1, (List.nodup_cons.mp n4.1).2.sublist h3, fun a ha b hb e => by
      subst e
      exact n3.2.2 a ha a (List.mem_append_left _ (List.mem_cons_of_mem _ (h3.subset hb))) rfl⟩)
    have frk : ∀ a ∈ Fr, (∀ u, H a = some u → upd H p (.lst (vs.set j v)) a = some u) ∧ B a = none := fun a m => by
      have ne : a ≠ p := fun z => n4.2.2 p List.mem_cons_self a m z.symm
      exact ⟨fun u e => by rw [upd_ne ne]; exact e, (th a (pm.mem_iff.mpr (List.mem_append_right _ m))).1⟩
    obtain ⟨F2, sl, p2⟩ := pl B _ (p :: F') (.lst (os.set j o)) (Same.refl _) frk (.lst upd_same hb (ownL_upd h1 npF'))
    have inF : ∀ a, a ∈ p :: Fi ∨ a ∈ Fr → a ∈ F := fun a m => pm.mem_iff.mpr (List.mem_append.mpr m)
    refine ⟨F2, ⟨same_upd s hb, sl, p2.nodup_iff.mpr (List.nodup_append.mpr ⟨List.nodup_cons.mpr ⟨npF', nF'⟩, n4.2.1, fun a ha b hb e => ?_⟩)⟩, ⟨Same.refl _, fun a u e m => ?_, fun _ _ _ _ b => b, fun a m => .inl ?_⟩⟩
    · subst e
      rcases List.mem_cons.mp ha with z | z
      · exact n4.2.2 p List.mem_cons_self a hb z.symm
      · rcases inF' a z with y | y
        · exact n3.2.2 a y a (List.mem_append_right _ hb) rfl
        · exact n4.2.2 a (List.mem_cons_of_mem _ y) a hb rfl
    · have ne : a ≠ p := fun z => m (List.mem_append_right _ (inF a (.inl (by rw [z]; exact List.mem_cons_self))))
      rw [upd_ne ne]; exact e
    · rcases List.mem_append.mp (p2.mem_iff.mp m) with z | z
      · rcases List.mem_cons.mp z with z | z
        · subst z; exact List.mem_append_right _ (inF a (.inl List.mem_cons_self))
        · rcases inF' a z with y | y
          · exact List.mem_append_left _ y
          · exact List.mem_append_right _ (inF a (.inl (List.mem_cons_of_mem _ y)))
      · exact List.mem_append_right _ (inF a (.inr z))
theorem ixN_lt {n : Nat} {k : Int} {j : Nat} (h : ixN n k = some j) : j < n := (ixN_seq h).2.1
theorem g_sub {get : Env → Option OD} {put : Env → OD → Env} {fk : Env → O RV} (hp : PLr X a get put) (hk : PEr X W b fk) (hst : ∀ v, assign (.Subscript a b pos) X.env v = (do
      let ov ← holding [v] (eval a X.env)
      let iv ← holding [v, ov] (eval b X.env)
      standAt pos
      holding [v, ov, iv] (setItem ov iv v)
      release [v, ov, iv] []) := by intro _; rfl) : PGr X io (.Subscript a b pos) (gSub get put fk) := by
  obtain ⟨ta, ha, ka⟩ := hp
  obtain ⟨tb, hb, kb⟩ := hk
  refine ⟨_, pg_sub ha hb set_list hst, fun B H F G σ env v o Q sl s r nd q => ?_⟩
  have nF := (List.nodup_append.mp nd).2.1
  dsimp only [gSub] at q
  cases e0 : get env with
  | none => rw [e0] at q; exact q.elim
  | some w =>
    rw [e0] at q
    cases w with
    | lst os =>
      dsimp only at q
      refine ka B H F σ env _ _ ⟨s, sl, nF⟩ e0 fun vb B1 H1 Fo Fr f1 s1 pm ho pl => ?_
      have S1 : Sta X.K X.mg B1 H1 F σ env := Sta.pure ⟨s, sl, nF⟩ s1 f1
      refine kb B1 H1 F σ env _ S1 ?_
      cases e1 : fk env with
      | ok r1 =>
        rw [e1] at q
        intro vk B2 H2 G2 rk s2 n2 f2
        dsimp only at q
        split at q
        · rename_i k ek
          have zk := rv_fz rk ek
          cases zk
          cases e2 : ixN os.length k with
          | none => rw [e2] at q; exact q.elim
          | some j =>
            rw [e2] at q
            have f12 : Frm B H [] B2 H2 G2 := f1.trans (f2.wide (fun _ z => nomatch z) fun c m => .inl m)
            have ho2 := f2.own ho fun _ _ z => nomatch z
            have r2 := f12.own r fun _ _ z => nomatch z
            have th : ∀ a ∈ F, B2 a = none ∧ ∃ u, H2 a = some u := fun a m => (f2.slots S1.sl fun _ _ z => nomatch z).there a m
            have pl2 : Plug X.K X.mg B2 H2 Fr σ (put env) vb := fun B' H' Fo' o' sb k r => pl B' H' Fo' o' (f2.sB.trans sb) (fun a m => ⟨fun u e => (k a m).1 u (f2.keep a u e (by simp)), (k a m).2⟩) r
            cases ho2 with
            | @lst p vs Fi _ hp hb hr =>
              obtain ⟨F2, S', f'⟩ := set_back s2 pm nd (.lst hp hb hr) hp pl2 th r2 (ixN_lt e2)
              refine ⟨p, vs, k, j, rfl, rfl, hp, by rw [hr.length]; exact e2, q B2 _ F2 σ S' ((Frm.wide f12 (fun _ z => nomatch z) fun c m => .inr m : Frm B H (G ++ F) B2 H2 (G ++ F)).trans f') Agree.refl⟩
        · exact q.elim
      | _ => rw [e1] at q; exact q.elim
    | _ => exact q.elim

/-! ### x op= e -/
/-- what op= does to two ints -/
def IOk (X : Cx) (op : Operator) (g : Int → Int → Option Int) : Prop := ∃ r, PIp X op r ∧ ∀ i j k H (Q : VK), g i j = some k → Q (.int k) H → r (.int i) (.int j) H Q
theorem io_add : IOk X .Add (fun i j => some (i + j)) := ⟨_, ip_add, fun i j k H Q e q => by cases e; exact ⟨i, j, rfl, rfl, q⟩⟩
theorem io_sub : IOk X .Sub (fun i j => some (i - j)) := ⟨_, ip_sub, fun i j k H Q e q => by cases e; exact ⟨i, j, rfl, rfl, q⟩⟩
def sAug (i : Nat) (g : Int → Int → Option Int) (fe : Env → O RV) : Env → SO := fun env => match env[i]? with
  | some (.fz (.int x)) => sE fe (fun r e => match r.od with
    | .fz (.int y) => match g x y with
      | some z => if i < e.length then .nx (e.set i (.fz (.int z))) else .bad
      | none => .bad
    | _ => .bad) env
  | _ => .bad
theorem s_aug (i : Nat) {x : Str} {op : Operator} {g : Int → Int → Option Int} {pos' : Pos} (hN : X.N.Nodup) (ho : IOk X op g) (he : PEr X W e f) (hi : X.N[i]? = some x := by rfl) (hx : Loc X.env.scope x := by first | exact Or.inl rfl | exact Or.inr rfl) (hio : io.contains i = false := by rfl)
    (hf : X.fn x = true ∨ X.env.scope.names.lookup x = some .local := by first | exact .inl rfl | exact .inr rfl) : PSr X W io (.AugAssign (.Name x pos') op e pos) (sAug i g f) := by
  obtain ⟨r, hr, hg⟩ := ho
  obtain ⟨t, h, k⟩ := he
  refine ⟨_, ps_aug hN hi hx h hr hf, fun B H F σ env D S q => ?_⟩
  dsimp only [sAug] at q
  cases e0 : env[i]? with
  | none => rw [e0] at q; exact q.elim
  | some o =>
    rw [e0] at q
    cases o with
    | fz d =>
      cases d with
      | int x0 =>
        obtain ⟨v, G, h1, h2, h3⟩ := S.sl.get e0 (by intro z; cases z)
        cases h2 with
        | fz h2 =>
          cases h2
          refine ⟨_, h1, k B H F σ env _ S ?_⟩
          dsimp only [sE] at q
          have fin : ∀ {B' H' : Hp} {F' G : List Addr} {e1 : Env} {r1 : RV} {w : V}, Slots X.K X.mg B' H' F' σ e1 → Same B' H' → (G ++ F').Nodup → Frm B H F B' H' (G ++ F') → rvR X.K X.mg B' H' G w r1 → SPost X W io B H F σ D (match r1.od with
              | .fz (.int y) => match g x0 y with
                | some z => if i < e1.length then .nx (e1.set i (.fz (.int z))) else .bad
                | none => .bad
              | _ => .bad) → r (.int x0) w H' fun z H2 => D.nx (σ.set i (some z)) H2 := by
            intro B' H' F' G e1 r1 w sl s nd f rw' q
            split at q
            · rename_i y ey
              have zy := rv_fz rw' ey
              cases zy
              cases eg : g x0 y with
              | none => rw [eg] at q; exact q.elim
              | some z =>
                rw [eg] at q
                dsimp only at q
                split at q
                · rename_i hl
                  refine hg _ _ z _ _ eg ?_
                  obtain ⟨F2, c1, c2, c3⟩ := store_ok (X := X) (io := io) (G := []) (v := .int z) (o := .fz (.int z)) sl s (.fz .int) (List.nodup_append.mp nd).2.1 hl hio
                  exact q B' H' F2 _ c1 ((f.wide (fun c m => m) fun c m => .inl (List.mem_append_right _ m)).trans c2) c3
                · exact q.elim
            · exact q.elim
          cases e2 : f env with
          | bad => rw [e2] at q; exact q
          | exc c e => rw [e2] at q; exact fun B' H' F' S' f' => q B' H' F' σ S' f' Agree.refl
          | ok r1 => rw [e2] at q; exact fun w B' H' G ra s n f => fin (S.pure s f).sl s (nodup_new (fun a m => (S.sl.there a m).2) S.nd n f) f.wide0 ra q
          | eff r1 e => rw [e2] at q; exact fun w B' H' G F' ra l s n f => fin l s n f ra q
      | _ => exact q.elim
    | _ => exact q.elim
/-! place[k] op= e, of ints, nothing else changed meanwhile -/
theorem pget_list : PGet X (rIxL X.K) := by
  intro pins s σ H x y v u Q I rx ry h
  obtain ⟨p, xs, i, z, rfl, rfl, hq, he, q⟩ := h
  cases rx
  obtain ⟨t, rfl⟩ := ry
  obtain ⟨its, r, pl, hz⟩ := I.list hq
  obtain ⟨j, h1, h2, h3, h4, h5⟩ := atI_get he
  obtain ⟨w, ew, rw'⟩ := r.get h2
  have hl := r.length
  have hn := line63
  have fin : EP X pins σ Q w s := ⟨z, H, I, rw', q⟩
  by_cases h0 : 0 ≤ i
  · have hj : i.toNat = j := by
      rw [PySem.seqIndex_of h0 h5] at h1
      exact Option.some.inj h1
    exact wpAny_getItem_list pl.isList h0 (by omega) (by rw [hj]; simpa using ew) fin
  · have hj : (i + (its.toArray.size : Int)).toNat = j := by
      rw [PySem.seqIndex_neg (by omega) h4] at h1
      rw [List.size_toArray, ← hl]
      exact Option.some.inj h1
    exact wpAny_getItem_list_neg pl.isList (by omega) (by rw [List.size_toArray] <;> omega) (by omega) (by rw [hj]; simpa using ew) fin
def sAugS (get : Env → Option OD) (put : Env → OD → Env) (fk : Env → O RV) (g : Int → Int → Option Int) (fe : Env → O RV) : Env → SO := fun env =>
  match get env with
  | some (.lst os) => match fk env with
    | .ok r => match r.od with
      | .fz (.int k) => match ixN os.length k with
        | some j => match os[j]? with
          | some (.fz (.int x)) => match fe env with
            | .ok r2 => match r2.od with
              | .fz (.int y) => match g x y with
                | some z => .nx (put env (.lst (os.set j (.fz (.int z)))))
                | none => .bad
              | _ => .bad
            | _ => .bad
          | _ => .bad
        | none => .bad
      | _ => .bad
    | _ => .bad
  | _ => .bad
theorem s_augS {op : Operator} {g : Int → Int → Option Int} {get : Env → Option OD} {put : Env → OD → Env} {fk fe : Env → O RV} {tpos : Pos} (ho : IOk X op g) (hp : PLr X a get put) (hk : PEr X W b fk) (he : PEr X W e fe)
    (hst : ∀ ov iv new, augStore b ov iv new = (do holding [new, ov, iv] (setItem ov iv new); release [new, ov, iv] []; pure .next) := by intros; rfl) : PSr X W io (.AugAssign (.Subscript a b tpos) op e pos) (sAugS get put fk g fe) := by
  obtain ⟨ri, hr, hg⟩ := ho
  obtain ⟨ta, ha, ka⟩ := hp
  obtain ⟨tb, hb, kb⟩ := hk
  obtain ⟨te, hte, ke⟩ := he
  refine ⟨_, ps_augS ha hb pget_list hte hr set_list hst, fun B H F σ env D S q => ?_⟩
  dsimp only [sAugS] at q
  cases e0 : get env with
  | none => rw [e0] at q; exact q.elim
  | some w =>
    rw [e0] at q
    cases w with
    | lst os =>
      dsimp only at q
      refine ka B H F σ env _ _ S e0 fun vb B1 H1 Fo Fr f1 s1 pm ho pl => ?_
      have S1 : Sta X.K X.mg B1 H1 F σ env := S.pure s1 f1
      refine kb B1 H1 F σ env _ S1 ?_
      cases e1 : fk env with
      | ok r1 =>
        rw [e1] at q
        intro vk B2 H2 G2 rk s2 n2 f2
        have S2 := S1.pure s2 f2
        dsimp only at q
        split at q
        · rename_i k ek
          have zk := rv_fz rk ek
          cases zk
          cases e2 : ixN os.length k with
          | none => rw [e2] at q; exact q.elim
          | some j =>
            rw [e2] at q
            dsimp only at q
            have f12 : Frm B H [] B2 H2 [] := f1.trans (f2.wide (fun _ z => nomatch z) fun c m => by cases m)
            have ho2 := f2.own ho fun _ _ z => nomatch z
            cases ho2 with
            | @lst p vs Fi _ hp hb hr2 =>
              cases e3 : os[j]? with
              | none => rw [e3] at q; exact q.elim
              | some oj =>
                rw [e3] at q
                cases oj with
                | fz dj =>
                  cases dj with
                  | int x0 =>
                    dsimp only at q
                    obtain ⟨vj, Gj, c1, c2, _⟩ := hr2.get e3
                    cases c2 with
                    | fz c2 =>
                      cases c2
                      refine ⟨p, vs, k, .int x0, rfl, rfl, SqL.of hp, by unfold atI; rw [hr2.length, e2]; exact c1, ?_⟩
                      refine ke B2 H2 F σ env _ S2 ?_
                      cases e4 : fe env with
                      | ok r2 =>
                        rw [e4] at q
                        intro ve B3 H3 G3 re s3 n3 f3
                        have S3 := S2.pure s3 f3
                        dsimp only at q
                        split at q
                        · rename_i y ey
                          have zy := rv_fz re ey
                          cases zy
                          cases eg : g x0 y with
                          | none => rw [eg] at q; exact q.elim
                          | some z =>
                            rw [eg] at q
                            refine hg _ _ z _ _ eg ?_
                            have ho3 := f3.own (Own.lst hp hb hr2) fun _ _ z => nomatch z
                            have hp3 := f3.keep p _ hp (by simp)
                            have f13 : Frm B1 H1 [] B3 H3 [] := (f2.wide (F2 := []) (fun _ z => nomatch z) fun c m => by cases m).trans (f3.wide (fun _ z => nomatch z) fun c m => by cases m)
                            have pl3 : Plug X.K X.mg B3 H3 Fr σ (put env) (.ref p) := fun B' H' Fo' o' sb k r => pl B' H' Fo' o' (f13.sB.trans sb) (fun a m => ⟨fun u e => (k a m).1 u (f13.keep a u e (by simp)), (k a m).2⟩) r
                            obtain ⟨F2, S', f'⟩ := set_back (G := []) (v := .int z) (o := .fz (.int z)) (j := j) s3 pm S.nd ho3 hp3 pl3 (fun a m => S3.sl.there a m) (.fz .int) (ixN_lt e2)
                            refine ⟨p, vs, k, j, rfl, rfl, hp3, by rw [hr2.length]; exact e2, q B3 _ F2 σ S' ?_ Agree.refl⟩
                            have f03 : Frm B H [] B3 H3 [] := f1.trans f13
                            exact (Frm.wide f03 (fun _ z => nomatch z) fun c m => .inr m : Frm B H F B3 H3 F).trans f'
                        · exact q.elim
                      | _ => rw [e4] at q; exact q.elim
                  | _ => exact q.elim
                | _ => exact q.elim
        · exact q.elim
      | _ => rw [e1] at q; exact q.elim
    | _ => exact q.elim
end
end Tl
namespace Tl
open PySem PySem.Spec L2

/-! ### slots hidden and shown again -/
def wipeE (env : Env) : List Nat → Env
  | [] => env
  | v :: vs => (wipeE env vs).set v .un
/-- e with what env has at vs -/
def showE (env e : Env) : List Nat → Env
  | [] => e
  | v :: vs => match env[v]? with
    | some o => (showE env e vs).set v o
    | none => showE env e vs
section
variable {K : PySem.W.Frag} {mg : Str → Option Value} {B B' H H' : Hp}
theorem Slots.any {F : List Addr} {σ : St} {env : Env} (x : Slots K mg B H F σ env) {i : Nat} (e : env[i]? = some .un) (v : Option V) : Slots K mg B H F (σ.set i v) env := by
  induction x generalizing i with
  | nil => simp at e
  | un h ih =>
    cases i with
    | zero => exact .un h
    | succ i => exact .un (ih (by simpa using e))
  | cons r h ih =>
    cases i with
    | zero => simp at e; subst e; cases r
    | succ i => exact .cons r (ih (by simpa using e))
theorem Slots.fill {F : List Addr} {σ : St} {env : Env} (x : Slots K mg B H F σ env) {i : Nat} (e : env[i]? = some .un) {v : V} {d : D} (r : Rep K B v d) : Slots K mg B H F (σ.set i (some v)) (env.set i (.fz d)) := by
  induction x generalizing i with
  | nil => simp at e
  | @un F x σ env h ih =>
    cases i with
    | zero => exact .cons (F := []) (.fz r) h
    | succ i => exact .un (ih (by simpa using e))
  | cons r' h ih =>
    cases i with
    | zero => simp at e; subst e; cases r'
    | succ i => exact .cons r' (ih (by simpa using e))
theorem Slots.drop1 {F : List Addr} {σ : St} {env : Env} (x : Slots K mg B H F σ env) (i : Nat) (v : Option V) : ∃ F', Slots K mg B H F' (σ.set i v) (env.set i .un) ∧ F'.Sublist F := by
  induction x generalizing i with
  | nil => exact ⟨[], .nil, List.Sublist.refl _⟩
  | @un F x σ env h ih =>
    cases i with
    | zero => exact ⟨F, .un h, List.Sublist.refl _⟩
    | succ i => obtain ⟨F', h1, h2⟩ := ih i; exact ⟨F', .un h1, h2⟩
  | @cons F G w o σ env r h ih =>
    cases i with
    | zero => exact ⟨G, .un h, List.sublist_append_right _ _⟩
    | succ i => obtain ⟨F', h1, h2⟩ := ih i; exact ⟨F ++ F', .cons r h1, (List.Sublist.refl _).append h2⟩
theorem Slots.wipe {F : List Addr} {σ : St} {env : Env} (x : Slots K mg B H F σ env) : ∀ vs : List Nat, ∃ F', Slots K mg B H F' (L2.wipe σ vs) (wipeE env vs) ∧ F'.Sublist F
  | [] => ⟨F, x, List.Sublist.refl _⟩
  | v :: vs => by
    obtain ⟨F', h1, h2⟩ := Slots.wipe x vs
    obtain ⟨F2, h3, h4⟩ := h1.drop1 v none
    exact ⟨F2, h3, h4.trans h2⟩
theorem wipeE_len {env : Env} : ∀ {vs : List Nat}, (wipeE env vs).length = env.length
  | [] => rfl
  | v :: vs => by unfold wipeE; rw [List.length_set, wipeE_len]
theorem wipeE_at {env : Env} : ∀ {vs : List Nat} {i : Nat}, i ∈ vs → i < env.length → (wipeE env vs)[i]? = some .un
  | v :: vs, i, h, hl => by
    unfold wipeE
    by_cases e : v = i
    · subst e; rw [List.getElem?_set_self (by rw [wipeE_len]; exact hl)]
    · rw [List.getElem?_set_ne e]
      rcases List.mem_cons.mp h with z | z
      · exact absurd z.symm e
      · exact wipeE_at z hl
theorem wipeE_out {env : Env} : ∀ {vs : List Nat} {i : Nat}, i ∉ vs → (wipeE env vs)[i]? = env[i]?
  | [], _, _ => rfl
  | v :: vs, i, h => by
    unfold wipeE
    rw [List.getElem?_set_ne (fun e => h (by rw [e]; exact List.mem_cons_self))]
    exact wipeE_out fun z => h (List.mem_cons_of_mem _ z)
theorem wipeE_set {env : Env} {o : OD} : ∀ {vs : List Nat} {i : Nat}, i ∈ vs → wipeE (env.set i o) vs = wipeE env vs := by
  intro vs i h
  apply List.ext_getElem?
  intro j
  by_cases hj : j ∈ vs
  · by_cases hl : j < env.length
    · rw [wipeE_at hj (by rw [List.length_set]; exact hl), wipeE_at hj hl]
    · rw [List.getElem?_eq_none (by rw [wipeE_len, List.length_set]; omega), List.getElem?_eq_none (by rw [wipeE_len]; omega)]
  · rw [wipeE_out hj, wipeE_out hj, List.getElem?_set_ne (fun e => by subst e; exact hj h)]
theorem wipe_out {σ : St} : ∀ {vs : List Nat} {i : Nat}, i ∉ vs → (L2.wipe σ vs)[i]? = σ[i]?
  | [], _, _ => rfl
  | v :: vs, i, h => by
    unfold L2.wipe
    rw [List.getElem?_set_ne (fun e => h (by rw [e]; exact List.mem_cons_self))]
    exact wipe_out fun z => h (List.mem_cons_of_mem _ z)
theorem wipe_at {σ : St} : ∀ {vs : List Nat} {i : Nat}, i ∈ vs → i < σ.length → (L2.wipe σ vs)[i]? = some none
  | v :: vs, i, h, hl => by
    unfold L2.wipe
    by_cases e : v = i
    · subst e; rw [List.getElem?_set_self (by rw [wipe_length]; exact hl)]
    · rw [List.getElem?_set_ne e]
      rcases List.mem_cons.mp h with z | z
      · exact absurd z.symm e
      · exact wipe_at z hl
theorem wipe_set {σ : St} {x : Option V} : ∀ {vs : List Nat} {i : Nat}, i ∈ vs → L2.wipe (σ.set i x) vs = L2.wipe σ vs := by
  intro vs i h
  apply List.ext_getElem?
  intro j
  by_cases hj : j ∈ vs
  · by_cases hl : j < σ.length
    · rw [wipe_at hj (by rw [List.length_set]; exact hl), wipe_at hj hl]
    · rw [List.getElem?_eq_none (by rw [wipe_length, List.length_set]; omega), List.getElem?_eq_none (by rw [wipe_length]; omega)]
  · rw [wipe_out hj, wipe_out hj, List.getElem?_set_ne (fun e => by subst e; exact hj h)]
theorem showE_len {env e : Env} : ∀ {vs : List Nat}, (showE env e vs).length = e.length
  | [] => rfl
  | v :: vs => by unfold showE; split <;> simp [showE_len]
/-- what is hidden is kept, and shown again -/
theorem Slots.hide {σ : St} {env : Env} : ∀ (vs : List Nat) {F : List Addr}, Slots K mg B H F σ env → ∃ Fh Fv, Slots K mg B H Fv (L2.wipe σ vs) (wipeE env vs) ∧ F.Perm (Fh ++ Fv) ∧
    ∀ B' H' F2 e, Same B B' → (∀ a ∈ Fh, (∀ u, H a = some u → H' a = some u) ∧ B' a = none) → Slots K mg B' H' F2 (L2.wipe σ vs) e → (∀ v ∈ vs, v < e.length → e[v]? = some .un) → e.length = env.length →
      ∃ F', Slots K mg B' H' F' σ (showE env e vs) ∧ F'.Perm (Fh ++ F2) := by
  -- one after another, the later ones first; on the way the slots hidden last are put back first
  intro vs
  induction vs with
  | nil => intro F x; exact ⟨[], F, x, List.Perm.refl _, fun B' H' F2 e _ _ y _ _ => ⟨F2, y, List.Perm.refl _⟩⟩
  | cons v vs ih =>
    intro F x
    obtain ⟨Fh, Fv, h1, h2, h3⟩ := ih x
    have hl := x.len
    by_cases hv : v < env.length
    · by_cases hu : (wipeE env vs)[v]? = some .un
      · -- nothing stood there
        have e1 : (wipeE env vs).set v .un = wipeE env vs := by
          apply List.ext_getElem?
          intro j
          by_cases e : v = j
          · subst e; rw [List.getElem?_set_self (by rw [wipeE_len]; exact hv), hu]
          · rw [List.getElem?_set_ne e]
        refine ⟨Fh, Fv, ?_, h2, fun B' H' F2 e sb k y eu el => ?_⟩
        · show Slots K mg B H Fv ((L2.wipe σ vs).set v none) ((wipeE env vs).set v .un)
          rw [e1]; exact h1.any hu none
        · have eu' : e[v]? = some .un := eu v List.mem_cons_self (by omega)
          have y' : Slots K mg B' H' F2 (L2.wipe σ vs) e := by
            have z := y.any eu' ((L2.wipe σ vs)[v]'(by rw [wipe_length]; omega))
            have ee : ((L2.wipe σ (v :: vs)).set v ((L2.wipe σ vs)[v]'(by rw [wipe_length]; omega))) = L2.wipe σ vs := by
              show (((L2.wipe σ vs).set v none).set v _) = _
              rw [List.set_set]
              apply List.ext_getElem?
              intro j
              by_cases e : v = j
              · subst e; rw [List.getElem?_set_self (by rw [wipe_length]; omega)]; simp [List.getElem?_eq_getElem, wipe_length, show v < σ.length by omega]
              · rw [List.getElem?_set_ne e]
            rw [ee] at z; exact z
          obtain ⟨F', c1, c2⟩ := h3 B' H' F2 e sb k y' (fun w m hw => eu w (List.mem_cons_of_mem _ m) hw) el
          refine ⟨F', ?_, c2⟩
          unfold showE
          cases e0 : env[v]? with
          | none => exact c1
          | some o =>
            -- o is what stands there anyhow
            have : (showE env e vs)[v]? = some o := by
              by_cases m : v ∈ vs
              · clear c1 c2 eu' y' y eu h3 h1 h2 e1 hu ih
                induction vs with
                | nil => cases m
                | cons w vs ih2 =>
                  unfold showE
                  by_cases ew : w = v
                  · subst ew; rw [e0]; dsimp only; rw [List.getElem?_set_self (by rw [showE_len]; omega)]
                  · have m' := (List.mem_cons.mp m).resolve_left (fun z => ew z.symm)
                    split
                    · rw [List.getElem?_set_ne ew]; exact ih2 m'
                    · exact ih2 m'
              · rw [wipeE_out m, e0] at hu
                cases hu
                clear c1 c2 y' y h3 h1 h2 e1 ih
                have key : ∀ vs : List Nat, v ∉ vs → (showE env e vs)[v]? = e[v]? := by
                  intro vs
                  induction vs with
                  | nil => intro _; rfl
                  | cons w vs ih2 =>
                    intro m
                    unfold showE
                    have ew : w ≠ v := fun z => m (by rw [z]; exact List.mem_cons_self)
                    split
                    · rw [List.getElem?_set_ne ew]; exact ih2 fun z => m (List.mem_cons_of_mem _ z)
                    · exact ih2 fun z => m (List.mem_cons_of_mem _ z)
                rw [key vs m]; exact eu'
            have es : (showE env e vs).set v o = showE env e vs := by
              apply List.ext_getElem?
              intro j
              by_cases e : v = j
              · subst e; rw [List.getElem?_set_self (by rw [showE_len]; omega), this]
              · rw [List.getElem?_set_ne e]
            dsimp only
            rw [es]; exact c1
      · -- something stood there
        have m : v ∉ vs := fun m => hu (wipeE_at m hv)
        obtain ⟨o, e0⟩ : ∃ o, (wipeE env vs)[v]? = some o := ⟨_, List.getElem?_eq_getElem (by rw [wipeE_len]; exact hv)⟩
        have hne : o ≠ .un := fun z => hu (by rw [e0, z])
        obtain ⟨w, Fi, Fr, b1, b2, b3, b4⟩ := h1.take e0 hne
        have b3' : Slots K mg B H Fr (L2.wipe σ (v :: vs)) (wipeE env (v :: vs)) := b3.any (by rw [List.getElem?_set_self]; rw [wipeE_len]; exact hv) none
        have e00 : env[v]? = some o := by rw [← wipeE_out m]; exact e0
        refine ⟨Fh ++ Fi, Fr, b3', ?_, fun B' H' F2 e sb k y eu el => ?_⟩
        · rw [List.append_assoc]; exact h2.trans (b4.append_left Fh)
        · have eu' : e[v]? = some .un := eu v List.mem_cons_self (by omega)
          have y' : Slots K mg B' H' F2 (L2.wipe σ vs) e := by
            have z := y.any eu' ((L2.wipe σ vs)[v]'(by rw [wipe_length]; omega))
            have ee : ((L2.wipe σ (v :: vs)).set v ((L2.wipe σ vs)[v]'(by rw [wipe_length]; omega))) = L2.wipe σ vs := by
              show (((L2.wipe σ vs).set v none).set v _) = _
              rw [List.set_set]
              apply List.ext_getElem?
              intro j
              by_cases e : v = j
              · subst e; rw [List.getElem?_set_self (by rw [wipe_length]; omega)]; simp [List.getElem?_eq_getElem, wipe_length, show v < σ.length by omega]
              · rw [List.getElem?_set_ne e]
            rw [ee] at z; exact z
          obtain ⟨F', c1, c2⟩ := h3 B' H' F2 e sb (fun a q => k a (List.mem_append_left _ q)) y' (fun w m hw => eu w (List.mem_cons_of_mem _ m) hw) el
          have ow : Own K mg B' H' Fi w o := b2.mono sb fun a q => k a (List.mem_append_right _ q)
          have hu2 : (showE env e vs)[v]? = some .un := by
            have key : ∀ vs : List Nat, v ∉ vs → (showE env e vs)[v]? = e[v]? := by
              intro vs
              induction vs with
              | nil => intro _; rfl
              | cons w vs ih2 =>
                intro m
                unfold showE
                have ew : w ≠ v := fun z => m (by rw [z]; exact List.mem_cons_self)
                split
                · rw [List.getElem?_set_ne ew]; exact ih2 fun z => m (List.mem_cons_of_mem _ z)
                · exact ih2 fun z => m (List.mem_cons_of_mem _ z)
            rw [key vs m]; exact eu'
          rw [wipe_out m] at b1
          obtain ⟨F3, d1, d2⟩ := c1.put hu2 b1 ow
          refine ⟨F3, ?_, ?_⟩
          · unfold showE; rw [e00]; exact d1
          · refine d2.trans ((c2.append_left Fi).trans ?_)
            rw [← List.append_assoc]
            exact (List.perm_append_comm).append_right F2
    · -- beyond
      have e1 : (wipeE env vs).set v .un = wipeE env vs := List.set_eq_of_length_le (by rw [wipeE_len]; omega)
      have e2 : (L2.wipe σ vs).set v none = L2.wipe σ vs := List.set_eq_of_length_le (by rw [wipe_length]; omega)
      refine ⟨Fh, Fv, ?_, h2, fun B' H' F2 e sb k y eu el => ?_⟩
      · show Slots K mg B H Fv ((L2.wipe σ vs).set v none) ((wipeE env vs).set v .un)
        rw [e1, e2]; exact h1
      · have y' : Slots K mg B' H' F2 (L2.wipe σ vs) e := by
          have : L2.wipe σ (v :: vs) = L2.wipe σ vs := e2
          rw [this] at y; exact y
        obtain ⟨F', c1, c2⟩ := h3 B' H' F2 e sb k y' (fun w m hw => eu w (List.mem_cons_of_mem _ m) hw) el
        refine ⟨F', ?_, c2⟩
        unfold showE
        rw [List.getElem?_eq_none (by omega)]
        exact c1
end

/-! ### a comprehension's targets -/
def PCt (X : Cx) (todo : List Nat) (tg : Expr) (g : D → Env → Option Env) : Prop := ∃ t, PG X tg t ∧ ∀ B H F σ env v d (Q : St → Hp → Prop) (vs : List Nat), Slots X.K X.mg B H F σ env → Same B H → (∀ i ∈ todo, env[i]? = some .un) → (∀ i ∈ todo, i ∈ vs) → Rep X.K B v d →
  (match g d env with
   | some env' => ∀ σ', Slots X.K X.mg B H F σ' env' → L2.wipe σ' vs = L2.wipe σ vs → wipeE env' vs = wipeE env vs → env'.length = env.length → (∀ j, j ∉ todo → env'[j]? = env[j]?) → Q σ' H
   | none => False) → t v σ H Q
def PCts (X : Cx) (todo : List Nat) (tgs : List Expr) (g : List D → Env → Option Env) : Prop := ∃ t, PGs X tgs t ∧ ∀ B H F σ env vs ds (Q : St → Hp → Prop) (ws : List Nat), Slots X.K X.mg B H F σ env → Same B H → (∀ i ∈ todo, env[i]? = some .un) → (∀ i ∈ todo, i ∈ ws) → RepL X.K B vs ds →
  (match g ds env with
   | some env' => ∀ σ', Slots X.K X.mg B H F σ' env' → L2.wipe σ' ws = L2.wipe σ ws → wipeE env' ws = wipeE env ws → env'.length = env.length → (∀ j, j ∉ todo → env'[j]? = env[j]?) → Q σ' H
   | none => False) → t vs σ H Q
def cSet (i : Nat) : D → Env → Option Env := fun d env => some (env.set i (.fz d))
def csNil : List D → Env → Option Env := fun ds env => match ds with
  | [] => some env
  | _ :: _ => none
def csCons (g : D → Env → Option Env) (gs : List D → Env → Option Env) : List D → Env → Option Env := fun ds env => match ds with
  | [] => none
  | d :: r => match g d env with
    | some e => gs r e
    | none => none
def cTup (n : Nat) (gs : List D → Env → Option Env) : D → Env → Option Env := fun d env => match d with
  | .tup ds => if ds.length = n then gs ds env else none
  | _ => none
section
variable {X : Cx} {pos : Pos}
theorem ct_name (i : Nat) {x : Str} (hN : X.N.Nodup) (hi : X.N[i]? = some x := by rfl) (hx : Loc X.env.scope x := by first | exact Or.inl rfl | exact Or.inr rfl)
    (hf : X.fn x = true ∨ X.env.scope.names.lookup x = some .local := by first | exact .inl rfl | exact .inr rfl) : PCt X [i] (.Name x pos) (cSet i) := by
  refine ⟨_, pg_name hN hi hx hf, fun B H F σ env v d Q vs sl s hu hv r q => ?_⟩
  have e := hu i List.mem_cons_self
  exact q _ (sl.fill e r) (wipe_set (hv i List.mem_cons_self)) (wipeE_set (hv i List.mem_cons_self)) (by rw [List.length_set]) fun j hj => by rw [List.getElem?_set_ne (fun z => hj (by rw [z]; exact List.mem_cons_self))]
theorem cts_nil : PCts X [] [] csNil := by
  refine ⟨_, pgs_nil, fun B H F σ env vs ds Q ws sl s hu hv r q => ?_⟩
  cases r with
  | nil => exact ⟨rfl, q σ sl rfl rfl rfl fun _ _ => rfl⟩
  | cons _ _ => exact q.elim
theorem cts_cons {t1 t2 : List Nat} {tg : Expr} {tgs : List Expr} {g : D → Env → Option Env} {gs : List D → Env → Option Env} (h : PCt X t1 tg g) (k : PCts X t2 tgs gs) (dj : (t2.all fun j => !t1.contains j) = true := by rfl)
    (h2 : (assignEach (tg :: tgs) X.env).map (·.2) = assign tg X.env :: (assignEach tgs X.env).map (·.2) := by rfl) : PCts X (t1 ++ t2) (tg :: tgs) (csCons g gs) := by
  obtain ⟨t, h1, h3⟩ := h
  obtain ⟨u, k1, k3⟩ := k
  refine ⟨_, pgs_cons h1 k1 h2, fun B H F σ env vs ds Q ws sl s hu hv r q => ?_⟩
  cases r with
  | nil => exact q.elim
  | @cons v vs d ds r1 r2 =>
    refine ⟨v, vs, rfl, h3 B H F σ env v d _ ws sl s (fun i m => hu i (List.mem_append_left _ m)) (fun i m => hv i (List.mem_append_left _ m)) r1 ?_⟩
    dsimp only [csCons] at q
    cases e : g d env with
    | none => rw [e] at q; exact q
    | some e1 =>
      rw [e] at q
      intro σ1 sl1 w1 w2 l1 o1
      refine k3 B H F σ1 e1 vs ds Q ws sl1 s (fun i m => ?_) (fun i m => hv i (List.mem_append_right _ m)) r2 ?_
      · rw [o1 i (fun z => ?_)]
        · exact hu i (List.mem_append_right _ m)
        · have := List.all_eq_true.mp dj i m
          simp [z] at this
      · dsimp only at q
        cases e2 : gs ds e1 with
        | none => rw [e2] at q; exact q
        | some e' =>
          rw [e2] at q
          exact fun σ2 sl2 w3 w4 l2 o2 => q σ2 sl2 (w3.trans w1) (w4.trans w2) (l2.trans l1) fun j hj => (o2 j fun z => hj (List.mem_append_right _ z)).trans (o1 j fun z => hj (List.mem_append_left _ z))
theorem ct_tup {todo : List Nat} {es : List Expr} {k n : Nat} {gs : List D → Env → Option Env} (hc : X.calm = true) (h : PCts X todo es gs) (hn : (assignEach es X.env).length = n := by rfl) (hst : (assignEach es X.env).findIdx? (·.1) = none := by rfl) : PCt X todo (.Tuple es k pos) (cTup n gs) := by
  obtain ⟨t, h1, h3⟩ := h
  refine ⟨_, pg_tup hc h1 hn hst, fun B H F σ env v d Q vs sl s hu hv r q => ?_⟩
  dsimp only [cTup] at q
  cases r with
  | @tup p us ds k1 k2 =>
    dsimp only at q
    by_cases hl : ds.length = n
    · rw [if_pos hl] at q
      exact ⟨p, us, rfl, Same.seqT s k1, k2.length.trans hl, h3 B H F σ env us ds Q vs sl s hu hv k2 q⟩
    · rw [if_neg hl] at q; exact q.elim
  | _ => exact q.elim
end
end Tl
namespace Tl
open PySem PySem.Spec L2

/-! ### comprehensions -/
def PTsr (X : Cx) (W : WX) (ifs : List Expr) (f : Env → O Bool) : Prop := ∃ t, PTs X ifs t ∧ EOk X W boR t f
def W0 : WX := fun _ _ _ _ => False
def bYes : Env → O Bool := fun _ => .ok true
def lcElt (fe : Env → O RV) (vs : List Nat) (e0 e : Env) (t b : Bool) : Option (Option OD × Env × Bool) :=
  if b = true then match fe e with
    | .ok (.own o) => some (some o, if t = true then wipeE e vs else e0, t)
    | .eff (.own o) e5 => some (some o, wipeE e5 vs, true)
    | _ => none
  else some (none, if t = true then wipeE e vs else e0, t)
/-- one turn: the item, if there is one; the frame's data; whether they were changed -/
def lcStep (g : D → Env → Option Env) (tt : Env → O Bool) (fe : Env → O RV) (vs : List Nat) (d : D) (e : Env) : Option (Option OD × Env × Bool) :=
  match g d e with
  | none => none
  | some e1 => match tt e1 with
    | .ok b => lcElt fe vs e e1 false b
    | .eff b e2 => lcElt fe vs e e2 true b
    | _ => none
def lcGo (g : D → Env → Option Env) (tt : Env → O Bool) (fe : Env → O RV) (vs : List Nat) : List D → List OD → Env → Bool → Option (List OD × Env × Bool)
  | [], acc, e, t => some (acc, e, t)
  | d :: ds, acc, e, t => match lcStep g tt fe vs d e with
    | none => none
    | some (none, e2, t2) => lcGo g tt fe vs ds acc e2 (t || t2)
    | some (some o, e2, t2) => if acc.length < 10000000 then lcGo g tt fe vs ds (acc ++ [o]) e2 (t || t2) else none
def lcFin (env : Env) (t0 : Bool) (vs : List Nat) : Option (List OD × Env × Bool) → O RV
  | none => .bad
  | some (acc, e, t) => if (t || t0) = true then .eff (.own (.lst acc)) (showE env e vs) else .ok (.own (.lst acc))
def eLc (f : Env → O (List D)) (g : D → Env → Option Env) (tt : Env → O Bool) (fe : Env → O RV) (vs : List Nat) : Env → O RV := fun env =>
  if vs.all (fun i => decide (i < env.length)) = true then match f env with
  | .ok ds => lcFin env false vs (lcGo g tt fe vs ds [] (wipeE env vs) false)
  | .eff ds e => lcFin e true vs (lcGo g tt fe vs ds [] (wipeE e vs) false)
  | .exc c e => .exc c e
  | .bad => .bad
  else .bad
section
variable {X : Cx} {W : WX} {io : List Nat} {elt tg iter : Expr} {ifs : List Expr} {pos : Pos}
theorem ts_nil : PTsr X W [] bYes := ⟨_, pts_nil, fun B H F σ env Q S q => q true B H [] ⟨rfl, rfl⟩ S.sub List.nodup_nil Frm.none⟩
theorem ts_one {c : Expr} {f : Env → O Bool} (h : PTr X W c f) : PTsr X W [c] f := by
  obtain ⟨t, h, k⟩ := h
  exact ⟨_, pts_one h, k⟩
/-- the turn's work on the new list: what is wanted of where it ends -/
structure LcI (X : Cx) (B1 H1 : Hp) (Fv : List Addr) (σw : St) (env0 : Env) (vs : List Nat) (D : Addr) (H2 : Hp) (e2 : Env) (acc : List OD) (t : Bool) (B2 : Hp) (F2 Fa : List Addr) (us : List V) : Prop where
  sta : Sta X.K X.mg B2 H2 F2 σw e2
  un : ∀ v ∈ vs, v < e2.length → e2[v]? = some .un
  len : e2.length = env0.length
  at' : H2 D = some (.lst us)
  bD : B2 D = none
  own : OwnL X.K X.mg B2 H2 Fa us acc
  nd : (D :: Fa ++ F2).Nodup
  frm : Frm B1 H1 Fv B2 H2 (D :: Fa ++ F2)
  pure : t = false → e2 = wipeE env0 vs ∧ F2 = Fv ∧ Frm B1 H1 [] B2 H2 (D :: Fa)
theorem lc_turn {tb : TG} {tt' : TT} {te : TE} {g : D → Env → Option Env} {tt : Env → O Bool} {fe : Env → O RV} {todo vs : List Nat}
    (kg : ∀ B H F σ env v d (Q : St → Hp → Prop) (vs : List Nat), Slots X.K X.mg B H F σ env → Same B H → (∀ i ∈ todo, env[i]? = some .un) → (∀ i ∈ todo, i ∈ vs) → Rep X.K B v d →
      (match g d env with
       | some env' => ∀ σ', Slots X.K X.mg B H F σ' env' → L2.wipe σ' vs = L2.wipe σ vs → wipeE env' vs = wipeE env vs → env'.length = env.length → (∀ j, j ∉ todo → env'[j]? = env[j]?) → Q σ' H
       | none => False) → tb v σ H Q)
    (kt : EOk X W0 boR tt' tt) (ke : EOk X W0 (rvR X.K X.mg) te fe) (htv : ∀ i ∈ todo, i ∈ vs) {B1 H1 : Hp} {Fv : List Addr} {σ : St} {env0 : Env} (hvl : ∀ i ∈ todo, i < env0.length)
    {D : Addr} {H2 : Hp} {e2 : Env} {acc : List OD} {t : Bool} {B2 : Hp} {F2 Fa : List Addr} {us : List V} (L : LcI X B1 H1 Fv (L2.wipe σ vs) env0 vs D H2 e2 acc t B2 F2 Fa us) {x : V} {d : Tl.D} (r : Rep X.K B2 x d) {Nx : Hp → Prop}
    {o : Option OD} {e3 : Env} {t3 : Bool} (es : lcStep g tt fe vs d e2 = some (o, e3, t3)) (ha : o ≠ none → acc.length < 10000000)
    (q : ∀ H3 B3 F3 Fa3 us3, LcI X B1 H1 Fv (L2.wipe σ vs) env0 vs D H3 e3 (match o with | some o => acc ++ [o] | none => acc) (t || t3) B3 F3 Fa3 us3 → Nx H3) :
    tb x (L2.wipe σ vs) H2 fun σ2 H2 => L2.wipe σ2 vs = L2.wipe σ vs ∧ tt' σ2 H2 fun b H3 => if b = true then te σ2 H3 fun y H4 => ∃ acc, H4 D = some (.lst acc) ∧ acc.length < sizeLine ∧ Nx (upd H4 D (.lst (acc ++ [y]))) else Nx H3 := by
  have S2 := L.sta
  refine kg B2 H2 F2 (L2.wipe σ vs) e2 x d _ vs S2.sl S2.sub (fun i m => L.un i (htv i m) (by rw [L.len]; exact hvl i m)) htv r ?_
  unfold lcStep at es
  cases e0 : g d e2 with
  | none => rw [e0] at es; cases es
  | some e4 =>
    rw [e0] at es
    intro σ4 sl4 w1 w2 l1 _
    have ww : L2.wipe σ4 vs = L2.wipe σ vs := by
      rw [w1]
      -- wiped twice
      apply List.ext_getElem?
      intro j
      by_cases hj : j ∈ vs
      · by_cases hl : j < σ.length
        · rw [wipe_at hj (by rw [wipe_length]; exact hl), wipe_at hj hl]
        · rw [List.getElem?_eq_none (by rw [wipe_length, wipe_length]; omega), List.getElem?_eq_none (by rw [wipe_length]; omega)]
      · rw [wipe_out hj]
    refine ⟨ww, ?_⟩
    have S4 : Sta X.K X.mg B2 H2 F2 σ4 e4 := ⟨S2.sub, sl4, S2.nd⟩
    have nd := List.nodup_append.mp L.nd
    have ndD := List.nodup_cons.mp nd.1
    have frn : ∀ c ∈ D :: Fa, c ∉ F2 := fun c m z => nd.2.2 c m c z rfl
    have thr : ∀ c ∈ D :: Fa, B2 c = none ∧ ∃ u, H2 c = some u := fun c m => by
      rcases List.mem_cons.mp m with z | z
      · subst z; exact ⟨L.bD, _, L.at'⟩
      · exact L.own.there c z
    -- from a later state of the block, nothing made yet
    have fin0 : ∀ {B5 H5 : Hp} {F5 : List Addr} {e5 e6 : Env} {t5 : Bool}, Sta X.K X.mg B5 H5 F5 σ4 e5 → Frm B2 H2 F2 B5 H5 F5 → e5.length = e4.length → (e6 = if t5 = true then wipeE e5 vs else e2) → (t5 = false → Frm B2 H2 [] B5 H5 []) →
        ∃ F6, LcI X B1 H1 Fv (L2.wipe σ vs) env0 vs D H5 e6 acc (t || t5) B5 F6 Fa us := by
      intro B5 H5 F5 e5 e6 t5 S5 f5 le he pu
      have own5 := f5.ownL L.own fun c m => frn c (List.mem_cons_of_mem _ m)
      have at5 := f5.keep D _ L.at' (frn D List.mem_cons_self)
      have bD5 := f5.forg D _ L.at' (frn D List.mem_cons_self) L.bD
      have f5' : Frm B2 H2 (D :: Fa ++ F2) B5 H5 (D :: Fa ++ F5) := f5.wide (fun c m => List.mem_append_right _ m) fun c m => (List.mem_append.mp m).elim (fun z => .inr (List.mem_append_left _ z)) .inl
      have dj5 : ∀ c ∈ D :: Fa, c ∉ F5 := fun c m z => by
        rcases f5.fr c z with y | y
        · exact frn c m y
        · obtain ⟨_, u, e⟩ := thr c m
          rw [e] at y; cases y
      cases t5 with
      | true =>
        rw [if_pos rfl] at he
        obtain ⟨F6, c1, c2⟩ := S5.sl.wipe vs
        rw [ww] at c1
        subst he
        have n6 := S5.nd.sublist c2
        refine ⟨F6, ⟨S5.sub, c1, n6⟩, fun v m hl => wipeE_at m (by rw [wipeE_len] at hl; exact hl), by rw [wipeE_len, le, l1, L.len], at5, bD5, own5, List.nodup_append.mpr ⟨nd.1, n6, fun a ha b hb e => by subst e; exact dj5 a ha (c2.subset hb)⟩, ?_, fun z => by rw [Bool.or_true] at z; cases z⟩
        exact L.frm.trans (f5'.wide (F2 := D :: Fa ++ F6) (fun _ m => m) fun c m => .inl ((List.mem_append.mp m).elim (List.mem_append_left _) fun z => List.mem_append_right _ (c2.subset z)))
      | false =>
        have fp := pu rfl
        rw [if_neg Bool.false_ne_true] at he
        subst he
        have sl2 := fp.slots S2.sl fun _ _ z => nomatch z
        refine ⟨F2, ⟨S5.sub, sl2, S2.nd⟩, L.un, L.len, at5, bD5, own5, L.nd, ?_, fun z => ?_⟩
        · exact L.frm.trans (fp.wide (F2 := D :: Fa ++ F2) (fun _ z => nomatch z) fun c m => .inr m)
        · rw [Bool.or_false] at z
          obtain ⟨p1, p2, p3⟩ := L.pure z
          exact ⟨p1, p2, p3.trans (fp.wide (F2 := D :: Fa) (fun _ z => nomatch z) fun c m => .inr m)⟩
    -- an item made
    have fin1 : ∀ {B5 H5 : Hp} {F5 Fr : List Addr} {e5 e6 : Env} {t5 : Bool} {y : V} {oo : OD}, Slots X.K X.mg B5 H5 F5 σ4 e5 → Same B5 H5 → (Fr ++ F5).Nodup → Own X.K X.mg B5 H5 Fr y oo → Frm B2 H2 F2 B5 H5 (Fr ++ F5) → e5.length = e4.length → (e6 = if t5 = true then wipeE e5 vs else e2) → (t5 = false → Frm B2 H2 [] B5 H5 Fr) → acc.length < 10000000 →
        (∀ H3 B3 F3 Fa3 us3, LcI X B1 H1 Fv (L2.wipe σ vs) env0 vs D H3 e6 (acc ++ [oo]) (t || t5) B3 F3 Fa3 us3 → Nx H3) → ∃ acc, H5 D = some (.lst acc) ∧ acc.length < sizeLine ∧ Nx (upd H5 D (.lst (acc ++ [y]))) := by
      intro B5 H5 F5 Fr e5 e6 t5 y oo sl5 s5 n5 ro f5 le he pu ha q
      have n5' := List.nodup_append.mp n5
      have own5 := f5.ownL L.own fun c m => frn c (List.mem_cons_of_mem _ m)
      have at5 := f5.keep D _ L.at' (frn D List.mem_cons_self)
      have bD5 := f5.forg D _ L.at' (frn D List.mem_cons_self) L.bD
      have djr : ∀ c ∈ D :: Fa, c ∉ Fr ++ F5 := fun c m z => by
        rcases f5.fr c z with y | y
        · exact frn c m y
        · obtain ⟨_, u, e⟩ := thr c m
          rw [e] at y; cases y
      have nDr : D ∉ Fr := fun z => djr D List.mem_cons_self (List.mem_append_left _ z)
      have nDF5 : D ∉ F5 := fun z => djr D List.mem_cons_self (List.mem_append_right _ z)
      have sl5' : ∀ {F6 : List Addr} {σ6 : St} {e7 : Env}, Slots X.K X.mg B5 H5 F6 σ6 e7 → D ∉ F6 → Slots X.K X.mg B5 (upd H5 D (.lst (us ++ [y]))) F6 σ6 e7 := fun {F6 σ6 e7} x n => x.mono (Same.refl _) fun a m => ⟨fun u e => by rw [upd_ne (fun z => by subst z; exact n m)]; exact e, (x.there a m).1⟩
      have acc5 : OwnL X.K X.mg B5 (upd H5 D (.lst (us ++ [y]))) (Fa ++ Fr) (us ++ [y]) (acc ++ [oo]) := by
        have z := own5.append (.cons ro .nil)
        rw [List.append_nil] at z
        exact ownL_upd z fun m => (List.mem_append.mp m).elim ndD.1 nDr
      have ndA : (D :: (Fa ++ Fr)).Nodup := List.nodup_cons.mpr ⟨fun m => (List.mem_append.mp m).elim ndD.1 nDr, List.nodup_append.mpr ⟨ndD.2, n5'.1, fun a ha b hb e => by subst e; exact djr a (List.mem_cons_of_mem _ ha) (List.mem_append_left _ hb)⟩⟩
      have fU : ∀ {G : List Addr}, Frm B5 H5 (D :: G) B5 (upd H5 D (.lst (us ++ [y]))) (D :: G) := fun {G} => ⟨Same.refl _, fun a u e n => by rw [upd_ne (fun z => by subst z; exact n List.mem_cons_self)]; exact e, fun _ _ _ _ b => b, fun a m => .inl m⟩
      refine ⟨us, at5, by rw [own5.length]; exact Nat.lt_trans ha (by decide), ?_⟩
      cases t5 with
      | true =>
        rw [if_pos rfl] at he
        obtain ⟨F6, c1, c2⟩ := sl5.wipe vs
        rw [ww] at c1
        subst he
        have n6 := n5'.2.1.sublist c2
        refine q _ B5 F6 (Fa ++ Fr) (us ++ [y]) ⟨⟨same_upd s5 bD5, sl5' c1 (fun z => nDF5 (c2.subset z)), n6⟩, fun v m hl => wipeE_at m (by rw [wipeE_len] at hl; exact hl), by rw [wipeE_len, le, l1, L.len], upd_same, bD5, acc5, ?_, ?_, fun z => by rw [Bool.or_true] at z; cases z⟩
        · refine List.nodup_append.mpr ⟨ndA, n6, fun a ha b hb e => ?_⟩
          subst e
          rcases List.mem_cons.mp ha with z | z
          · subst z; exact nDF5 (c2.subset hb)
          · rcases List.mem_append.mp z with z | z
            · exact djr a (List.mem_cons_of_mem _ z) (List.mem_append_right _ (c2.subset hb))
            · exact n5'.2.2 a z a (c2.subset hb) rfl
        · have f6 : Frm B2 H2 (D :: Fa ++ F2) B5 H5 (D :: (Fa ++ Fr ++ F6)) := f5.wide (fun c m => List.mem_append_right _ m) fun c m => by
            rcases List.mem_cons.mp m with z | z
            · subst z; exact .inr (List.mem_append_left _ List.mem_cons_self)
            · rcases List.mem_append.mp z with z | z
              · rcases List.mem_append.mp z with z | z
                · exact .inr (List.mem_append_left _ (List.mem_cons_of_mem _ z))
                · exact .inl (List.mem_append_left _ z)
              · exact .inl (List.mem_append_right _ (c2.subset z))
          exact L.frm.trans (f6.trans fU)
      | false =>
        have fp := pu rfl
        rw [if_neg Bool.false_ne_true] at he
        subst he
        have sl2 := fp.slots S2.sl fun _ _ z => nomatch z
        have nD2 : D ∉ F2 := frn D List.mem_cons_self
        have f6 : Frm B2 H2 (D :: Fa) B5 H5 (D :: (Fa ++ Fr)) := fp.wide (fun _ z => nomatch z) fun c m => by
            rcases List.mem_cons.mp m with z | z
            · subst z; exact .inr List.mem_cons_self
            · rcases List.mem_append.mp z with z | z
              · exact .inr (List.mem_cons_of_mem _ z)
              · exact .inl z
        refine q _ B5 F2 (Fa ++ Fr) (us ++ [y]) ⟨⟨same_upd s5 bD5, sl5' sl2 nD2, S2.nd⟩, L.un, L.len, upd_same, bD5, acc5, ?_, ?_, fun z => ?_⟩
        · refine List.nodup_append.mpr ⟨ndA, S2.nd, fun a ha b hb e => ?_⟩
          subst e
          rcases List.mem_cons.mp ha with z | z
          · subst z; exact nD2 hb
          · rcases List.mem_append.mp z with z | z
            · exact frn a (List.mem_cons_of_mem _ z) hb
            · obtain ⟨_, u, e⟩ := S2.sl.there a hb
              rcases fp.fr a z with y | y
              · cases y
              · rw [e] at y; cases y
        · have z := (f6.trans fU).wide (G := D :: Fa ++ F2) (F2 := D :: (Fa ++ Fr) ++ F2) (fun c m => List.mem_append_left _ m) fun c m => (List.mem_append.mp m).imp id fun z => List.mem_append_right _ z
          exact L.frm.trans z
        · rw [Bool.or_false] at z
          obtain ⟨p1, p2, p3⟩ := L.pure z
          exact ⟨p1, p2, p3.trans (f6.trans fU)⟩
    -- the tests, then the item
    have elt : ∀ {b : Bool} {B5 H5 : Hp} {F5 : List Addr} {e5 : Env} {t5 : Bool}, Sta X.K X.mg B5 H5 F5 σ4 e5 → Frm B2 H2 F2 B5 H5 F5 → e5.length = e4.length → (t5 = false → e5 = e4 ∧ F5 = F2 ∧ Frm B2 H2 [] B5 H5 []) → lcElt fe vs e2 e5 t5 b = some (o, e3, t3) →
        if b = true then te σ4 H5 fun y H4 => ∃ acc, H4 D = some (.lst acc) ∧ acc.length < sizeLine ∧ Nx (upd H4 D (.lst (acc ++ [y]))) else Nx H5 := by
      intro b B5 H5 F5 e5 t5 S5 f5 le pu el
      unfold lcElt at el
      cases b with
      | false =>
        rw [if_neg Bool.false_ne_true] at el ⊢
        cases el
        obtain ⟨F6, LL⟩ := fin0 S5 f5 le rfl fun z => (pu z).2.2
        exact q H5 B5 F6 Fa us LL
      | true =>
        rw [if_pos rfl] at el ⊢
        refine ke B5 H5 F5 σ4 e5 _ S5 ?_
        cases e8 : fe e5 with
        | bad => rw [e8] at el; cases el
        | exc c e => rw [e8] at el; cases el
        | ok r1 =>
          rw [e8] at el
          cases r1 with
          | view _ => cases el
          | own oo =>
            cases el
            intro y B6 H6 Fr ro s6 n6 f6
            have sl6 := f6.slots S5.sl fun _ _ z => nomatch z
            refine fin1 (e5 := e5) (t5 := t3) sl6 s6 (nodup_new (fun a m => (S5.sl.there a m).2) S5.nd n6 f6) ro (f5.trans f6.wide0) le rfl (fun z => ?_) (ha (by simp)) (fun H3 B3 F3 Fa3 us3 LL => q H3 B3 F3 Fa3 us3 LL)
            exact ((pu z).2.2).trans f6
        | eff r1 e9 =>
          rw [e8] at el
          cases r1 with
          | view _ => cases el
          | own oo =>
            cases el
            intro y B6 H6 Fr F6 ro sl6 s6 n6 f6
            have le9 : e9.length = e4.length := by rw [← sl6.len, S5.sl.len, le]
            exact fin1 (e5 := e9) (t5 := true) sl6 s6 n6 ro (f5.trans f6) le9 rfl (fun z => nomatch z) (ha (by simp)) fun H3 B3 F3 Fa3 us3 LL => q H3 B3 F3 Fa3 us3 LL
    refine kt B2 H2 F2 σ4 e4 _ S4 ?_
    dsimp only at es
    cases e5 : tt e4 with
    | bad => rw [e5] at es; cases es
    | exc c e => rw [e5] at es; cases es
    | ok b =>
      rw [e5] at es
      intro b' B5 H5 G5 rb s5 n5 f5
      obtain ⟨rfl, rfl⟩ := rb
      exact elt (S4.pure s5 f5) (f5.wide (fun _ z => nomatch z) fun c m => .inr m) rfl (fun _ => ⟨rfl, rfl, f5⟩) es
    | eff b e6 =>
      rw [e5] at es
      intro b' B5 H5 G5 F5 rb l5 s5 n5 f5
      obtain ⟨rfl, rfl⟩ := rb
      exact elt (t5 := true) ⟨s5, l5, n5⟩ f5 (by rw [← l5.len, sl4.len]) (fun z => nomatch z) es
theorem EOk.lc {wi : TI} {tb : TG} {tt' : TT} {te : TE} {f : Env → O (List D)} {g : D → Env → Option Env} {tt : Env → O Bool} {fe : Env → O RV} {todo vs : List Nat} (htv : ∀ i ∈ todo, i ∈ vs)
    (ki : EOk X W (itR X.K) wi f)
    (kg : ∀ B H F σ env v d (Q : St → Hp → Prop) (vs : List Nat), Slots X.K X.mg B H F σ env → Same B H → (∀ i ∈ todo, env[i]? = some .un) → (∀ i ∈ todo, i ∈ vs) → Rep X.K B v d →
      (match g d env with
       | some env' => ∀ σ', Slots X.K X.mg B H F σ' env' → L2.wipe σ' vs = L2.wipe σ vs → wipeE env' vs = wipeE env vs → env'.length = env.length → (∀ j, j ∉ todo → env'[j]? = env[j]?) → Q σ' H
       | none => False) → tb v σ H Q)
    (kt : EOk X W0 boR tt' tt) (ke : EOk X W0 (rvR X.K X.mg) te fe) : EOk X W (rvR X.K X.mg) (tLc wi tb tt' te vs) (eLc f g tt fe vs) := by
  intro B H F σ env Q S q
  refine ki B H F σ env _ S ?_
  dsimp only [eLc] at q
  split at q
  case isFalse => exact q.elim
  rename_i hall
  have hlen : ∀ i ∈ todo, i < env.length := fun i m => by
    have := List.all_eq_true.mp hall i (htv i m)
    simpa using this
  have core : ∀ {J : It} {B1 H1 : Hp} {F1 : List Addr} {env1 : Env} {ds : List Tl.D} {t0 : Bool}, Spec X.K B1 J ds → Sta X.K X.mg B1 H1 F1 σ env1 → Frm B H F B1 H1 F1 → (t0 = false → env1 = env ∧ F1 = F ∧ Frm B H [] B1 H1 []) → EPost X W (rvR X.K X.mg) B H F σ Q (lcFin env1 t0 vs (lcGo g tt fe vs ds [] (wipeE env1 vs) false)) →
      ∀ D, H1 D = none → ∃ W' : Nat → Nat → Hp → Prop, (∃ m, W' 0 m (upd H1 D (.lst []))) ∧ ∀ i m H, W' i m H →
        (J.stop i H ∧ Q (.ref D) H) ∨ (J.go i H ∧ ∃ Nx : Hp → Prop, (∀ H', Nx H' → ∃ m', m' < m ∧ W' (i + 1) m' H') ∧ ∀ x H', J.yld i H x H' → tb x (L2.wipe σ vs) H' fun σ2 H2 => L2.wipe σ2 vs = L2.wipe σ vs ∧ tt' σ2 H2 fun b H3 =>
          if b = true then te σ2 H3 fun y H4 => ∃ acc, H4 D = some (.lst acc) ∧ acc.length < sizeLine ∧ Nx (upd H4 D (.lst (acc ++ [y]))) else Nx H3) := by
    intro J B1 H1 F1 env1 ds t0 sp S1 f1 pu q D hD
    obtain ⟨Fh, Fv, sl1, pm, back⟩ := S1.sl.hide vs
    have ndp := List.nodup_append.mp (pm.nodup_iff.mp S1.nd)
    have hB : B1 D = none := S1.sub.free hD
    have inF : ∀ a, a ∈ Fh ∨ a ∈ Fv → a ∈ F1 := fun a m => pm.mem_iff.mpr (List.mem_append.mpr m)
    have nDv : D ∉ Fv := fun m => by
      obtain ⟨_, u, e⟩ := S1.sl.there D (inF D (.inr m))
      rw [hD] at e; cases e
    refine ⟨fun i m H => m = ds.length - i ∧ i ≤ ds.length ∧ ∃ e2 acc t B2 F2 Fa us, LcI X B1 H1 Fv (L2.wipe σ vs) env1 vs D H e2 acc t B2 F2 Fa us ∧ EPost X W (rvR X.K X.mg) B _ F σ Q (lcFin env1 t0 vs (lcGo g tt fe vs (ds.drop i) acc e2 t)),
      ⟨ds.length, by simp, Nat.zero_le _, wipeE env1 vs, [], false, B1, Fv, [], [], ⟨⟨same_upd S1.sub hB, sl1.mono (Same.refl _) fun a m => ⟨fun u e => by rw [upd_ne (fun z => by subst z; exact nDv m)]; exact e, (sl1.there a m).1⟩, ndp.2.1⟩, fun v m hl => wipeE_at m (by rw [wipeE_len] at hl; exact hl), wipeE_len, upd_same, hB, .nil, ?_, ?_, fun _ => ⟨rfl, rfl, ?_⟩⟩, by rw [List.drop_zero]; exact q⟩, ?_⟩
    · exact List.nodup_cons.mpr ⟨nDv, ndp.2.1⟩
    · refine ⟨Same.refl _, fun a u e _ => by rw [upd_ne (ne_of_none e hD)]; exact e, fun _ _ _ _ b => b, fun a m => ?_⟩
      rcases List.mem_cons.mp m with z | z
      · subst z; exact .inr hD
      · exact .inl z
    · refine ⟨Same.refl _, fun a u e _ => by rw [upd_ne (ne_of_none e hD)]; exact e, fun _ _ _ _ b => b, fun a m => ?_⟩
      have : a = D := by simpa using m
      subst this; exact .inr hD
    · rintro i m H2 ⟨rfl, hi, e2, acc, t, B2, F2, Fa, us, L, q2⟩
      have s12 : Same B1 B2 := L.frm.sB
      obtain ⟨sp1, sp2⟩ := sp B2 H2 s12 L.sta.sub
      by_cases hlt : i < ds.length
      · have e0 : ds[i]? = some ds[i] := by simp [hlt]
        obtain ⟨go, yl⟩ := sp1 i ds[i] e0
        refine .inr ⟨go, fun H => (ds.length - (i + 1)) = ds.length - (i + 1) ∧ i + 1 ≤ ds.length ∧ ∃ e2 acc t B2 F2 Fa us, LcI X B1 H1 Fv (L2.wipe σ vs) env1 vs D H e2 acc t B2 F2 Fa us ∧ EPost X W (rvR X.K X.mg) B _ F σ Q (lcFin env1 t0 vs (lcGo g tt fe vs (ds.drop (i + 1)) acc e2 t)), fun H' h => ⟨ds.length - (i + 1), by omega, h⟩, fun x H3 y => ?_⟩
        obtain ⟨B3, f3, s3, r3⟩ := yl x H3 y
        -- the state behind the item's coming
        have L3 : LcI X B1 H1 Fv (L2.wipe σ vs) env1 vs D H3 e2 acc t B3 F2 Fa us := by
          refine ⟨L.sta.pure s3 f3, L.un, L.len, f3.keep D _ L.at' (by simp), f3.forg D _ L.at' (by simp) L.bD, f3.ownL L.own (fun _ _ z => nomatch z), L.nd, L.frm.trans (f3.wide (fun _ z => nomatch z) fun c m => .inr m), fun z => ?_⟩
          obtain ⟨p1, p2, p3⟩ := L.pure z
          exact ⟨p1, p2, p3.trans (f3.wide (fun _ z => nomatch z) fun c m => .inr m)⟩
        rw [List.drop_eq_getElem_cons hlt] at q2
        unfold lcGo at q2
        have hvl : ∀ i ∈ todo, i < env1.length := fun i m => by rw [← S1.sl.len, S.sl.len]; exact hlen i m
        cases es : lcStep g tt fe vs ds[i] e2 with
        | none => rw [es] at q2; exact q2.elim
        | some z =>
          obtain ⟨o, e3, t3⟩ := z
          rw [es] at q2
          cases o with
          | none =>
            exact lc_turn kg kt ke htv hvl L3 r3 es (fun z => absurd rfl z) fun H4 B4 F4 Fa4 us4 LL => ⟨rfl, hlt, e3, acc, t || t3, B4, F4, Fa4, us4, LL, q2⟩
          | some oo =>
            dsimp only at q2
            by_cases hac : acc.length < 10000000
            · rw [if_pos hac] at q2
              exact lc_turn kg kt ke htv hvl L3 r3 es (fun _ => hac) fun H4 B4 F4 Fa4 us4 LL => ⟨rfl, hlt, e3, acc ++ [oo], t || t3, B4, F4, Fa4, us4, LL, q2⟩
            · rw [if_neg hac] at q2; exact q2.elim
      · have e0 : i = ds.length := by omega
        subst e0
        rw [List.drop_length] at q2
        refine .inl ⟨sp2, ?_⟩
        unfold lcGo lcFin at q2
        dsimp only at q2
        have oD : Own X.K X.mg B2 H2 (D :: Fa) (.ref D) (.lst acc) := .lst L.at' L.bD L.own
        have ndL := List.nodup_append.mp L.nd
        by_cases ht : (t || t0) = true
        · rw [if_pos ht] at q2
          have fh : ∀ a ∈ Fh, (∀ u, H1 a = some u → H2 a = some u) ∧ B2 a = none := fun a m => by
            obtain ⟨b, u, e⟩ := S1.sl.there a (inF a (.inl m))
            have nv : a ∉ Fv := fun z => ndp.2.2 a m a z rfl
            exact ⟨fun u e => L.frm.keep a u e nv, L.frm.forg a u e nv b⟩
          obtain ⟨F3, c1, c2⟩ := back B2 H2 F2 e2 s12 fh L.sta.sl L.un L.len
          have djh : ∀ a ∈ Fh, a ∉ D :: Fa ++ F2 := fun a m z => by
            obtain ⟨_, u, e⟩ := S1.sl.there a (inF a (.inl m))
            rcases L.frm.fr a z with y | y
            · exact ndp.2.2 a m a y rfl
            · rw [e] at y; cases y
          have n3 : F3.Nodup := c2.nodup_iff.mpr (List.nodup_append.mpr ⟨ndp.1, L.sta.nd, fun a ha b hb e => by subst e; exact djh a ha (List.mem_append_right _ hb)⟩)
          refine q2 (.ref D) B2 H2 (D :: Fa) F3 oD c1 L.sta.sub (List.nodup_append.mpr ⟨ndL.1, n3, fun a ha b hb e => ?_⟩) (f1.trans (L.frm.wide (fun c m => inF c (.inr m)) fun c m => ?_))
          · subst e
            rcases List.mem_append.mp (c2.mem_iff.mp hb) with z | z
            · exact djh a z (List.mem_append_left _ ha)
            · exact ndL.2.2 a ha a z rfl
          · rcases List.mem_append.mp m with z | z
            · exact .inl (List.mem_append_left _ z)
            · rcases List.mem_append.mp (c2.mem_iff.mp z) with z | z
              · exact .inr (inF c (.inl z))
              · exact .inl (List.mem_append_right _ z)
        · rw [if_neg ht] at q2
          have ht' : t = false ∧ t0 = false := by simpa using ht
          obtain ⟨p1, p2, p3⟩ := L.pure ht'.1
          obtain ⟨_, _, fp⟩ := pu ht'.2
          exact q2 (.ref D) B2 H2 (D :: Fa) oD L.sta.sub ndL.1 (fp.trans p3)
  cases e2 : f env with
  | bad => rw [e2] at q; exact q
  | exc c e => rw [e2] at q; exact q
  | ok ds =>
    rw [e2] at q
    intro J B' H' G r s n f'
    obtain ⟨rfl, sp⟩ := r
    exact core (t0 := false) sp (S.pure s f') (f'.wide (fun _ z => nomatch z) fun c m => .inr m) (fun _ => ⟨rfl, rfl, f'⟩) q
  | eff ds e =>
    rw [e2] at q
    intro J B' H' G F' r l s n f'
    obtain ⟨rfl, sp⟩ := r
    exact core (t0 := true) sp ⟨s, l, n⟩ f' (fun z => nomatch z) q
abbrev Blk (X : Cx) (scope : Scope) (i : Shared × Hp × Addr × List (Str × Addr) × List Addr) : Cx := X.blk i.1 i.2.1 scope (PySem.compEnvC scope i.2.2.2.1 i.2.2.1 X.env) i.2.2.2.2
theorem all_PE {ι : Type} {Y : ι → Cx} {e : Expr} {Z : TE → Prop} (h : ∀ i, ∃ t, PE (Y i) e t ∧ Z t) (hz : ∀ T : ι → TE, (∀ i, Z (T i)) → Z fun σ H Q => ∀ i, T i σ H Q) : ∃ t, (∀ i, PE (Y i) e t) ∧ Z t :=
  ⟨fun σ H Q => ∀ i, (h i).choose σ H Q, fun i => ⟨fun pins s σ H Q I q => (h i).choose_spec.1.run pins s σ H Q I (q i)⟩, hz _ fun i => (h i).choose_spec.2⟩
theorem all_PTs {ι : Type} {Y : ι → Cx} {e : List Expr} {Z : TT → Prop} (h : ∀ i, ∃ t, PTs (Y i) e t ∧ Z t) (hz : ∀ T : ι → TT, (∀ i, Z (T i)) → Z fun σ H Q => ∀ i, T i σ H Q) : ∃ t, (∀ i, PTs (Y i) e t) ∧ Z t :=
  ⟨fun σ H Q => ∀ i, (h i).choose σ H Q, fun i => ⟨fun pins s σ H Q I q => (h i).choose_spec.1.run pins s σ H Q I (q i)⟩, hz _ fun i => (h i).choose_spec.2⟩
theorem all_PG {ι : Type} {Y : ι → Cx} {e : Expr} {Z : TG → Prop} (h : ∀ i, ∃ t, PG (Y i) e t ∧ Z t) (hz : ∀ T : ι → TG, (∀ i, Z (T i)) → Z fun v σ H Q => ∀ i, T i v σ H Q) : ∃ t, (∀ i, PG (Y i) e t) ∧ Z t :=
  ⟨fun v σ H Q => ∀ i, (h i).choose v σ H Q, fun i => ⟨fun pins s σ H v u Q I r q => (h i).choose_spec.1.run pins s σ H v u Q I r (q i)⟩, hz _ fun i => (h i).choose_spec.2⟩
theorem lc_parts {scope : Scope} {g : D → Env → Option Env} {tt : Env → O Bool} {fe : Env → O RV} {todo : List Nat} (hg : ∀ i, PCt (Blk X scope i) todo tg g) (ht : ∀ i, PTsr (Blk X scope i) W0 ifs tt) (he : ∀ i, PEr (Blk X scope i) W0 elt fe) :
    ∃ (tb : TG) (tt' : TT) (te : TE), (∀ i, PG (Blk X scope i) tg tb) ∧ (∀ i, PTs (Blk X scope i) ifs tt') ∧ (∀ i, PE (Blk X scope i) elt te) ∧
      (∀ B H F σ env v d (Q : St → Hp → Prop) (vs : List Nat), Slots X.K X.mg B H F σ env → Same B H → (∀ i ∈ todo, env[i]? = some .un) → (∀ i ∈ todo, i ∈ vs) → Rep X.K B v d →
        (match g d env with
         | some env' => ∀ σ', Slots X.K X.mg B H F σ' env' → L2.wipe σ' vs = L2.wipe σ vs → wipeE env' vs = wipeE env vs → env'.length = env.length → (∀ j, j ∉ todo → env'[j]? = env[j]?) → Q σ' H
         | none => False) → tb v σ H Q) ∧ EOk X W0 boR tt' tt ∧ EOk X W0 (rvR X.K X.mg) te fe := by
  obtain ⟨tb, h1, h2⟩ := all_PG (Z := fun tb => ∀ B H F σ env v d (Q : St → Hp → Prop) (vs : List Nat), Slots X.K X.mg B H F σ env → Same B H → (∀ i ∈ todo, env[i]? = some .un) → (∀ i ∈ todo, i ∈ vs) → Rep X.K B v d →
        (match g d env with
         | some env' => ∀ σ', Slots X.K X.mg B H F σ' env' → L2.wipe σ' vs = L2.wipe σ vs → wipeE env' vs = wipeE env vs → env'.length = env.length → (∀ j, j ∉ todo → env'[j]? = env[j]?) → Q σ' H
         | none => False) → tb v σ H Q) hg (fun T hT B H F σ env v d Q vs a b c e f q i => hT i B H F σ env v d Q vs a b c e f q)
  obtain ⟨tt', h3, h4⟩ := all_PTs (Z := fun t => EOk X W0 boR t tt) ht (fun T hT B H F σ env Q S q i => hT i B H F σ env Q S q)
  obtain ⟨te, h5, h6⟩ := all_PE (Z := fun t => EOk X W0 (rvR X.K X.mg) t fe) he (fun T hT B H F σ env Q S q i => hT i B H F σ env Q S q)
  exact ⟨tb, tt', te, h1, h3, h5, h2, h4, h6⟩
/-- [elt for tg in iter if ..] as a value -/
theorem r_lc {scope : Scope} {own : List (Str × Nat)} {f : Env → O (List D)} {g : D → Env → Option Env} {tt : Env → O Bool} {fe : Env → O RV} {todo : List Nat} (hc : X.calm = true) (hN : X.N.Nodup) (hi : PIr X W tg iter f) (ok : blkC X.N X.env.scope scope own = true) (htv : (todo.all fun i => (own.map (·.2)).contains i) = true)
    (hg : ∀ i, PCt (Blk X scope i) todo tg g) (ht : ∀ i, PTsr (Blk X scope i) W0 ifs tt) (he : ∀ i, PEr (Blk X scope i) W0 elt fe) (hs : ∀ x, foldedSetIterable iter X.env x = pure x := by intro _; rfl) :
    PEr X W (.ListComp elt [⟨tg, iter, ifs, 0⟩] scope pos) (eLc f g tt fe (own.map (·.2))) := by
  obtain ⟨wi, hi, ki⟩ := hi
  obtain ⟨tb, tt', te, h1, h2, h3, k1, k2, k3⟩ := lc_parts hg ht he
  exact ⟨_, pe_lc hc hN hi (blkOk_by ok) (fun s H C cl fp => h1 (s, H, C, cl, fp)) (fun s H C cl fp => h2 (s, H, C, cl, fp)) (fun s H C cl fp => h3 (s, H, C, cl, fp)) hs, EOk.lc (fun i m => by have := List.all_eq_true.mp htv i m; simpa using this) ki k1 k2 k3⟩
/-- name = [..] -/
theorem s_setLc (i : Nat) {y : Str} {py spos : Pos} {scope : Scope} {own : List (Str × Nat)} {f : Env → O (List D)} {g : D → Env → Option Env} {tt : Env → O Bool} {fe : Env → O RV} {todo : List Nat} (hc : X.calm = true) (hN : X.N.Nodup) (hi : PIr X W tg iter f) (ok : blkC X.N X.env.scope scope own = true) (htv : (todo.all fun i => (own.map (·.2)).contains i) = true)
    (hg : ∀ i, PCt (Blk X scope i) todo tg g) (ht : ∀ i, PTsr (Blk X scope i) W0 ifs tt) (he : ∀ i, PEr (Blk X scope i) W0 elt fe)
    (hsw : swapsWith (.ListComp elt [⟨tg, iter, ifs, 0⟩] scope pos) (some (.Name y py)) spos.line X.env = pure true)
    (hy : X.N[i]? = some y := by rfl) (hyl : X.env.scope.names.lookup y = some .local := by rfl) (hio : io.contains i = false := by rfl) (hs : ∀ x, foldedSetIterable iter X.env x = pure x := by intro _; rfl) :
    PSr X W io (.Assign [.Name y py] (.ListComp elt [⟨tg, iter, ifs, 0⟩] scope pos) spos) (sAsg (eLc f g tt fe (own.map (·.2))) (gSet i)) := by
  obtain ⟨wi, hi, ki⟩ := hi
  obtain ⟨tb, tt', te, h1, h2, h3, k1, k2, k3⟩ := lc_parts hg ht he
  have k : EOk X W (rvR X.K X.mg) (tLc wi tb tt' te (own.map (·.2))) (eLc f g tt fe (own.map (·.2))) := EOk.lc (fun i m => by have := List.all_eq_true.mp htv i m; simpa using this) ki k1 k2 k3
  refine ⟨_, ps_setLc hc hN hy hyl hsw hi (blkOk_by ok) (fun s H C cl fp => h1 (s, H, C, cl, fp)) (fun s H C cl fp => h2 (s, H, C, cl, fp)) (fun s H C cl fp => h3 (s, H, C, cl, fp)) hs, fun B H F σ env D S q => k B H F σ env _ S ?_⟩
  dsimp only [sAsg, sE] at q
  generalize eLc f g tt fe (own.map (·.2)) env = z at q
  cases z with
  | bad => exact q
  | exc c e => exact fun B' H' F' S' f' => q B' H' F' σ S' f' Agree.refl
  | ok r =>
    cases r with
    | view o => exact q.elim
    | own o =>
      intro v B' H' G r s n f
      dsimp only [kAsg, gSet] at q
      split at q
      · rename_i e3
        split at e3
        · rename_i hl
          cases e3
          obtain ⟨F2, h1, h2, h3⟩ := store_ok (io := io) (S.pure s f).sl s r (nodup_new (fun a m => (S.sl.there a m).2) S.nd n f) hl hio
          exact q B' H' F2 _ h1 (f.wide0.trans h2) h3
        · cases e3
      · exact q.elim
  | eff r e =>
    cases r with
    | view o => exact q.elim
    | own o =>
      intro v B' H' G F' r l s n f
      dsimp only [kAsg, gSet] at q
      split at q
      · rename_i e3
        split at e3
        · rename_i hl
          cases e3
          obtain ⟨F2, h1, h2, h3⟩ := store_ok (io := io) l s r n hl hio
          exact q B' H' F2 _ h1 (f.trans h2) h3
        · cases e3
      · exact q.elim
end
end Tl
namespace Tl
open PySem PySem.Spec L2

/-! ### slices -/
def cutD (xs : List D) (lo hi : Option Int) : List D := (xs.drop (HT.sIx xs.length 0 lo)).take (HT.sIx xs.length xs.length hi - HT.sIx xs.length 0 lo)
section
variable {K : PySem.W.Frag} {B : Hp}
theorem RepL.drop {vs : List V} {ds : List D} (h : RepL K B vs ds) (n : Nat) : RepL K B (vs.drop n) (ds.drop n) := by
  induction n generalizing vs ds with
  | zero => exact h
  | succ n ih => cases h with | nil => exact .nil | cons _ t => exact ih t
theorem RepL.take {vs : List V} {ds : List D} (h : RepL K B vs ds) (n : Nat) : RepL K B (vs.take n) (ds.take n) := by
  induction n generalizing vs ds with
  | zero => exact .nil
  | succ n ih => cases h with | nil => exact .nil | cons r t => exact .cons r (ih t)
theorem RepL.cut {vs : List V} {ds : List D} (h : RepL K B vs ds) (lo hi : Option Int) : RepL K B (cutV vs lo hi) (cutD ds lo hi) := by
  unfold cutV cutD
  rw [h.length]
  exact (h.drop _).take _
theorem cutD_whole {ds : List D} {lo hi : Option Int} (h : HT.sIx ds.length 0 lo = 0 ∧ HT.sIx ds.length ds.length hi = ds.length) : cutD ds lo hi = ds := by
  unfold cutD
  rw [h.1, h.2]
  simp
end
def poR : Rl (Option Int) (Option Int) := fun _ _ G a b => G = [] ∧ a = b
theorem stb_po : Stb poR (fun _ => true) where
  there := fun B H G x a h => by obtain ⟨rfl, _⟩ := h; exact fun _ z => nomatch z
  keep := fun _ _ _ _ _ _ _ _ _ h _ _ _ => h
def POr (X : Cx) (W : WX) (e : Option Expr) (f : Env → O (Option Int)) : Prop := ∃ t, PO X e t ∧ EOk X W poR t f
def pNo : Env → O (Option Int) := fun _ => .ok none
def RV.int? (r : RV) : Option Int := match r.od with
  | .fz (.int i) => some i
  | _ => none
def pSo (f : Env → O RV) : Env → O (Option Int) := fun env => (f env).mapP fun r => r.int?.map some
def gSl (p : (RV × Option Int) × Option Int) : Option RV :=
  match p.1.1.od with
  | .fz (.str z) => if z.length ≤ sizeLine then some (.own (.fz (.str (cutS z p.1.2 p.2)))) else none
  | o => match o.items with
    | some ds => some (.own (.lst ((cutD ds p.1.2 p.2).map .fz)))
    | none => match o.titems with
      | some ds => some (.own (.fz (.tup (cutD ds p.1.2 p.2))))
      | none => none
def eSl (f : Env → O RV) (g h : Env → O (Option Int)) : Env → O RV := fun env =>
  (((f env).andThen RV.safe env (fun _ e => g e) Prod.mk).andThen (fun p => p.1.safe) env (fun _ e => h e) Prod.mk).mapP gSl
/-- two in a row, the second one where the first one left the frame -/
def eSl3 (f : Env → O RV) (g h : Env → O (Option Int)) : Env → O RV := fun env =>
  ((f env).andThen RV.safe env (fun _ e => (g e).andThen (fun _ => true) e (fun _ e => h e) Prod.mk) (fun a b => ((a, b.1), b.2))).mapP gSl
section
variable {X : Cx} {W : WX} {e : Expr} {lo hi : Option Expr} {f : Env → O RV} {g h : Env → O (Option Int)} {pos p2 : Pos}
theorem po_no : POr X W none pNo := ⟨_, po_none, EOk.konst fun _ _ => ⟨rfl, rfl⟩⟩
theorem po_so {e : Expr} (k : PEr X W e f) : POr X W (some e) (pSo f) := by
  obtain ⟨t, k, z⟩ := k
  refine ⟨_, po_some k, z.map (r := fun (x : V) (H : Hp) (Q : Option Int → Hp → Prop) => ∃ i, x = .int i ∧ Q (some i) H) fun B H G v r Q s hr n q => ?_⟩
  unfold RV.int? at q
  split at q
  · rename_i i e
    have z := rv_fz hr e
    cases z
    exact ⟨i, rfl, q (some i) B H [] ⟨rfl, rfl⟩ s List.nodup_nil Frm.none⟩
  · exact q.elim
theorem sl_any : SlR X (fun x lo hi H Q => (rSlL X.K x lo hi H Q ∨ rSlA X.K x lo hi H Q) ∨ rSlS x lo hi H Q) := (sl_list.or sl_tupA).or sl_str
theorem r_slice (ha : PEr X W e f) (hl : POr X W lo g) (hh : POr X W hi h) : PEr X W (.Subscript e (.Slice lo hi none p2) pos) (eSl3 f g h) := by
  obtain ⟨ta, ha, ka⟩ := ha
  obtain ⟨tl, hl, kl⟩ := hl
  obtain ⟨th, hh, kh⟩ := hh
  have k1 : EOk X W (prR poR poR) (fun σ H Q => tl σ H fun l H2 => th σ H2 fun u H3 => Q (l, u) H3) (fun env => (g env).andThen (fun _ => true) env (fun _ e => h e) Prod.mk) :=
    EOk.andThen (jx := Prod.mk) (jb := Prod.mk) (R'' := prR poR poR) (u := fun _ => th) stb_po stb_po (fun _ _ G1 G2 _ _ _ _ a b => ⟨G1, G2, rfl, a, b⟩) kl fun _ _ _ => kh
  have k2 : EOk X W (prR (prR (rvR X.K X.mg) poR) poR) (fun σ H Q => ta σ H fun x H1 => tl σ H1 fun l H2 => th σ H2 fun u H3 => Q ((x, l), u) H3) (fun env => (f env).andThen RV.safe env (fun _ e => (g e).andThen (fun _ => true) e (fun _ e => h e) Prod.mk) (fun a b => ((a, b.1), b.2))) :=
    EOk.andThen (R' := prR poR poR) (jx := fun x p => ((x, p.1), p.2)) (jb := fun a b => ((a, b.1), b.2)) (R'' := prR (prR (rvR X.K X.mg) poR) poR) (u := fun _ σ H Q => tl σ H fun l H2 => th σ H2 fun u H3 => Q (l, u) H3) stb_rv (stb_pr stb_po stb_po) (fun _ _ G1 G2 _ _ _ _ a ⟨G3, G4, e, b, c⟩ => ⟨G1 ++ G3, G4, by rw [e, List.append_assoc], ⟨G1, G3, rfl, a, b⟩, c⟩) ka fun _ _ _ => k1
  refine ⟨_, pe_slice sl_any ha hl hh, k2.map (r := fun (p : (V × Option Int) × Option Int) (H : Hp) (Q : VK) => (rSlL X.K p.1.1 p.1.2 p.2 H Q ∨ rSlA X.K p.1.1 p.1.2 p.2 H Q) ∨ rSlS p.1.1 p.1.2 p.2 H Q) fun B H G p a Q s hr n q => ?_⟩
  obtain ⟨⟨x, l⟩, u⟩ := p
  obtain ⟨⟨r, l'⟩, u'⟩ := a
  obtain ⟨_, G4, _, ⟨_, G3, _, hx, _, rfl⟩, _, rfl⟩ := hr
  dsimp only [gSl] at q ⊢
  split at q
  · rename_i z ez
    have zz := rv_fz hx ez
    cases zz
    split at q
    · rename_i hz
      exact .inr ⟨z, rfl, hz, VPost.fz q s .str⟩
    · exact q.elim
  · split at q
    · rename_i ds e1
      obtain ⟨p, vs, rfl, a1, a2⟩ := rv_items s hx e1
      exact .inl (.inl ⟨p, vs, rfl, a1, fun l hl => VPost.lst q s (a2.cut _ _) hl⟩)
    · split at q
      · rename_i ds e1
        have zt := rv_tfz hx e1
        obtain ⟨p, vs, rfl, a1, a2⟩ := rv_titems s hx e1
        refine .inl (.inr ⟨p, vs, rfl, a1, fun hw => ?_, fun _ l hl => VPost.tup q s (a2.cut _ _) hl⟩)
        rw [a2.length] at hw
        rw [cutD_whole hw] at q
        exact VPost.fz q s zt
      · exact q.elim
/-- xs[::-1] -/
def gRev (r : RV) : Option RV := match r.od.items with
  | some ds => some (.own (.lst (ds.reverse.map .fz)))
  | none => none
theorem r_rev {k : Nat} {p1 p2 p3 : Pos} (ha : PEr X W e f) : PEr X W (.Subscript e (.Slice none none (some (.UnaryOp .USub (.Constant (.int 1) k p1) p2)) p3) pos) (e1 gRev f) := by
  obtain ⟨ta, ha, ka⟩ := ha
  refine ⟨_, pe_revL ha, ka.map (r := fun (x : V) (H1 : Hp) (Q : VK) => ∃ a xs, x = .ref a ∧ SqL X.K H1 a xs ∧ ∀ p, H1 p = none → Q (.ref p) (upd H1 p (.lst xs.reverse))) fun B H G v r Q s hr n q => ?_⟩
  dsimp only [gRev] at q
  split at q
  · rename_i ds e1
    obtain ⟨p, vs, rfl, a1, a2⟩ := rv_items s hr e1
    exact ⟨p, vs, rfl, a1, fun l hl => VPost.lst q s a2.reverse hl⟩
  · exact q.elim
/-! ### a name's things handed on: for good (eMove), or as plain data from now on (eFrz) -/
def eMove (i : Nat) : Env → O RV := fun env => match env[i]? with
  | some .un => .bad
  | some o => .eff (.own o) (env.set i .un)
  | none => .bad
def eFrz (i : Nat) : Env → O RV := fun env => match env[i]? with
  | some (.fz d) => .ok (.own (.fz d))
  | some o => match frz o with
    | some d => .eff (.own (.fz d)) (env.set i (.fz d))
    | none => .bad
  | none => .bad
theorem r_move (i : Nat) {x : Str} {pos : Pos} (hN : X.N[i]? = some x := by rfl) (hv : Vis X.env.scope x := by first | exact Or.inl rfl | exact Or.inr (Or.inl rfl) | exact Or.inr (Or.inr rfl))
    (hd : (x == ("__debug__" : Str)) = false := by decide) (hcd : (x == ("__classdict__" : Str)) = false := by decide) : PEr X W (.Name x pos) (eMove i) := by
  refine ⟨_, pe_var hN hv hd hcd, fun B H F σ env Q S q => ?_⟩
  dsimp only [eMove] at q
  cases e : env[i]? with
  | none => rw [e] at q; exact q.elim
  | some o =>
    rw [e] at q
    by_cases n : o = .un
    · subst n; exact q.elim
    · obtain ⟨v, Fi, Fr, h1, h2, h3, h4⟩ := S.sl.take e n
      have nd := h4.nodup_iff.mp S.nd
      have q' : EPost X W (rvR X.K X.mg) B H F σ Q (.eff (.own o) (env.set i .un)) := by cases o <;> first | exact q | exact absurd rfl n
      exact ⟨v, h1, q' v B H Fi Fr h2 h3 S.sub nd ⟨Same.refl _, fun _ _ e _ => e, fun _ _ _ _ b => b, fun a m => .inl (h4.mem_iff.mpr m)⟩⟩
theorem r_frz (i : Nat) {x : Str} {pos : Pos} (hN : X.N[i]? = some x := by rfl) (hv : Vis X.env.scope x := by first | exact Or.inl rfl | exact Or.inr (Or.inl rfl) | exact Or.inr (Or.inr rfl))
    (hd : (x == ("__debug__" : Str)) = false := by decide) (hcd : (x == ("__classdict__" : Str)) = false := by decide) : PEr X W (.Name x pos) (eFrz i) := by
  refine ⟨_, pe_var hN hv hd hcd, fun B H F σ env Q S q => ?_⟩
  dsimp only [eFrz] at q
  split at q
  · rename_i d e
    obtain ⟨v, G, h1, h2, h3⟩ := S.sl.get e (by intro z; cases z)
    cases h2 with
    | fz r => exact ⟨v, h1, q v B H [] (.fz r) S.sub List.nodup_nil Frm.none⟩
  · rename_i o hn e
    cases ef : frz o with
    | none => rw [ef] at q; exact q.elim
    | some d =>
      rw [ef] at q
      obtain ⟨v, Fi, Fr, h1, h2, h3, h4⟩ := S.sl.take e (fun z => by subst z; unfold frz at ef; cases ef)
      obtain ⟨s1, s2, f⟩ := frm_more (K := X.K) (mg := X.mg) (G := Fi) S.sub h2.there
      have rp : Rep X.K (more B H Fi) v d := h2.frz s1 ef fun a m u z => by rw [more_in m]; exact z
      have nd := List.nodup_append.mp (h4.nodup_iff.mp S.nd)
      have sl := f.slots h3 fun a m z => nd.2.2 a z a m rfl
      obtain ⟨F', c1, c2⟩ := sl.put (by rw [List.getElem?_set_self]; exact (List.getElem?_eq_some_iff.mp e).1) h1 (.fz rp)
      rw [List.set_set] at c1
      refine ⟨v, h1, q v (more B H Fi) H [] F' (.fz rp) c1 s2 ?_ (f.wide (fun a m => h4.mem_iff.mpr (List.mem_append_left _ m)) fun a m => .inr ?_)⟩
      · exact c2.nodup_iff.mpr nd.2.1
      · exact h4.mem_iff.mpr (List.mem_append_right _ (c2.mem_iff.mp m))
  · exact q.elim
end

/-! ### the law -/
/-- a list of ints as it is handed in -/
def scr (ns : List Int) : OD := .fz (.scr (ns.map .int))
theorem repL_ints {K : PySem.W.Frag} {B : Hp} (ns : List Int) : RepL K B (ns.map V.int) (ns.map D.int) := by
  induction ns with
  | nil => exact .nil
  | cons n ns ih => exact .cons .int ih
/-- the law's promise, from what its function of plain data comes to -/
theorem law_sp {K : PySem.W.Frag} {mg : Str → Option Value} {Fm : List OD → FO} {H : Hp} {a : Addr} {ns : List Int} {Q : VK} {E : XK} (hS : SqL K H a (ns.map V.int)) (h : ∃ r, Fm [scr ns] = .ret (.fz (.bl true)) r) (hQ : ∀ H', Q (.bl true) H') : spOf K mg 1 Fm [.ref a] H Q E := by
  refine ⟨rfl, H, [], [scr ns], Same.refl _, .cons (F := []) (.fz (.scr hS (repL_ints ns))) .nil, List.nodup_nil, ?_⟩
  obtain ⟨r, e⟩ := h
  rw [e]
  intro v B' H' Fr G' ro _ _ _ _
  cases ro with
  | fz ro => cases ro; exact hQ H'
end Tl
namespace Tl
open PySem PySem.Spec L2

/-! ### defs by name -/
/-- the def x of the text, as it stands behind the top -/
def FunAt (K : PySem.W.Frag) (mg : Str → Option Value) (x : Str) (st : Stmt) (ps : List Str) : Prop := ∃ f fd, Fun K x x st f fd ∧ mg x = some (.ref f) ∧ Binds K fd ps []
/-- a def that may be called: it keeps its promise -/
def Cal (P : Program) (w : World) (K : PySem.W.Frag) (mg : Str → Option Value) (base : Heap) (x : Str) (ps : List Str) (k n : Nat) (Fm : List OD → FO) : Prop :=
  ∃ fn fd, mg x = some (.ref fn) ∧ FnOk P w K mg base (L2.CX P w) k fn fd ps (spOf K mg n Fm) ∧ PySem.W.keepIn K (.ref fn) = true ∧ Binds K fd ps []
/-- a module's constant -/
def Const (mg : Str → Option Value) (x : Str) (v : V) : Prop := ∃ u, mg x = some u ∧ RelV v u
section
variable {P : Program} {w : World} {K : PySem.W.Frag} {mg : Str → Option Value} {base : Heap}
theorem cal_of {x : Str} {st : Stmt} {N ps : List Str} {k n m : Nat} {io : List Nat} {body : Env → SO} (A : FunAt K mg x st ps) (S : FnScope N ps (defScope st)) (hn : ps.length = n) (hm : N.length = n + m) (hio : io.all (fun i => decide (i < n)) = true)
    (hb : ∀ (f : Addr) (cdv : Value) (A : Around) (outer : List PySem.Env) (s : Shared) (H : Hp) (E : XK), Room k (A.deeper (PyProof.Rows.envOfC x (defScope st) s.heap.objs.size f cdv)) →
      Takes (cxOf (L2.CX P w) P w K mg base N x (defScope st) f cdv A outer s H E) (fun cls d _ H => E cls d H) → PassesOwn (model P w) (cxOf (L2.CX P w) P w K mg base N x (defScope st) f cdv A outer s H E).A (cxOf (L2.CX P w) P w K mg base N x (defScope st) f cdv A outer s H E).env (cxOf (L2.CX P w) P w K mg base N x (defScope st) f cdv A outer s H E).xe →
      PSsr (cxOf (L2.CX P w) P w K mg base N x (defScope st) f cdv A outer s H E) (fun cls d _ H => E cls d H) io (defBody st) body) : Cal P w K mg base x ps (k + 1) n (runB m io body) := by
  obtain ⟨f, fd, F, hx, bd⟩ := A
  exact ⟨f, fd, hx, fn_ok F S hn hm hio fun cdv A outer s H E hr => hb f cdv A outer s H E hr (takes_of rfl rfl rfl rfl) (passes_of rfl), F.kp, bd⟩
theorem ok_of {x : Str} {st : Stmt} {N ps : List Str} {k n m : Nat} {io : List Nat} {body : Env → SO} {f : Addr} {fd : FuncData} (F : Fun K x x st f fd) (S : FnScope N ps (defScope st)) (hn : ps.length = n) (hm : N.length = n + m) (hio : io.all (fun i => decide (i < n)) = true)
    (hb : ∀ (f : Addr) (cdv : Value) (A : Around) (outer : List PySem.Env) (s : Shared) (H : Hp) (E : XK), Room k (A.deeper (PyProof.Rows.envOfC x (defScope st) s.heap.objs.size f cdv)) →
      Takes (cxOf (L2.CX P w) P w K mg base N x (defScope st) f cdv A outer s H E) (fun cls d _ H => E cls d H) → PassesOwn (model P w) (cxOf (L2.CX P w) P w K mg base N x (defScope st) f cdv A outer s H E).A (cxOf (L2.CX P w) P w K mg base N x (defScope st) f cdv A outer s H E).env (cxOf (L2.CX P w) P w K mg base N x (defScope st) f cdv A outer s H E).xe →
      PSsr (cxOf (L2.CX P w) P w K mg base N x (defScope st) f cdv A outer s H E) (fun cls d _ H => E cls d H) io (defBody st) body) : FnOk P w K mg base (L2.CX P w) (k + 1) f fd ps (spOf K mg n (runB m io body)) :=
  fn_ok F S hn hm hio fun cdv A outer s H E hr => hb f cdv A outer s H E hr (takes_of rfl rfl rfl rfl) (passes_of rfl)
/-- the law's own def as it stands behind the top -/
def LawAt (K : PySem.W.Frag) (mg : Str → Option Value) (x : Str) (st : Stmt) (p : Str) : Prop := ∃ f fd, Fun K x x st f fd ∧ mg x = some (.ref f) ∧ ∀ (s : Shared) (u : Value), BindsTo s fd ⟨[u], []⟩ [(p, u)]
theorem law_end {fa : Addr} {x p : Str} {st : Stmt} {R : Heap → Addr → FuncData → Prop} (hfa : mg x = some (.ref fa)) (L : LawAt K mg x st p) (h : ∀ base f fd, Fun K x x st f fd → R base f fd) : ∃ fd : FuncData, (∀ (s : Shared) (u : Value), BindsTo s fd ⟨[u], []⟩ [(p, u)]) ∧ ∀ base : Heap, K.In base → base.Ns mainGlobals mg → R base fa fd := by
  obtain ⟨f, fd, F, hx, hb⟩ := L
  cases hfa.symm.trans hx
  exact ⟨fd, hb, fun base _ _ => h base fa fd F⟩
theorem law_at {h : Heap} (X : K.In h) (G : h.Ns mainGlobals mg) {x p : Str} {st : Stmt} {f : Addr} {oc : Value} {od an : Option Addr} {osl : Array (Option Value)} {kV doc pm cdv ct : Value}
    (a : PySem.W.nsIn K mainGlobals x = some (some (.ref f))) (l : K.lookup f = some ⟨oc, od, .func (PySem.W.fnOf x x (defArgs st) (defBody st) (defScope st) .none kV doc pm an cdv ct), osl⟩) (c : PySem.W.codeIn K cdv x = true) (k : PySem.W.keepIn K (.ref f) = true)
    (hb : ∀ (s : Shared) (u : Value), BindsTo s (PySem.W.fnOf x x (defArgs st) (defBody st) (defScope st) .none kV doc pm an cdv ct) ⟨[u], []⟩ [(p, u)]) : LawAt K mg x st p :=
  ⟨f, _, fun_mk l c k, PySem.W.mg_of X G a, hb⟩
theorem fun_at {h : Heap} (X : K.In h) (G : h.Ns mainGlobals mg) {x : Str} {st : Stmt} {ps : List Str} {f : Addr} {oc : Value} {od an : Option Addr} {osl : Array (Option Value)} {kV doc pm cdv ct : Value}
    (a : PySem.W.nsIn K mainGlobals x = some (some (.ref f))) (l : K.lookup f = some ⟨oc, od, .func (PySem.W.fnOf x x (defArgs st) (defBody st) (defScope st) .none kV doc pm an cdv ct), osl⟩) (c : PySem.W.codeIn K cdv x = true) (k : PySem.W.keepIn K (.ref f) = true)
    (hb : ∀ (kV doc pm : Value) (an : Option Addr) (cdv ct : Value) (us : List Value), us.length = ps.length → bindArgs (PySem.W.fnOf x x (defArgs st) (defBody st) (defScope st) .none kV doc pm an cdv ct) ⟨us, []⟩ = pure (ps.zip us)) : FunAt K mg x st ps :=
  ⟨f, _, fun_mk l c k, PySem.W.mg_of X G a, (fun_mk (st := st) l c k).binds hb⟩
theorem const_int {h : Heap} (X : K.In h) (G : h.Ns mainGlobals mg) {x : Str} {n : Int} {t : Tok} (a : PySem.W.nsIn K mainGlobals x = some (some (.int n t))) : Const mg x (.int n) := ⟨_, PySem.W.mg_of X G a, _, rfl⟩
theorem const_str {h : Heap} (X : K.In h) (G : h.Ns mainGlobals mg) {x y : Str} {t : Tok} (a : PySem.W.nsIn K mainGlobals x = some (some (.str y t))) : Const mg x (.str y) := ⟨_, PySem.W.mg_of X G a, _, rfl⟩
theorem exc_at {h : Heap} (X : K.In h) (G : h.Ns mainGlobals mg) {x : Str} {C : Addr} (a : PySem.W.nsIn K mainGlobals x = some (some (.ref C))) (e : PySem.W.excIn K C [.type "ValueError", .type "Exception", .type "BaseException", .type "object"] "ValueError.__new__" = true) (k : PySem.W.keepIn K (.ref C) = true)
    (b : PySem.W.subIn K (.ref C) (.type "BaseException") = some true) (t : PySem.W.typeIn K (.ref C) = some (.type "type")) : ExcT K mg x := ⟨C, PySem.W.mg_of X G a, e, k, b, t⟩
end
section
variable {X : Cx} {W : WX} {e : Expr} {es : List Expr} {pos : Pos}
theorem r_fn {j k n : Nat} {ps : List Str} {x : Str} {p : Pos} {Fm : List OD → FO} {fr : Env → O (List AR)} (c : Cal X.prog X.w X.K X.mg X.base x ps k n Fm) (tk : Takes X W) (hr : Room j X.A) (hk : k ≤ j) (ha : PCr X W (e :: es) fr) (hl : ∀ env ars, (fr env = .ok ars ∨ ∃ e, fr env = .eff ars e) → ars.length = n) (hg : Gl X x := by rfl) (hdb : (x == ("__debug__" : Str)) = false := by decide)
    (he : starEach (e :: es) X.env = (false, eval e X.env) :: starEach es X.env := by rfl) (hpl : (backTo pos (starEach es X.env)).any (·.1) = false := by rfl) : PEr X W (.Call (.Name x p) (e :: es) [] pos) (eCall Fm fr) := by
  obtain ⟨fn, fd, hm, F, hkp, hb⟩ := c
  exact r_call tk F (hr.mono hk) hm hkp hb ha hl hg hdb he hpl
def vD : V → D
  | .int i => .int i
  | .bl b => .bl b
  | .str x => .str x
  | _ => .non
theorem r_const_int {x : Str} {n : Int} {p : Pos} (c : Const X.mg x (.int n)) (hg : Gl X x := by rfl) (hd : (x == ("__debug__" : Str)) = false := by decide) : PEr X W (.Name x p) (eC (.int n)) := by
  obtain ⟨u, h1, h2⟩ := c
  exact r_glob hg h1 h2 (fun _ => .int) hd
theorem r_const_str {x y : Str} {p : Pos} (c : Const X.mg x (.str y)) (hg : Gl X x := by rfl) (hd : (x == ("__debug__" : Str)) = false := by decide) : PEr X W (.Name x p) (eC (.str y)) := by
  obtain ⟨u, h1, h2⟩ := c
  exact r_glob hg h1 h2 (fun _ => .str) hd
theorem hu65 {j : Nat} {A : Around} (hr : Room j A) : A.units + 65 < cLine := by have := hr.un; omega
end
/-- the end of a law -/
theorem walk_law {l : PySem.W.OpenLaw} {n k : Nat} {q : Program} {loose : List Str} {XP : (Str → Option Value) → Heap → Prop} {YP : World → Heap → Prop} {d : DefRec} {K : Params → PySem.W.Frag} {x : Str} {Fm : List OD → FO}
    (hn : l.most = some n) (hn2 : n ≤ sizeLine) (hdf : d.params.defaults = []) (hr : Room k PySem.callerA)
    (hY : ∀ (w : World) (h : Heap), YP w h → (K w.params).In h)
    (F : ∀ (w : World) (mg : Str → Option Value) (fa : Addr) (h : Heap), (K w.params).In h → h.Ns mainGlobals mg → mg d.name = some (.ref fa) →
      ∃ fd : FuncData, (∀ (s : Shared) (u : Value), BindsTo s fd ⟨[u], []⟩ [(x, u)]) ∧
        ∀ base : Heap, (K w.params).In base → base.Ns mainGlobals mg → FnOk l.prog w (K w.params) mg base (L2.CX l.prog w) k fa fd [x] (spOf (K w.params) mg 1 Fm))
    (hlaw : ∀ ns : List Int, ns.length ≤ n → ∃ r, Fm [scr ns] = .ret (.fz (.bl true)) r) :
    PySem.W.WalkO q loose XP YP l.row.toRowW d [] (fun f vs => PySem.call f vs) := by
  refine Att.attach_call hn hdf fun w s₀ s₁ mg mb fa o pm cd doc a vs ns G Y ho hd hcd hmg hobj hints hlen hg => ?_
  have KX := hY w _ Y
  obtain ⟨fd, hb, hF⟩ := F w mg fa _ KX G.T.g hmg
  exact law_call KX G.T.g G.T.b G.T.builtins G.T.nolimit hg hobj hints (Nat.le_trans hlen hn2) hr hF hb (fun H hO hS => law_sp hS (hlaw ns hlen) fun _ => rfl) fun H e s' z => by
    obtain ⟨_, _, _, _, _, _, _, _, _, _, _, _, z⟩ := z
    exact z
end Tl
namespace Tl
open PySem PySem.Spec L2

/-! ### sorted: ints; tuples of ints -/
def lexLe : List Int → List Int → Bool
  | [], _ => true
  | _ :: _, [] => false
  | a :: r, b :: q => decide (a < b) || (decide (a = b) && lexLe r q)
theorem lexLe_total : ∀ a b : List Int, (lexLe a b || lexLe b a) = true
  | [], _ => by simp [lexLe]
  | _ :: _, [] => by simp [lexLe]
  | a :: r, b :: q => by
    have := lexLe_total r q
    simp only [lexLe, Bool.or_eq_true, Bool.and_eq_true, decide_eq_true_eq] at this ⊢
    rcases Int.lt_trichotomy a b with h | h | h
    · exact .inl (.inl h)
    · subst h
      rcases this with k | k
      · exact .inl (.inr ⟨rfl, k⟩)
      · exact .inr (.inr ⟨rfl, k⟩)
    · exact .inr (.inl h)
theorem lexLe_trans : ∀ a b c : List Int, lexLe a b = true → lexLe b c = true → lexLe a c = true
  | [], _, _, _, _ => by simp [lexLe]
  | _ :: _, [], _, h, _ => by simp [lexLe] at h
  | _ :: _, _ :: _, [], _, h => by simp [lexLe] at h
  | a :: r, b :: q, c :: t, h, k => by
    simp only [lexLe, Bool.or_eq_true, Bool.and_eq_true, decide_eq_true_eq] at h k ⊢
    rcases h with h | ⟨h, h'⟩ <;> rcases k with k | ⟨k, k'⟩
    · exact .inl (by omega)
    · exact .inl (by omega)
    · exact .inl (by omega)
    · exact .inr ⟨by omega, lexLe_trans r q t h' k'⟩
theorem lexLe_anti : ∀ a b : List Int, lexLe a b = true → lexLe b a = true → a = b
  | [], [], _, _ => rfl
  | [], _ :: _, _, h => by simp [lexLe] at h
  | _ :: _, [], h, _ => by simp [lexLe] at h
  | a :: r, b :: q, h, k => by
    simp only [lexLe, Bool.or_eq_true, Bool.and_eq_true, decide_eq_true_eq] at h k
    rcases h with h | ⟨h, h'⟩ <;> rcases k with k | ⟨k, k'⟩
    · omega
    · omega
    · omega
    · rw [h, lexLe_anti r q h' k']
theorem lexLe_code {B : Int} : ∀ a b : List Int, a.length = b.length → TS.Bd B a → TS.Bd B b → TS.code B a ≤ TS.code B b → lexLe a b = true
  | [], _, _, _, _, _ => by simp [lexLe]
  | _ :: _, [], h, _, _, _ => by simp at h
  | a :: r, b :: q, hl, ha, hb, h => by
    have hl' : r.length = q.length := by simpa using hl
    simp only [lexLe, Bool.or_eq_true, Bool.and_eq_true, decide_eq_true_eq]
    rcases Int.lt_trichotomy a b with k | k | k
    · exact .inl k
    · subst k
      refine .inr ⟨rfl, lexLe_code r q hl' ha.tail hb.tail ?_⟩
      have := TS.code_same (B := B) (d := a) hl'.symm
      omega
    · have := TS.code_lt (B := B) hl'.symm hb.tail ha.tail k
      omega
def sortI (ns : List Int) : List Int := ns.mergeSort fun a b => decide (a ≤ b)
def sortT (nss : List (List Int)) : List (List Int) := nss.mergeSort lexLe
theorem sortI_eq {ns ms : List Int} (h : ms.Perm ns) (k : ms.Pairwise (· ≤ ·)) : ms = sortI ns := by
  refine List.Perm.eq_of_pairwise (le := fun a b => a ≤ b) (fun a b _ _ h k => by omega) k ?_ (h.trans (List.mergeSort_perm _ _).symm)
  exact (List.pairwise_mergeSort (fun a b c h k => by simp at *; omega) (fun a b => by simp; omega) ns).imp fun h => by simpa using h
theorem sortT_eq {ns ms : List (List Int)} (h : ms.Perm ns) (k : ms.Pairwise fun a b => lexLe a b = true) : ms = sortT ns :=
  List.Perm.eq_of_pairwise (le := fun a b => lexLe a b = true) (fun a b _ _ => lexLe_anti a b) k (List.pairwise_mergeSort lexLe_trans lexLe_total ns) (h.trans (List.mergeSort_perm _ _).symm)
def dTups : List D → Option (List (List Int))
  | [] => some []
  | .tup d :: ds => match dInts d, dTups ds with
    | some n, some ns => some (n :: ns)
    | _, _ => none
  | _ :: _ => none
def tupD (ns : List Int) : D := .tup (ns.map .int)
@[simp] theorem dTups_nil : dTups [] = some [] := by simp [dTups]
theorem dInts_id {ns : List Int} : dInts (ns.map D.int) = some ns := by
  have := dInts_map (xs := ns) (f := id)
  simpa using this
@[simp] theorem dTups_c {ns : List Int} {ds : List D} : dTups (.tup (ns.map .int) :: ds) = (dTups ds).map (ns :: ·) := by
  cases h : dTups ds <;> simp [dTups, dInts_id, h]
@[simp] theorem dTups_map {nss : List (List Int)} : dTups (nss.map tupD) = some nss := by
  induction nss with
  | nil => simp
  | cons n ns ih =>
    show dTups (.tup (n.map .int) :: ns.map tupD) = _
    rw [dTups_c, ih]; rfl
theorem dInts_of {ds : List D} {ns : List Int} (h : dInts ds = some ns) : ds = ns.map .int := by
  induction ds generalizing ns with
  | nil => simp at h; subst h; rfl
  | cons d ds ih =>
    cases d <;> first
      | (simp [dInts] at h; done)
      | (rw [dInts_cons] at h
         cases e : dInts ds with
         | none => rw [e] at h; cases h
         | some ms => rw [e] at h; cases h; rw [List.map_cons, ih e])
theorem dTups_of {ds : List D} {ns : List (List Int)} (h : dTups ds = some ns) : ds = ns.map tupD := by
  induction ds generalizing ns with
  | nil => simp at h; subst h; rfl
  | cons d ds ih =>
    cases d with
    | tup xs =>
      simp only [dTups] at h
      cases e : dInts xs with
      | none => rw [e] at h; cases h
      | some n =>
        cases e2 : dTups ds with
        | none => rw [e, e2] at h; cases h
        | some ms => rw [e, e2] at h; cases h; rw [List.map_cons, ih e2, dInts_of e]; rfl
    | _ => simp [dTups] at h
def bdAll (d : Nat) (nss : List (List Int)) : Bool := nss.all fun ns => ns.length == d && ns.all fun n => decide (0 ≤ n) && decide (n < 2 ^ 64)
def gSorted (rs : List RV) : Option RV := match rs with
  | [r] => match r.od.items with
    | some ds => match dInts ds with
      | some ns => some (.own (.lst (((sortI ns).map .int).map .fz)))
      | none => match dTups ds with
        | some nss => if nss.length < 64 ∧ 1 ≤ (nss.headD []).length ∧ bdAll (nss.headD []).length nss = true then some (.own (.lst (((sortT nss).map tupD).map .fz))) else none
        | none => none
    | none => none
  | _ => none
theorem RepL.perm {K : PySem.W.Frag} {B : Hp} {vs us : List V} (h : us.Perm vs) : ∀ {ds : List D}, RepL K B vs ds → ∃ es, RepL K B us es ∧ es.Perm ds := by
  induction h with
  | nil => intro ds h; cases h; exact ⟨[], .nil, .nil⟩
  | cons x _ ih => intro ds h; cases h with | cons r t => obtain ⟨es, a, b⟩ := ih t; exact ⟨_, .cons r a, b.cons _⟩
  | swap x y l => intro ds h; cases h with | cons r t => cases t with | cons r2 t => exact ⟨_, .cons r2 (.cons r t), .swap _ _ _⟩
  | trans _ _ ih1 ih2 => intro ds h; obtain ⟨es, a, b⟩ := ih2 h; obtain ⟨fs, c, d⟩ := ih1 a; exact ⟨fs, c, d.trans b⟩
theorem RepL.mem {K : PySem.W.Frag} {B : Hp} {vs : List V} {ds : List D} (h : RepL K B vs ds) {v : V} (m : v ∈ vs) : ∃ d ∈ ds, Rep K B v d := by
  induction vs generalizing ds with
  | nil => cases m
  | cons u vs ih =>
    cases h with
    | cons r t =>
      rcases List.mem_cons.mp m with e | m
      · subst e; exact ⟨_, by simp, r⟩
      · obtain ⟨d, a, b⟩ := ih t m; exact ⟨d, by simp [a], b⟩
theorem rep_tup {K : PySem.W.Frag} {B : Hp} {v : V} {ns : List Int} (h : Rep K B v (tupD ns)) : TupI K B v ns := by
  unfold tupD at h
  cases h with
  | tup k1 k2 => rw [RepL.dInts k2 dInts_id] at k1; exact ⟨_, rfl, k1⟩
theorem repL_int {K : PySem.W.Frag} {B : Hp} : ∀ ns : List Int, RepL K B (ns.map V.int) (ns.map D.int)
  | [] => .nil
  | n :: ns => .cons .int (repL_int ns)
theorem TupI.same {K : PySem.W.Frag} {B H : Hp} {v : V} {ns : List Int} (s : Same B H) (h : TupI K B v ns) : TupI K H v ns := by
  obtain ⟨t, rfl, h⟩ := h
  exact ⟨t, rfl, Same.seqT s h⟩
theorem repL_pw {K : PySem.W.Frag} {B : Hp} {R : V → V → Prop} {S : List Int → List Int → Prop} (hRS : ∀ u v n m, TupI K B u n → TupI K B v m → R u v → S n m) : ∀ {vs : List V} {nss : List (List Int)}, RepL K B vs (nss.map tupD) → vs.Pairwise R → nss.Pairwise S
  | [], [], _, _ => .nil
  | _ :: _, [], h, _ => nomatch h
  | [], _ :: _, h, _ => nomatch h
  | v :: vs, n :: nss, h, p => by
    cases h with
    | cons r t =>
      refine .cons (fun m hm => ?_) (repL_pw hRS t p.of_cons)
      have : ∃ u ∈ vs, TupI K B u m := by
        clear p
        induction vs generalizing nss with
        | nil => cases nss with | nil => cases hm | cons _ _ => nomatch t
        | cons u vs ih => cases nss with
          | nil => cases hm
          | cons k nss => cases t with | cons r2 t2 => rcases List.mem_cons.mp hm with e | hm
                                                       · subst e; exact ⟨u, by simp, rep_tup r2⟩
                                                       · obtain ⟨w, a, b⟩ := ih nss t2 hm; exact ⟨w, by simp [a], b⟩
      obtain ⟨u, hu, hm2⟩ := this
      exact hRS v u n m (rep_tup r) hm2 (List.rel_of_pairwise_cons p hu)
theorem callR_or {X : Cx} {f : Value} {r r' : List V → Hp → VK → Prop} (h : CallR X f r) (h' : CallR X f r') : CallR X f (fun vs H Q => r vs H Q ∨ r' vs H Q) := fun pins s σ H vs us Q I rv q => q.elim (h pins s σ H vs us Q I rv) (h' pins s σ H vs us Q I rv)
theorem b_sorted {X : Cx} : CallOk X (.builtin "sorted") gSorted := by
  refine ⟨fun vs H Q => rSortedI X.K vs H Q ∨ ∃ d B, 1 ≤ d ∧ rSortU X.K d B vs H Q, callR_or cr_sortedI (fun pins s σ H vs us Q I rv ⟨d, B, hd, q⟩ => cr_sortT hd pins s σ H vs us Q I rv q), fun B H G vs rs Q s h n q => ?_⟩
  dsimp only [gSorted] at q
  split at q
  · rename_i r
    obtain ⟨v, rfl, h2⟩ := lsR_one h
    split at q
    · rename_i ds e
      obtain ⟨p, vs, rfl, a1, a2⟩ := rv_items s h2 e
      split at q
      · rename_i ns e2
        have := RepL.dInts a2 e2
        subst this
        refine .inl ⟨p, ns, rfl, a1, fun ns' l h1 h2 hl => ?_⟩
        have e3 := sortI_eq h1 h2
        subst e3
        exact VPost.lst q s (repL_int _) hl
      · split at q
        · rename_i nss e2
          split at q
          · rename_i hc
            obtain ⟨h1, h2', h3⟩ := hc
            have e3 := dTups_of e2
            subst e3
            have hb : ∀ ns ∈ nss, ns.length = (nss.headD []).length ∧ TS.Bd (2 ^ 64) ns := fun ns m => by
              have := List.all_eq_true.mp h3 ns m
              simp only [Bool.and_eq_true, beq_iff_eq, List.all_eq_true, decide_eq_true_eq] at this
              exact ⟨this.1, fun m hm => this.2 m hm⟩
            refine .inr ⟨_, 2 ^ 64, h2', p, vs, rfl, a1, by rw [a2.length, List.length_map]; exact h1, fun x hx => ?_, fun ys l hp hw hl => ?_⟩
            · obtain ⟨d, hd, r⟩ := a2.mem hx
              obtain ⟨ns, hn, rfl⟩ := List.mem_map.mp hd
              exact ⟨ns, TupI.same s (rep_tup r), hb ns hn⟩
            · obtain ⟨es, r1, r2⟩ := a2.perm hp
              obtain ⟨mss, rfl, hm⟩ : ∃ mss : List (List Int), es = mss.map tupD ∧ mss.Perm nss := by
                have key : ∀ {as bs : List D}, as.Perm bs → ∀ ns : List (List Int), bs = ns.map tupD → ∃ ms : List (List Int), as = ms.map tupD ∧ ms.Perm ns := fun {as bs} h => by
                  induction h with
                  | nil => intro ns h; cases ns with | nil => exact ⟨[], rfl, .nil⟩ | cons _ _ => simp at h
                  | cons x _ ih => intro ns h; cases ns with
                    | nil => simp at h
                    | cons n ns => simp at h; obtain ⟨ms, a, b⟩ := ih ns h.2; exact ⟨n :: ms, by simp [h.1, a], b.cons _⟩
                  | swap x y l => intro ns h; match ns, h with
                    | n :: m :: ns, h => simp at h; exact ⟨m :: n :: ns, by simp [h.1, h.2.1, h.2.2], .swap _ _ _⟩
                  | trans _ _ ih1 ih2 => intro ns h; obtain ⟨ms, a, b⟩ := ih2 ns h; obtain ⟨ks, c, d⟩ := ih1 ms a; exact ⟨ks, c, d.trans b⟩
                exact key r2 nss rfl
              have pw : mss.Pairwise (fun a b => TS.code (2 ^ 64) a ≤ TS.code (2 ^ 64) b) := repL_pw (fun u v n m hu hv h => h n m (TupI.same s hu) (TupI.same s hv)) r1 hw
              have pw2 : mss.Pairwise (fun a b => lexLe a b = true) := pw.imp_of_mem fun {a b} ha hb' h => by
                obtain ⟨k1, k2⟩ := hb a (hm.mem_iff.mp ha)
                obtain ⟨k3, k4⟩ := hb b (hm.mem_iff.mp hb')
                exact lexLe_code a b (k1.trans k3.symm) k2 k4 h
              have e4 := sortT_eq hm pw2
              subst e4
              exact VPost.lst q s r1 hl
          · exact q.elim
        · exact q.elim
    · exact q.elim
  · exact q.elim
end Tl
namespace Tl
open PySem PySem.Spec L2

/-! ### working out mirrors -/
def D.ty : D → Ty
  | .non => .non
  | .bl _ => .bool
  | .int _ => .int
  | .str _ => .str
  | .tup _ => .tuple
  | .lst _ => .list
  | .scr _ => .list
  | .dK _ => .dict
  | .dT _ => .dict
section
variable {env e' : Env} {d : D} {i n : Nat} {o : OD} {β γ δ : Type}
@[simp] theorem eC_e : eC d env = .ok (.own (.fz d)) := id rfl
theorem eVar_e : eVar i env = match env[i]? with
  | some (.fz d) => .ok (.own (.fz d))
  | some .un => .bad
  | some o => .ok (.view o)
  | none => .bad := id rfl
@[simp] theorem eVar_fz (h : env[i]? = some (.fz d)) : eVar i env = .ok (.own (.fz d)) := by rw [eVar_e, h]
@[simp] theorem eVar_lst {os : List OD} (h : env[i]? = some (.lst os)) : eVar i env = .ok (.view (.lst os)) := by rw [eVar_e, h]
@[simp] theorem eVar_tup {os : List OD} (h : env[i]? = some (.tup os)) : eVar i env = .ok (.view (.tup os)) := by rw [eVar_e, h]
@[simp] theorem eVar_dK {os : List (Key × OD)} (h : env[i]? = some (.dK os)) : eVar i env = .ok (.view (.dK os)) := by rw [eVar_e, h]
@[simp] theorem eVar_dT {os : List (List Key × OD)} (h : env[i]? = some (.dT os)) : eVar i env = .ok (.view (.dT os)) := by rw [eVar_e, h]
@[simp] theorem eFrz_fz (h : env[i]? = some (.fz d)) : eFrz i env = .ok (.own (.fz d)) := by simp [eFrz, h]
theorem eFrz_o (h : env[i]? = some o) (hd : frz o = some d) (hn : ∀ d, o ≠ .fz d) : eFrz i env = .eff (.own (.fz d)) (env.set i (.fz d)) := by
  cases o <;> first | exact absurd rfl (hn _) | simp [eFrz, h, hd]
@[simp] theorem eFrz_lst {os : List OD} (h : env[i]? = some (.lst os)) : eFrz i env = match frz (.lst os) with
    | some d => .eff (.own (.fz d)) (env.set i (.fz d))
    | none => .bad := by first | (unfold eFrz; rw [h]; done) | (unfold eFrz; rw [h]; rfl)
@[simp] theorem eMove_fz (h : env[i]? = some (.fz d)) : eMove i env = .eff (.own (.fz d)) (env.set i .un) := by simp [eMove, h]
@[simp] theorem eMove_lst {os : List OD} (h : env[i]? = some (.lst os)) : eMove i env = .eff (.own (.lst os)) (env.set i .un) := by simp [eMove, h]
@[simp] theorem eMove_tup {os : List OD} (h : env[i]? = some (.tup os)) : eMove i env = .eff (.own (.tup os)) (env.set i .un) := by simp [eMove, h]
@[simp] theorem at_ok {safe : β → Bool} {a : β} {k : β → Env → O γ} {j : β → γ → δ} : O.andThen safe (.ok a) env k j = match k a env with
    | .ok b => .ok (j a b)
    | .eff b env2 => if safe a then .eff (j a b) env2 else .bad
    | .exc c e => .exc c e
    | .bad => .bad := id rfl
@[simp] theorem at_eff {safe : β → Bool} {a : β} {k : β → Env → O γ} {j : β → γ → δ} : O.andThen safe (.eff a e') env k j = match k a e' with
    | .ok b => .eff (j a b) e'
    | .eff b env2 => if safe a then .eff (j a b) env2 else .bad
    | .exc c e => .exc c e
    | .bad => .bad := id rfl
@[simp] theorem at_exc {safe : β → Bool} {c : Str} {k : β → Env → O γ} {j : β → γ → δ} : O.andThen safe (.exc c e') env k j = .exc c e' := id rfl
@[simp] theorem mp_ok {g : β → Option γ} {a : β} : O.mapP g (.ok a) = match g a with
    | some b => .ok b
    | none => .bad := id rfl
@[simp] theorem mp_eff {g : β → Option γ} {a : β} : O.mapP g (.eff a e') = match g a with
    | some b => .eff b e'
    | none => .bad := id rfl
@[simp] theorem mp_exc {g : β → Option γ} {c : Str} : O.mapP g (.exc c e') = .exc c e' := id rfl
@[simp] theorem e1_e {g : RV → Option RV} {f : Env → O RV} : e1 g f env = (f env).mapP g := id rfl
@[simp] theorem e2_e {g : RV × RV → Option RV} {f f2 : Env → O RV} : e2 g f f2 env = ((f env).andThen RV.safe env (fun _ e => f2 e) Prod.mk).mapP g := id rfl
@[simp] theorem e3c_e {g g' : RV × RV → Option RV} {fa fb fc : Env → O RV} : e3c g g' fa fb fc env = (((fa env).andThen RV.safe env (fun _ e => fb e) Prod.mk).mapP (ch1 g)).andThen (fun _ => true) env (fun p e => if p.1 = true then (fc e).mapP fun r => g' (.own (.fz (.int p.2)), r) else .ok (.own (.fz (.bl false)))) (fun _ c => c) := id rfl
@[simp] theorem aNil_e : aNil env = .ok [] := id rfl
@[simp] theorem aCons_e {f : Env → O RV} {r : Env → O (List RV)} : aCons f r env = (f env).andThen RV.safe env (fun _ e => r e) List.cons := id rfl
@[simp] theorem eL_e {g : List RV → Option RV} {f : Env → O (List RV)} : eL g f env = (f env).mapP g := id rfl
@[simp] theorem tV_e {g : RV → Option Bool} {f : Env → O RV} : tV g f env = (f env).mapP g := id rfl
@[simp] theorem bNot_e {f : Env → O Bool} : bNot f env = (f env).mapP fun b => some (!b) := id rfl
@[simp] theorem bAnd_e {f g : Env → O Bool} : bAnd f g env = (f env).andThen (fun _ => true) env (fun b e => if b = true then g e else .ok false) (fun _ c => c) := id rfl
@[simp] theorem bOr_e {f g : Env → O Bool} : bOr f g env = (f env).andThen (fun _ => true) env (fun b e => if b = true then .ok true else g e) (fun _ c => c) := id rfl
@[simp] theorem eB_e {f : Env → O Bool} : eB f env = (f env).mapP fun b => some (.own (.fz (.bl b))) := id rfl
@[simp] theorem eAnd_e {f g : Env → O RV} : eAnd f g env = ((f env).mapP RV.bool?).andThen (fun _ => true) env (fun b e => if b = true then g e else .ok (.own (.fz (.bl false)))) (fun _ c => c) := id rfl
@[simp] theorem eOr_e {f g : Env → O RV} : eOr f g env = ((f env).mapP RV.bool?).andThen (fun _ => true) env (fun b e => if b = true then .ok (.own (.fz (.bl true))) else g e) (fun _ c => c) := id rfl
@[simp] theorem bIf_e {c : Env → O Bool} {f g : Env → O β} : bIf c f g env = (c env).andThen (fun _ => true) env (fun b e => if b = true then f e else g e) (fun _ d => d) := id rfl
@[simp] theorem sE_e {f : Env → O β} {k : β → Env → SO} : sE f k env = match f env with
    | .ok r => k r env
    | .eff r e => k r e
    | .exc c e => .exc c e
    | .bad => .bad := id rfl
@[simp] theorem sSeq_e {f g : Env → SO} : sSeq f g env = match f env with
    | .nx e => g e
    | o => o := id rfl
@[simp] theorem sNx_e : sNx env = .nx env := id rfl
@[simp] theorem sBk_e : sBk env = .bk env := id rfl
@[simp] theorem sCt_e : sCt env = .ct env := id rfl
@[simp] theorem sRetN_e : sRetN env = .rt (.fz .non) env := id rfl
@[simp] theorem sRaise_e {c : Str} : sRaise c env = .exc c env := id rfl
@[simp] theorem sExpr_e {f : Env → O RV} : sExpr f env = sE f (fun _ e => .nx e) env := id rfl
@[simp] theorem kRet_own : kRet (.own o) env = .rt o env := id rfl
@[simp] theorem kRet_view : kRet (.view o) env = .bad := id rfl
@[simp] theorem sRet_e {f : Env → O RV} : sRet f env = sE f kRet env := id rfl
@[simp] theorem sIf_e {c : Env → O Bool} {f g : Env → SO} : sIf c f g env = sE c (fun b e => if b = true then f e else g e) env := id rfl
@[simp] theorem kAsg_own {g : OD → Env → Option Env} : kAsg g (.own o) env = match g o env with
    | some e' => .nx e'
    | none => .bad := id rfl
@[simp] theorem sAsg_e {f : Env → O RV} {g : OD → Env → Option Env} : sAsg f g env = sE f (kAsg g) env := id rfl
@[simp] theorem gSet_e (h : i < env.length) : gSet i o env = some (env.set i o) := by simp [gSet, h]
@[simp] theorem safe_fz : RV.safe (.own (.fz d)) = true := id rfl
@[simp] theorem bool_b {b : Bool} {r : RV} (h : r.od = .fz (.bl b)) : r.bool? = some b := by unfold RV.bool?; rw [h]
@[simp] theorem tru_bl {b : Bool} : OD.tru (.fz (.bl b)) = some b := id rfl
theorem g2i_e {op : Int → Int → Option D} {a b : Int} : g2i op (.own (.fz (.int a)), .own (.fz (.int b))) = (op a b).map fun d => .own (.fz d) := id rfl
@[simp] theorem gAdd_i {a b : Int} : gAdd (.own (.fz (.int a)), .own (.fz (.int b))) = some (.own (.fz (.int (a + b)))) := id rfl
@[simp] theorem gNeg_i {a : Int} : gNeg (.own (.fz (.int a))) = some (.own (.fz (.int (-a)))) := id rfl
@[simp] theorem gEq_e {x y : D} (h1 : dOk x = true) (h2 : dOk y = true) : gEq (.own (.fz x), .own (.fz y)) = some (.own (.fz (.bl (dEq x y)))) := by simp [gEq, OD.plain, h1, h2]
@[simp] theorem dOk_i {a : Int} : dOk (.int a) = true := by simp [dOk, SeqAt.shaped, pd, PyData.canLay0, PyData.depth]
@[simp] theorem dOk_b {a : Bool} : dOk (.bl a) = true := by simp [dOk, SeqAt.shaped, pd, PyData.canLay0, PyData.depth]
@[simp] theorem dOk_s {a : Str} (h : PyData.strOk a = true) : dOk (.str a) = true := by simp [dOk, SeqAt.shaped, pd, PyData.canLay0, h, PyData.depth]
@[simp] theorem dOk_n : dOk .non = true := by simp [dOk, SeqAt.shaped, pd, PyData.canLay0, PyData.depth]
@[simp] theorem dEq_i {a b : Int} : dEq (.int a) (.int b) = (a == b) := by simp [dEq, pd, PyData.eqv]
@[simp] theorem dEq_b {a b : Bool} : dEq (.bl a) (.bl b) = (a == b) := by simp [dEq, pd, PyData.eqv]
@[simp] theorem g2i_iDiv {a b : Int} : g2i iDiv (.own (.fz (.int a)), .own (.fz (.int b))) = (iDiv a b).map fun d => .own (.fz d) := id rfl
@[simp] theorem g2i_iMod {a b : Int} : g2i iMod (.own (.fz (.int a)), .own (.fz (.int b))) = (iMod a b).map fun d => .own (.fz d) := id rfl
@[simp] theorem g2i_iPow {a b : Int} : g2i iPow (.own (.fz (.int a)), .own (.fz (.int b))) = (iPow a b).map fun d => .own (.fz d) := id rfl
@[simp] theorem g2i_iShl {a b : Int} : g2i iShl (.own (.fz (.int a)), .own (.fz (.int b))) = (iShl a b).map fun d => .own (.fz d) := id rfl
@[simp] theorem g2i_iShr {a b : Int} : g2i iShr (.own (.fz (.int a)), .own (.fz (.int b))) = (iShr a b).map fun d => .own (.fz d) := id rfl
theorem log2_small {n : Nat} (h : n < 2 ^ 64) : n.log2 < 9000 := by
  by_cases e : n = 0
  · subst e; decide
  · have := (Nat.log2_lt e).mpr h; omega
@[simp] theorem iDiv_e {a b : Int} (h : 0 < b) (h2 : b < 2 ^ 64) : iDiv a b = some (.int (a / b)) := by
  have : b.natAbs.log2 < 9000 := log2_small (by omega)
  simp [iDiv, h, this]
@[simp] theorem iMod_e {a b : Int} (h : 0 < b) : iMod a b = some (.int (a % b)) := by simp [iMod, h]
@[simp] theorem iPow_e {a b : Int} (h : 0 ≤ b) (h2 : b ≤ 1000000) (h3 : a.natAbs < 2 ^ 64) : iPow a b = some (.int (a ^ b.toNat)) := by simp only [iPow, h, h2, h3, and_self, if_true]
@[simp] theorem gMul_i {a b : Int} (h : mulSafe a b) : gMul (.own (.fz (.int a)), .own (.fz (.int b))) = some (.own (.fz (.int (a * b)))) := by simp [gMul, h]
theorem mulSafe_l {a b : Int} (h : -(2 ^ 64) < a ∧ a < 2 ^ 64) : mulSafe a b := .inl h
theorem mulSafe_r {a b : Int} (h : -(2 ^ 64) < b ∧ b < 2 ^ 64) : mulSafe a b := .inr (.inl h)
@[simp] theorem mulSafe_e {a b : Int} (h : -(2 ^ 64) < a) (h' : a < 2 ^ 64) : mulSafe a b := .inl ⟨h, h'⟩
@[simp] theorem mulSafe_e' {a b : Int} (h : -(2 ^ 64) < b) (h' : b < 2 ^ 64) : mulSafe a b := .inr (.inl ⟨h, h'⟩)
@[simp] theorem iSub_e {a b : Int} : g2i (fun i j => some (iSub i j)) (.own (.fz (.int a)), .own (.fz (.int b))) = some (.own (.fz (.int (a - b)))) := id rfl
@[simp] theorem iLt_e {a b : Int} : g2i (fun i j => some (iLt i j)) (.own (.fz (.int a)), .own (.fz (.int b))) = some (.own (.fz (.bl (decide (a < b))))) := id rfl
@[simp] theorem iLe_e {a b : Int} : g2i (fun i j => some (iLe i j)) (.own (.fz (.int a)), .own (.fz (.int b))) = some (.own (.fz (.bl (decide (a ≤ b))))) := id rfl
@[simp] theorem iGt_e {a b : Int} : g2i (fun i j => some (iGt i j)) (.own (.fz (.int a)), .own (.fz (.int b))) = some (.own (.fz (.bl (decide (b < a))))) := id rfl
@[simp] theorem iGe_e {a b : Int} : g2i (fun i j => some (iGe i j)) (.own (.fz (.int a)), .own (.fz (.int b))) = some (.own (.fz (.bl (decide (b ≤ a))))) := id rfl
@[simp] theorem gath_nil : gath [] env = some ([], env) := by simp [gath]
@[simp] theorem gath_rv {as : List AR} : gath (.rv (.own (.fz d)) :: as) env = match gath as env with
      | some (ds, e) => some (.fz d :: ds, e)
      | none => none := by cases h : gath as env <;> simp [gath, RV.plainArg, h]
@[simp] theorem callAt_e {Fm : List OD → FO} {ars : List AR} {t : Bool} : callAt Fm ars env t = match gath ars env with
    | none => .bad
    | some (ds, envh) => if (looks ars && (hasIo ars || hasTmp ars)) = true then .bad else
      match Fm ds with
      | .ret o ds' => if (lends ars && !(nfo o && nfIo ars ds')) = true then .bad else if (hasIo ars || t) = true then .eff (.own o) (putB ars ds' envh) else .ok (.own o)
      | .exc c ds' => if (lends ars && !(nfIo ars ds')) = true then .bad else .exc c (putB ars ds' envh)
      | .bad => .bad := id rfl
@[simp] theorem gath_v {as : List AR} : gath (.rv (.view o) :: as) env = match (RV.view o).plainArg with
    | some d => match gath as env with
      | some (ds, e) => some (.fz d :: ds, e)
      | none => none
    | none => none := by cases h : gath as env <;> cases h2 : (RV.view o).plainArg <;> simp [gath, h, h2]
@[simp] theorem plainArg_l {os : List OD} : (RV.view (.lst os)).plainArg = (frzL os).map .lst := by simp [RV.plainArg, frz]
@[simp] theorem plainArg_t {os : List OD} : (RV.view (.tup os)).plainArg = (frzL os).map .tup := by simp [RV.plainArg, frz]
@[simp] theorem frzL_n : frzL [] = some [] := by simp [frzL]
@[simp] theorem frzL_c {os : List OD} : frzL (.fz d :: os) = (frzL os).map (d :: ·) := by cases h : frzL os <;> simp [frzL, frz, h]
@[simp] theorem looks_v {as : List AR} (h : (RV.view o).lent = true) : looks (.rv (.view o) :: as) = true := by simp [looks, h]
@[simp] theorem lends_v {as : List AR} (h : (RV.view o).lent = true) : lends (.rv (.view o) :: as) = true := by simp [lends, h]
@[simp] theorem lent_l {os : List OD} : (RV.view (.lst os)).lent = true := by simp [RV.lent]
@[simp] theorem lent_t {os : List OD} : (RV.view (.tup os)).lent = true := by simp [RV.lent]
@[simp] theorem hasTmp_n : hasTmp [] = false := by simp [hasTmp]
@[simp] theorem hasTmp_c {as : List AR} {r : RV} : hasTmp (.rv r :: as) = hasTmp as := by simp [hasTmp]
@[simp] theorem nfo_b {b : Bool} : nfo (.fz (.bl b)) = true := by simp [nfo, nfl]
@[simp] theorem nfo_i {b : Int} : nfo (.fz (.int b)) = true := by simp [nfo, nfl]
@[simp] theorem nfo_s {b : Str} : nfo (.fz (.str b)) = true := by simp [nfo, nfl]
@[simp] theorem nfo_n : nfo (.fz .non) = true := by simp [nfo, nfl]
@[simp] theorem nfIo_n {ds : List OD} : nfIo [] ds = true := by simp [nfIo]
@[simp] theorem nfIo_c {as : List AR} {ds : List OD} {r : RV} : nfIo (.rv r :: as) (o :: ds) = nfIo as ds := by simp [nfIo]
@[simp] theorem gNe_e {x y : D} (h1 : dOk x = true) (h2 : dOk y = true) : gNe (.own (.fz x), .own (.fz y)) = some (.own (.fz (.bl (!dEq x y)))) := by simp [gNe, OD.plain, h1, h2]
@[simp] theorem looks_nil : looks [] = false := by simp [looks]
@[simp] theorem lends_nil : lends [] = false := by simp [lends]
@[simp] theorem hasIo_nil : hasIo [] = false := by simp [hasIo]
@[simp] theorem looks_fz {as : List AR} : looks (.rv (.own (.fz d)) :: as) = looks as := by simp [looks]
@[simp] theorem lends_fz {as : List AR} : lends (.rv (.own (.fz d)) :: as) = lends as := by simp [lends, RV.lent]
@[simp] theorem hasIo_rv {as : List AR} {r : RV} : hasIo (.rv r :: as) = hasIo as := by simp [hasIo]
@[simp] theorem ty_n : D.ty .non = .non := id rfl
@[simp] theorem ty_b {b : Bool} : D.ty (.bl b) = .bool := id rfl
@[simp] theorem ty_i {b : Int} : D.ty (.int b) = .int := id rfl
@[simp] theorem ty_s {b : Str} : D.ty (.str b) = .str := id rfl
@[simp] theorem ty_t {b : List D} : D.ty (.tup b) = .tuple := id rfl
@[simp] theorem ty_l {b : List D} : D.ty (.lst b) = .list := id rfl
@[simp] theorem ty_c {b : List D} : D.ty (.scr b) = .list := id rfl
@[simp] theorem isi_fz {T : Ty} : gIsi T (.own (.fz d)) = some (.own (.fz (.bl (d.ty.is T)))) := by cases d <;> rfl
@[simp] theorem isi_lst {T : Ty} {os : List OD} : gIsi T (.own (.lst os)) = some (.own (.fz (.bl (Ty.list.is T)))) := id rfl
@[simp] theorem isi_vlst {T : Ty} {os : List OD} : gIsi T (.view (.lst os)) = some (.own (.fz (.bl (Ty.list.is T)))) := id rfl
@[simp] theorem isi_vtup {T : Ty} {os : List OD} : gIsi T (.view (.tup os)) = some (.own (.fz (.bl (Ty.tuple.is T)))) := id rfl
@[simp] theorem gStr_e {a : Int} (h : a.natAbs < 2 ^ 64) : gStr [.own (.fz (.int a))] = some (.own (.fz (.str (toString a)))) := by
  have : a.natAbs.log2 < 1920 := by
    by_cases e : a.natAbs = 0
    · rw [e]; decide
    · have := (Nat.log2_lt e).mpr h; omega
  show (if a.natAbs.log2 < 1920 then _ else _) = _
  rw [if_pos this]
@[simp] theorem ow_n : owns [] = some [] := by simp [owns]
@[simp] theorem ow_c {rs : List RV} : owns (.own o :: rs) = (owns rs).map (o :: ·) := by cases h : owns rs <;> simp [owns, h]
@[simp] theorem gLst_e {rs : List RV} {os : List OD} (h : rs.length ≤ 1000) (h2 : owns rs = some os) : gLst rs = some (.own (.lst os)) := by simp [gLst, h, h2]
@[simp] theorem gTup_e {rs : List RV} {os : List OD} {ds : List D} (h : rs.length ≤ 1000) (h2 : owns rs = some os) (h3 : fzs os = some ds) : gTup rs = some (.own (.fz (.tup ds))) := by simp [gTup, h, h2, h3]
@[simp] theorem fz_n : fzs [] = some [] := by simp [fzs]
@[simp] theorem fzs_fz {os : List OD} : fzs (.fz d :: os) = (fzs os).map (d :: ·) := by cases h : fzs os <;> simp [fzs, h]
@[simp] theorem eSl3_e {f : Env → O RV} {g h : Env → O (Option Int)} : eSl3 f g h env = ((f env).andThen RV.safe env (fun _ e => (g e).andThen (fun _ => true) e (fun _ e => h e) Prod.mk) (fun a b => ((a, b.1), b.2))).mapP gSl := id rfl
@[simp] theorem pNo_e : pNo env = .ok none := id rfl
@[simp] theorem pSo_e {f : Env → O RV} : pSo f env = (f env).mapP fun r => r.int?.map some := id rfl
@[simp] theorem int_fz {a : Int} : RV.int? (.own (.fz (.int a))) = some a := id rfl
@[simp] theorem gSl_scr {ds : List D} {lo hi : Option Int} : gSl ((.own (.fz (.scr ds)), lo), hi) = some (.own (.lst ((cutD ds lo hi).map .fz))) := id rfl
@[simp] theorem gSl_lst {ds : List D} {lo hi : Option Int} : gSl ((.own (.fz (.lst ds)), lo), hi) = some (.own (.lst ((cutD ds lo hi).map .fz))) := id rfl
@[simp] theorem gSl_tup {ds : List D} {lo hi : Option Int} : gSl ((.own (.fz (.tup ds)), lo), hi) = some (.own (.fz (.tup (cutD ds lo hi)))) := id rfl
theorem gSl_o {os : List OD} {ds : List D} {lo hi : Option Int} (h : fzs os = some ds) : gSl ((.own (.lst os), lo), hi) = some (.own (.lst ((cutD ds lo hi).map .fz))) := by
  show (match fzs os with | some ds => some (RV.own (.lst ((cutD ds lo hi).map .fz))) | none => _) = _
  rw [h]
theorem gSl_v {os : List OD} {ds : List D} {lo hi : Option Int} (h : fzs os = some ds) : gSl ((.view (.lst os), lo), hi) = some (.own (.lst ((cutD ds lo hi).map .fz))) := by
  show (match fzs os with | some ds => some (RV.own (.lst ((cutD ds lo hi).map .fz))) | none => _) = _
  rw [h]
theorem gAdd_l {r u : RV} {os us : List OD} {xs ys : List D} (hr : r.od = .lst os) (hu : u.od = .lst us) (h1 : fzs os = some xs) (h2 : fzs us = some ys) (h3 : xs.length + ys.length ≤ sizeLine) : gAdd (r, u) = some (.own (.lst ((xs ++ ys).map .fz))) := by
  unfold gAdd
  rw [hr, hu]
  show (match fzs os, fzs us with
    | some xs, some ys => if xs.length + ys.length ≤ sizeLine then some (RV.own (.lst ((xs ++ ys).map .fz))) else none
    | _, _ => _) = _
  rw [h1, h2]
  exact if_pos h3
/-- a cut of any list -/
def cutL {α : Type} (xs : List α) (lo hi : Option Int) : List α := (xs.drop (HT.sIx xs.length 0 lo)).take (HT.sIx xs.length xs.length hi - HT.sIx xs.length 0 lo)
theorem cutD_map {α : Type} {xs : List α} {f : α → D} {lo hi : Option Int} : cutD (xs.map f) lo hi = (cutL xs lo hi).map f := by
  unfold cutD cutL
  rw [List.length_map, List.map_take, List.map_drop]
theorem cutL_len {α : Type} {xs : List α} {lo hi : Option Int} : (cutL xs lo hi).length ≤ xs.length := by
  unfold cutL
  rw [List.length_take, List.length_drop]
  omega
@[simp] theorem items_lst {ds : List D} : gItems (.own (.lst (ds.map .fz))) = some ds := by simp [gItems, OD.sitems]
@[simp] theorem items_flst {ds : List D} : gItems (.own (.fz (.lst ds))) = some ds := by simp [gItems, OD.sitems]
@[simp] theorem items_scr {ds : List D} : gItems (.own (.fz (.scr ds))) = some ds := by simp [gItems, OD.sitems]
@[simp] theorem items_tup {ds : List D} : gItems (.own (.fz (.tup ds))) = some ds := by simp [gItems, OD.sitems]
@[simp] theorem sFor_e {f : Env → O (List D)} {g : OD → Env → Option Env} {body : Env → SO} : sFor f g body env = sE f (forGo g body) env := id rfl
/-- a loop that goes to its end, by what holds behind each turn -/
theorem for_all {P : Env → Prop} {g : OD → Env → Option Env} {body : Env → SO} {ds : List D} (h0 : P env) (h : ∀ d ∈ ds, ∀ env, P env → ∃ e1 e2, g (.fz d) env = some e1 ∧ (body e1 = .nx e2 ∨ body e1 = .ct e2) ∧ P e2) : ∃ e, forGo g body ds env = .nx e ∧ P e := by
  induction ds generalizing env with
  | nil => exact ⟨env, rfl, h0⟩
  | cons d ds ih =>
    obtain ⟨e1, e2, a, b, c⟩ := h d (by simp) env h0
    obtain ⟨e3, a3, b3⟩ := ih c fun d m => h d (by simp [m])
    refine ⟨e3, ?_, b3⟩
    dsimp only [forGo]
    rw [a]
    rcases b with b | b <;> (simp only [b]; exact a3)
@[simp] theorem cNil_e : cNil env = .ok [] := id rfl
@[simp] theorem cVal_e {f : Env → O RV} {r : Env → O (List AR)} : cVal f r env = (f env).andThen RV.safe env (fun _ e => r e) (fun a b => .rv a :: b) := id rfl
@[simp] theorem eCall_e {Fm : List OD → FO} {f : Env → O (List AR)} : eCall Fm f env = match f env with
    | .ok ars => callAt Fm ars env false
    | .eff ars env1 => callAt Fm ars env1 true
    | .exc c e => .exc c e
    | .bad => .bad := id rfl
end
end Tl
namespace EnT
open PySem
open PySem.Sem (wp)
open AutoSeq1 (wpAny_loadPart')
/-! ### enumerate of a tuple -/
abbrev eT1 (h : Heap) (t : Addr) : Heap := h.push { cls := .type "tuple_iterator", data := .fields #[.ref t, .int 0 0] }
abbrev eT2 (h : Heap) (t : Addr) : Heap := (eT1 h t).push { cls := .type "enumerate", data := .fields #[.none, .bool false, .ref h.objs.size, rawInt 0, .none, .none] }
theorem enumT_new (t : Addr) (xs : Array Value) :
    Meets (Builtin.«enumerate.__new__» ⟨[.type "enumerate", .ref t], []⟩) (fun _ R s => s.heap.IsTuple t xs ∧ R (.ok (.ret (.ref (eT1 s.heap t).objs.size))) { s with heap := eT2 s.heap t }) :=
  .of_wp fun prog w A R s h => by
    obtain ⟨hp, g, d, tk, os⟩ := s
    obtain ⟨hl, h⟩ := h
    obtain ⟨⟨c, dct, dt, sl⟩, hg, hc, n, hd⟩ := id hl
    replace hc : c = .type "tuple" := hc
    replace hd : dt = .seq xs n := hd
    subst hc hd
    have hsub := sub_enumerate
    have hT : Heap.IsTuple (Shared.heap ⟨hp, g, d, tk, os⟩) t xs := hl
    wp_walk using wpAny_loadPart' hg
    refine wpAny_stack_any fun st => wpAny_pure ?_
    split
    · rename_i c _ _ _ _ _
      cases (c == Value.type "enumerate")
      · wp_walk using wpAny_loadPart' hg, wpAny_pyIter_tuple hT
        exact ⟨_, rfl, h⟩
      · wp_walk using wpAny_loadPart' hg, wpAny_pyIter_tuple hT
        exact ⟨_, rfl, h⟩
    · wp_walk using wpAny_loadPart' hg, wpAny_pyIter_tuple hT
      exact ⟨_, rfl, h⟩
section
variable {prog : Program} {w : World} {A : Around} {E : Value → Shared → Prop} {s : Shared}
theorem call_enumT {t : Addr} {xs : Array Value} {Q : Value → Shared → Prop} (hl : s.heap.IsTuple t xs)
    (h : ∀ h', IsEnum h' (s.heap.objs.size + 1) s.heap.objs.size 0 .none → h'.IsTupleIter s.heap.objs.size t 0 → h'.objs.size = s.heap.objs.size + 2 →
      (∀ b o, s.heap.get? b = some o → h'.get? b = some o) → Q (.ref (s.heap.objs.size + 1)) { s with heap := h' }) :
    wpAny (model prog w) A (call (.type "enumerate") [.ref t]) Q E s := by
  refine callType_new F.called_enumerate (by decide) (F.typeCall_enumerate_1 _) (F.newCall_enumerate_1 _) (fun obj => F.args_object_init_2 obj _) F.entry_enumerate_new
    (enumT_new t xs) ⟨hl, ?_⟩
  have hz : (eT1 s.heap t).objs.size = s.heap.objs.size + 1 := Heap.size_push ..
  show _ ∧ _
  rw [hz]
  have he : IsEnum (eT2 s.heap t) (s.heap.objs.size + 1) s.heap.objs.size 0 .none := by
    have := Heap.get?_push_size (eT1 s.heap t) (o := { cls := .type "enumerate", data := .fields #[.none, .bool false, .ref s.heap.objs.size, rawInt 0, .none, .none] }) rfl
    rw [hz] at this; exact this
  refine ⟨⟨_, he, rfl⟩, h _ he ⟨_, Heap.get?_push_of_some _ (Heap.get?_push_size _ rfl), rfl, rfl⟩ (by rw [Heap.size_push, hz]) fun b o x => Heap.get?_push_of_some _ (Heap.get?_push_of_some _ x)⟩
theorem drawsT (hh : A.handled = none) (it t : Addr) (hne : t ≠ it) (items : Array Value) : Draws prog w A it [it, t] items.size (fun i v => items[i]? = some v) (fun i h => h.IsTupleIter it t i ∧ h.IsTuple t items) where
  live := fun i h st => let ⟨⟨o, ho, _⟩, _⟩ := st; ⟨o, ho⟩
  frame := fun i h h' st k => by
    obtain ⟨h1, o, ho, r⟩ := st
    exact ⟨h1.at fun o q => k it (by simp) o q, o, k t (by simp) o ho, r⟩
  item := fun i s Q E hi st hQ => by
    obtain ⟨h1, h2⟩ := st
    refine RZ.nextOf_tuple_item h1 h2 (x := items[i]) (by simp [hi]) fun h' h1' sb => ?_
    obtain ⟨o, ho, r⟩ := id h2
    exact hQ items[i] h' s.toks (by simp [hi]) ⟨h1', o, (sb.2 _ hne).trans ho, r⟩ sb
  done := fun s Q E st hE => RZ.nextOf_tuple_end hh st.1 st.2 (by simp) hE
end
end EnT
namespace Tl
open PySem PySem.Spec L2
/-- the tuple at a as it stands at each turn, each item in a new pair -/
def IteT (K : PySem.W.Frag) (a : Addr) : It :=
  ⟨fun i H => ∃ (xs : List V) (x : V), SqT K H a xs ∧ xs[i]? = some x, fun i H v H' => ∃ T x, v = .ref T ∧ H T = none ∧ H' = upd H T (.tup [.int (i : Nat), x]) ∧ ∀ xs, SqT K H a xs → xs[i]? = some x, fun i H => ∃ xs : List V, SqT K H a xs ∧ xs.length = i⟩
theorem turn_enumT {P : Program} {w : World} {K : PySem.W.Frag} {elts : List Expr} {kk : Nat} {tpos : Pos} (a e it : Addr) :
    Turn P w K (.Tuple elts kk tpos) (IteT K a) [e, it] e (fun i h => (∃ old, IsEnum h e it ((i : Nat) : Int) old) ∧ h.IsTupleIter it a i ∧ e ≠ it ∧ a ≠ it) where
  mem := by simp
  obj := fun i h st b hb => by
    obtain ⟨⟨old, he⟩, ⟨o, ho, hc, hd⟩, _⟩ := st
    have e' : b = e ∨ b = it := by simpa using hb
    rcases e' with z | z
    · rw [z]; exact ⟨_, he, fun v q => nomatch q⟩
    · rw [z]; exact ⟨o, ho, fun v q => by rw [hd] at q; cases q⟩
  keep := fun i h h' st k => let ⟨⟨old, he⟩, hi, hne⟩ := st; ⟨⟨old, k e (by simp) _ he⟩, hi.at fun o q => k it (by simp) o q, hne⟩
  item := by
    intro X hP hw hK hc i pins s σ H E I hf st hg
    subst hP hw hK
    obtain ⟨⟨old, he⟩, hit, hne, hae⟩ := st
    obtain ⟨xs, x, hq, hx⟩ := hg
    obtain ⟨its, rv, p, hz⟩ := I.tuple hq
    obtain ⟨u, hu, ru⟩ := rv.get hx
    have hel : e < s.heap.objs.size := Heap.lt_size he
    have hil : it < s.heap.objs.size := by obtain ⟨_, q, _⟩ := hit; exact Heap.lt_size q
    have hlt : i < its.toArray.size := by
      have := (List.getElem?_eq_some_iff.mp hu).1
      simpa using this
    have hea : e ≠ a := fun z => by
      obtain ⟨o, ho, r1, _⟩ := p
      rw [z] at he
      rw [show s.heap.get? a = _ from he] at ho
      cases ho
      exact nomatch (show Value.type "enumerate" = Value.type "tuple" from r1)
    refine wpAny_pyNext_enum_itemD (EnT.drawsT (A := X.A.in1) (I.ok.hd hc) it a hae its.toArray) he ⟨hit, p⟩ hlt hne (by simp [hne, hea]) fun x1 h' tk hP ho ⟨hit', _⟩ hT hsz hk => ?_
    have ex : x1 = u := by
      have : its.toArray[i]? = some u := by simpa using hu
      exact Option.some.inj (hP.symm.trans this)
    subst ex
    refine ⟨_, rfl, wpAny_letOwnedTupleGo_enum (s := { s with heap := h', toks := tk + 1 }) ho fun h'' he' sb => ?_⟩
    have hT2 : h''.get? s.heap.objs.size = some { cls := .type "tuple", data := .seq #[.int i tk, x1] } := (sb.2 _ (Nat.ne_of_gt hel)).trans hT
    have new : ObjOk X.prog X.w (upd H s.heap.objs.size (.tup [.int (i : Nat), x])) h'' s.heap.objs.size (.tup [.int (i : Nat), x]) :=
      ⟨by show 2 ≤ sizeLine; decide, [.int i tk, x1], .cons ⟨_, rfl⟩ (.cons ru .nil), ⟨_, hT2, rfl, _, rfl⟩⟩
    have I1 : Inv X pins σ (upd H s.heap.objs.size (.tup [.int (i : Nat), x])) { s with heap := h'', toks := tk + 1 } :=
      I.turnedNew (ch := [e, it]) (fun b ob hb q => (sb.2 b (fun z => hb (by simp [z]))).trans (hk b ob (fun z => hb (by simp [z])) (fun z => hb (by simp [z])) q)) hf (Nat.le_refl _) new
    refine ⟨.ref s.heap.objs.size, _, I1, rfl, ⟨_, x, rfl, I.hok.fresh (Nat.le_refl _), rfl, fun ys hy => by rw [I.tuple_inj hy hq]; exact hx⟩, ⟨⟨x1, ?_⟩, hit'.at fun o q => (sb.2 it (Ne.symm hne)).trans q, hne, hae⟩, fun b hb => ?_⟩
    · have e1 : ((i + 1 : Nat) : Int) = (i : Int) + 1 := by omega
      rw [e1]; exact he'
    · have hb' : b < s.heap.objs.size := by
        have e' : b = e ∨ b = it := by simpa using hb
        rcases e' with z | z
        · rw [z]; exact hel
        · rw [z]; exact hil
      rw [upd_ne (Nat.ne_of_lt hb')]
      exact (hf b hb).1
  done := by
    intro X hP hw hK hc i pins s σ H E I hf st hg
    subst hP hw hK
    obtain ⟨⟨old, he⟩, hit, hne, hae⟩ := st
    obtain ⟨xs, hq, hx⟩ := hg
    obtain ⟨its, rv, p, hz⟩ := I.tuple hq
    obtain ⟨f0, f1, f2, f3, f4, f5⟩ := hf it (by simp)
    have hl : its.toArray.size = i := by
      have := rv.length
      simp; omega
    subst hl
    exact wpAny_pyNext_enum_endD (EnT.drawsT (A := X.A.in1) (I.ok.hd hc) it a hae its.toArray) he ⟨hit, p⟩ fun h' eb => ⟨rfl, I.turned (t' := s.toks) (fun b o hb q => eb b o hb q) f0 f1 f3 f4 f5⟩
  self := fun A i s Q E st h => let ⟨⟨_, he⟩, _⟩ := st; wpAny_pyIter_enum he h
def iEnumA (K : PySem.W.Frag) (ta : TA) : TI := fun σ H R => ta σ H fun vs H1 => ∃ a xs, vs = [.ref a] ∧ ((SqL K H1 a xs ∧ R (Ite K a) H1) ∨ (SqT K H1 a xs ∧ R (IteT K a) H1))
theorem pi_enumA {X : Cx} {e : Expr} {ta : TA} {p pos tpos : Pos} {elts : List Expr} {kk : Nat} (hg : Gl X "enumerate") (hm : X.mg "enumerate" = none) (ha : PA X [e] ta) (hs : starEach [e] X.env = [(false, eval e X.env)]) :
    PI X (.Tuple elts kk tpos) (.Call (.Name "enumerate" p) [e] [] pos) (iEnumA X.K ta) := by
  refine ⟨fun pins s σ H R I h => ?_⟩
  refine PyProof.Rows.Call_ (ld_blt I hg hm PyProof.Rows.boot_enumerate (PyProof.Rows.callWith_type1 (thn (ha.run pos pins s σ H _ I h) fun us s1 ⟨vs, H1, I1, r1, q1⟩ => ?_) hs rfl))
  obtain ⟨a, xs, ex, q1⟩ := q1
  subst ex
  cases r1 with
  | cons r rr =>
    cases rr
    cases r
    have fr : ∀ b ∈ [s1.heap.objs.size + 1, s1.heap.objs.size], FpOk X pins H1 b := fun b hb => by
      have e' : b = s1.heap.objs.size + 1 ∨ b = s1.heap.objs.size := by simpa using hb
      have hle : s1.heap.objs.size ≤ b := by
        rcases e' with z | z
        · rw [z]; exact Nat.le_add_right _ _
        · rw [z]; exact Nat.le_refl _
      exact I1.fpOk hle (I1.hok.fresh hle)
    rcases q1 with ⟨hq, q⟩ | ⟨hq, q⟩
    · obtain ⟨its, rv, p', hz⟩ := I1.list hq
      refine call_enumerate_list p'.isList fun h' he hit hsz hk => wpAny_pyIter_enum he ?_
      have I2 : Inv X pins σ H1 { s1 with heap := h' } := I1.kept (t' := s1.toks) hk
      exact ⟨s1.heap.objs.size + 1, [s1.heap.objs.size + 1, s1.heap.objs.size], _, _, H1, rfl, I2, turn_enum a (s1.heap.objs.size + 1) s1.heap.objs.size, ⟨⟨.none, he⟩, hit, Nat.succ_ne_self _⟩, fr, q⟩
    · obtain ⟨its, rv, p', hz⟩ := I1.tuple hq
      obtain ⟨o, ho, _⟩ := id p'
      refine EnT.call_enumT (show s1.heap.IsTuple a its.toArray from p') fun h' he hit hsz hk => wpAny_pyIter_enum he ?_
      have I2 : Inv X pins σ H1 { s1 with heap := h' } := I1.kept (t' := s1.toks) hk
      exact ⟨s1.heap.objs.size + 1, [s1.heap.objs.size + 1, s1.heap.objs.size], _, _, H1, rfl, I2, turn_enumT a (s1.heap.objs.size + 1) s1.heap.objs.size, ⟨⟨.none, he⟩, hit, Nat.succ_ne_self _, Nat.ne_of_lt (Heap.lt_size ho)⟩, fr, q⟩
/-- with their places -/
def numD (ds : List D) : List D := ds.zipIdx.map fun p => .tup [.int (p.2 : Nat), p.1]
def gEnum (r : RV) : Option (List D) := (gItems r).map numD
theorem numD_len {ds : List D} : (numD ds).length = ds.length := by simp [numD]
theorem numD_get {ds : List D} {i : Nat} {d : D} (h : (numD ds)[i]? = some d) : ∃ c, ds[i]? = some c ∧ d = .tup [.int (i : Nat), c] := by
  unfold numD at h
  rw [List.getElem?_map, List.getElem?_zipIdx] at h
  cases e : ds[i]? with
  | none => rw [e] at h; cases h
  | some c => rw [e] at h; cases h; exact ⟨c, rfl, by simp⟩
/-- a new tuple of plain things -/
theorem tup_new {K : PySem.W.Frag} {B H : Hp} {T : Addr} {vs : List V} {ds : List D} (s : Same B H) (hT : H T = none) (r : RepL K B vs ds) : ∃ B3, Frm B H [] B3 (upd H T (.tup vs)) [] ∧ Same B3 (upd H T (.tup vs)) ∧ Rep K B3 (.ref T) (.tup ds) := by
  have hb : B T = none := s.free hT
  have sb : Same B (upd B T (.tup vs)) := fun a u e => by rw [upd_ne (ne_of_none e hb)]; exact e
  refine ⟨upd B T (.tup vs), ⟨sb, fun a u e _ => ?_, fun a u e _ b => ?_, fun _ z => nomatch z⟩, fun a u e => ?_, .tup (.inl (.inl upd_same)) (r.mono sb)⟩
  · rw [upd_ne (ne_of_none e hT)]; exact e
  · rw [upd_ne (ne_of_none e hT)]; exact b
  · by_cases h : a = T
    · subst h; rw [upd_same] at e ⊢; exact e
    · rw [upd_ne h] at e ⊢; exact s a u e
theorem spec_enumL {K : PySem.W.Frag} {B : Hp} {p : Addr} {vs : List V} {ds : List D} (h : SqL K B p vs) (r : RepL K B vs ds) : Spec K B (Ite K p) (numD ds) := fun B2 H2 s s2 => by
  have h2 := (s.trans s2).seq h
  refine ⟨fun i d e => ?_, vs, h2, by rw [r.length, numD_len]; exact Nat.le_refl _⟩
  obtain ⟨c, e0, rfl⟩ := numD_get e
  obtain ⟨v, e1, r1⟩ := r.get e0
  refine ⟨⟨vs, v, h2, e1⟩, fun x H3 y => ?_⟩
  obtain ⟨T, x', rfl, hT, rfl, y⟩ := y
  have := y vs h2
  rw [e1] at this; cases this
  exact tup_new s2 hT (.cons .int (.cons (r1.mono s) .nil))
theorem spec_enumT {K : PySem.W.Frag} {B : Hp} {p : Addr} {vs : List V} {ds : List D} (h : SqT K B p vs) (r : RepL K B vs ds) : Spec K B (IteT K p) (numD ds) := fun B2 H2 s s2 => by
  have h2 := Same.seqT (s.trans s2) h
  refine ⟨fun i d e => ?_, vs, h2, by rw [r.length, numD_len]⟩
  obtain ⟨c, e0, rfl⟩ := numD_get e
  obtain ⟨v, e1, r1⟩ := r.get e0
  refine ⟨⟨vs, v, h2, e1⟩, fun x H3 y => ?_⟩
  obtain ⟨T, x', rfl, hT, rfl, y⟩ := y
  have := y vs h2
  rw [e1] at this; cases this
  exact tup_new s2 hT (.cons .int (.cons (r1.mono s) .nil))
section
variable {X : Cx} {W : WX} {e : Expr} {f : Env → O RV} {pos : Pos}
theorem i_enum {p tpos : Pos} {elts : List Expr} {kk : Nat} (hm : X.mg "enumerate" = none) (h : PEr X W e f) (hg : Gl X "enumerate" := by rfl) (hs : starEach [e] X.env = (false, eval e X.env) :: starEach [] X.env := by rfl) (hs2 : starEach [e] X.env = [(false, eval e X.env)] := by rfl) : PIr X W (.Tuple elts kk tpos) (.Call (.Name "enumerate" p) [e] [] pos) (fun env => (f env).mapP gEnum) := by
  obtain ⟨t, h, k⟩ := h
  refine ⟨_, pi_enumA hg hm (pa_cons h pa_nil hs) hs2, EOk.map (r := fun (x : V) (H1 : Hp) (R : It → Hp → Prop) => ∃ a xs, [x] = [.ref a] ∧ ((SqL X.K H1 a xs ∧ R (Ite X.K a) H1) ∨ (SqT X.K H1 a xs ∧ R (IteT X.K a) H1))) k fun B H G v r R s h n q => ?_⟩
  cases e2 : gItems r with
  | none => simp only [gEnum, e2, Option.map] at q; exact q.elim
  | some ds =>
    simp only [gEnum, e2, Option.map] at q
    have th := stb_rv.there _ _ _ _ _ h
    obtain ⟨p, vs, rfl, a1, a2⟩ := rv_sit s h e2
    obtain ⟨s1, s2, f⟩ := frm_more (K := X.K) (mg := X.mg) (G := G) s th
    refine ⟨p, vs, rfl, ?_⟩
    rcases a1 with a1 | a1
    · exact .inl ⟨s2.seq a1, VPost.it (mg := X.mg) q s th (spec_enumL a1 a2)⟩
    · exact .inr ⟨Same.seqT s2 a1, VPost.it (mg := X.mg) q s th (spec_enumT a1 a2)⟩
end
end Tl
namespace Tl
open PySem PySem.Spec L2

/-! ### zip of two lists, of two tuples -/
def zipD (ds es : List D) : List D := (ds.zip es).map fun p => .tup [p.1, p.2]
theorem zipD_len {ds es : List D} : (zipD ds es).length = min ds.length es.length := by simp [zipD]
theorem zipD_get {ds es : List D} {i : Nat} {d : D} (h : (zipD ds es)[i]? = some d) : ∃ a b, ds[i]? = some a ∧ es[i]? = some b ∧ d = .tup [a, b] := by
  unfold zipD at h
  rw [List.getElem?_map] at h
  cases e : (ds.zip es)[i]? with
  | none => rw [e] at h; cases h
  | some p =>
    rw [e] at h; cases h
    rw [List.getElem?_zip_eq_some] at e
    exact ⟨p.1, p.2, e.1, e.2, rfl⟩
inductive SeqK where
  | l | t
/-- the two walked: both lists, or both tuples -/
def gSeqK : RV → Option (SeqK × List D)
  | .own (.fz (.lst ds)) => some (.l, ds)
  | .own (.fz (.scr ds)) => some (.l, ds)
  | .own (.lst os) => (fzs os).map fun ds => (.l, ds)
  | .own (.fz (.tup ds)) => some (.t, ds)
  | .own (.tup os) => (fzs os).map fun ds => (.t, ds)
  | _ => none
def gZip (p : RV × RV) : Option (List D) := match gSeqK p.1, gSeqK p.2 with
  | some (.l, ds), some (.l, es) => some (zipD ds es)
  | some (.t, ds), some (.t, es) => some (zipD ds es)
  | _, _ => none
theorem spec_zipL {K : PySem.W.Frag} {B : Hp} {p q : Addr} {vs us : List V} {ds es : List D} (h : SqL K B p vs) (r : RepL K B vs ds) (h' : SqL K B q us) (r' : RepL K B us es) : Spec K B (Itz K p q) (zipD ds es) := fun B2 H2 s s2 => by
  have h2 := (s.trans s2).seq h
  have h2' := (s.trans s2).seq h'
  refine ⟨fun i d e => ?_, vs, us, h2, h2', by rw [r.length, r'.length, zipD_len]; omega⟩
  obtain ⟨a, b, e0, e0', rfl⟩ := zipD_get e
  obtain ⟨v, e1, r1⟩ := r.get e0
  obtain ⟨v', e1', r1'⟩ := r'.get e0'
  refine ⟨⟨vs, us, v, v', h2, h2', e1, e1'⟩, fun x H3 y => ?_⟩
  obtain ⟨T, x', y', rfl, hT, rfl, y, y2⟩ := y
  have t1 := y vs h2
  rw [e1] at t1; cases t1
  have t2 := y2 us h2'
  rw [e1'] at t2; cases t2
  exact tup_new s2 hT (.cons (r1.mono s) (.cons (r1'.mono s) .nil))
theorem spec_zipT {K : PySem.W.Frag} {B : Hp} {p q : Addr} {vs us : List V} {ds es : List D} (h : SqT K B p vs) (r : RepL K B vs ds) (h' : SqT K B q us) (r' : RepL K B us es) : Spec K B (RZ.ItzT K p q) (zipD ds es) := fun B2 H2 s s2 => by
  have h2 := Same.seqT (s.trans s2) h
  have h2' := Same.seqT (s.trans s2) h'
  refine ⟨fun i d e => ?_, vs, us, h2, h2', by rw [r.length, r'.length, zipD_len]; omega⟩
  obtain ⟨a, b, e0, e0', rfl⟩ := zipD_get e
  obtain ⟨v, e1, r1⟩ := r.get e0
  obtain ⟨v', e1', r1'⟩ := r'.get e0'
  refine ⟨⟨vs, us, v, v', h2, h2', e1, e1'⟩, fun x H3 y => ?_⟩
  obtain ⟨T, x', y', rfl, hT, rfl, y, y2⟩ := y
  have t1 := y vs h2
  rw [e1] at t1; cases t1
  have t2 := y2 us h2'
  rw [e1'] at t2; cases t2
  exact tup_new s2 hT (.cons (r1.mono s) (.cons (r1'.mono s) .nil))
end Tl
namespace Tl
open PySem PySem.Spec L2

/-! ### working out mirrors, more -/
section
variable {env e' : Env} {d : D} {i n : Nat} {o : OD} {β γ δ : Type}
@[simp] theorem cIo_lst {r : Env → O (List AR)} {os : List OD} (h : env[i]? = some (.lst os)) : cIo i r env = match r env with
    | .ok b => .ok (.io i :: b)
    | .eff b e => .eff (.io i :: b) e
    | .exc c e => .exc c e
    | .bad => .bad := by simp only [cIo, h] <;> rfl
@[simp] theorem cTmp_e {f : Env → O RV} {r : Env → O (List AR)} : cTmp f r env = ((f env).mapP fun r => match r with
  | .own o => some o
  | .view _ => none).andThen (fun _ => true) env (fun _ e => r e) (fun a b => .tmp a :: b) := id rfl
@[simp] theorem gath_io {as : List AR} {os : List OD} (h : env[i]? = some (.lst os)) : gath (.io i :: as) env = match gath as (env.set i .un) with
      | some (ds, e) => some (.lst os :: ds, e)
      | none => none := by cases h2 : gath as (env.set i .un) <;> simp only [gath, h, h2]
@[simp] theorem gath_tmp {as : List AR} : gath (.tmp o :: as) env = match gath as env with
      | some (ds, e) => some (o :: ds, e)
      | none => none := by cases h : gath as env <;> simp only [gath, h]
@[simp] theorem looks_io {as : List AR} : looks (.io i :: as) = looks as := by simp [looks]
@[simp] theorem looks_tmp {as : List AR} : looks (.tmp o :: as) = looks as := by simp [looks]
@[simp] theorem lends_io {as : List AR} : lends (.io i :: as) = lends as := by simp [lends]
@[simp] theorem lends_tmp {as : List AR} : lends (.tmp o :: as) = lends as := by simp [lends]
@[simp] theorem hasIo_io {as : List AR} : hasIo (.io i :: as) = true := by simp [hasIo]
@[simp] theorem hasIo_tmp {as : List AR} : hasIo (.tmp o :: as) = hasIo as := by simp [hasIo]
@[simp] theorem hasTmp_io {as : List AR} : hasTmp (.io i :: as) = hasTmp as := by simp [hasTmp]
@[simp] theorem hasTmp_tmp {as : List AR} : hasTmp (.tmp o :: as) = true := by simp [hasTmp]
@[simp] theorem nfIo_io {as : List AR} {ds : List OD} : nfIo (.io i :: as) (o :: ds) = (nfo o && nfIo as ds) := by simp [nfIo]
@[simp] theorem nfIo_tmp {as : List AR} {ds : List OD} {u : OD} : nfIo (.tmp u :: as) (o :: ds) = nfIo as ds := by simp [nfIo]
@[simp] theorem putB_nil {ds : List OD} : putB [] ds env = env := by simp [putB]
@[simp] theorem putB_io {as : List AR} {ds : List OD} : putB (.io i :: as) (o :: ds) env = (putB as ds env).set i o := by simp [putB]
@[simp] theorem putB_rv {as : List AR} {ds : List OD} {r : RV} : putB (.rv r :: as) (o :: ds) env = putB as ds env := by simp [putB]
@[simp] theorem putB_tmp {as : List AR} {ds : List OD} {u : OD} : putB (.tmp u :: as) (o :: ds) env = putB as ds env := by simp [putB]
@[simp] theorem nfo_l {os : List OD} : nfo (.lst os) = nfoL os := by simp [nfo]
@[simp] theorem nfoL_n : nfoL [] = true := by simp [nfoL]
@[simp] theorem nfoL_c {os : List OD} : nfoL (o :: os) = (nfo o && nfoL os) := by simp [nfoL]
/-! subscripts -/
theorem ixN_nat {k n : Nat} (h : k < n) : ixN n (k : Int) = some k := by
  unfold ixN
  rw [if_pos (by omega), if_pos (by omega), Int.toNat_natCast]
theorem ixN_int {n : Nat} {k : Int} (h0 : 0 ≤ k) (h : k < n) : ixN n k = some k.toNat := by
  unfold ixN
  rw [if_pos h0, if_pos h]
theorem atI_int {α : Type} {xs : List α} {k : Int} (h0 : 0 ≤ k) (h : k < xs.length) : atI xs k = xs[k.toNat]? := by
  unfold atI
  rw [ixN_int h0 h] <;> rfl
@[simp] theorem atI_0 {α : Type} {x : α} {xs : List α} : atI (x :: xs) 0 = some x := by
  rw [atI_int (by decide) (by simp <;> omega)] <;> rfl
@[simp] theorem atI_1 {α : Type} {x y : α} {xs : List α} : atI (x :: y :: xs) 1 = some y := by
  rw [atI_int (by decide) (by simp <;> omega)] <;> rfl
@[simp] theorem atI_2 {α : Type} {x y z : α} {xs : List α} : atI (x :: y :: z :: xs) 2 = some z := by
  rw [atI_int (by decide) (by simp <;> omega)] <;> rfl
@[simp] theorem atI_3 {α : Type} {x y z u : α} {xs : List α} : atI (x :: y :: z :: u :: xs) 3 = some u := by
  rw [atI_int (by decide) (by simp <;> omega)] <;> rfl
@[simp] theorem ixN_0 {n : Nat} : ixN (n + 1) 0 = some 0 := ixN_nat (k := 0) (by omega)
@[simp] theorem ixN_1 {n : Nat} : ixN (n + 1 + 1) 1 = some 1 := ixN_nat (k := 1) (by omega)
@[simp] theorem ixN_2 {n : Nat} : ixN (n + 1 + 1 + 1) 2 = some 2 := ixN_nat (k := 2) (by omega)
@[simp] theorem gIx_lst {os : List OD} {k : Int} : gIx (.own (.lst os), .own (.fz (.int k))) = (atI os k).map (RV.part (.own (.lst os))) := id rfl
@[simp] theorem gIx_vlst {os : List OD} {k : Int} : gIx (.view (.lst os), .own (.fz (.int k))) = (atI os k).map (RV.part (.view (.lst os))) := id rfl
@[simp] theorem gIx_tup {os : List OD} {k : Int} : gIx (.own (.tup os), .own (.fz (.int k))) = (atI os k).map (RV.part (.own (.tup os))) := id rfl
@[simp] theorem gIx_vtup {os : List OD} {k : Int} : gIx (.view (.tup os), .own (.fz (.int k))) = (atI os k).map (RV.part (.view (.tup os))) := id rfl
@[simp] theorem gIx_flst {ds : List D} {k : Int} : gIx (.own (.fz (.lst ds)), .own (.fz (.int k))) = (atI ds k).map fun d => .own (.fz d) := id rfl
@[simp] theorem gIx_ftup {ds : List D} {k : Int} : gIx (.own (.fz (.tup ds)), .own (.fz (.int k))) = (atI ds k).map fun d => .own (.fz d) := id rfl
@[simp] theorem gIx_scr {ds : List D} {k : Int} : gIx (.own (.fz (.scr ds)), .own (.fz (.int k))) = (atI ds k).map fun d => .own (.fz d) := id rfl
@[simp] theorem part_fz {r : RV} : RV.part r (.fz d) = .own (.fz d) := id rfl
@[simp] theorem vGet_lst {os : List OD} (h : env[i]? = some (.lst os)) : vGet i env = some (.lst os) := by simp [vGet, h]
@[simp] theorem vPut_e : vPut i env o = env.set i o := id rfl
theorem gSub_e {put : Env → OD → Env} {get : Env → Option OD} {fk : Env → O RV} {os : List OD} (h : get env = some (.lst os)) : gSub get put fk o env = match fk env with
    | .ok r => match r.od with
      | .fz (.int k) => (ixN os.length k).map fun j => put env (.lst (os.set j o))
      | _ => none
    | _ => none := by simp only [gSub, h] <;> rfl
theorem sAugS_e {get : Env → Option OD} {put : Env → OD → Env} {fk : Env → O RV} {g : Int → Int → Option Int} {fe : Env → O RV} {os : List OD} (h : get env = some (.lst os)) : sAugS get put fk g fe env = match fk env with
    | .ok r => match r.od with
      | .fz (.int k) => match ixN os.length k with
        | some j => match os[j]? with
          | some (.fz (.int x)) => match fe env with
            | .ok r2 => match r2.od with
              | .fz (.int y) => match g x y with
                | some z => .nx (put env (.lst (os.set j (.fz (.int z)))))
                | none => .bad
              | _ => .bad
            | _ => .bad
          | _ => .bad
        | none => .bad
      | _ => .bad
    | _ => .bad := by simp only [sAugS, h] <;> rfl
@[simp] theorem gSub_v {j : Nat} {put : Env → OD → Env} {fk : Env → O RV} {os : List OD} (h : env[j]? = some (.lst os)) : gSub (vGet j) put fk o env = match fk env with
    | .ok r => match r.od with
      | .fz (.int k) => (ixN os.length k).map fun j => put env (.lst (os.set j o))
      | _ => none
    | _ => none := gSub_e (vGet_lst h)
@[simp] theorem sAugS_v {j : Nat} {put : Env → OD → Env} {fk : Env → O RV} {g : Int → Int → Option Int} {fe : Env → O RV} {os : List OD} (h : env[j]? = some (.lst os)) : sAugS (vGet j) put fk g fe env = match fk env with
    | .ok r => match r.od with
      | .fz (.int k) => match ixN os.length k with
        | some j => match os[j]? with
          | some (.fz (.int x)) => match fe env with
            | .ok r2 => match r2.od with
              | .fz (.int y) => match g x y with
                | some z => .nx (put env (.lst (os.set j (.fz (.int z)))))
                | none => .bad
              | _ => .bad
            | _ => .bad
          | _ => .bad
        | none => .bad
      | _ => .bad
    | _ => .bad := sAugS_e (vGet_lst h)
@[simp] theorem eMethV_e {g : List OD → List RV → Option (OD × List OD)} {fr : Env → O (List RV)} {os : List OD} (h : env[i]? = some (.lst os)) : eMethV i g fr env = match fr env with
    | .ok rs => (match g os rs with
        | some (o, os') => O.eff (RV.own o) (env.set i (.lst os'))
        | none => .bad)
    | .eff rs e => (match vGet i e with
      | some (.lst os) => match g os rs with
        | some (o, os') => O.eff (RV.own o) (e.set i (.lst os'))
        | none => .bad
      | _ => .bad)
    | .exc c e => .exc c e
    | .bad => .bad := by simp only [eMethV, vGet, h] <;> rfl
@[simp] theorem mAppend_e {os : List OD} (h : os.length < 10000000) : mAppend os [.own o] = some (.fz .non, os ++ [o]) := by simp [mAppend, h]
@[simp] theorem eR1 {a : Int} (h : -(2 ^ 62) ≤ a) (h' : a < 2 ^ 62) : gR1 [.own (.fz (.int a))] = some (rng 0 a.toNat) := by simp [gR1]; omega
@[simp] theorem eR2 {a b : Int} (h : -(2 ^ 62) ≤ a) (h' : a < 2 ^ 62) (k : -(2 ^ 62) ≤ b) (k' : b < 2 ^ 62) : gR2 [.own (.fz (.int a)), .own (.fz (.int b))] = some (rng a (b - a).toNat) := by simp [gR2]; omega
@[simp] theorem gLen_own {ds : List D} : gLen [.own (.fz (.lst ds))] = some (.own (.fz (.int ds.length))) := id rfl
@[simp] theorem gLen_tup {ds : List D} : gLen [.own (.fz (.tup ds))] = some (.own (.fz (.int ds.length))) := id rfl
@[simp] theorem gLen_scr {ds : List D} : gLen [.own (.fz (.scr ds))] = some (.own (.fz (.int ds.length))) := id rfl
@[simp] theorem gLen_lst {os : List OD} : gLen [.own (.lst os)] = some (.own (.fz (.int os.length))) := id rfl
@[simp] theorem gLen_vlst {os : List OD} : gLen [.view (.lst os)] = some (.own (.fz (.int os.length))) := id rfl
@[simp] theorem gLen_vtup {os : List OD} : gLen [.view (.tup os)] = some (.own (.fz (.int os.length))) := id rfl
@[simp] theorem gMin_e {a b : Int} : gMin [.own (.fz (.int a)), .own (.fz (.int b))] = some (.own (.fz (.int (if b < a then b else a)))) := id rfl
@[simp] theorem gMax_e {a b : Int} : gMax [.own (.fz (.int a)), .own (.fz (.int b))] = some (.own (.fz (.int (if b > a then b else a)))) := id rfl
@[simp] theorem gList_l {os : List OD} {ds : List D} (h : fzs os = some ds) : gList [.own (.lst os)] = some (.own (.lst (ds.map .fz))) := by simp [gList, OD.sitems, h]
@[simp] theorem gTuple_v {os : List OD} {ds : List D} (h : fzs os = some ds) : gTuple [.view (.lst os)] = some (.own (.fz (.tup ds))) := by simp [gTuple, OD.items, h]
@[simp] theorem gTuple_l {os : List OD} {ds : List D} (h : fzs os = some ds) : gTuple [.own (.lst os)] = some (.own (.fz (.tup ds))) := by simp [gTuple, OD.items, h]
end
/-! ### loops -/
/-- a loop that goes to its end, by what holds at each turn -/
theorem for_ix {P : Nat → Env → Prop} {g : OD → Env → Option Env} {body : Env → SO} : ∀ (ds : List D) (k : Nat) (env : Env), P k env → (∀ i d env, ds[i]? = some d → P (k + i) env → ∃ e1 e2, g (.fz d) env = some e1 ∧ (body e1 = .nx e2 ∨ body e1 = .ct e2) ∧ P (k + i + 1) e2) → ∃ e, forGo g body ds env = .nx e ∧ P (k + ds.length) e
  | [], k, env, h0, _ => ⟨env, rfl, h0⟩
  | d :: ds, k, env, h0, h => by
    obtain ⟨e1, e2, a, b, c⟩ := h 0 d env rfl h0
    obtain ⟨e3, a3, b3⟩ := for_ix (P := P) (g := g) (body := body) ds (k + 1) e2 c fun i d env hi hp => by
      have := h (i + 1) d env (by simpa using hi) (by rw [show k + (i + 1) = k + 1 + i by omega]; exact hp)
      rw [show k + (i + 1) + 1 = k + 1 + i + 1 by omega] at this
      exact this
    refine ⟨e3, ?_, by rw [show k + (d :: ds).length = k + 1 + ds.length by simp; omega]; exact b3⟩
    dsimp only [forGo]
    rw [a]
    rcases b with b | b <;> (simp only [b]; exact a3)
/-- a comprehension over plain things that changes nothing -/
theorem lcGo_pure {g : D → Env → Option Env} {tt : Env → O Bool} {fe : Env → O RV} {vs : List Nat} {C : D → Bool} {F : D → OD} {e : Env} : ∀ (ds : List D) (acc : List OD), acc.length + ds.length < 10000000 →
    (∀ d ∈ ds, ∃ e1, g d e = some e1 ∧ tt e1 = .ok (C d) ∧ (C d = true → fe e1 = .ok (.own (F d)))) → lcGo g tt fe vs ds acc e false = some (acc ++ (ds.filter C).map F, e, false)
  | [], acc, _, _ => by simp [lcGo]
  | d :: ds, acc, hl, h => by
    obtain ⟨e1, a, b, c⟩ := h d (by simp)
    have hl' : acc.length + ds.length + 1 < 10000000 := by simp at hl; omega
    cases hc : C d with
    | false =>
      simp only [lcGo, lcStep, a, b, lcElt, hc]
      simp [lcGo_pure ds acc (by omega) fun d m => h d (by simp [m]), hc]
    | true =>
      simp only [lcGo, lcStep, a, b, lcElt, hc, c hc]
      have : acc.length < 10000000 := by omega
      simp [this, lcGo_pure ds (acc ++ [F d]) (by simp; omega) fun d m => h d (by simp [m]), hc]
theorem lc_pure {f : Env → O (List D)} {g : D → Env → Option Env} {tt : Env → O Bool} {fe : Env → O RV} {vs : List Nat} {env : Env} {ds : List D} (C : D → Bool) (F : D → OD) (hv : vs.all (fun i => decide (i < env.length)) = true) (hf : f env = .ok ds) (hl : ds.length < 10000000)
    (h : ∀ d ∈ ds, ∃ e1, g d (wipeE env vs) = some e1 ∧ tt e1 = .ok (C d) ∧ (C d = true → fe e1 = .ok (.own (F d)))) : eLc f g tt fe vs env = .ok (.own (.lst ((ds.filter C).map F))) := by
  unfold eLc
  rw [if_pos hv, hf]
  simp only [lcGo_pure ds [] (by simpa using hl) h]
  simp [lcFin]
end Tl
namespace Tl
open PySem PySem.Spec L2

/-! ### data that may be compared -/
def shp (n : Nat) (d : D) : Prop := (pd d).canLay0 = true ∧ (pd d).depth ≤ n
theorem shp.ok {d : D} {n : Nat} (h : shp n d) (hn : n ≤ 64) : dOk d = true := by
  unfold dOk SeqAt.shaped
  rw [h.1]
  simp
  exact Nat.le_trans h.2 hn
theorem shp.mono {d : D} {n m : Nat} (h : shp n d) (hn : n ≤ m) : shp m d := ⟨h.1, Nat.le_trans h.2 hn⟩
theorem shp_int {i : Int} {n : Nat} : shp n (.int i) := ⟨by simp [pd, PyData.canLay0], by simp [pd, PyData.depth]⟩
theorem shp_bl {i : Bool} {n : Nat} : shp n (.bl i) := ⟨by simp [pd, PyData.canLay0], by simp [pd, PyData.depth]⟩
theorem shp_non {n : Nat} : shp n .non := ⟨by simp [pd, PyData.canLay0], by simp [pd, PyData.depth]⟩
theorem shp_str {x : Str} {n : Nat} (h : PyData.strOk x = true) : shp n (.str x) := ⟨by simp [pd, PyData.canLay0, h], by simp [pd, PyData.depth]⟩
theorem shpL {n : Nat} : ∀ {ds : List D}, (∀ d ∈ ds, shp n d) → PyData.canLayAll0 (pdL ds) = true ∧ PyData.depthAll (pdL ds) ≤ n
  | [], _ => by simp [pdL, PyData.canLayAll0, PyData.depthAll]
  | d :: ds, h => by
    obtain ⟨a, b⟩ := shpL (ds := ds) fun d m => h d (by simp [m])
    obtain ⟨c, e⟩ := h d (by simp)
    simp [pdL, PyData.canLayAll0, PyData.depthAll, a, b, c, e]
    omega
theorem shp_lst {n : Nat} {ds : List D} (h : ∀ d ∈ ds, shp n d) : shp (n + 1) (.lst ds) := by
  obtain ⟨a, b⟩ := shpL h
  exact ⟨by simpa [pd, PyData.canLay0] using a, by simpa [pd, PyData.depth] using b⟩
theorem shp_tup {n : Nat} {ds : List D} (h : ∀ d ∈ ds, shp n d) : shp (n + 1) (.tup ds) := by
  obtain ⟨a, b⟩ := shpL h
  exact ⟨by simpa [pd, PyData.canLay0] using a, by simpa [pd, PyData.depth] using b⟩
theorem shp_ints {ns : List Int} {n : Nat} : ∀ d ∈ ns.map D.int, shp n d := fun d m => by
  obtain ⟨i, _, rfl⟩ := List.mem_map.mp m
  exact shp_int
theorem shp_tupD {ns : List Int} {n : Nat} : shp (n + 1) (tupD ns) := shp_tup shp_ints
@[simp] theorem dOk_ints {ns : List Int} : dOk (.lst (ns.map .int)) = true := (shp_lst (n := 0) shp_ints).ok (by decide)
@[simp] theorem dOk_tints {ns : List Int} : dOk (.tup (ns.map .int)) = true := (shp_tup (n := 0) shp_ints).ok (by decide)
@[simp] theorem dOk_tupD {ns : List Int} : dOk (tupD ns) = true := (shp_tupD (n := 0)).ok (by decide)
@[simp] theorem dOk_nilL : dOk (.lst []) = true := (shp_lst (n := 0) (by simp)).ok (by decide)
@[simp] theorem dOk_nilT : dOk (.tup []) = true := (shp_tup (n := 0) (by simp)).ok (by decide)
@[simp] theorem dOk_tups {nss : List (List Int)} : dOk (.lst (nss.map tupD)) = true := (shp_lst (n := 1) fun d m => by
  obtain ⟨i, _, rfl⟩ := List.mem_map.mp m
  exact shp_tupD).ok (by decide)
@[simp] theorem dOk_ttups {nss : List (List Int)} : dOk (.tup (nss.map tupD)) = true := (shp_tup (n := 1) fun d m => by
  obtain ⟨i, _, rfl⟩ := List.mem_map.mp m
  exact shp_tupD).ok (by decide)
/-! equal just where alike: no truths, no dicts -/
mutual
def D.nb : D → Bool
  | .non => true
  | .int _ => true
  | .str _ => true
  | .tup ds => D.nbL ds
  | .lst ds => D.nbL ds
  | _ => false
def D.nbL : List D → Bool
  | [] => true
  | d :: ds => d.nb && D.nbL ds
end
mutual
theorem dEq_iff : ∀ d e : D, d.nb = true → e.nb = true → (dEq d e = true ↔ d = e)
  | .non, e, _, h => by cases e <;> simp_all [dEq, pd, PyData.eqv, D.nb]
  | .int i, e, _, h => by cases e <;> simp_all [dEq, pd, PyData.eqv, D.nb]
  | .str i, e, _, h => by cases e <;> simp_all [dEq, pd, PyData.eqv, D.nb]
  | .tup ds, e, hd, h => by
    cases e with
    | tup es =>
      have := dEqL_iff ds es (by simpa [D.nb] using hd) (by simpa [D.nb] using h)
      simp only [dEq, pd, PyData.eqv, this, D.tup.injEq]
    | _ => simp_all [dEq, pd, PyData.eqv, D.nb]
  | .lst ds, e, hd, h => by
    cases e with
    | lst es =>
      have := dEqL_iff ds es (by simpa [D.nb] using hd) (by simpa [D.nb] using h)
      simp only [dEq, pd, PyData.eqv, this, D.lst.injEq]
    | _ => simp_all [dEq, pd, PyData.eqv, D.nb]
  | .bl _, _, h, _ => by simp [D.nb] at h
  | .scr _, _, h, _ => by simp [D.nb] at h
  | .dK _, _, h, _ => by simp [D.nb] at h
  | .dT _, _, h, _ => by simp [D.nb] at h
theorem dEqL_iff : ∀ ds es : List D, D.nbL ds = true → D.nbL es = true → (PyData.eqvAll (pdL ds) (pdL es) = true ↔ ds = es)
  | [], [], _, _ => by simp [pdL, PyData.eqvAll]
  | [], _ :: _, _, _ => by simp [pdL, PyData.eqvAll]
  | _ :: _, [], _, _ => by simp [pdL, PyData.eqvAll]
  | d :: ds, e :: es, h, k => by
    simp only [D.nbL, Bool.and_eq_true] at h k
    have a := dEq_iff d e h.1 k.1
    have b := dEqL_iff ds es h.2 k.2
    simp only [dEq] at a
    simp only [pdL, PyData.eqvAll, Bool.and_eq_true, a, b, List.cons.injEq]
end
theorem nbL_all {ds : List D} (h : ∀ d ∈ ds, d.nb = true) : D.nbL ds = true := by
  induction ds with
  | nil => simp [D.nbL]
  | cons d ds ih => simp [D.nbL, h d (by simp), ih fun d m => h d (by simp [m])]
theorem nb_ints {ns : List Int} : D.nbL (ns.map .int) = true := nbL_all fun d m => by
  obtain ⟨i, _, rfl⟩ := List.mem_map.mp m
  simp [D.nb]
theorem nb_tupD {ns : List Int} : (tupD ns).nb = true := by simp [tupD, D.nb, nb_ints]
theorem nb_tups {nss : List (List Int)} : D.nbL (nss.map tupD) = true := nbL_all fun d m => by
  obtain ⟨i, _, rfl⟩ := List.mem_map.mp m
  exact nb_tupD
theorem map_inj {α β : Type} {f : α → β} (h : ∀ a b, f a = f b → a = b) {as bs : List α} : as.map f = bs.map f ↔ as = bs :=
  ⟨fun e => List.map_inj_right (fun a b => h a b) |>.mp e, fun e => by rw [e]⟩
theorem int_inj {ns ms : List Int} : ns.map D.int = ms.map D.int ↔ ns = ms := map_inj fun a b e => by cases e; rfl
theorem tupD_inj {ns ms : List Int} : tupD ns = tupD ms ↔ ns = ms := by
  unfold tupD
  rw [D.tup.injEq, int_inj]
@[simp] theorem dEq_ints {ns ms : List Int} : dEq (.lst (ns.map .int)) (.lst (ms.map .int)) = decide (ns = ms) := by
  have := dEq_iff (.lst (ns.map .int)) (.lst (ms.map .int)) (by simp [D.nb, nb_ints]) (by simp [D.nb, nb_ints])
  rw [D.lst.injEq, int_inj] at this
  by_cases h : ns = ms
  · rw [this.mpr h, decide_eq_true h]
  · rw [decide_eq_false h]; exact Bool.eq_false_iff.mpr fun z => h (this.mp z)
/-! in a list of ints -/
theorem any_ints {a : Int} {bs : List Int} : ((bs.map D.int).any fun z => dEq z (.int a)) = decide (a ∈ bs) := by
  by_cases h : a ∈ bs
  · rw [decide_eq_true h]
    exact List.any_eq_true.mpr ⟨.int a, List.mem_map.mpr ⟨a, h, rfl⟩, by simp⟩
  · rw [decide_eq_false h]
    refine List.any_eq_false.mpr fun x hx => ?_
    obtain ⟨b, hb, rfl⟩ := List.mem_map.mp hx
    simp only [dEq_i, beq_iff_eq]
    intro e
    subst e
    exact h hb
theorem gIn_lst {a : Int} {bs : List Int} {o : OD} (h : o.items = some (bs.map .int)) : gIn (.own (.fz (.int a)), .view o) = some (.own (.fz (.bl (decide (a ∈ bs))))) := by
  cases o with
  | fz d => cases d with
    | lst ds =>
      have h' : ds = bs.map .int := by simpa [OD.items] using h
      subst h'
      show (if dOk (.int a) = true ∧ dOk (.lst (bs.map .int)) = true then _ else _) = _
      rw [if_pos ⟨dOk_i, dOk_ints⟩, any_ints]
    | scr ds =>
      have h' : ds = bs.map .int := by simpa [OD.items] using h
      subst h'
      show (if dOk (.int a) = true ∧ dOk (.lst (bs.map .int)) = true then _ else _) = _
      rw [if_pos ⟨dOk_i, dOk_ints⟩, any_ints]
    | _ => simp [OD.items] at h
  | lst os =>
    have h' : fzs os = some (bs.map .int) := by simpa [OD.items] using h
    show (match fzs os with
      | some ds => if dOk (.int a) = true ∧ dOk (.lst ds) = true then some (RV.own (.fz (.bl (ds.any fun z => dEq z (.int a))))) else none
      | none => _) = _
    rw [h']
    show (if dOk (.int a) = true ∧ dOk (.lst (bs.map .int)) = true then _ else _) = _
    rw [if_pos ⟨dOk_i, dOk_ints⟩, any_ints]
  | _ => simp [OD.items] at h
end Tl
namespace Tl
open PySem PySem.Spec L2

/-! ### a list at a name, taken as plain for one expression alone -/
def lendE {β : Type} (i : Nat) (nf : β → Bool) (f : Env → O β) : Env → O β := fun env => match env[i]? with
  | some (.lst os) => match frzL os with
    | some ds => match f (env.set i (.fz (.lst ds))) with
      | .ok r => if nf r = true then .ok r else f env
      | _ => f env
    | none => f env
  | _ => f env
def RV.nf : RV → Bool
  | .own o => nfo o
  | .view _ => false
section
variable {X : Cx} {W : WX} {e : Expr}
theorem EOk.lend {α β : Type} {R : Rl α β} {t : TX α} {f : Env → O β} {nf : β → Bool} (i : Nat) (hR : ∀ B H G x r (L : List Addr), R B H G x r → nf r = true → (∀ a ∈ L, ∀ u, B a = some u → noTup u = true) → R (less B L) H G x r)
    (k : EOk X W R t f) : EOk X W R t (lendE i nf f) := by
  intro B H F σ env Q S q
  have plain : EPost X W R B H F σ Q (f env) → t σ H Q := k B H F σ env Q S
  unfold lendE at q
  split at q
  · rename_i os e
    split at q
    · rename_i ds e2
      split at q
      · rename_i r e3
        split at q
        · rename_i hn
          obtain ⟨v, Fi, Fr, h1, h2, h3, h4⟩ := S.sl.take e (fun z => by cases z)
          obtain ⟨s1, s2, f0⟩ := frm_more (K := X.K) (mg := X.mg) (G := Fi) S.sub h2.there
          have ef : frz (.lst os) = some (.lst ds) := by rw [frz_lst, e2]; rfl
          have rp : Rep X.K (more B H Fi) v (.lst ds) := h2.frz s1 ef fun a m u z => by rw [more_in m]; exact z
          have nd := List.nodup_append.mp (h4.nodup_iff.mp S.nd)
          have sl := f0.slots h3 fun a m z => nd.2.2 a z a m rfl
          obtain ⟨F', c1, c2⟩ := sl.put (by rw [List.getElem?_set_self]; exact (List.getElem?_eq_some_iff.mp e).1) h1 (.fz rp)
          rw [List.set_set] at c1
          refine k (more B H Fi) H F' σ _ Q ⟨s2, c1, c2.nodup_iff.mpr nd.2.1⟩ ?_
          rw [e3]
          intro x B' H' G r' s' n fr
          have inL : ∀ a ∈ Fi, ∀ u, B' a = some u → noTup u = true := fun a m u z => by
            obtain ⟨w, e5, e6⟩ := Own.kind h2 a m
            rw [fr.sB a w (by rw [more_in m]; exact e5)] at z
            cases z; exact e6
          refine q x (less B' Fi) H' G (hR _ _ _ _ _ _ r' hn inL) (fun a u z => ?_) n ⟨fun a u z => ?_, fun a u z m => fr.keep a u z m, fun a u z m b => ?_, fr.fr⟩
          · by_cases m : a ∈ Fi
            · rw [less_in m] at z; cases z
            · rw [less_out m] at z; exact s' a u z
          · have m : a ∉ Fi := fun m => by rw [(h2.there a m).1] at z; cases z
            rw [less_out m]
            exact fr.sB a u (s1 a u z)
          · by_cases ml : a ∈ Fi
            · exact less_in ml
            · rw [less_out ml]
              exact fr.forg a u z m (by rw [more_out ml]; exact b)
        · exact plain q
      · exact plain q
    · exact plain q
  · exact plain q
theorem r_lend (i : Nat) {f : Env → O RV} (h : PEr X W e f) : PEr X W e (lendE i RV.nf f) := by
  obtain ⟨t, h, k⟩ := h
  refine ⟨t, h, EOk.lend i (fun B H G x r L r1 n hk => ?_) k⟩
  cases r with
  | view o => cases n
  | own o => exact Own.less hk (show Own X.K X.mg B H G x o from r1) n
end
section
variable {env : Env} {i : Nat} {β : Type} {nf : β → Bool} {f : Env → O β}
theorem lend_ok {os : List OD} {ds : List D} {r : β} (h : env[i]? = some (.lst os)) (h2 : frzL os = some ds) (h3 : f (env.set i (.fz (.lst ds))) = .ok r) (h4 : nf r = true) : lendE i nf f env = .ok r := by
  simp only [lendE, h, h2, h3, h4, if_true]
/-! one statement behind the other -/
section
variable {f g : Env → SO} {e e1 e2 : Env} {o : OD} {h : OD → Env → Option Env} {x : Env → O RV} {c : Env → O Bool} {it : Env → O (List D)} {ds : List D}
theorem seq_nx (a : f e = .nx e1) : sSeq f g e = g e1 := by simp only [sSeq, a]
theorem seq_rt (a : f e = .rt o e1) : sSeq f g e = .rt o e1 := by simp only [sSeq, a]
theorem seq_exc {c : Str} (a : f e = .exc c e1) : sSeq f g e = .exc c e1 := by simp only [sSeq, a]
theorem asg_ok (a : x e = .ok (.own o)) (b : h o e = some e1) : sAsg x h e = .nx e1 := by simp only [sAsg, sE, a, kAsg, b]
theorem asg_eff (a : x e = .eff (.own o) e1) (b : h o e1 = some e2) : sAsg x h e = .nx e2 := by simp only [sAsg, sE, a, kAsg, b]
theorem forS_ok {body : Env → SO} (a : it e = .ok ds) : sFor it h body e = forGo h body ds e := by simp only [sFor, sE, a]
theorem forS_eff {body : Env → SO} (a : it e = .eff ds e1) : sFor it h body e = forGo h body ds e1 := by simp only [sFor, sE, a]
theorem if_t (a : c e = .ok true) : sIf c f g e = f e := by simp only [sIf, sE, a, if_true]
theorem if_f (a : c e = .ok false) : sIf c f g e = g e := by simp only [sIf, sE, a, Bool.false_eq_true, if_false]
theorem ret_ok (a : x e = .ok (.own o)) : sRet x e = .rt o e := by simp only [sRet, sE, a, kRet]
theorem ret_eff (a : x e = .eff (.own o) e1) : sRet x e = .rt o e1 := by simp only [sRet, sE, a, kRet]
theorem expr_ok {r : RV} (a : x e = .ok r) : sExpr x e = .nx e := by simp only [sExpr, sE, a]
theorem expr_eff {r : RV} (a : x e = .eff r e1) : sExpr x e = .nx e1 := by simp only [sExpr, sE, a]
theorem run_rt {m : Nat} {io : List Nat} {os r : List OD} (a : f (os ++ List.replicate m .un) = .rt o e) (b : outs io e 0 os = some r) : runB m io f os = .ret o r := by simp only [runB, a, b]
theorem run_nx {m : Nat} {io : List Nat} {os r : List OD} (a : f (os ++ List.replicate m .un) = .nx e) (b : outs io e 0 os = some r) : runB m io f os = .ret (.fz .non) r := by simp only [runB, a, b]
theorem run_exc {m : Nat} {io : List Nat} {os r : List OD} {c : Str} (a : f (os ++ List.replicate m .un) = .exc c e) (b : outs io e 0 os = some r) : runB m io f os = .exc c r := by simp only [runB, a, b]
end
theorem for_step {g : OD → Env → Option Env} {body : Env → SO} {d : D} {ds : List D} {e0 e1 e2 : Env} (h1 : g (.fz d) e0 = some e1) (h2 : body e1 = .nx e2) : forGo g body (d :: ds) e0 = forGo g body ds e2 := by
  simp only [forGo, h1, h2]
theorem for_ct {g : OD → Env → Option Env} {body : Env → SO} {d : D} {ds : List D} {e0 e1 e2 : Env} (h1 : g (.fz d) e0 = some e1) (h2 : body e1 = .ct e2) : forGo g body (d :: ds) e0 = forGo g body ds e2 := by
  simp only [forGo, h1, h2]
theorem lend_fz {d : D} (h : env[i]? = some (.fz d)) : lendE i nf f env = f env := by
  simp only [lendE, h]
end
end Tl
namespace Tl
open PySem PySem.Spec L2

@[simp] theorem plain_fz {d : D} : (OD.fz d).plain = some d := frz_fz
@[simp] theorem plain_lst {os : List OD} : (OD.lst os).plain = (frzL os).map .lst := frz_lst
@[simp] theorem plain_tup {os : List OD} : (OD.tup os).plain = (frzL os).map .tup := frz_tup
/-! ### list(range(n)) -/
def gRgL (r : RV) : Option RV := match r.od with
  | .fz (.int j) => if -(2 ^ 24) ≤ j ∧ j ≤ 2 ^ 24 then some (.own (.lst ((rng 0 j.toNat).map .fz))) else none
  | _ => none
theorem rgV_rng {K : PySem.W.Frag} {B : Hp} (j : Int) : RepL K B (rgV 0 j) (rng 0 j.toNat) := by
  have e1 : rgV 0 j = ((List.range j.toNat).map fun k : Nat => (0 + (k : Int))).map V.int := by
    unfold rgV
    rw [List.map_map, Int.sub_zero]; rfl
  have e2 : rng 0 j.toNat = ((List.range j.toNat).map fun k : Nat => (0 + (k : Int))).map D.int := by
    unfold rng
    rw [List.map_map]; rfl
  rw [e1, e2]
  exact repL_int _
section
variable {X : Cx} {W : WX} {a : Expr} {f : Env → O RV} {p p2 pos pos2 : Pos}
theorem r_listRg (hm : X.mg "list" = none) (hm2 : X.mg "range" = none) (h : PEr X W a f) (hc : X.calm = true := by rfl) (hg : Gl X "list" := by rfl) (hg2 : Gl X "range" := by rfl)
    (na : starEach [a] X.env = (false, eval a X.env) :: starEach [] X.env := by rfl) (nb : starEach [.Call (.Name "range" p2) [a] [] pos2] X.env = (false, eval (.Call (.Name "range" p2) [a] [] pos2) X.env) :: starEach [] X.env := by rfl) :
    PEr X W (.Call (.Name "list" p) [.Call (.Name "range" p2) [a] [] pos2] [] pos) (e1 gRgL f) := by
  obtain ⟨t, h, k⟩ := h
  refine ⟨_, pe_listRg hc hg hm (prg_1 hg2 hm2 h na) nb, k.map (r := fun (x : V) (H : Hp) (Q : VK) => ∃ n, x = .int n ∧ RgOk 0 n ∧ ∀ q, H q = none → Q (.ref q) (upd H q (.lst (rgV 0 n)))) fun B H G v r Q s hr n q => ?_⟩
  unfold gRgL at q
  split at q
  · rename_i j e
    have z := rv_fz hr e
    cases z
    split at q
    · rename_i hj
      exact ⟨j, rfl, ⟨by decide, by decide, by omega, by omega, by omega⟩, fun p hp => VPost.lst q s (rgV_rng j) hp⟩
    · exact q.elim
  · exact q.elim
end
@[simp] theorem gRgL_e {j : Int} (h : -(2 ^ 24) ≤ j) (h' : j ≤ 2 ^ 24) : gRgL (.own (.fz (.int j))) = some (.own (.lst ((rng 0 j.toNat).map .fz))) := by
  show (if -(2 ^ 24) ≤ j ∧ j ≤ 2 ^ 24 then _ else _) = _
  rw [if_pos ⟨h, h'⟩]
end Tl
namespace Law
open PySem PySem.Spec L2 Tl
def topS (i : Nat) : Stmt := PySem.Challenge.pw_satchelmeet_k66_hanging_together.main.body.getD i (.Pass ⟨0, 0, 0, 0⟩)
theorem boot_len_ : bootBuiltins "len" = some (.builtin "len") := by decide +kernel
theorem boot_isinstance_ : bootBuiltins "isinstance" = some (.builtin "isinstance") := by decide +kernel
theorem boot_min_ : bootBuiltins "min" = some (.builtin "min") := by decide +kernel
theorem boot_max_ : bootBuiltins "max" = some (.builtin "max") := by decide +kernel
theorem boot_sum_ : bootBuiltins "sum" = some (.builtin "sum") := by decide +kernel
theorem boot_all_ : bootBuiltins "all" = some (.builtin "all") := by decide +kernel
theorem boot_any_ : bootBuiltins "any" = some (.builtin "any") := by decide +kernel
theorem boot_sorted_ : bootBuiltins "sorted" = some (.builtin "sorted") := by decide +kernel
theorem boot_list_ : bootBuiltins "list" = some (.type "list") := by decide +kernel
theorem boot_tuple_ : bootBuiltins "tuple" = some (.type "tuple") := by decide +kernel
theorem boot_int_ : bootBuiltins "int" = some (.type "int") := by decide +kernel
theorem boot_bool_ : bootBuiltins "bool" = some (.type "bool") := by decide +kernel
theorem boot_str_ : bootBuiltins "str" = some (.type "str") := by decide +kernel
theorem boot_dict_ : bootBuiltins "dict" = some (.type "dict") := by decide +kernel
def N_hangs_with : List Str := ["book", "walker", "found", "at", "one", "other", "when", "many"]
def l_hangs_with_1 : Tl.Env → SO :=
  (sIf (bAnd (tV RV.bool? (e2 gIn (e2 gIx (eVar 2) (eVar 3)) (eL gTup (aCons (eFrz 4) (aCons (eFrz 5) aNil))))) (tV RV.bool? (e2 gNotIn (e2 (g2i fun i j => some (iSub i j)) (e2 gAdd (eVar 4) (eVar 5)) (e2 gIx (eVar 2) (eVar 3))) (eVar 2))))
  (sExpr (eMethV 2 mAppend (aCons (e2 (g2i fun i j => some (iSub i j)) (e2 gAdd (eVar 4) (eVar 5)) (e2 gIx (eVar 2) (eVar 3))) aNil)))
  sNx)
def l_hangs_with_2 : Tl.Env → SO :=
  (sSeq (sFor (fun env => ((e2 gIx (eVar 0) (eC (.int 1))) env).mapP gItems) (gTupT 4 (gsCons (gSet 4) (gsCons (gSet 5) (gsCons (gSet 6) (gsCons (gSet 7) gsNil))))) l_hangs_with_1)
  (sAsg (e2 gAdd (eVar 3) (eC (.int 1))) (gSet 3)))
def b_hangs_with : Tl.Env → SO :=
  (sSeq (sAsg (eL gLst (aCons (eFrz 1) aNil)) (gSet 2))
  (sSeq (sAsg (eC (.int 0)) (gSet 3))
  (sSeq (whileGo (tV RV.bool? (e2 (g2i fun i j => some (iLt i j)) (eVar 3) (eL gLen (aCons (eVar 2) aNil)))) l_hangs_with_2 100000)
  (sRet (eL gSorted (aCons (eVar 2) aNil))))))
def m_hangs_with : List OD → FO := runB 6 [] b_hangs_with
def N__law_purse : List Str := ["_law_script", "_law_k", "_law_cell", "_law_left"]
def b__law_purse : Tl.Env → SO :=
  (sSeq (sAsg (eC (.int 0)) (gSet 2))
  (sSeq (sIf (tV RV.bool? (e2 (g2i fun i j => some (iLt i j)) (eVar 1) (eL gLen (aCons (eVar 0) aNil))))
  (sAsg (e2 gIx (eVar 0) (eVar 1)) (gSet 2))
  sNx)
  (sSeq (sAsg (eC (.int 0)) (gSet 3))
  (sSeq (sIf (tV RV.bool? (e2 (g2i fun i j => some (iLt i j)) (eVar 2) (eC (.int 0))))
  (sAsg (e2 (g2i fun i j => some (iSub i j)) (e1 gNeg (eC (.int 1))) (eVar 2)) (gSet 3))
  sNx)
  (sSeq (sIf (tV RV.bool? (e2 (g2i fun i j => some (iGe i j)) (eVar 2) (e2 (g2i iPow) (eC (.int 10)) (eC (.int 18)))))
  (sAsg (eFrz 2) (gSet 3))
  sNx)
  (sRet (eL gLst (aCons (eMove 3) (aCons (e2 (g2i iMod) (e2 gAdd (e2 gAdd (e2 gMul (eVar 2) (eC (.int 69))) (e2 gMul (eVar 1) (eC (.int 40503)))) (eC (.int 271))) (eC (.int 2147483647))) (aCons (eC (.int 0)) aNil))))))))))
def m__law_purse : List OD → FO := runB 2 [] b__law_purse
def N__law_take : List Str := ["_law_purse_here", "_law_many", "_law_digit", "_law_mixed"]
def b__law_take : Tl.Env → SO :=
  (sSeq (sIf (tV RV.bool? (e2 (g2i fun i j => some (iGt i j)) (e2 gIx (eVar 0) (eC (.int 0))) (eC (.int 0))))
  (sSeq (sAsg (e2 (g2i iMod) (e2 gIx (eVar 0) (eC (.int 0))) (eVar 1)) (gSet 2))
  (sSeq (sAsg (e2 (g2i iDiv) (e2 gIx (eVar 0) (eC (.int 0))) (eVar 1)) (gSub (vGet 0) (vPut 0) (eC (.int 0))))
  (sRet (eMove 2))))
  sNx)
  (sSeq (sAugS (vGet 0) (vPut 0) (eC (.int 2)) (fun i j => some (i + j)) (eC (.int 1)))
  (sSeq (sAsg (e2 (g2i iMod) (e2 gMul (e2 gAdd (e2 gIx (eVar 0) (eC (.int 1))) (e2 gMul (e2 gIx (eVar 0) (eC (.int 2))) (eC (.int 362437)))) (eC (.int 48271))) (eC (.int 2147483647))) (gSet 3))
  (sSeq (sAsg (e2 (g2i iMod) (e2 gAdd (e2 gAdd (e2 gMul (eVar 3) (eVar 3)) (e2 gMul (e2 gIx (eVar 0) (eC (.int 2))) (eC (.int 104729)))) (e2 gIx (eVar 0) (eC (.int 1)))) (eC (.int 2147483629))) (gSet 3))
  (sRet (e2 (g2i iMod) (e2 (g2i iDiv) (e2 (g2i iMod) (e2 gMul (eVar 3) (eC (.int 16807))) (eC (.int 2147483563))) (eC (.int 3))) (eVar 1)))))))
def m__law_take : List OD → FO := runB 2 [0] b__law_take
def N__law_rooms : List Str := ["_law_purse_here", "_law_walkers", "_law_rooms_here", "_law_walker", "_law_room"]
def l__law_rooms_1 : Tl.Env → SO :=
  (sSeq (sAsg (e2 (g2i iDiv) (eCall m__law_take (cIo 0 (cVal (eC (.int 8)) cNil))) (eC (.int 2))) (gSet 4))
  (sSeq (sIf (tV RV.bool? (e2 gEq (eVar 4) (eC (.int 3))))
  (sAsg (eCall m__law_take (cIo 0 (cVal (eC (.int 100)) cNil))) (gSet 4))
  sNx)
  (sExpr (eMethV 2 mAppend (aCons (eFrz 4) aNil)))))
def b__law_rooms : Tl.Env → SO :=
  (sSeq (sAsg (eL gLst aNil) (gSet 2))
  (sSeq (sFor (fun env => ((aCons (eVar 1) aNil) env).mapP gR1) (gSet 3) l__law_rooms_1)
  (sRet (eL gTuple (aCons (eVar 2) aNil)))))
def m__law_rooms : List OD → FO := runB 3 [0] b__law_rooms
def N__law_step : List Str := ["_law_purse_here", "_law_way"]
def b__law_step : Tl.Env → SO :=
  (sSeq (sAsg (eCall m__law_take (cIo 0 (cVal (eC (.int 5)) cNil))) (gSet 1))
  (sSeq (sIf (tV RV.bool? (e2 (g2i fun i j => some (iLt i j)) (eVar 1) (eC (.int 3))))
  (sRet (e2 gIx (eL gLst (aCons (eC (.int 0)) (aCons (eC (.int 1)) (aCons (eC (.int 1)) aNil)))) (eVar 1)))
  sNx)
  (sSeq (sIf (tV RV.bool? (e2 gEq (eVar 1) (eC (.int 3))))
  (sRet (e2 gAdd (eC (.int 1)) (eCall m__law_take (cIo 0 (cVal (eC (.int 9)) cNil)))))
  sNx)
  (sRet (e2 gAdd (eC (.int 1)) (eCall m__law_take (cIo 0 (cVal (e2 gMul (eC (.int 16)) (e2 (g2i iPow) (eC (.int 10)) (eC (.int 6)))) cNil))))))))
def m__law_step : List OD → FO := runB 1 [0] b__law_step
def N__law_meetings : List Str := ["_law_purse_here", "_law_walkers", "_law_most", "_law_found", "_law_when", "_law_busy", "_law_k", "_law_one", "_law_other", "_law_gap", "_law_passed", "_law_late", "_law_then", "_law_low", "_law_high", "_law_room"]
def l__law_meetings_1 : Tl.Env → SO :=
  (sSeq (sAsg (eCall m__law_take (cIo 0 (cVal (eVar 1) cNil))) (gSet 7))
  (sSeq (sAsg (e2 (g2i iMod) (e2 gAdd (e2 gAdd (eVar 7) (eC (.int 1))) (eCall m__law_take (cIo 0 (cVal (e2 (g2i fun i j => some (iSub i j)) (eVar 1) (eC (.int 1))) cNil)))) (eVar 1)) (gSet 8))
  (sSeq (sAsg (eCall m__law_step (cIo 0 cNil)) (gSet 9))
  (sSeq (sIf (bOr (tV RV.bool? (e2 gIn (eVar 7) (eVar 5))) (tV RV.bool? (e2 gIn (eVar 8) (eVar 5))))
  (sAsg (eL gMax (aCons (eC (.int 1)) (aCons (eVar 9) aNil))) (gSet 9))
  sNx)
  (sSeq (sIf (tV RV.bool? (e2 (g2i fun i j => some (iGt i j)) (eVar 9) (eC (.int 0))))
  (sAsg (eL gLst aNil) (gSet 5))
  sNx)
  (sSeq (sAsg (e2 gAdd (eVar 4) (eVar 9)) (gSet 4))
  (sSeq (sAsg (e2 gAdd (eVar 5) (eL gLst (aCons (eFrz 7) (aCons (eFrz 8) aNil)))) (gSet 5))
  (sSeq (sAsg (e2 gAdd (eC (.int 1)) (e2 (g2i iDiv) (eCall m__law_take (cIo 0 (cVal (eC (.int 4)) cNil))) (eC (.int 2)))) (gSet 10))
  (sSeq (sIf (tV RV.bool? (e2 gEq (eCall m__law_take (cIo 0 (cVal (eC (.int 6)) cNil))) (eC (.int 3))))
  (sAsg (e2 gAdd (eC (.int 1)) (eCall m__law_take (cIo 0 (cVal (eC (.int 99)) cNil)))) (gSet 10))
  sNx)
  (sExpr (eMethV 3 mAppend (aCons (eL gTup (aCons (eFrz 4) (aCons (eL gMin (aCons (eVar 7) (aCons (eVar 8) aNil))) (aCons (eL gMax (aCons (eVar 7) (aCons (eVar 8) aNil))) (aCons (eFrz 10) aNil))))) aNil))))))))))))
def k__law_meetings_1 : Tl.Env → O RV :=
  (eLc (fun env => ((eL gSorted (aCons (eVar 3) aNil)) env).mapP gItems) (cTup 4 (csCons (cSet 12) (csCons (cSet 13) (csCons (cSet 14) (csCons (cSet 15) csNil))))) bYes (eL gTup (aCons (eFrz 13) (aCons (eFrz 14) (aCons (e2 gAdd (eVar 12) (eVar 11)) (aCons (eFrz 15) aNil))))) [12, 13, 14, 15])
def b__law_meetings : Tl.Env → SO :=
  (sSeq (sAsg (eL gLst aNil) (gSet 3))
  (sSeq (sAsg (e2 gAdd (eC (.int 1)) (e2 gMul (e2 (g2i iDiv) (eCall m__law_take (cIo 0 (cVal (eC (.int 3)) cNil))) (eC (.int 2))) (eCall m__law_take (cIo 0 (cVal (e2 (g2i iPow) (eC (.int 10)) (eC (.int 7))) cNil))))) (gSet 4))
  (sSeq (sAsg (eL gLst aNil) (gSet 5))
  (sSeq (sFor (fun env => ((aCons (eVar 2) aNil) env).mapP gR1) (gSet 6) l__law_meetings_1)
  (sSeq (sAsg (eC (.int 0)) (gSet 11))
  (sSeq (sIf (bAnd (tV RV.bool? (e2 gEq (eCall m__law_take (cIo 0 (cVal (eC (.int 8)) cNil))) (eC (.int 3)))) (tV RV.bool? (e2 gNe (eVar 3) (eL gLst aNil))))
  (sAsg (e2 (g2i fun i j => some (iSub i j)) (e2 (g2i iPow) (eC (.int 10)) (eC (.int 9))) (eVar 4)) (gSet 11))
  sNx)
  (sRet (eL gTuple (aCons k__law_meetings_1 aNil)))))))))
def m__law_meetings : List OD → FO := runB 13 [0] b__law_meetings
def N__law_book : List Str := ["_law_purse_here", "_law_most_walkers", "_law_most_meetings", "_law_walkers", "_law_most"]
def b__law_book : Tl.Env → SO :=
  (sSeq (sAsg (e2 gAdd (eC (.int 1)) (eCall m__law_take (cIo 0 (cVal (eVar 1) cNil)))) (gSet 3))
  (sSeq (sAsg (eL gMin (aCons (eVar 2) (aCons (eCall m__law_take (cIo 0 (cVal (e2 gAdd (eVar 2) (eC (.int 3))) cNil))) aNil))) (gSet 4))
  (sSeq (sIf (tV RV.bool? (e2 gEq (eVar 3) (eC (.int 1))))
  (sAsg (eC (.int 0)) (gSet 4))
  sNx)
  (sRet (eL gTup (aCons (eCall m__law_rooms (cIo 0 (cVal (eVar 3) cNil))) (aCons (eCall m__law_meetings (cIo 0 (cVal (eVar 3) (cVal (eVar 4) cNil)))) aNil)))))))
def m__law_book : List OD → FO := runB 2 [0] b__law_book
def N__law_whole : List Str := ["_law_thing"]
def b__law_whole : Tl.Env → SO :=
  (sRet (eAnd (e1 (gIsi .int) (eVar 0)) (eB (bNot (tV (fun r => r.od.tru) (e1 (gIsi .bool) (eVar 0)))))))
def m__law_whole : List OD → FO := runB 0 [] b__law_whole
def N__law_marks : List Str := ["_law_book_here", "_law_found", "_law_turn", "_law_one", "_law_other", "_law_when", "_law_passed", "_law_least"]
def l__law_marks_1 : Tl.Env → SO :=
  (sSeq (sAsg (eL gMin (aCons (e2 gIx (eVar 1) (eVar 3)) (aCons (e2 gIx (eVar 1) (eVar 4)) aNil))) (gSet 7))
  (sSeq (sAsg (eFrz 7) (gSub (vGet 1) (vPut 1) (eVar 3)))
  (sAsg (eFrz 7) (gSub (vGet 1) (vPut 1) (eVar 4)))))
def l__law_marks_2 : Tl.Env → SO :=
  (sFor (fun env => ((e2 gIx (eVar 0) (eC (.int 1))) env).mapP gItems) (gTupT 4 (gsCons (gSet 3) (gsCons (gSet 4) (gsCons (gSet 5) (gsCons (gSet 6) gsNil))))) l__law_marks_1)
def b__law_marks : Tl.Env → SO :=
  (sSeq (sAsg (e1 gRgL (eL gLen (aCons (e2 gIx (eVar 0) (eC (.int 0))) aNil))) (gSet 1))
  (sSeq (sFor (fun env => ((aCons (eL gLen (aCons (e2 gIx (eVar 0) (eC (.int 0))) aNil)) aNil) env).mapP gR1) (gSet 2) l__law_marks_2)
  (sRet (eMove 1))))
def m__law_marks : List OD → FO := runB 7 [] b__law_marks
def N__law_fewer : List Str := ["_law_purse_here", "_law_book_here", "_law_size"]
def b__law_fewer : Tl.Env → SO :=
  (sSeq (sIf (tV RV.bool? (e2 gEq (eCall m__law_take (cIo 0 (cVal (eC (.int 2)) cNil))) (eC (.int 0))))
  (sRet (eMove 1))
  sNx)
  (sSeq (sAsg (eCall m__law_take (cIo 0 (cVal (eC (.int 12)) cNil))) (gSet 2))
  (sRet (eL gTup (aCons (e2 gIx (eVar 1) (eC (.int 0))) (aCons (eSl3 (e2 gIx (eVar 1) (eC (.int 1))) pNo (pSo (eVar 2))) aNil))))))
def m__law_fewer : List OD → FO := runB 1 [0] b__law_fewer
def N_law : List Str := ["_law_script", "_law_k", "_law_purse_here", "_law_book_here", "_law_marks_here", "_law_held", "_law_walker", "_law_found", "_law_due", "_law_one"]
def k_law_1 : Tl.Env → O RV :=
  (eLc (fun env => ((aCons (eL gLen (aCons (e2 gIx (eVar 3) (eC (.int 0))) aNil)) aNil) env).mapP gR1) (cSet 9) (tV RV.bool? (e2 gEq (e2 gIx (eVar 4) (eVar 9)) (e2 gIx (eVar 4) (eVar 6)))) (eFrz 9) [9])
def k_law_2 : Tl.Env → O RV :=
  (eLc (fun env => ((eFrz 7) env).mapP gItems) (cSet 9) bYes (eCall m__law_whole (cVal (eVar 9) cNil)) [9])
def l_law_1 : Tl.Env → SO :=
  (sSeq (sAsg (eCall m_hangs_with (cVal (eVar 3) (cVal (eVar 6) cNil))) (gSet 7))
  (sSeq (sAsg k_law_1 (gSet 8))
  (sSeq (sIf (bOr (bNot (tV (fun r => r.od.tru) (e1 (gIsi .list) (eVar 7)))) (tV RV.bool? (e2 gNe (eVar 7) (eVar 8))))
  (sRet (eC (.bl false)))
  sNx)
  (sSeq (sIf (bNot (tV (fun r => r.od.tru) (eL (gBs fun bs => bs.all id) (aCons (lendE 7 RV.nf k_law_2) aNil))))
  (sRet (eC (.bl false)))
  sNx)
  (sSeq (sExpr (eMethV 7 mAppend (aCons (e1 gNeg (eC (.int 1))) aNil)))
  (sExpr (eMethV 5 mAppend (aCons (eFrz 8) aNil))))))))
def k_law_3 : Tl.Env → O RV :=
  (eLc (fun env => ((aCons (eL gLen (aCons (eVar 5) aNil)) aNil) env).mapP gR1) (cSet 6) bYes (eCall m_hangs_with (cVal (eVar 3) (cVal (eVar 6) cNil))) [6])
def l_law_2 : Tl.Env → SO :=
  (sSeq (sAsg (eCall m__law_purse (cVal (eVar 0) (cVal (eVar 1) cNil))) (gSet 2))
  (sSeq (sAsg (eCall m__law_fewer (cIo 2 (cVal (eCall m__law_book (cIo 2 (cVal (eC (.int 12)) (cVal (e2 gIx (eL gLst (aCons (eC (.int 60)) (aCons (eC (.int 9)) aNil))) (eL gInt (aCons (e2 (g2i fun i j => some (iGt i j)) (eVar 1) (eC (.int 3))) aNil))) cNil)))) cNil))) (gSet 3))
  (sSeq (sAsg (eCall m__law_marks (cVal (eVar 3) cNil)) (gSet 4))
  (sSeq (sAsg (eL gLst aNil) (gSet 5))
  (sSeq (sFor (fun env => ((aCons (eL gLen (aCons (e2 gIx (eVar 3) (eC (.int 0))) aNil)) aNil) env).mapP gR1) (gSet 6) l_law_1)
  (sIf (tV RV.bool? (e2 gNe k_law_3 (eVar 5)))
  (sRet (eC (.bl false)))
  sNx))))))
def b_law : Tl.Env → SO :=
  (sSeq (sFor (fun env => ((aCons (eL gMax (aCons (eC (.int 1)) (aCons (eL gMin (aCons (eL gLen (aCons (eVar 0) aNil)) (aCons (eC (.int 63)) aNil))) aNil))) aNil) env).mapP gR1) (gSet 1) l_law_2)
  (sRet (eC (.bl true))))
def m_law : List OD → FO := runB 9 [] b_law
end Law
namespace Law
open PySem PySem.Spec L2 Tl

/-! ### the purse of numbers -/
structure Pu where
  l : Nat
  c : Int
  t : Int
abbrev Pu.od (p : Pu) : OD := .lst [.fz (.int p.l), .fz (.int p.c), .fz (.int p.t)]
def Pu.mix (p : Pu) : Int :=
  let m := (p.c + (p.t + 1) * 362437) * 48271 % 2147483647
  (m * m + (p.t + 1) * 104729 + p.c) % 2147483629 * 16807 % 2147483563 / 3
def Pu.take (p : Pu) (n : Int) : Int := if 0 < p.l then p.l % n else p.mix % n
def Pu.next (p : Pu) (n : Int) : Pu := if 0 < p.l then ⟨((p.l : Int) / n).toNat, p.c, p.t⟩ else ⟨p.l, p.c, p.t + 1⟩
theorem Pu.take_nn (p : Pu) {n : Int} (h : 0 < n) : 0 ≤ p.take n := by
  unfold Pu.take; split <;> exact Int.emod_nonneg _ (by omega)
theorem Pu.take_lt (p : Pu) {n : Int} (h : 0 < n) : p.take n < n := by
  unfold Pu.take; split <;> exact Int.emod_lt_of_pos _ h
theorem iDiv_big {a b : Int} (h : 0 < b) (h2 : b < 2 ^ 128) : iDiv a b = some (.int (a / b)) := by
  have : b.natAbs.log2 < 9000 := by
    by_cases e : b.natAbs = 0
    · rw [e]; decide
    · have := (Nat.log2_lt (k := 128) e).mpr (by omega); omega
  simp only [iDiv, h, this, and_self, if_true]
theorem take_eq (p : Pu) {n : Int} (h : 0 < n) (h2 : n < 2 ^ 128) : m__law_take [p.od, .fz (.int n)] = .ret (.fz (.int (p.take n))) [(p.next n).od, .fz (.int n)] := by
  have h3 : n < 340282366920938463463374607431768211456 := by simpa using h2
  by_cases hl : 0 < p.l
  · have e : (((p.l : Int) / n).toNat : Int) = (p.l : Int) / n := Int.toNat_of_nonneg (Int.ediv_nonneg (by omega) (by omega))
    simp [m__law_take, runB, b__law_take, Pu.take, Pu.next, hl, h, iDiv_big h h2, outs, isFz, e]
  · have e : p.l = 0 := by omega
    have m1 : ∀ x : Int, -18446744073709551616 < x % 2147483647 ∧ x % 2147483647 < 18446744073709551616 := fun x => by omega
    simp [m__law_take, runB, b__law_take, Pu.take, Pu.next, e, h, outs, isFz, Pu.mix, m1]
def puX (x k : Int) : Pu := ⟨if x < 0 then (-1 - x).toNat else if 1000000000000000000 ≤ x then x.toNat else 0, (x * 69 + k * 40503 + 271) % 2147483647, 0⟩
def puOf (ns : List Int) (k : Int) : Pu := puX (ns.getD k.toNat 0) k
theorem purse_eq (ns : List Int) (k : Int) (hk : 0 ≤ k) : m__law_purse [scr ns, .fz (.int k)] = .ret (puOf ns k).od [scr ns, .fz (.int k)] := by
  by_cases h : k < ns.length
  · have e : atI (ns.map D.int) k = some (.int (ns.getD k.toNat 0)) := by
      rw [atI_int hk (by simp; omega)]
      have : k.toNat < ns.length := by omega
      simp [this]
    unfold puOf
    generalize ns.getD k.toNat 0 = x at e ⊢
    by_cases h0 : x < 0
    · have e1 : ¬ (1000000000000000000 ≤ x) := by omega
      have e2 : ((-1 - x).toNat : Int) = -1 - x := Int.toNat_of_nonneg (by omega)
      simp [m__law_purse, runB, b__law_purse, scr, h, e, h0, outs, isFz, puX, e1, e2]
    · by_cases h1 : 1000000000000000000 ≤ x
      · have e2 : (x.toNat : Int) = x := Int.toNat_of_nonneg (by omega)
        simp [m__law_purse, runB, b__law_purse, scr, h, e, h0, outs, isFz, puX, h1, e2]
      · simp [m__law_purse, runB, b__law_purse, scr, h, e, h0, outs, isFz, puX, h1]
  · have e : ns.getD k.toNat 0 = 0 := by rw [List.getD_eq_getElem?_getD, List.getElem?_eq_none (by omega)]; rfl
    unfold puOf
    rw [e]
    simp [m__law_purse, runB, b__law_purse, scr, h, outs, isFz, puX]
@[simp] theorem take_s (p : Pu) {n : Int} (h : 0 < n) (h2 : n < 340282366920938463463374607431768211456) : m__law_take [p.od, .fz (.int n)] = .ret (.fz (.int (p.take n))) [(p.next n).od, .fz (.int n)] := take_eq p h (by simpa using h2)
/-! ### a step, a room -/
theorem step_ok (p : Pu) : ∃ (v : Int) (q : Pu), m__law_step [p.od] = .ret (.fz (.int v)) [q.od] ∧ 0 ≤ v ∧ v ≤ 16000000 := by
  have h0 := p.take_nn (n := 5) (by decide)
  have h1 := p.take_lt (n := 5) (by decide)
  have t9 := (p.next 5).take_nn (n := 9) (by decide)
  have t9' := (p.next 5).take_lt (n := 9) (by decide)
  have t6 := (p.next 5).take_nn (n := 16000000) (by decide)
  have t6' := (p.next 5).take_lt (n := 16000000) (by decide)
  have : p.take 5 = 0 ∨ p.take 5 = 1 ∨ p.take 5 = 2 ∨ p.take 5 = 3 ∨ p.take 5 = 4 := by omega
  rcases this with h | h | h | h | h
  · exact ⟨0, p.next 5, by simp [m__law_step, runB, b__law_step, h, outs, isFz], by decide, by decide⟩
  · exact ⟨1, p.next 5, by simp [m__law_step, runB, b__law_step, h, outs, isFz], by decide, by decide⟩
  · exact ⟨1, p.next 5, by simp [m__law_step, runB, b__law_step, h, outs, isFz], by decide, by decide⟩
  · exact ⟨1 + (p.next 5).take 9, (p.next 5).next 9, by simp [m__law_step, runB, b__law_step, h, outs, isFz], by omega, by omega⟩
  · exact ⟨1 + (p.next 5).take 16000000, (p.next 5).next 16000000, by simp [m__law_step, runB, b__law_step, h, outs, isFz], by omega, by omega⟩
def odI (ns : List Int) : List OD := (ns.map D.int).map .fz
theorem room_ok (p : Pu) (w x y : OD) (rs : List Int) (hl : rs.length < 100) : ∃ (q : Pu) (r : Int) (z : OD), l__law_rooms_1 [p.od, w, .lst (odI rs), x, y] = .nx [q.od, w, .lst (odI (rs ++ [r])), x, z] ∧ 0 ≤ r ∧ r ≤ 99 := by
  have h0 := p.take_nn (n := 8) (by decide)
  have h1 := p.take_lt (n := 8) (by decide)
  have t := (p.next 8).take_nn (n := 100) (by decide)
  have t' := (p.next 8).take_lt (n := 100) (by decide)
  have e : rs.length < 10000000 := by omega
  by_cases h : p.take 8 / 2 = 3
  · exact ⟨(p.next 8).next 100, (p.next 8).take 100, .fz (.int ((p.next 8).take 100)), by simp [l__law_rooms_1, h, e, odI], t, by omega⟩
  · exact ⟨p.next 8, p.take 8 / 2, .fz (.int (p.take 8 / 2)), by simp [l__law_rooms_1, h, e, odI], by omega, by omega⟩
theorem odI_fzs {ns : List Int} : fzs (odI ns) = some (ns.map D.int) := fzs_mapfz
theorem rooms_ok (p : Pu) (w : Int) (h0 : 0 ≤ w) (h1 : w ≤ 100) : ∃ (q : Pu) (rs : List Int), m__law_rooms [p.od, .fz (.int w)] = .ret (.fz (.tup (rs.map .int))) [q.od, .fz (.int w)] ∧ rs.length = w.toNat ∧ ∀ r ∈ rs, 0 ≤ r ∧ r ≤ 99 := by
  have key := for_ix (P := fun i e => ∃ (q : Pu) (rs : List Int) (x y : OD), e = [q.od, .fz (.int w), .lst (odI rs), x, y] ∧ rs.length = i ∧ ∀ r ∈ rs, 0 ≤ r ∧ r ≤ 99) (g := gSet 3) (body := l__law_rooms_1) (rng 0 w.toNat) 0 [p.od, .fz (.int w), .lst (odI []), .un, .un] ⟨p, [], _, _, rfl, rfl, by simp⟩ fun i d env hi ⟨q, rs, x, y, he, hl, ha⟩ => by
    obtain ⟨hi, rfl⟩ := rng_get hi
    subst he
    obtain ⟨q', r, z, e, r0, r1⟩ := room_ok q (.fz (.int w)) (.fz (.int (0 + (i : Int)))) y rs (by omega)
    refine ⟨_, _, by simp [gSet], .inl e, q', rs ++ [r], _, _, rfl, by simp [hl], fun s hs => ?_⟩
    rcases List.mem_append.mp hs with hs | hs
    · exact ha s hs
    · simp at hs; subst hs; exact ⟨r0, r1⟩
  obtain ⟨e, he, q, rs, x, y, rfl, hl, ha⟩ := key
  have hw : w < 2 ^ 62 := by omega
  have hw' : -(2 ^ 62) ≤ w := by omega
  have he' : forGo (gSet 3) l__law_rooms_1 (rng 0 w.toNat) [p.od, .fz (.int w), .lst [], .un, .un] = _ := he
  have g1 : gR1 [.own (.fz (.int w))] = some (rng 0 w.toNat) := eR1 hw' hw
  have g2 : gTuple [.view (.lst (odI rs))] = some (.own (.fz (.tup (rs.map .int)))) := gTuple_v odI_fzs
  refine ⟨q, rs, ?_, by simpa [rng_len] using hl, ha⟩
  simp [m__law_rooms, runB, b__law_rooms, g1, he', g2, outs, isFz]
end Law
namespace Law
open PySem PySem.Spec L2 Tl

/-! ### the meetings of a book -/
structure M where
  when : Int
  one : Int
  other : Int
  many : Int
def M.key (m : M) : List Int := [m.when, m.one, m.other, m.many]
def fmO (fm : List M) : List OD := (fm.map fun m => tupD m.key).map .fz
theorem other_ok {a t w : Int} (h0 : 0 ≤ a) (h1 : a < w) (h2 : 0 ≤ t) (h3 : t < w - 1) : 0 ≤ (a + 1 + t) % w ∧ (a + 1 + t) % w < w ∧ (a + 1 + t) % w ≠ a := by
  by_cases h : a + 1 + t < w
  · rw [Int.emod_eq_of_lt (by omega) h]; omega
  · have e : (a + 1 + t) % w = (a + 1 + t - w) % w := by
      have := Int.add_emod_right (a + 1 + t - w) w
      rw [← this]
      congr 1
      omega
    rw [e, Int.emod_eq_of_lt (by omega) (by omega)]; omega
theorem cat_busy {bs : List Int} {a b : Int} (h : bs.length < 1000) : gAdd (.view (.lst (odI bs)), .own (.lst [.fz (.int a), .fz (.int b)])) = some (.own (.lst (odI (bs ++ [a, b])))) := by
  have := gAdd_l (r := .view (.lst (odI bs))) (u := .own (.lst [.fz (.int a), .fz (.int b)])) (xs := bs.map .int) (ys := [.int a, .int b]) rfl rfl odI_fzs (by simp) (by simp [sizeLine]; omega)
  rw [this]; simp [odI]
theorem odI2 {a b : Int} : odI [a, b] = [.fz (.int a), .fz (.int b)] := by simp [odI]
theorem in_busy {bs : List Int} {a : Int} : gIn (.own (.fz (.int a)), .view (.lst (odI bs))) = some (.own (.fz (.bl (decide (a ∈ bs))))) := gIn_lst odI_fzs
def MTurn (e : Tl.Env) (w : Int) (u2 k x11 x12 x13 x14 x15 : OD) (fm : List M) (wn : Int) (bs : List Int) : Prop :=
    ∃ (q : Pu) (m : M) (bs' : List Int) (y7 y8 y9 y10 : OD), l__law_meetings_1 e =
      .nx [q.od, .fz (.int w), u2, .lst (fmO (fm ++ [m])), .fz (.int m.when), .lst (odI bs'), k, y7, y8, y9, y10, x11, x12, x13, x14, x15] ∧
      wn ≤ m.when ∧ m.when ≤ wn + 16000000 ∧ 0 ≤ m.one ∧ m.one < m.other ∧ m.other < w ∧ 1 ≤ m.many ∧ m.many ≤ 99 ∧ bs'.length ≤ bs.length + 2 ∧ m.one ∈ bs' ∧ m.other ∈ bs' ∧ (m.when = wn → (∀ b ∈ bs, b ∈ bs') ∧ m.one ∉ bs ∧ m.other ∉ bs)
theorem mturn (p : Pu) (w : Int) (hw : 2 ≤ w) (hw2 : w ≤ 100) (u2 k x7 x8 x9 x10 x11 x12 x13 x14 x15 : OD) (fm : List M) (wn : Int) (bs : List Int) (hf : fm.length < 1000) (hb : bs.length < 1000) :
    MTurn [p.od, .fz (.int w), u2, .lst (fmO fm), .fz (.int wn), .lst (odI bs), k, x7, x8, x9, x10, x11, x12, x13, x14, x15] w u2 k x11 x12 x13 x14 x15 fm wn bs := by
  have a0 := p.take_nn (n := w) (by omega)
  have a1 := p.take_lt (n := w) (by omega)
  have b0 := (p.next w).take_nn (n := w - 1) (by omega)
  have b1 := (p.next w).take_lt (n := w - 1) (by omega)
  have w1 : 0 < w := by omega
  have w2 : w < 340282366920938463463374607431768211456 := by omega
  have w3 : 0 < w - 1 := by omega
  have w4 : w - 1 < 340282366920938463463374607431768211456 := by omega
  have t1 := take_s p w1 w2
  have t2 := take_s (p.next w) w3 w4
  obtain ⟨g, q3, e3, g0, g1⟩ := step_ok ((p.next w).next (w - 1))
  obtain ⟨o0, o1, o2⟩ := other_ok a0 a1 b0 b1
  generalize hone : p.take w = one at *
  generalize hother : (one + 1 + (p.next w).take (w - 1)) % w = other at *
  have c0 := q3.take_nn (n := 4) (by decide)
  have c1 := q3.take_lt (n := 4) (by decide)
  have d0 := ((q3.next 4).next 6).take_nn (n := 99) (by decide)
  have d1 := ((q3.next 4).next 6).take_lt (n := 99) (by decide)
  have hfl : (fmO fm).length < 10000000 := by simp [fmO]; omega
  have key : ∀ (gap : Int) (bs1 : List Int), bs1.length ≤ bs.length → 0 ≤ gap → gap ≤ 16000000 → (gap = 0 → bs1 = bs ∧ one ∉ bs ∧ other ∉ bs) →
      ∀ (q : Pu) (many : Int) (y9 y10 : OD), 1 ≤ many → many ≤ 99 → l__law_meetings_1 [p.od, .fz (.int w), u2, .lst (fmO fm), .fz (.int wn), .lst (odI bs), k, x7, x8, x9, x10, x11, x12, x13, x14, x15] =
        .nx [q.od, .fz (.int w), u2, .lst (fmO fm ++ [.fz (.tup [.int (wn + gap), .int (if other < one then other else one), .int (if other > one then other else one), .int many])]), .fz (.int (wn + gap)), .lst (odI (bs1 ++ [one, other])), k, .fz (.int one), .fz (.int other), y9, y10, x11, x12, x13, x14, x15] → MTurn [p.od, .fz (.int w), u2, .lst (fmO fm), .fz (.int wn), .lst (odI bs), k, x7, x8, x9, x10, x11, x12, x13, x14, x15] w u2 k x11 x12 x13 x14 x15 fm wn bs := fun gap bs1 hl gp gq hz q many y9 y10 m0 m1 e =>
    ⟨q, ⟨wn + gap, if other < one then other else one, if other > one then other else one, many⟩, bs1 ++ [one, other], .fz (.int one), .fz (.int other), y9, y10, by rw [e]; simp [fmO, M.key, tupD], by show wn ≤ wn + gap; omega, by show wn + gap ≤ _; omega, by show 0 ≤ (if other < one then other else one); split <;> omega,
      by show (if other < one then other else one) < (if other > one then other else one); split <;> split <;> omega, by show (if other > one then other else one) < w; split <;> omega, m0, m1, by simp; omega,
      by show (if other < one then other else one) ∈ _; split <;> simp, by show (if other > one then other else one) ∈ _; split <;> simp, fun h => by
        have h' : wn + gap = wn := h
        obtain ⟨z1, z2, z3⟩ := hz (by omega)
        subst z1
        refine ⟨fun b m => by simp [m], ?_, ?_⟩
        · show (if other < one then other else one) ∉ _; split <;> assumption
        · show (if other > one then other else one) ∉ _; split <;> assumption⟩
  have hbl : ∀ a b : Int, gAdd (.view (.lst (odI bs)), .own (.lst [.fz (.int a), .fz (.int b)])) = some (.own (.lst (odI (bs ++ [a, b])))) := fun a b => cat_busy hb
  have hbn : ∀ a b : Int, gAdd (.view (.lst []), .own (.lst [.fz (.int a), .fz (.int b)])) = some (.own (.lst [.fz (.int a), .fz (.int b)])) := fun a b => cat_busy (bs := []) (by simp)
  have fin : ∀ gap : Int, gap ≤ 16000000 → 0 < gap → (one ∈ bs ∨ other ∈ bs) → (if g > 1 then g else 1) = gap → MTurn [p.od, .fz (.int w), u2, .lst (fmO fm), .fz (.int wn), .lst (odI bs), k, x7, x8, x9, x10, x11, x12, x13, x14, x15] w u2 k x11 x12 x13 x14 x15 fm wn bs := fun gap h1 h2 hin h3 => by
    have h3' : (if 1 < g then g else 1) = gap := h3
    have z : (bOr (tV RV.bool? (e2 gIn (eVar 7) (eVar 5))) (tV RV.bool? (e2 gIn (eVar 8) (eVar 5)))) [q3.od, .fz (.int w), u2, .lst (fmO fm), .fz (.int wn), .lst (odI bs), k, .fz (.int one), .fz (.int other), .fz (.int g), x10, x11, x12, x13, x14, x15] = .ok true := by
      by_cases i1 : one ∈ bs
      · simp [in_busy, i1]
      · have i2 : other ∈ bs := by
          rcases hin with h | h
          · exact absurd h i1
          · exact h
        simp [in_busy, i1, i2]
    by_cases hm : (q3.next 4).take 6 = 3
    · exact key gap [] (by simp) (by omega) (by omega) (by omega) (((q3.next 4).next 6).next 99) (1 + ((q3.next 4).next 6).take 99) (.fz (.int gap)) (.fz (.int (1 + ((q3.next 4).next 6).take 99))) (by omega) (by omega) (by
        simp [l__law_meetings_1, t1, t2, hone, hother, w1, e3, in_busy, hbn, hbl, hm, hfl, odI2, -bOr_e, h2, h3', z])
    · exact key gap [] (by simp) (by omega) (by omega) (by omega) ((q3.next 4).next 6) (1 + q3.take 4 / 2) (.fz (.int gap)) (.fz (.int (1 + q3.take 4 / 2))) (by omega) (by omega) (by
        simp [l__law_meetings_1, t1, t2, hone, hother, w1, e3, in_busy, hbn, hbl, hm, hfl, odI2, -bOr_e, h2, h3', z])
  by_cases hin : one ∈ bs ∨ other ∈ bs
  · by_cases h : g > 1
    · exact fin g g1 (by omega) hin (if_pos h)
    · exact fin 1 (by omega) (by omega) hin (if_neg h)
  have i1 : one ∉ bs := fun z => hin (.inl z)
  have i2 : other ∉ bs := fun z => hin (.inr z)
  by_cases hg : 0 < g
  · by_cases hm : (q3.next 4).take 6 = 3
    · exact key g [] (by simp) (by omega) (by omega) (by omega) (((q3.next 4).next 6).next 99) (1 + ((q3.next 4).next 6).take 99) (.fz (.int g)) (.fz (.int (1 + ((q3.next 4).next 6).take 99))) (by omega) (by omega) (by
        simp [l__law_meetings_1, t1, t2, hone, hother, w1, e3, in_busy, hbn, hbl, hm, hfl, odI2, hg, i1, i2])
    · exact key g [] (by simp) (by omega) (by omega) (by omega) ((q3.next 4).next 6) (1 + q3.take 4 / 2) (.fz (.int g)) (.fz (.int (1 + q3.take 4 / 2))) (by omega) (by omega) (by
        simp [l__law_meetings_1, t1, t2, hone, hother, w1, e3, in_busy, hbn, hbl, hm, hfl, odI2, hg, i1, i2])
  · have hg0 : g = 0 := by omega
    subst hg0
    by_cases hm : (q3.next 4).take 6 = 3
    · exact key 0 bs (by simp) (by omega) (by omega) (fun _ => ⟨rfl, i1, i2⟩) (((q3.next 4).next 6).next 99) (1 + ((q3.next 4).next 6).take 99) (.fz (.int 0)) (.fz (.int (1 + ((q3.next 4).next 6).take 99))) (by omega) (by omega) (by
        simp [l__law_meetings_1, t1, t2, hone, hother, w1, e3, in_busy, hbn, hbl, hm, hfl, odI2, i1, i2])
    · exact key 0 bs (by simp) (by omega) (by omega) (fun _ => ⟨rfl, i1, i2⟩) ((q3.next 4).next 6) (1 + q3.take 4 / 2) (.fz (.int 0)) (.fz (.int (1 + q3.take 4 / 2))) (by omega) (by omega) (by
        simp [l__law_meetings_1, t1, t2, hone, hother, w1, e3, in_busy, hbn, hbl, hm, hfl, odI2, i1, i2])
end Law
namespace Law
open PySem PySem.Spec L2 Tl

def M.dis (a b : M) : Prop := a.one ≠ b.one ∧ a.one ≠ b.other ∧ a.other ≠ b.one ∧ a.other ≠ b.other
def M.good (w : Int) (m : M) : Prop := 0 ≤ m.one ∧ m.one < m.other ∧ m.other < w ∧ 1 ≤ m.many ∧ m.many ≤ 99
structure MInv (w : Int) (i : Nat) (fm : List M) (wn : Int) (bs : List Int) : Prop where
  len : fm.length = i
  w0 : 1 ≤ wn
  w1 : wn ≤ 10000000 + i * 16000000
  bl : bs.length ≤ 2 * i
  ok : ∀ m ∈ fm, m.good w ∧ 1 ≤ m.when ∧ m.when ≤ wn ∧ (m.when = wn → m.one ∈ bs ∧ m.other ∈ bs)
  pw : fm.Pairwise fun a b => a.when = b.when → a.dis b
theorem mloop (p : Pu) (w most : Int) (hw : 2 ≤ w) (hw2 : w ≤ 100) (hm : most ≤ 60) (wn : Int) (h0 : 1 ≤ wn) (h1 : wn ≤ 10000000) (u11 u12 u13 u14 u15 : OD) :
    ∃ (q : Pu) (fm : List M) (wn' : Int) (bs : List Int) (k x7 x8 x9 x10 : OD), forGo (gSet 6) l__law_meetings_1 (rng 0 most.toNat) [p.od, .fz (.int w), .fz (.int most), .lst [], .fz (.int wn), .lst [], .un, .un, .un, .un, .un, u11, u12, u13, u14, u15] =
      .nx [q.od, .fz (.int w), .fz (.int most), .lst (fmO fm), .fz (.int wn'), .lst (odI bs), k, x7, x8, x9, x10, u11, u12, u13, u14, u15] ∧ MInv w most.toNat fm wn' bs := by
  obtain ⟨e, he, q, fm, wn', bs, k, x7, x8, x9, x10, rfl, I⟩ := for_ix (P := fun i e => ∃ (q : Pu) (fm : List M) (wn' : Int) (bs : List Int) (k x7 x8 x9 x10 : OD), e = [q.od, .fz (.int w), .fz (.int most), .lst (fmO fm), .fz (.int wn'), .lst (odI bs), k, x7, x8, x9, x10, u11, u12, u13, u14, u15] ∧ MInv w i fm wn' bs)
    (g := gSet 6) (body := l__law_meetings_1) (rng 0 most.toNat) 0 [p.od, .fz (.int w), .fz (.int most), .lst (fmO []), .fz (.int wn), .lst (odI []), .un, .un, .un, .un, .un, u11, u12, u13, u14, u15]
    ⟨p, [], wn, [], _, _, _, _, _, rfl, ⟨rfl, h0, by simpa using h1, by simp, by simp, .nil⟩⟩ fun i d env hi ⟨q, fm, wn', bs, k, x7, x8, x9, x10, he, I⟩ => by
      obtain ⟨hi, rfl⟩ := rng_get hi
      subst he
      have hl := I.len
      have hb := I.bl
      obtain ⟨q', m, bs', y7, y8, y9, y10, e, a1, a2, a3, a4, a5, a6, a7, a8, a9, a10, a11⟩ := mturn q w hw hw2 (.fz (.int most)) (.fz (.int (0 + (i : Int)))) x7 x8 x9 x10 u11 u12 u13 u14 u15 fm wn' bs (by omega) (by omega)
      refine ⟨_, _, by simp [gSet], .inl e, q', fm ++ [m], m.when, bs', _, _, _, _, _, rfl, ⟨by simp [hl], by have := I.w0; omega, by have := I.w1; omega, by omega, fun a ha => ?_, ?_⟩⟩
      · rcases List.mem_append.mp ha with ha | ha
        · obtain ⟨g, z1, z2, z3⟩ := I.ok a ha
          refine ⟨g, z1, by omega, fun e => ?_⟩
          obtain ⟨s1, _⟩ := a11 (by omega)
          obtain ⟨s2, s3⟩ := z3 (by omega)
          exact ⟨s1 _ s2, s1 _ s3⟩
        · simp at ha; subst ha
          exact ⟨⟨a3, a4, a5, a6, a7⟩, by have := I.w0; omega, Int.le_refl _, fun _ => ⟨a9, a10⟩⟩
      · refine List.pairwise_append.mpr ⟨I.pw, by simp, fun a ha b hb e => ?_⟩
        simp at hb; subst hb
        obtain ⟨g, z1, z2, z3⟩ := I.ok a ha
        obtain ⟨_, s1, s2⟩ := a11 (by omega)
        obtain ⟨s3, s4⟩ := z3 (by omega)
        exact ⟨fun z => s1 (z ▸ s3), fun z => s2 (z ▸ s3), fun z => s1 (z ▸ s4), fun z => s2 (z ▸ s4)⟩
  rw [Nat.zero_add, rng_len] at I
  exact ⟨q, fm, wn', bs, k, x7, x8, x9, x10, he, I⟩
/-! the rows, sorted -/
theorem perm_map {α β : Type} {f : α → β} : ∀ {as bs : List β}, as.Perm bs → ∀ xs : List α, bs = xs.map f → ∃ ys : List α, as = ys.map f ∧ ys.Perm xs := fun {as bs} h => by
  induction h with
  | nil => intro ns h; cases ns with | nil => exact ⟨[], rfl, .nil⟩ | cons _ _ => simp at h
  | cons x _ ih => intro ns h; cases ns with
    | nil => simp at h
    | cons n ns => simp at h; obtain ⟨ms, a, b⟩ := ih ns h.2; exact ⟨n :: ms, by simp [h.1, a], b.cons _⟩
  | swap x y l => intro ns h; match ns, h with
    | n :: m :: ns, h => simp at h; exact ⟨m :: n :: ns, by simp [h.1, h.2.1, h.2.2], .swap _ _ _⟩
  | trans _ _ ih1 ih2 => intro ns h; obtain ⟨ms, a, b⟩ := ih2 ns h; obtain ⟨ks, c, d⟩ := ih1 ms a; exact ⟨ks, c, d.trans b⟩
theorem gSorted_tups {o : OD} {ds : List D} {nss : List (List Int)} (h : o.items = some ds) (e1 : dInts ds = none) (e2 : dTups ds = some nss) (hc : nss.length < 64 ∧ 1 ≤ (nss.headD []).length ∧ bdAll (nss.headD []).length nss = true) : gSorted [.view o] = some (.own (.lst (((sortT nss).map tupD).map .fz))) := by
  simp only [gSorted, RV.od, h, e1, e2]
  exact if_pos hc
theorem sorted_fm {w : Int} {i : Nat} {fm : List M} {wn : Int} {bs : List Int} (I : MInv w i fm wn bs) (hi : i ≤ 60) (hw : w ≤ 100) : ∃ fs : List M, gSorted [.view (.lst (fmO fm))] = some (.own (.lst ((fs.map fun m => tupD m.key).map .fz))) ∧ fs.Perm fm ∧ fs.Pairwise fun a b => lexLe a.key b.key = true := by
  have hit : (OD.lst (fmO fm)).items = some (fm.map fun m => tupD m.key) := fzs_mapfz
  cases fm with
  | nil => exact ⟨[], by simp [gSorted, fmO, OD.items, sortI], .nil, .nil⟩
  | cons m fm =>
    have e1 : dInts ((m :: fm).map fun m => tupD m.key) = none := rfl
    have e2 : dTups ((m :: fm).map fun m => tupD m.key) = some ((m :: fm).map M.key) := by
      have := dTups_map (nss := (m :: fm).map M.key)
      rw [List.map_map] at this
      exact this
    have h3 : bdAll 4 ((m :: fm).map M.key) = true := by
      unfold bdAll
      rw [List.all_map, List.all_eq_true]
      intro a ha
      obtain ⟨⟨g1, g2, g3, g4, g5⟩, z1, z2, _⟩ := I.ok a ha
      have := I.w1
      have l1 : a.when < 18446744073709551616 := by omega
      have l2 : a.one < 18446744073709551616 := by omega
      have l3 : a.other < 18446744073709551616 := by omega
      have l4 : a.many < 18446744073709551616 := by omega
      have n1 : 0 ≤ a.when := by omega
      have n3 : 0 ≤ a.other := by omega
      have n4 : 0 ≤ a.many := by omega
      simp [M.key, l1, l2, l3, l4, n1, n3, n4, g1]
    have hl : ((m :: fm).map M.key).length < 64 := by rw [List.length_map, I.len]; omega
    obtain ⟨fs, f1, f2⟩ := perm_map (f := M.key) (List.mergeSort_perm ((m :: fm).map M.key) lexLe) (m :: fm) rfl
    have pw := List.pairwise_mergeSort lexLe_trans lexLe_total ((m :: fm).map M.key)
    rw [f1, List.pairwise_map] at pw
    refine ⟨fs, ?_, f2, pw⟩
    rw [gSorted_tups hit e1 e2 ⟨hl, by show 1 ≤ 4; decide, h3⟩]
    unfold sortT
    rw [f1]
    simp
def rowD (m : M) : D := tupD [m.one, m.other, m.when, m.many]
structure RowsOk (w : Int) (rows : List M) : Prop where
  ok : ∀ m ∈ rows, m.good w ∧ 1 ≤ m.when ∧ m.when ≤ 1000000000
  pw : rows.Pairwise fun a b => (a.when < b.when ∨ (a.when = b.when ∧ a.one < b.one)) ∧ (a.when = b.when → a.dis b)
def M.late (l : Int) (m : M) : M := ⟨m.when + l, m.one, m.other, m.many⟩
theorem rows_ok {w : Int} {i : Nat} {fm fs : List M} {wn : Int} {bs : List Int} (I : MInv w i fm wn bs) (hi : i ≤ 60) (hp : fs.Perm fm) (hs : fs.Pairwise fun a b => lexLe a.key b.key = true) (l : Int) (h0 : 0 ≤ l) (h1 : fm ≠ [] → wn + l ≤ 1000000000) : RowsOk w (fs.map (M.late l)) := by
  refine ⟨fun m hm => ?_, ?_⟩
  · obtain ⟨a, ha, rfl⟩ := List.mem_map.mp hm
    have ha' := hp.mem_iff.mp ha
    obtain ⟨g, z1, z2, _⟩ := I.ok a ha'
    have := h1 (fun z => by rw [z] at ha'; cases ha')
    exact ⟨g, by show 1 ≤ a.when + l; omega, by show a.when + l ≤ _; omega⟩
  · rw [List.pairwise_map]
    have d : fs.Pairwise fun a b => a.when = b.when → a.dis b := (hp.pairwise_iff (fun {a b} h e => by obtain ⟨q1, q2, q3, q4⟩ := h e.symm; exact ⟨Ne.symm q1, Ne.symm q3, Ne.symm q2, Ne.symm q4⟩)).mpr I.pw
    refine (hs.and d).imp fun {a b} ⟨h, k⟩ => ?_
    have h' : a.when < b.when ∨ (a.when = b.when ∧ a.one ≤ b.one) := by
      simp only [M.key, lexLe, Bool.or_eq_true, Bool.and_eq_true, decide_eq_true_eq] at h
      rcases h with h | ⟨h, h2 | ⟨h2, _⟩⟩
      · exact .inl h
      · exact .inr ⟨h, by omega⟩
      · exact .inr ⟨h, by omega⟩
    refine ⟨?_, fun e => k (by have : a.when + l = b.when + l := e; omega)⟩
    show a.when + l < b.when + l ∨ (a.when + l = b.when + l ∧ a.one < b.one)
    rcases h' with h' | ⟨h', h''⟩
    · exact .inl (by omega)
    · have := (k h').1
      exact .inr ⟨by omega, by omega⟩
theorem gNe_fm {fm : List M} : gNe (.view (.lst (fmO fm)), .own (.lst [])) = some (.own (.fz (.bl (decide (fm ≠ []))))) := by
  have e : (OD.lst (fmO fm)).plain = some (.lst ((fm.map M.key).map tupD)) := by
    have h : frzL (fmO fm) = some ((fm.map M.key).map tupD) := by
      rw [List.map_map]; exact frzL_mapfz
    rw [plain_lst, h]; rfl
  have n : (D.lst ((fm.map M.key).map tupD)).nb = true := by simp only [D.nb]; exact nb_tups
  have k := dEq_iff (.lst ((fm.map M.key).map tupD)) (.lst []) n (by simp [D.nb, D.nbL])
  show (match (OD.lst (fmO fm)).plain, some (D.lst []) with
    | some d, some e => if dOk d = true ∧ dOk e = true then some (RV.b (!dEq d e)) else none
    | _, _ => none) = _
  rw [e]
  show (if dOk (.lst ((fm.map M.key).map tupD)) = true ∧ dOk (.lst []) = true then some (RV.b (!dEq (.lst ((fm.map M.key).map tupD)) (.lst []))) else none) = _
  rw [if_pos ⟨dOk_tups, dOk_nilL⟩]
  cases fm with
  | nil => rw [k.mpr rfl]; rfl
  | cons m fm =>
    have : dEq (.lst (((m :: fm).map M.key).map tupD)) (.lst []) = false := Bool.eq_false_iff.mpr fun z => by
      have := k.mp z
      simp at this
    rw [this]; rfl
theorem lc_rows (fm fs : List M) (l : Int) (o0 o1 o2 o4 o5 o6 o7 o8 o9 o10 : OD) (h1 : gSorted [.view (.lst (fmO fm))] = some (.own (.lst ((fs.map fun m => tupD m.key).map .fz)))) (hl : fs.length < 1000) :
    k__law_meetings_1 [o0, o1, o2, .lst (fmO fm), o4, o5, o6, o7, o8, o9, o10, .fz (.int l), .un, .un, .un, .un] = .ok (.own (.lst (((fs.map (M.late l)).map rowD).map .fz))) := by
  have s3 : eL gSorted (aCons (eVar 3) aNil) [o0, o1, o2, .lst (fmO fm), o4, o5, o6, o7, o8, o9, o10, .fz (.int l), .un, .un, .un, .un] = .ok (.own (.lst ((fs.map fun m => tupD m.key).map .fz))) := by simp [-List.map_map, h1]
  unfold k__law_meetings_1
  rw [lc_pure (fun _ => true) (fun d => match d with
    | .tup [.int a, .int b, .int c, .int e] => .fz (.tup [.int b, .int c, .int (a + l), .int e])
    | _ => .un) (by simp) (by simp only [s3, mp_ok, items_lst]; rfl) (by rw [List.length_map]; omega) (fun d hd => ?_)]
  · rw [List.filter_eq_self.mpr (by simp), List.map_map, List.map_map, List.map_map]
    rfl
  · obtain ⟨m, _, rfl⟩ := List.mem_map.mp hd
    refine ⟨[o0, o1, o2, .lst (fmO fm), o4, o5, o6, o7, o8, o9, o10, .fz (.int l), .fz (.int m.when), .fz (.int m.one), .fz (.int m.other), .fz (.int m.many)], ?_, rfl, fun _ => ?_⟩
    · simp [wipeE, cTup, csCons, csNil, cSet, tupD, M.key]
    · simp [tupD, M.key]
theorem meetings_ok (p : Pu) (w most : Int) (hw0 : 1 ≤ w) (hw : 2 ≤ w ∨ most = 0) (hw2 : w ≤ 100) (hm0 : 0 ≤ most) (hm : most ≤ 60) : ∃ (q : Pu) (rows : List M), m__law_meetings [p.od, .fz (.int w), .fz (.int most)] = .ret (.fz (.tup (rows.map rowD))) [q.od, .fz (.int w), .fz (.int most)] ∧ RowsOk w rows ∧ rows.length = most.toNat := by
  have a0 := p.take_nn (n := 3) (by decide)
  have a1 := p.take_lt (n := 3) (by decide)
  have b0 := (p.next 3).take_nn (n := 10000000) (by decide)
  have b1 := (p.next 3).take_lt (n := 10000000) (by decide)
  have hmul : mulSafe (p.take 3 / 2) ((p.next 3).take 10000000) := .inl ⟨by omega, by omega⟩
  generalize hs : 1 + p.take 3 / 2 * (p.next 3).take 10000000 = wn
  have s0 : 1 ≤ wn ∧ wn ≤ 10000000 := by
    have : p.take 3 / 2 = 0 ∨ p.take 3 / 2 = 1 := by omega
    rcases this with h | h <;> rw [h] at hs <;> omega
  have key : ∃ (q : Pu) (fm : List M) (wn' : Int) (bs : List Int) (k x7 x8 x9 x10 : OD), forGo (gSet 6) l__law_meetings_1 (rng 0 most.toNat) [((p.next 3).next 10000000).od, .fz (.int w), .fz (.int most), .lst [], .fz (.int wn), .lst [], .un, .un, .un, .un, .un, .un, .un, .un, .un, .un] =
      .nx [q.od, .fz (.int w), .fz (.int most), .lst (fmO fm), .fz (.int wn'), .lst (odI bs), k, x7, x8, x9, x10, .un, .un, .un, .un, .un] ∧ MInv w most.toNat fm wn' bs := by
    rcases hw with hw | hw
    · exact mloop _ w most hw hw2 hm wn s0.1 s0.2 .un .un .un .un .un
    · subst hw
      exact ⟨_, [], wn, [], _, _, _, _, _, rfl, ⟨rfl, s0.1, by have := s0.2; simpa using this, by simp, by simp, .nil⟩⟩
  obtain ⟨q, fm, wn', bs, k, x7, x8, x9, x10, he, I⟩ := key
  obtain ⟨fs, h1, h2, h3⟩ := sorted_fm I (by omega) hw2
  have r1 : gR1 [.own (.fz (.int most))] = some (rng 0 most.toNat) := eR1 (by omega) (by omega)
  have hfl : fs.length < 1000 := by rw [h2.length_eq, I.len]; omega
  have fin : ∀ l : Int, 0 ≤ l → (fm ≠ [] → wn' + l ≤ 1000000000) → (sIf (bAnd (tV RV.bool? (e2 gEq (eCall m__law_take (cIo 0 (cVal (eC (.int 8)) cNil))) (eC (.int 3)))) (tV RV.bool? (e2 gNe (eVar 3) (eL gLst aNil))))
        (sAsg (e2 (g2i fun i j => some (iSub i j)) (e2 (g2i iPow) (eC (.int 10)) (eC (.int 9))) (eVar 4)) (gSet 11)) sNx) [q.od, .fz (.int w), .fz (.int most), .lst (fmO fm), .fz (.int wn'), .lst (odI bs), k, x7, x8, x9, x10, .fz (.int 0), .un, .un, .un, .un] =
        .nx [(q.next 8).od, .fz (.int w), .fz (.int most), .lst (fmO fm), .fz (.int wn'), .lst (odI bs), k, x7, x8, x9, x10, .fz (.int l), .un, .un, .un, .un] →
      ∃ (q : Pu) (rows : List M), m__law_meetings [p.od, .fz (.int w), .fz (.int most)] = .ret (.fz (.tup (rows.map rowD))) [q.od, .fz (.int w), .fz (.int most)] ∧ RowsOk w rows ∧ rows.length = most.toNat := fun l l0 l1 hl => by
    refine ⟨q.next 8, fs.map (M.late l), ?_, rows_ok I (by omega) h2 h3 l l0 l1, by rw [List.length_map, h2.length_eq, I.len]⟩
    have lc := fun a b c d e f g h i j => lc_rows fm fs l a b c d e f g h i j h1 hfl
    have g2 : gTuple [.own (.lst (((fs.map (M.late l)).map rowD).map .fz))] = some (.own (.fz (.tup ((fs.map (M.late l)).map rowD)))) := gTuple_l fzs_mapfz
    unfold m__law_meetings runB b__law_meetings
    simp [-sIf_e, -List.map_map, hmul, hs, r1, he, ↓hl, lc, g2, outs, isFz]
  by_cases hc : q.take 8 = 3 ∧ fm ≠ []
  · refine fin (1000000000 - wn') ?_ (fun _ => by omega) ?_
    · have := I.w1; omega
    · simp [hc.1, gNe_fm, hc.2]
  · refine fin 0 (by omega) (fun _ => by have := I.w1; omega) ?_
    by_cases h8 : q.take 8 = 3
    · have : fm = [] := Classical.not_not.mp fun z => hc ⟨h8, z⟩
      subst this
      simp [h8, gNe_fm]
    · simp [h8]
end Law
namespace Law
open PySem PySem.Spec L2 Tl

/-! ### a book -/
structure Bk where
  rooms : List Int
  rows : List M
def roomsD (rs : List Int) : D := .tup (rs.map .int)
def rowsD (rs : List M) : D := .tup (rs.map rowD)
def Bk.d (B : Bk) : D := .tup [roomsD B.rooms, rowsD B.rows]
@[simp] theorem ix_rooms {B : Bk} : gIx (.own (.fz B.d), .own (.fz (.int 0))) = some (.own (.fz (roomsD B.rooms))) := by simp [Bk.d]
@[simp] theorem ix_rows {B : Bk} : gIx (.own (.fz B.d), .own (.fz (.int 1))) = some (.own (.fz (rowsD B.rows))) := by simp [Bk.d]
@[simp] theorem items_rows {rs : List M} : gItems (.own (.fz (rowsD rs))) = some (rs.map rowD) := by simp [rowsD]
@[simp] theorem enum_rows {rs : List M} : gEnum (.own (.fz (rowsD rs))) = some (numD (rs.map rowD)) := by simp [gEnum]
@[simp] theorem len_rooms {rs : List Int} : gLen [.own (.fz (roomsD rs))] = some (.own (.fz (.int rs.length))) := by simp [roomsD]
@[simp] theorem len_rows {rs : List M} : gLen [.own (.fz (rowsD rs))] = some (.own (.fz (.int rs.length))) := by simp [rowsD]
structure BkOk (mw mm : Int) (B : Bk) : Prop where
  w0 : 1 ≤ B.rooms.length
  w1 : (B.rooms.length : Int) ≤ mw
  rm : ∀ r ∈ B.rooms, 0 ≤ r ∧ r ≤ 99
  ro : RowsOk B.rooms.length B.rows
  m1 : (B.rows.length : Int) ≤ mm
theorem book_ok (p : Pu) (mw mm : Int) (h0 : 1 ≤ mw) (h1 : mw ≤ 99) (h2 : 0 ≤ mm) (h3 : mm ≤ 60) : ∃ (q : Pu) (B : Bk), m__law_book [p.od, .fz (.int mw), .fz (.int mm)] = .ret (.fz B.d) [q.od, .fz (.int mw), .fz (.int mm)] ∧ BkOk mw mm B := by
  have a0 := p.take_nn (n := mw) (by omega)
  have a1 := p.take_lt (n := mw) (by omega)
  have b0 := (p.next mw).take_nn (n := mm + 3) (by omega)
  have t1 := take_s p (n := mw) (by omega) (by omega)
  have t2 := take_s (p.next mw) (n := mm + 3) (by omega) (by omega)
  generalize hw : 1 + p.take mw = w at *
  have w0 : 1 ≤ w ∧ w ≤ mw := by omega
  generalize hmo : (if (p.next mw).take (mm + 3) < mm then (p.next mw).take (mm + 3) else mm) = mo at *
  have m0 : 0 ≤ mo ∧ mo ≤ mm := by
    rw [← hmo]; split <;> omega
  obtain ⟨q1, rs, e1, l1, r1⟩ := rooms_ok ((p.next mw).next (mm + 3)) w (by omega) (by omega)
  have fin : ∀ most : Int, 0 ≤ most → most ≤ mm → (2 ≤ w ∨ most = 0) → (sIf (tV RV.bool? (e2 gEq (eVar 3) (eC (.int 1)))) (sAsg (eC (.int 0)) (gSet 4)) sNx [((p.next mw).next (mm + 3)).od, .fz (.int mw), .fz (.int mm), .fz (.int w), .fz (.int mo)] = .nx [((p.next mw).next (mm + 3)).od, .fz (.int mw), .fz (.int mm), .fz (.int w), .fz (.int most)]) →
      ∃ (q : Pu) (B : Bk), m__law_book [p.od, .fz (.int mw), .fz (.int mm)] = .ret (.fz B.d) [q.od, .fz (.int mw), .fz (.int mm)] ∧ BkOk mw mm B := fun most z0 z1 z2 z3 => by
    obtain ⟨q2, rows, e2, o2, l2⟩ := meetings_ok q1 w most (by omega) z2 (by omega) z0 (by omega)
    have lw : (rs.length : Int) = w := by omega
    refine ⟨q2, ⟨rs, rows⟩, ?_, ⟨by show 1 ≤ rs.length; omega, by show (rs.length : Int) ≤ mw; omega, r1, by show RowsOk (rs.length : Int) rows; rw [lw]; exact o2, by show (rows.length : Int) ≤ mm; omega⟩⟩
    simp [m__law_book, runB, b__law_book, t1, t2, hw, hmo, -sIf_e, ↓z3, e1, e2, outs, isFz, Bk.d, roomsD, rowsD]
  by_cases h : w = 1
  · exact fin 0 (by omega) (by omega) (.inr rfl) (by simp [h])
  · exact fin mo m0.1 m0.2 (.inl (by omega)) (by simp [h])
end Law
namespace Law
open PySem PySem.Spec L2 Tl

/-! ### who hangs together: plain graphs -/
def adj (E : List (Nat × Nat)) (i j : Nat) : Prop := (i, j) ∈ E ∨ (j, i) ∈ E
inductive Cn (E : List (Nat × Nat)) (i : Nat) : Nat → Prop where
  | refl : Cn E i i
  | tail {k j : Nat} : Cn E i k → adj E k j → Cn E i j
theorem adj.symm {E : List (Nat × Nat)} {i j : Nat} (h : adj E i j) : adj E j i := Or.symm h
theorem Cn.trans {E : List (Nat × Nat)} {i j k : Nat} (a : Cn E i j) (b : Cn E j k) : Cn E i k := by
  induction b with
  | refl => exact a
  | tail _ h ih => exact .tail ih h
theorem Cn.symm {E : List (Nat × Nat)} {i j : Nat} (a : Cn E i j) : Cn E j i := by
  induction a with
  | refl => exact .refl
  | tail _ h ih => exact Cn.trans (.tail .refl h.symm) ih
def Wk (E : List (Nat × Nat)) (i : Nat) : Nat → Nat → Prop
  | 0, j => i = j
  | t + 1, j => Wk E i t j ∨ ∃ k, Wk E i t k ∧ adj E k j
theorem Wk.up {E : List (Nat × Nat)} {i t j : Nat} (h : Wk E i t j) : Wk E i (t + 1) j := .inl h
theorem Cn.wk {E : List (Nat × Nat)} {i j : Nat} (a : Cn E i j) : ∃ t, Wk E i t j := by
  induction a with
  | refl => exact ⟨0, rfl⟩
  | tail _ h ih => obtain ⟨t, k⟩ := ih; exact ⟨t + 1, .inr ⟨_, k, h⟩⟩
section
open Classical
theorem filter_more {n : Nat} {p q : Nat → Prop} (h : ∀ j, p j → q j) (j0 : Nat) (hj : j0 < n) (hp : ¬ p j0) (hq : q j0) : ((List.range n).filter fun j => decide (p j)).length + 1 ≤ ((List.range n).filter fun j => decide (q j)).length := by
  have key : ∀ l : List Nat, ((l.filter fun j => decide (p j)).length ≤ (l.filter fun j => decide (q j)).length) ∧ (j0 ∈ l → (l.filter fun j => decide (p j)).length + 1 ≤ (l.filter fun j => decide (q j)).length) := fun l => by
    induction l with
    | nil => simp
    | cons a l ih =>
      obtain ⟨i1, i2⟩ := ih
      by_cases ha : p a
      · have hb := h a ha
        rw [List.filter_cons_of_pos (by simpa using ha), List.filter_cons_of_pos (by simpa using hb)]
        refine ⟨by simp; omega, fun m => ?_⟩
        have : j0 ≠ a := fun e => hp (e ▸ ha)
        have := i2 (by simpa [this] using m)
        simp; omega
      · by_cases hb : q a
        · rw [List.filter_cons_of_neg (by simpa using ha), List.filter_cons_of_pos (by simpa using hb)]
          refine ⟨by simp; omega, fun m => by simp; omega⟩
        · rw [List.filter_cons_of_neg (by simpa using ha), List.filter_cons_of_neg (by simpa using hb)]
          refine ⟨i1, fun m => i2 ?_⟩
          have : j0 ≠ a := fun e => hb (e ▸ hq)
          simpa [this] using m
  exact (key _).2 (by simpa using hj)
theorem Cn.short {E : List (Nat × Nat)} {n i j : Nat} (hi : i < n) (hE : ∀ e ∈ E, e.1 < n ∧ e.2 < n) (a : Cn E i j) : Wk E i n j := by
  have lt : ∀ t j, Wk E i t j → j < n := fun t => by
    induction t with
    | zero => intro j h; cases h; exact hi
    | succ t ih =>
      intro j h
      rcases h with h | ⟨k, _, h | h⟩
      · exact ih j h
      · exact (hE _ h).2
      · exact (hE _ h).1
  have claim : ∀ t, (∃ s, s < t ∧ ∀ j, Wk E i (s + 1) j → Wk E i s j) ∨ t + 1 ≤ ((List.range n).filter fun j => decide (Wk E i t j)).length := fun t => by
    induction t with
    | zero =>
      refine .inr ?_
      have := filter_more (n := n) (p := fun _ => False) (q := fun j => Wk E i 0 j) (fun _ h => h.elim) i hi (fun h => h) rfl
      omega
    | succ t ih =>
      rcases ih with ⟨s, h1, h2⟩ | h
      · exact .inl ⟨s, by omega, h2⟩
      · by_cases hc : ∀ j, Wk E i (t + 1) j → Wk E i t j
        · exact .inl ⟨t, by omega, hc⟩
        · obtain ⟨j0, hj0⟩ := Classical.not_forall.mp hc
          have a1 : Wk E i (t + 1) j0 := Classical.byContradiction fun z => hj0 fun y => absurd y z
          have a2 : ¬ Wk E i t j0 := fun z => hj0 fun _ => z
          have := filter_more (n := n) (p := fun j => Wk E i t j) (q := fun j => Wk E i (t + 1) j) (fun j h => .inl h) j0 (lt _ _ a1) a2 a1
          exact .inr (by omega)
  have up : ∀ s d j, Wk E i s j → Wk E i (s + d) j := fun s d => by
    induction d with
    | zero => exact fun j h => h
    | succ d ih => exact fun j h => .inl (ih j h)
  rcases claim n with ⟨s, h1, h2⟩ | h
  · obtain ⟨t, ht⟩ := a.wk
    have down : ∀ d j, Wk E i (s + d) j → Wk E i s j := fun d => by
      induction d with
      | zero => exact fun j h => h
      | succ d ih =>
        intro j h
        rcases h with h | ⟨k, h, e⟩
        · exact ih j h
        · exact h2 j (.inr ⟨k, ih k h, e⟩)
    have : Wk E i s j := down t j (by have := up t s j ht; rwa [Nat.add_comm] at this)
    have := up s (n - s) j this
    rwa [show s + (n - s) = n by omega] at this
  · have : ((List.range n).filter fun j => decide (Wk E i n j)).length ≤ n := by
      have := List.length_filter_le (fun j => decide (Wk E i n j)) (List.range n)
      simpa using this
    omega
end
/-! ### least labels -/
def lstep (fs : List Nat) (e : Nat × Nat) : List Nat := (fs.set e.1 (min (fs.getD e.1 0) (fs.getD e.2 0))).set e.2 (min (fs.getD e.1 0) (fs.getD e.2 0))
def lround (E : List (Nat × Nat)) (fs : List Nat) : List Nat := E.foldl lstep fs
def lmarks (E : List (Nat × Nat)) : Nat → List Nat → List Nat
  | 0, fs => fs
  | t + 1, fs => lmarks E t (lround E fs)
theorem getD_set {fs : List Nat} {a i v : Nat} (ha : a < fs.length) : (fs.set a v).getD i 0 = if a = i then v else fs.getD i 0 := by
  rw [List.getD_eq_getElem?_getD, List.getElem?_set, List.getD_eq_getElem?_getD]
  by_cases h : a = i
  · subst h; simp [ha]
  · simp [h]
theorem lstep_get {fs : List Nat} {e : Nat × Nat} (h1 : e.1 < fs.length) (h2 : e.2 < fs.length) (i : Nat) : (lstep fs e).getD i 0 = if e.2 = i ∨ e.1 = i then min (fs.getD e.1 0) (fs.getD e.2 0) else fs.getD i 0 := by
  unfold lstep
  rw [getD_set (by simpa using h2), getD_set h1]
  by_cases a : e.2 = i <;> by_cases b : e.1 = i <;> simp [a, b]
theorem lstep_len {fs : List Nat} {e : Nat × Nat} : (lstep fs e).length = fs.length := by simp [lstep]
theorem lround_len : ∀ (E : List (Nat × Nat)) (fs : List Nat), (lround E fs).length = fs.length
  | [], _ => rfl
  | e :: E, fs => (lround_len E (lstep fs e)).trans lstep_len
theorem lround_le : ∀ (E : List (Nat × Nat)) (fs : List Nat), (∀ e ∈ E, e.1 < fs.length ∧ e.2 < fs.length) → ∀ i, (lround E fs).getD i 0 ≤ fs.getD i 0
  | [], _, _, _ => Nat.le_refl _
  | e :: E, fs, h, i => by
    have he := h e (by simp)
    refine Nat.le_trans (lround_le E (lstep fs e) (fun x m => by rw [lstep_len]; exact h x (by simp [m])) i) ?_
    rw [lstep_get he.1 he.2]
    split
    · rename_i k; rcases k with k | k <;> subst k <;> omega
    · exact Nat.le_refl _
theorem lround_adj : ∀ (E : List (Nat × Nat)) (fs : List Nat), (∀ e ∈ E, e.1 < fs.length ∧ e.2 < fs.length) → ∀ i k, adj E i k → (lround E fs).getD i 0 ≤ fs.getD k 0
  | [], _, _, _, _, h => by rcases h with h | h <;> cases h
  | e :: E, fs, h, i, k, a => by
    have he := h e (by simp)
    have h' : ∀ x ∈ E, x.1 < (lstep fs e).length ∧ x.2 < (lstep fs e).length := fun x m => by rw [lstep_len]; exact h x (by simp [m])
    have here : (e = (i, k) ∨ e = (k, i)) → (lround E (lstep fs e)).getD i 0 ≤ fs.getD k 0 := fun z => by
      refine Nat.le_trans (lround_le E _ h' i) ?_
      rw [lstep_get he.1 he.2]
      rcases z with z | z <;> subst z <;> simp <;> omega
    have there : adj E i k → (lround E (lstep fs e)).getD i 0 ≤ fs.getD k 0 := fun z => by
      refine Nat.le_trans (lround_adj E _ h' i k z) ?_
      rw [lstep_get he.1 he.2]
      split
      · rename_i q; rcases q with q | q <;> subst q <;> omega
      · exact Nat.le_refl _
    rcases a with a | a <;> rcases List.mem_cons.mp a with a | a
    · exact here (.inl a.symm)
    · exact there (.inl a)
    · exact here (.inr a.symm)
    · exact there (.inr a)
theorem lround_cn {E0 : List (Nat × Nat)} : ∀ (E : List (Nat × Nat)) (fs : List Nat), (∀ e ∈ E, e ∈ E0 ∧ e.1 < fs.length ∧ e.2 < fs.length) → (∀ i, i < fs.length → Cn E0 i (fs.getD i 0)) → ∀ i, i < fs.length → Cn E0 i ((lround E fs).getD i 0)
  | [], _, _, h, i, hi => h i hi
  | e :: E, fs, h, hc, i, hi => by
    obtain ⟨h0, h1, h2⟩ := h e (by simp)
    refine lround_cn E (lstep fs e) (fun x m => by rw [lstep_len]; exact h x (by simp [m])) (fun i hi => ?_) i (by rw [lstep_len]; exact hi)
    rw [lstep_len] at hi
    rw [lstep_get h1 h2]
    split
    · rename_i q
      have c12 : Cn E0 e.1 e.2 := .tail .refl (.inl h0)
      have ca : Cn E0 e.1 (min (fs.getD e.1 0) (fs.getD e.2 0)) := by
        rcases Nat.le_total (fs.getD e.1 0) (fs.getD e.2 0) with z | z
        · rw [Nat.min_eq_left z]; exact hc _ h1
        · rw [Nat.min_eq_right z]; exact c12.trans (hc _ h2)
      rcases q with q | q
      · subst q; exact c12.symm.trans ca
      · subst q; exact ca
    · exact hc i hi
theorem lmarks_ok {E : List (Nat × Nat)} {n : Nat} (hE : ∀ e ∈ E, e.1 < n ∧ e.2 < n) : ∀ (t s : Nat) (fs : List Nat), fs.length = n → (∀ i, i < n → Cn E i (fs.getD i 0)) → (∀ i j, i < n → Wk E j s i → fs.getD i 0 ≤ j) →
    (lmarks E t fs).length = n ∧ (∀ i, i < n → Cn E i ((lmarks E t fs).getD i 0)) ∧ ∀ i j, i < n → Wk E j (s + t) i → (lmarks E t fs).getD i 0 ≤ j
  | 0, s, fs, hl, hc, hw => ⟨hl, hc, hw⟩
  | t + 1, s, fs, hl, hc, hw => by
    have h' : ∀ e ∈ E, e.1 < fs.length ∧ e.2 < fs.length := fun e m => by rw [hl]; exact hE e m
    have := lmarks_ok hE t (s + 1) (lround E fs) (by rw [lround_len, hl]) (fun i hi => lround_cn E fs (fun e m => ⟨m, h' e m⟩) (fun i hi => hc i (by rwa [hl] at hi)) i (by rwa [hl])) (fun i j hi w => by
      rcases w with w | ⟨k, w, a⟩
      · exact Nat.le_trans (lround_le E fs h' i) (hw i j hi w)
      · have hk : k < n := a.elim (fun z => (hE _ z).1) fun z => (hE _ z).2
        exact Nat.le_trans (lround_adj E fs h' i k a.symm) (hw k j hk w))
    rw [show s + 1 + t = s + (t + 1) by omega] at this
    exact this
theorem marks_iff {E : List (Nat × Nat)} {n : Nat} (hE : ∀ e ∈ E, e.1 < n ∧ e.2 < n) {a b : Nat} (ha : a < n) (hb : b < n) : (lmarks E n (List.range n)).getD a 0 = (lmarks E n (List.range n)).getD b 0 ↔ Cn E a b := by
  have g : ∀ i, i < n → (List.range n).getD i 0 = i := fun i hi => by simp [List.getD_eq_getElem?_getD, hi]
  obtain ⟨h1, h2, h3⟩ := lmarks_ok hE n 0 (List.range n) (by simp) (fun i hi => by rw [g i hi]; exact .refl) (fun i j hi w => by cases w; rw [g _ hi]; exact Nat.le_refl _)
  rw [Nat.zero_add] at h3
  have lt : ∀ i j, i < n → Cn E i j → j < n := fun i j hi c => by
    cases c with
    | refl => exact hi
    | tail _ h => exact h.elim (fun z => (hE _ z).2) fun z => (hE _ z).1
  constructor
  · intro e
    exact (h2 a ha).trans (e ▸ (h2 b hb).symm)
  · intro c
    have k1 := h3 a _ ha (Cn.short (lt _ _ hb (h2 b hb)) hE ((h2 b hb).symm.trans c.symm))
    have k2 := h3 b _ hb (Cn.short (lt _ _ ha (h2 a ha)) hE ((h2 a ha).symm.trans c))
    omega
end Law
namespace Law
open PySem PySem.Spec L2 Tl

def odN (fs : List Nat) : List OD := odI (fs.map fun x : Nat => (x : Int))
theorem odN_len {fs : List Nat} : (odN fs).length = fs.length := by simp [odN, odI]
theorem atI_odN {fs : List Nat} {k : Int} (h0 : 0 ≤ k) (h1 : k < fs.length) : atI (odN fs) k = some (.fz (.int (fs.getD k.toNat 0 : Nat))) := by
  rw [atI_int h0 (by rw [odN_len]; exact h1)]
  have : k.toNat < fs.length := by omega
  simp [odN, odI, this]
theorem set_odN {fs : List Nat} {k v : Nat} : (odN fs).set k (.fz (.int (v : Int))) = odN (fs.set k v) := by
  simp [odN, odI, List.map_set]
def es (rows : List M) : List (Nat × Nat) := rows.map fun m => (m.one.toNat, m.other.toNat)
theorem es_ok {n : Nat} {rows : List M} (h : RowsOk n rows) : ∀ e ∈ es rows, e.1 < n ∧ e.2 < n := fun e he => by
  obtain ⟨m, hm, rfl⟩ := List.mem_map.mp he
  obtain ⟨⟨g1, g2, g3, _, _⟩, _⟩ := h.ok m hm
  exact ⟨by show m.one.toNat < n; omega, by show m.other.toNat < n; omega⟩
theorem mk1 (B : OD) (fs : List Nat) (t w p l : OD) (a b : Int) (ha : 0 ≤ a) (ha' : a < fs.length) (hb : 0 ≤ b) (hb' : b < fs.length) :
    ∃ l', l__law_marks_1 [B, .lst (odN fs), t, .fz (.int a), .fz (.int b), w, p, l] = .nx [B, .lst (odN (lstep fs (a.toNat, b.toNat))), t, .fz (.int a), .fz (.int b), w, p, l'] := by
  have x1 := atI_odN ha ha'
  have x2 := atI_odN hb hb'
  have y1 : ixN (odN fs).length a = some a.toNat := ixN_int ha (by rw [odN_len]; exact ha')
  have mn : (if ((fs.getD b.toNat 0 : Nat) : Int) < (fs.getD a.toNat 0 : Nat) then ((fs.getD b.toNat 0 : Nat) : Int) else (fs.getD a.toNat 0 : Nat)) = ((min (fs.getD a.toNat 0) (fs.getD b.toNat 0) : Nat) : Int) := by
    split <;> omega
  have y2 : ixN (odN (fs.set a.toNat (min (fs.getD a.toNat 0) (fs.getD b.toNat 0)))).length b = some b.toNat := ixN_int hb (by rw [odN_len, List.length_set]; exact hb')
  generalize hA : fs.getD a.toNat 0 = A at *
  generalize hB : fs.getD b.toNat 0 = C at *
  refine ⟨.fz (.int (min A C : Nat)), ?_⟩
  have e : lstep fs (a.toNat, b.toNat) = (fs.set a.toNat (min A C)).set b.toNat (min A C) := by simp only [lstep, hA, hB]
  rw [e]
  have s1 : sAsg (eL gMin (aCons (e2 gIx (eVar 1) (eVar 3)) (aCons (e2 gIx (eVar 1) (eVar 4)) aNil))) (gSet 7) [B, .lst (odN fs), t, .fz (.int a), .fz (.int b), w, p, l] = .nx [B, .lst (odN fs), t, .fz (.int a), .fz (.int b), w, p, .fz (.int (min A C : Nat))] :=
    asg_ok (o := .fz (.int (min A C : Nat))) (by simp [x1, x2]; split <;> omega) rfl
  have s2 : sAsg (eFrz 7) (gSub (vGet 1) (vPut 1) (eVar 3)) [B, .lst (odN fs), t, .fz (.int a), .fz (.int b), w, p, .fz (.int (min A C : Nat))] = .nx [B, .lst (odN (fs.set a.toNat (min A C))), t, .fz (.int a), .fz (.int b), w, p, .fz (.int (min A C : Nat))] :=
    asg_ok (o := .fz (.int (min A C : Nat))) rfl (by simp [y1, set_odN])
  have s3 : sAsg (eFrz 7) (gSub (vGet 1) (vPut 1) (eVar 4)) [B, .lst (odN (fs.set a.toNat (min A C))), t, .fz (.int a), .fz (.int b), w, p, .fz (.int (min A C : Nat))] = .nx [B, .lst (odN ((fs.set a.toNat (min A C)).set b.toNat (min A C))), t, .fz (.int a), .fz (.int b), w, p, .fz (.int (min A C : Nat))] :=
    asg_ok (o := .fz (.int (min A C : Nat))) rfl (by simp [y2, set_odN])
  unfold l__law_marks_1
  exact Eq.trans (seq_nx s1) (Eq.trans (seq_nx s2) s3)
theorem mk2 (B t : OD) (n : Nat) : ∀ (rows : List M) (fs : List Nat) (x3 x4 x5 x6 x7 : OD), fs.length = n → (∀ m ∈ rows, 0 ≤ m.one ∧ m.one < n ∧ 0 ≤ m.other ∧ m.other < n) →
    ∃ y3 y4 y5 y6 y7, forGo (gTupT 4 (gsCons (gSet 3) (gsCons (gSet 4) (gsCons (gSet 5) (gsCons (gSet 6) gsNil))))) l__law_marks_1 (rows.map rowD) [B, .lst (odN fs), t, x3, x4, x5, x6, x7] = .nx [B, .lst (odN (lround (es rows) fs)), t, y3, y4, y5, y6, y7]
  | [], fs, x3, x4, x5, x6, x7, _, _ => ⟨x3, x4, x5, x6, x7, rfl⟩
  | m :: ms, fs, x3, x4, x5, x6, x7, hl, hm => by
    obtain ⟨a1, a2, a3, a4⟩ := hm m (by simp)
    obtain ⟨l', e⟩ := mk1 B fs t (.fz (.int m.when)) (.fz (.int m.many)) x7 m.one m.other a1 (by omega) a3 (by omega)
    obtain ⟨y3, y4, y5, y6, y7, ih⟩ := mk2 B t n ms (lstep fs (m.one.toNat, m.other.toNat)) (.fz (.int m.one)) (.fz (.int m.other)) (.fz (.int m.when)) (.fz (.int m.many)) l' (by rw [lstep_len, hl]) (fun x h => hm x (by simp [h]))
    refine ⟨y3, y4, y5, y6, y7, ?_⟩
    have g : gTupT 4 (gsCons (gSet 3) (gsCons (gSet 4) (gsCons (gSet 5) (gsCons (gSet 6) gsNil)))) (.fz (rowD m)) [B, .lst (odN fs), t, x3, x4, x5, x6, x7] = some [B, .lst (odN fs), t, .fz (.int m.one), .fz (.int m.other), .fz (.int m.when), .fz (.int m.many), x7] := by
      simp [gTupT, gsCons, gsNil, rowD, tupD]
    rw [List.map_cons, for_step g e, ih]
    rfl
theorem mk3 (Bk0 : Bk) (n : Nat) (hm : ∀ m ∈ Bk0.rows, 0 ≤ m.one ∧ m.one < n ∧ 0 ≤ m.other ∧ m.other < n) : ∀ (ds : List D) (fs : List Nat) (x2 x3 x4 x5 x6 x7 : OD), fs.length = n →
    ∃ y2 y3 y4 y5 y6 y7, forGo (gSet 2) l__law_marks_2 ds [.fz Bk0.d, .lst (odN fs), x2, x3, x4, x5, x6, x7] = .nx [.fz Bk0.d, .lst (odN (lmarks (es Bk0.rows) ds.length fs)), y2, y3, y4, y5, y6, y7]
  | [], fs, x2, x3, x4, x5, x6, x7, _ => ⟨x2, x3, x4, x5, x6, x7, rfl⟩
  | d :: ds, fs, x2, x3, x4, x5, x6, x7, hl => by
    obtain ⟨y3, y4, y5, y6, y7, e⟩ := mk2 (.fz Bk0.d) (.fz d) n Bk0.rows fs x3 x4 x5 x6 x7 hl hm
    have e' : l__law_marks_2 [.fz Bk0.d, .lst (odN fs), .fz d, x3, x4, x5, x6, x7] = .nx [.fz Bk0.d, .lst (odN (lround (es Bk0.rows) fs)), .fz d, y3, y4, y5, y6, y7] := by
      unfold l__law_marks_2
      exact Eq.trans (forS_ok (by simp)) e
    obtain ⟨z2, z3, z4, z5, z6, z7, ih⟩ := mk3 Bk0 n hm ds (lround (es Bk0.rows) fs) (.fz d) y3 y4 y5 y6 y7 (by rw [lround_len, hl])
    exact ⟨z2, z3, z4, z5, z6, z7, by rw [for_step (by rfl : gSet 2 (.fz d) _ = some _) e', ih]; rfl⟩
theorem marks_eq (B : Bk) (mw mm : Int) (ok : BkOk mw mm B) (hw : mw ≤ 99) : m__law_marks [.fz B.d] = .ret (.lst (odN (lmarks (es B.rows) B.rooms.length (List.range B.rooms.length)))) [.fz B.d] := by
  have w1 := ok.w1
  have hm : ∀ m ∈ B.rows, 0 ≤ m.one ∧ m.one < B.rooms.length ∧ 0 ≤ m.other ∧ m.other < B.rooms.length := fun m h => by
    obtain ⟨⟨g1, g2, g3, _, _⟩, _⟩ := ok.ro.ok m h
    exact ⟨g1, by omega, by omega, g3⟩
  obtain ⟨y2, y3, y4, y5, y6, y7, e⟩ := mk3 B B.rooms.length hm (rng 0 (B.rooms.length : Int).toNat) (List.range B.rooms.length) .un .un .un .un .un .un (by simp)
  have rl : (rng 0 (B.rooms.length : Int).toNat).length = B.rooms.length := by rw [rng_len]; omega
  rw [rl] at e
  have od : (rng 0 (B.rooms.length : Int).toNat).map OD.fz = odN (List.range B.rooms.length) := by
    simp [rng, odN, odI]
  generalize hfs : lmarks (es B.rows) B.rooms.length (List.range B.rooms.length) = fs at *
  have b1 : ((B.rooms.length : Nat) : Int) ≤ 2 ^ 24 := by omega
  have b0 : -(2 ^ 24) ≤ ((B.rooms.length : Nat) : Int) := by omega
  have b2 : ((B.rooms.length : Nat) : Int) < 2 ^ 62 := by omega
  have b3 : -(2 ^ 62) ≤ ((B.rooms.length : Nat) : Int) := by omega
  have g1 : gRgL (.own (.fz (.int B.rooms.length))) = some (.own (.lst (odN (List.range B.rooms.length)))) := by rw [gRgL_e b0 b1, od]
  have g2 := eR1 b3 b2
  have s1 : e1 gRgL (eL gLen (aCons (e2 gIx (eVar 0) (eC (.int 0))) aNil)) [.fz B.d, .un, .un, .un, .un, .un, .un, .un] = .ok (.own (.lst (odN (List.range B.rooms.length)))) := by
    simp [g1]
  have s2 : (fun env => O.mapP gR1 (aCons (eL gLen (aCons (e2 gIx (eVar 0) (eC (.int 0))) aNil)) aNil env)) [.fz B.d, .lst (odN (List.range B.rooms.length)), .un, .un, .un, .un, .un, .un] = .ok (rng 0 (B.rooms.length : Int).toNat) := by
    simp [-eR1, g2]
  refine run_rt (e := [.fz B.d, .un, y2, y3, y4, y5, y6, y7]) ?_ (by rfl)
  show b__law_marks [.fz B.d, .un, .un, .un, .un, .un, .un, .un] = _
  unfold b__law_marks
  exact Eq.trans (seq_nx (asg_ok s1 (by rfl))) (Eq.trans (seq_nx (Eq.trans (forS_ok s2) e)) (ret_eff (eMove_lst (by rfl))))
end Law
namespace Law
open PySem PySem.Spec L2 Tl

/-! ### hangs_with -/
theorem while_t {c : Tl.Env → O Bool} {body : Tl.Env → SO} {n : Nat} {e e2 : Tl.Env} (h : c e = .ok true) (h2 : body e = .nx e2) : whileGo c body (n + 1) e = whileGo c body n e2 := by
  simp only [whileGo, sE, h, h2, if_true]
theorem while_f {c : Tl.Env → O Bool} {body : Tl.Env → SO} {n : Nat} {e : Tl.Env} (h : c e = .ok false) : whileGo c body (n + 1) e = .nx e := by
  simp only [whileGo, sE, h, Bool.false_eq_true, if_false]
theorem gIn_two {v a b : Int} : gIn (.own (.fz (.int v)), .own (.fz (.tup [.int a, .int b]))) = some (.own (.fz (.bl (decide (v = a ∨ v = b))))) := by
  show some (RV.b (inV (V.int v) [V.int a, V.int b])) = _
  have : inV (V.int v) [V.int a, V.int b] = decide (v = a ∨ v = b) := by
    have e : ∀ x y : Int, eqV (V.int x) (V.int y) = decide (y = x) := fun x y => by
      show (x == y) = _
      by_cases h : x = y
      · subst h; simp
      · have h' : ¬ y = x := fun z => h z.symm
        simp [h, h']
    by_cases h1 : v = a <;> by_cases h2 : v = b <;> simp [inV, e, h1, h2]
  rw [this]
theorem nIn_odN {x : Nat} {fs : List Nat} : gNotIn (.own (.fz (.int (x : Int))), .view (.lst (odN fs))) = some (.own (.fz (.bl (decide (x ∉ fs))))) := by
  unfold gNotIn
  rw [gIn_lst (o := .lst (odN fs)) (bs := fs.map fun x : Nat => (x : Int)) odI_fzs]
  have : ((x : Int) ∈ fs.map fun x : Nat => (x : Int)) ↔ x ∈ fs := by
    constructor
    · intro h
      obtain ⟨y, hy, e⟩ := List.mem_map.mp h
      have : y = x := by omega
      exact this ▸ hy
    · exact fun h => List.mem_map.mpr ⟨x, h, rfl⟩
  by_cases h : x ∈ fs <;> simp [this, h]
def hstep (v : Nat) (fs : List Nat) (e : Nat × Nat) : List Nat := if (v = e.1 ∨ v = e.2) ∧ e.1 + e.2 - v ∉ fs then fs ++ [e.1 + e.2 - v] else fs
def hround (v : Nat) (E : List (Nat × Nat)) (fs : List Nat) : List Nat := E.foldl (hstep v) fs
theorem hstep_pre (v : Nat) (fs : List Nat) (e : Nat × Nat) : ∃ tl, hstep v fs e = fs ++ tl := by
  unfold hstep; split
  · exact ⟨_, rfl⟩
  · exact ⟨[], by simp⟩
theorem hround_pre (v : Nat) : ∀ (E : List (Nat × Nat)) (fs : List Nat), ∃ tl, hround v E fs = fs ++ tl
  | [], fs => ⟨[], by simp [hround]⟩
  | e :: E, fs => by
    obtain ⟨t1, h1⟩ := hstep_pre v fs e
    obtain ⟨t2, h2⟩ := hround_pre v E (hstep v fs e)
    exact ⟨t1 ++ t2, by show hround v E (hstep v fs e) = _; rw [h2, h1, List.append_assoc]⟩
theorem pre_get {fs tl : List Nat} {k : Nat} (h : k < fs.length) : (fs ++ tl).getD k 0 = fs.getD k 0 := by
  rw [List.getD_eq_getElem?_getD, List.getD_eq_getElem?_getD, List.getElem?_append_left h]
theorem hround_ok {E0 : List (Nat × Nat)} {w v : Nat} (hv : Cn E0 w v) : ∀ (E : List (Nat × Nat)) (fs : List Nat), (∀ e ∈ E, e ∈ E0) → fs.Nodup → (∀ x ∈ fs, Cn E0 w x) → (hround v E fs).Nodup ∧ (∀ x ∈ hround v E fs, Cn E0 w x) ∧ (∀ x ∈ fs, x ∈ hround v E fs) ∧ ∀ y, adj E v y → y ∈ hround v E fs
  | [], fs, _, nd, hc => ⟨nd, hc, fun x h => h, fun y h => by rcases h with h | h <;> cases h⟩
  | e :: E, fs, hE, nd, hc => by
    have he : e ∈ E0 := hE e (by simp)
    have nd' : (hstep v fs e).Nodup := by
      unfold hstep; split
      · rename_i h
        exact List.nodup_append.mpr ⟨nd, by simp, fun a ha b hb z => h.2 (by simp at hb; subst hb; exact z ▸ ha)⟩
      · exact nd
    have hc' : ∀ x ∈ hstep v fs e, Cn E0 w x := by
      unfold hstep; split
      · rename_i h
        intro x hx
        rcases List.mem_append.mp hx with hx | hx
        · exact hc x hx
        · simp at hx
          rcases h.1 with z | z
          · have : x = e.2 := by omega
            rw [this]; exact .tail hv (.inl (by rw [z]; exact he))
          · have : x = e.1 := by omega
            rw [this]; exact .tail hv (.inr (by rw [z]; exact he))
      · exact hc
    obtain ⟨a1, a2, a3, a4⟩ := hround_ok hv E (hstep v fs e) (fun x m => hE x (by simp [m])) nd' hc'
    obtain ⟨tl, ht⟩ := hstep_pre v fs e
    have sub : ∀ x ∈ fs, x ∈ hround v E (hstep v fs e) := fun x m => a3 x (by rw [ht]; simp [m])
    have here : ∀ y, (v = e.1 ∧ y = e.2) ∨ (v = e.2 ∧ y = e.1) → y ∈ hstep v fs e := fun y h => by
      have h1 : v = e.1 ∨ v = e.2 := by rcases h with ⟨h, _⟩ | ⟨h, _⟩ <;> simp [h]
      have h2 : e.1 + e.2 - v = y := by rcases h with ⟨h, k⟩ | ⟨h, k⟩ <;> omega
      unfold hstep
      rw [h2]
      split
      · simp
      · rename_i k
        exact Classical.byContradiction fun z => k ⟨h1, z⟩
    refine ⟨a1, a2, sub, fun y h => ?_⟩
    show y ∈ hround v E (hstep v fs e)
    rcases h with h | h <;> rcases List.mem_cons.mp h with h | h
    · exact a3 y (here y (.inl (by rw [← h]; exact ⟨rfl, rfl⟩)))
    · exact a4 y (.inl h)
    · exact a3 y (here y (.inr (by rw [← h]; exact ⟨rfl, rfl⟩)))
    · exact a4 y (.inr h)
theorem nodup_len : ∀ (n : Nat) (l : List Nat), l.Nodup → (∀ x ∈ l, x < n) → l.length ≤ n
  | 0, [], _, _ => Nat.le_refl _
  | 0, x :: l, _, h => absurd (h x (by simp)) (by omega)
  | n + 1, l, nd, h => by
    by_cases m : n ∈ l
    · have := nodup_len n (l.erase n) (nd.erase n) fun x hx => by
        have := h x (List.mem_of_mem_erase hx)
        have ne : x ≠ n := fun z => by subst z; exact (List.Nodup.not_mem_erase nd) hx
        omega
      rw [List.length_erase_of_mem m] at this
      omega
    · have := nodup_len n l nd fun x hx => by
        have := h x hx
        have ne : x ≠ n := fun z => m (z ▸ hx)
        omega
      omega
theorem hb1 (B w x6 x7 : OD) (fs : List Nat) (k a b : Nat) (hk : k < fs.length) (hl : fs.length < 1000) : l_hangs_with_1 [B, w, .lst (odN fs), .fz (.int (k : Int)), .fz (.int (a : Int)), .fz (.int (b : Int)), x6, x7] = .nx [B, w, .lst (odN (hstep (fs.getD k 0) fs (a, b))), .fz (.int (k : Int)), .fz (.int (a : Int)), .fz (.int (b : Int)), x6, x7] := by
  have x1 := atI_odN (fs := fs) (k := (k : Int)) (by omega) (by omega)
  rw [Int.toNat_natCast] at x1
  generalize fs.getD k 0 = v at *
  have hin : tV RV.bool? (e2 gIn (e2 gIx (eVar 2) (eVar 3)) (eL gTup (aCons (eFrz 4) (aCons (eFrz 5) aNil)))) [B, w, .lst (odN fs), .fz (.int (k : Int)), .fz (.int (a : Int)), .fz (.int (b : Int)), x6, x7] = .ok (decide (v = a ∨ v = b)) := by
    have := gIn_two (v := v) (a := a) (b := b)
    have ea : ((v : Int) = a) ↔ v = a := by omega
    have eb : ((v : Int) = b) ↔ v = b := by omega
    simp [x1, this, ea, eb]
  by_cases h1 : v = a ∨ v = b
  · have ex : ((a : Int) + b - v) = ((a + b - v : Nat) : Int) := by omega
    have hx : e2 (g2i fun i j => some (iSub i j)) (e2 gAdd (eVar 4) (eVar 5)) (e2 gIx (eVar 2) (eVar 3)) [B, w, .lst (odN fs), .fz (.int (k : Int)), .fz (.int (a : Int)), .fz (.int (b : Int)), x6, x7] = .ok (.own (.fz (.int ((a + b - v : Nat) : Int)))) := by
      simp only [e2_e, eVar_fz (show ([B, w, .lst (odN fs), .fz (.int (k : Int)), .fz (.int (a : Int)), .fz (.int (b : Int)), x6, x7] : Tl.Env)[4]? = _ from rfl), eVar_fz (show ([B, w, .lst (odN fs), .fz (.int (k : Int)), .fz (.int (a : Int)), .fz (.int (b : Int)), x6, x7] : Tl.Env)[5]? = _ from rfl), eVar_fz (show ([B, w, .lst (odN fs), .fz (.int (k : Int)), .fz (.int (a : Int)), .fz (.int (b : Int)), x6, x7] : Tl.Env)[3]? = _ from rfl), eVar_lst (show ([B, w, .lst (odN fs), .fz (.int (k : Int)), .fz (.int (a : Int)), .fz (.int (b : Int)), x6, x7] : Tl.Env)[2]? = _ from rfl), at_ok, mp_ok, gAdd_i, gIx_vlst, x1, Option.map, part_fz, iSub_e, ex]
    have hstep_eq : hstep v fs (a, b) = if a + b - v ∉ fs then fs ++ [a + b - v] else fs := by
      unfold hstep
      by_cases z : a + b - v ∈ fs <;> simp [h1, z]
    rw [hstep_eq]
    generalize a + b - v = d at *
    have t2 : tV RV.bool? (e2 gNotIn (e2 (g2i fun i j => some (iSub i j)) (e2 gAdd (eVar 4) (eVar 5)) (e2 gIx (eVar 2) (eVar 3))) (eVar 2)) [B, w, .lst (odN fs), .fz (.int (k : Int)), .fz (.int (a : Int)), .fz (.int (b : Int)), x6, x7] = .ok (decide (d ∉ fs)) := by
      rw [tV_e, e2_e, hx, at_ok, eVar_lst (by rfl)]
      simp [nIn_odN]
      rfl
    have c : bAnd (tV RV.bool? (e2 gIn (e2 gIx (eVar 2) (eVar 3)) (eL gTup (aCons (eFrz 4) (aCons (eFrz 5) aNil))))) (tV RV.bool? (e2 gNotIn (e2 (g2i fun i j => some (iSub i j)) (e2 gAdd (eVar 4) (eVar 5)) (e2 gIx (eVar 2) (eVar 3))) (eVar 2))) [B, w, .lst (odN fs), .fz (.int (k : Int)), .fz (.int (a : Int)), .fz (.int (b : Int)), x6, x7] = .ok (decide (d ∉ fs)) := by
      rw [bAnd_e, hin, decide_eq_true h1, at_ok]
      rw [if_pos rfl, t2]
    have al : (odN fs).length < 10000000 := by rw [odN_len]; omega
    have app : eMethV 2 mAppend (aCons (e2 (g2i fun i j => some (iSub i j)) (e2 gAdd (eVar 4) (eVar 5)) (e2 gIx (eVar 2) (eVar 3))) aNil) [B, w, .lst (odN fs), .fz (.int (k : Int)), .fz (.int (a : Int)), .fz (.int (b : Int)), x6, x7] = .eff (.own (.fz .non)) [B, w, .lst (odN (fs ++ [d])), .fz (.int (k : Int)), .fz (.int (a : Int)), .fz (.int (b : Int)), x6, x7] := by
      have z : odN (fs ++ [d]) = odN fs ++ [.fz (.int (d : Int))] := by simp [odN, odI]
      rw [eMethV_e (by rfl), aCons_e, hx, at_ok, z]
      simp [al]
    unfold l_hangs_with_1
    by_cases hm : d ∈ fs
    · rw [if_f (by rw [c]; simp [hm]), if_neg (by simpa using hm)]
      rfl
    · rw [if_t (by rw [c]; simp [hm]), if_pos hm]
      exact expr_eff app
  · have hs : hstep v fs (a, b) = fs := by unfold hstep; rw [if_neg fun z => h1 z.1]
    rw [hs]
    unfold l_hangs_with_1
    rw [if_f (by rw [bAnd_e, hin, decide_eq_false h1, at_ok]; rfl)]
    rfl
theorem hb2 (B w : OD) (k v : Nat) : ∀ (rows : List M) (fs : List Nat) (x4 x5 x6 x7 : OD), k < fs.length → fs.getD k 0 = v → fs.length + rows.length < 1000 → (∀ m ∈ rows, 0 ≤ m.one ∧ 0 ≤ m.other) →
    ∃ y4 y5 y6 y7, forGo (gTupT 4 (gsCons (gSet 4) (gsCons (gSet 5) (gsCons (gSet 6) (gsCons (gSet 7) gsNil))))) l_hangs_with_1 (rows.map rowD) [B, w, .lst (odN fs), .fz (.int (k : Int)), x4, x5, x6, x7] = .nx [B, w, .lst (odN (hround v (es rows) fs)), .fz (.int (k : Int)), y4, y5, y6, y7]
  | [], fs, x4, x5, x6, x7, _, _, _, _ => ⟨x4, x5, x6, x7, rfl⟩
  | m :: ms, fs, x4, x5, x6, x7, hk, hv, hl, hm => by
    obtain ⟨a1, a3⟩ := hm m (by simp)
    have c1 : ((m.one.toNat : Nat) : Int) = m.one := Int.toNat_of_nonneg a1
    have c2 : ((m.other.toNat : Nat) : Int) = m.other := Int.toNat_of_nonneg a3
    have hl' : fs.length + ms.length + 1 < 1000 := by simp at hl; omega
    have e := hb1 B w (.fz (.int m.when)) (.fz (.int m.many)) fs k m.one.toNat m.other.toNat hk (by omega)
    rw [hv, c1, c2] at e
    obtain ⟨tl, ht⟩ := hstep_pre v fs (m.one.toNat, m.other.toNat)
    have hlen : (hstep v fs (m.one.toNat, m.other.toNat)).length ≤ fs.length + 1 := by unfold hstep; split <;> simp
    obtain ⟨y4, y5, y6, y7, ih⟩ := hb2 B w k v ms (hstep v fs (m.one.toNat, m.other.toNat)) (.fz (.int m.one)) (.fz (.int m.other)) (.fz (.int m.when)) (.fz (.int m.many)) (by rw [ht]; simp; omega) (by rw [ht, pre_get hk, hv]) (by omega) (fun x h => hm x (by simp [h]))
    have g : gTupT 4 (gsCons (gSet 4) (gsCons (gSet 5) (gsCons (gSet 6) (gsCons (gSet 7) gsNil)))) (.fz (rowD m)) [B, w, .lst (odN fs), .fz (.int (k : Int)), x4, x5, x6, x7] = some [B, w, .lst (odN fs), .fz (.int (k : Int)), .fz (.int m.one), .fz (.int m.other), .fz (.int m.when), .fz (.int m.many)] := by
      simp [gTupT, gsCons, gsNil, rowD, tupD]
    exact ⟨y4, y5, y6, y7, by rw [List.map_cons, for_step g e, ih]; rfl⟩
theorem hmain (B : Bk) (n : Nat) (w : OD) (w0 : Nat) (hn : n < 100) (hE : ∀ e ∈ es B.rows, e.1 < n ∧ e.2 < n) (hw : w0 < n) (hr : B.rows.length ≤ 60) (hm : ∀ m ∈ B.rows, 0 ≤ m.one ∧ 0 ≤ m.other) : ∀ (d k : Nat) (fs : List Nat) (fuel : Nat) (x4 x5 x6 x7 : OD), n - k = d → d < fuel → k ≤ fs.length → fs.Nodup → w0 ∈ fs → (∀ x ∈ fs, Cn (es B.rows) w0 x) → (∀ i, i < k → ∀ y, adj (es B.rows) (fs.getD i 0) y → y ∈ fs) →
    ∃ (gs : List Nat) (y3 y4 y5 y6 y7 : OD), whileGo (tV RV.bool? (e2 (g2i fun i j => some (iLt i j)) (eVar 3) (eL gLen (aCons (eVar 2) aNil)))) l_hangs_with_2 fuel [.fz B.d, w, .lst (odN fs), .fz (.int (k : Int)), x4, x5, x6, x7] = .nx [.fz B.d, w, .lst (odN gs), y3, y4, y5, y6, y7] ∧
      gs.Nodup ∧ w0 ∈ gs ∧ (∀ x ∈ gs, Cn (es B.rows) w0 x) ∧ ∀ x ∈ gs, ∀ y, adj (es B.rows) x y → y ∈ gs := by
  have cn_lt : ∀ x, Cn (es B.rows) w0 x → x < n := fun x c => by
    cases c with
    | refl => exact hw
    | tail _ h => exact h.elim (fun z => (hE _ z).2) fun z => (hE _ z).1
  intro d
  induction d with
  | zero =>
    intro k fs fuel x4 x5 x6 x7 hd hf hk nd hw0 hc ha
    have := nodup_len n fs nd fun x h => cn_lt x (hc x h)
    obtain ⟨f, rfl⟩ : ∃ f, fuel = f + 1 := ⟨fuel - 1, by omega⟩
    have hkn : ¬ k < fs.length := by omega
    refine ⟨fs, _, _, _, _, _, while_f (by simp [odN_len, hkn]), nd, hw0, hc, fun x hx y a => ?_⟩
    obtain ⟨i, hi, e⟩ := List.getElem_of_mem hx
    exact ha i (by omega) y (by rw [List.getD_eq_getElem?_getD, List.getElem?_eq_getElem hi]; simpa [e] using a)
  | succ d ih =>
    intro k fs fuel x4 x5 x6 x7 hd hf hk nd hw0 hc ha
    have hlen := nodup_len n fs nd fun x h => cn_lt x (hc x h)
    obtain ⟨f, rfl⟩ : ∃ f, fuel = f + 1 := ⟨fuel - 1, by omega⟩
    by_cases hkn : k < fs.length
    · have hv : Cn (es B.rows) w0 (fs.getD k 0) := hc _ (by rw [List.getD_eq_getElem?_getD, List.getElem?_eq_getElem hkn]; exact List.getElem_mem hkn)
      obtain ⟨y4, y5, y6, y7, e⟩ := hb2 (.fz B.d) w k (fs.getD k 0) B.rows fs x4 x5 x6 x7 hkn rfl (by omega) hm
      obtain ⟨a1, a2, a3, a4⟩ := hround_ok hv (es B.rows) fs (fun e m => m) nd hc
      obtain ⟨tl, ht⟩ := hround_pre (fs.getD k 0) (es B.rows) fs
      have body : l_hangs_with_2 [.fz B.d, w, .lst (odN fs), .fz (.int (k : Int)), x4, x5, x6, x7] = .nx [.fz B.d, w, .lst (odN (hround (fs.getD k 0) (es B.rows) fs)), .fz (.int ((k + 1 : Nat) : Int)), y4, y5, y6, y7] := by
        unfold l_hangs_with_2
        refine Eq.trans (seq_nx (Eq.trans (forS_ok (by simp)) e)) (asg_ok (o := .fz (.int ((k + 1 : Nat) : Int))) (by simp) rfl)
      obtain ⟨gs, z3, z4, z5, z6, z7, g1, g2⟩ := ih (k + 1) (hround (fs.getD k 0) (es B.rows) fs) f y4 y5 y6 y7 (by omega) (by omega) (by rw [ht, List.length_append]; omega) a1 (a3 _ hw0) a2 (fun i hi y a => by
        by_cases hik : i = k
        · subst hik
          refine a4 y ?_
          rw [ht, pre_get hkn] at a
          exact a
        · refine a3 y (ha i (by omega) y ?_)
          rw [ht, pre_get (by omega)] at a
          exact a)
      exact ⟨gs, z3, z4, z5, z6, z7, (while_t (by simp [odN_len, hkn]) body).trans g1, g2⟩
    · refine ⟨fs, _, _, _, _, _, while_f (by simp [odN_len, hkn]), nd, hw0, hc, fun x hx y a => ?_⟩
      obtain ⟨i, hi, e⟩ := List.getElem_of_mem hx
      exact ha i (by omega) y (by rw [List.getD_eq_getElem?_getD, List.getElem?_eq_getElem hi]; simpa [e] using a)
end Law
namespace Law
open PySem PySem.Spec L2 Tl

theorem hangs_ok (B : Bk) (mw mm : Int) (ok : BkOk mw mm B) (hw : mw ≤ 99) (hmm : mm ≤ 60) (w : Nat) (hlt : w < B.rooms.length) : ∃ gs : List Nat, m_hangs_with [.fz B.d, .fz (.int (w : Int))] = .ret (.lst (odI (sortI (gs.map fun x : Nat => (x : Int))))) [.fz B.d, .fz (.int (w : Int))] ∧
    gs.Nodup ∧ ∀ x, x ∈ gs ↔ x < B.rooms.length ∧ Cn (es B.rows) w x := by
  have w1 := ok.w1
  have m1 := ok.m1
  have hE := es_ok ok.ro
  have hm : ∀ m ∈ B.rows, 0 ≤ m.one ∧ 0 ≤ m.other := fun m h => by
    obtain ⟨⟨g1, g2, g3, _, _⟩, _⟩ := ok.ro.ok m h
    exact ⟨g1, by omega⟩
  obtain ⟨gs, y3, y4, y5, y6, y7, e, g1, g2, g3, g4⟩ := hmain B B.rooms.length (.fz (.int (w : Int))) w (by omega) hE hlt (by omega) hm (B.rooms.length - 0) 0 [w] 100000 .un .un .un .un rfl (by omega) (by simp) (by simp) (by simp) (fun x h => by simp at h; subst h; exact .refl) (fun i hi => by omega)
  refine ⟨gs, ?_, g1, fun x => ⟨fun h => ⟨?_, g3 x h⟩, fun h => ?_⟩⟩
  · have s1 : eL gLst (aCons (eFrz 1) aNil) [.fz B.d, .fz (.int (w : Int)), .un, .un, .un, .un, .un, .un] = .ok (.own (.lst (odN [w]))) := by
      simp [odN, odI]
    have so : gSorted [.view (.lst (odN gs))] = some (.own (.lst (odI (sortI (gs.map fun x : Nat => (x : Int)))))) := by
      have it : (OD.lst (odN gs)).items = some ((gs.map fun x : Nat => (x : Int)).map .int) := odI_fzs
      simp only [gSorted, RV.od, it, dInts_id]
      rfl
    have s2 : eL gSorted (aCons (eVar 2) aNil) [.fz B.d, .fz (.int (w : Int)), .lst (odN gs), y3, y4, y5, y6, y7] = .ok (.own (.lst (odI (sortI (gs.map fun x : Nat => (x : Int)))))) := by
      simp [so]
    refine run_rt (e := [.fz B.d, .fz (.int (w : Int)), .lst (odN gs), y3, y4, y5, y6, y7]) ?_ (by rfl)
    show b_hangs_with [.fz B.d, .fz (.int (w : Int)), .un, .un, .un, .un, .un, .un] = _
    unfold b_hangs_with
    exact Eq.trans (seq_nx (asg_ok s1 (by rfl))) (Eq.trans (seq_nx (asg_ok (o := .fz (.int 0)) (by rfl) (by rfl))) (Eq.trans (seq_nx e) (ret_ok s2)))
  · cases g3 x h with
    | refl => exact hlt
    | tail _ h => exact h.elim (fun z => (hE _ z).2) fun z => (hE _ z).1
  · obtain ⟨_, c⟩ := h
    induction c with
    | refl => exact g2
    | tail c a ih => exact g4 _ (ih (by
        cases c with
        | refl => exact hlt
        | tail _ h => exact h.elim (fun z => (hE _ z).2) fun z => (hE _ z).1)) _ a
end Law
namespace Law
open PySem PySem.Spec L2 Tl

def mkOf (B : Bk) : List Nat := lmarks (es B.rows) B.rooms.length (List.range B.rooms.length)
def dueN (B : Bk) (w : Nat) : List Nat := (List.range B.rooms.length).filter fun j => (mkOf B).getD j 0 == (mkOf B).getD w 0
def dueW (B : Bk) (w : Nat) : List Int := (dueN B w).map fun x : Nat => (x : Int)
theorem hangs_eq (B : Bk) (mw mm : Int) (ok : BkOk mw mm B) (hw : mw ≤ 99) (hmm : mm ≤ 60) (w : Nat) (hlt : w < B.rooms.length) : m_hangs_with [.fz B.d, .fz (.int (w : Int))] = .ret (.lst (odI (dueW B w))) [.fz B.d, .fz (.int (w : Int))] := by
  obtain ⟨gs, e, nd, hx⟩ := hangs_ok B mw mm ok hw hmm w hlt
  have hE := es_ok ok.ro
  have pm : (dueN B w).Perm gs := (List.perm_ext_iff_of_nodup (List.nodup_range.sublist List.filter_sublist) nd).mpr fun x => by
    rw [hx x]
    rw [List.mem_filter, List.mem_range, beq_iff_eq]
    constructor
    · exact fun ⟨h1, h2⟩ => ⟨h1, ((marks_iff hE h1 hlt).mp h2).symm⟩
    · exact fun ⟨h1, h2⟩ => ⟨h1, (marks_iff hE h1 hlt).mpr h2.symm⟩
  have st : (dueW B w).Pairwise (· ≤ ·) := by
    unfold dueW
    rw [List.pairwise_map]
    exact ((List.pairwise_lt_range (n := B.rooms.length)).sublist List.filter_sublist).imp fun h => by omega
  have := sortI_eq (pm.map fun x : Nat => (x : Int)) st
  rw [e, ← this]
  rfl
theorem due_lt {B : Bk} {w : Nat} : (dueW B w).length ≤ B.rooms.length := by
  unfold dueW dueN
  rw [List.length_map]
  have := List.length_filter_le (fun j => (mkOf B).getD j 0 == (mkOf B).getD w 0) (List.range B.rooms.length)
  simpa using this
theorem mk_len {B : Bk} {mw mm : Int} (ok : BkOk mw mm B) : (mkOf B).length = B.rooms.length :=
  (lmarks_ok (es_ok ok.ro) B.rooms.length 0 (List.range B.rooms.length) (by simp) (fun i hi => by
    have : (List.range B.rooms.length).getD i 0 = i := by simp [List.getD_eq_getElem?_getD, hi]
    rw [this]; exact .refl) (fun i j hi w => by
    have : (List.range B.rooms.length).getD i 0 = i := by simp [List.getD_eq_getElem?_getD, hi]
    cases w; rw [this]; exact Nat.le_refl _)).1
def C3 (B : Bk) (w : Nat) (d : D) : Bool := match d with
  | .int j => (mkOf B).getD j.toNat 0 == (mkOf B).getD w 0
  | _ => false
theorem k1_due (B : Bk) (mw mm : Int) (ok : BkOk mw mm B) (hw : mw ≤ 99) (w : Nat) (hlt : w < B.rooms.length) (o0 o1 o2 o5 o7 o8 o9 : OD) : k_law_1 [o0, o1, o2, .fz B.d, .lst (odN (mkOf B)), o5, .fz (.int (w : Int)), o7, o8, o9] = .ok (.own (.lst (odI (dueW B w)))) := by
  have w1 := ok.w1
  have ml := mk_len ok
  have g2 := eR1 (a := (B.rooms.length : Int)) (by omega) (by omega)
  have s2 : (fun env => O.mapP gR1 (aCons (eL gLen (aCons (e2 gIx (eVar 3) (eC (.int 0))) aNil)) aNil env)) [o0, o1, o2, .fz B.d, .lst (odN (mkOf B)), o5, .fz (.int (w : Int)), o7, o8, o9] = .ok (rng 0 (B.rooms.length : Int).toNat) := by
    simp [-eR1, g2]
  have iw := atI_odN (fs := mkOf B) (k := (w : Int)) (by omega) (by omega)
  unfold k_law_1
  refine Eq.trans (lc_pure (ds := rng 0 (B.rooms.length : Int).toNat) (C3 B w) .fz (by rfl) (by exact s2) (by rw [rng_len]; omega) (fun d hd => ?elt)) ?fin
  case fin =>
    have er : rng 0 (B.rooms.length : Int).toNat = (List.range B.rooms.length).map fun k : Nat => D.int (k : Int) := by
      unfold rng
      rw [Int.toNat_natCast]
      exact List.map_congr_left fun k _ => by rw [Int.zero_add]
    rw [er, List.filter_map]
    have ef : (C3 B w ∘ fun k : Nat => D.int (k : Int)) = fun j => (mkOf B).getD j 0 == (mkOf B).getD w 0 := by
      funext k
      simp [C3]
    rw [ef]
    simp [dueW, dueN, odI]
  case elt =>
    obtain ⟨i, hi, rfl⟩ := List.mem_map.mp hd
    have hi' : i < B.rooms.length := by simpa using hi
    have ii := atI_odN (fs := mkOf B) (k := (0 + (i : Int))) (by omega) (by omega)
    refine ⟨[o0, o1, o2, .fz B.d, .lst (odN (mkOf B)), o5, .fz (.int (w : Int)), o7, o8, .fz (.int (0 + (i : Int)))], by simp [wipeE, cSet], ?_, fun _ => by simp⟩
    have ti : (0 + (i : Int)).toNat = i := by omega
    rw [ti] at ii
    have tw : ((w : Int)).toNat = w := by omega
    rw [tw] at iw
    have c3 : C3 B w (.int (0 + (i : Int))) = ((mkOf B).getD i 0 == (mkOf B).getD w 0) := by
      show (_ == _) = _
      rw [ti]
    rw [c3]
    generalize (mkOf B).getD i 0 = x at *
    generalize (mkOf B).getD w 0 = y at *
    generalize (0 + (i : Int)) = ix at *
    generalize (w : Int) = wx at *
    have eqb : ((x : Int) == (y : Int)) = (x == y) := by
      by_cases h : x = y
      · subst h; simp
      · have h' : ¬ (x : Int) = y := by omega
        rw [beq_eq_false_iff_ne.mpr h', beq_eq_false_iff_ne.mpr h]
    have := @gEq_e (.int (x : Int)) (.int (y : Int)) dOk_i dOk_i
    rw [dEq_i, eqb] at this
    simp [-gEq_e, ii, iw, this]
end Law
namespace Law
open PySem PySem.Spec L2 Tl

def isW : D → Bool
  | .int _ => true
  | _ => false
theorem law_whole_eq (d : D) : m__law_whole [.fz d] = .ret (.fz (.bl (isW d))) [.fz d] := by
  cases d <;> simp [m__law_whole, runB, b__law_whole, outs, isFz, isW, D.ty, Ty.is]
theorem frzL_odI {ns : List Int} : frzL (odI ns) = some (ns.map .int) := by
  have := frzL_map (xs := ns) (f := D.int)
  rw [← this]; unfold odI; rw [List.map_map]; rfl
theorem gNe_i {r u : RV} {ns ms : List Int} (hr : r.od = .lst (odI ns)) (hu : u.od = .lst (odI ms)) : gNe (r, u) = some (.own (.fz (.bl (!decide (ns = ms))))) := by
  have e : ∀ ks : List Int, (OD.lst (odI ks)).plain = some (.lst (ks.map .int)) := fun ks => by
    rw [plain_lst, frzL_odI]; rfl
  unfold gNe
  simp only [hr, hu, e, dOk_ints, and_self, if_true, dEq_ints]
theorem purse_s (ns : List Int) (k : Int) (hk : 0 ≤ k) : m__law_purse [.fz (.scr (ns.map .int)), .fz (.int k)] = .ret (puOf ns k).od [.fz (.scr (ns.map .int)), .fz (.int k)] := purse_eq ns k hk
theorem cutL_sub {α : Type} {xs : List α} {lo hi : Option Int} : (cutL xs lo hi).Sublist xs := (List.take_sublist _ _).trans (List.drop_sublist _ _)
theorem fewer_ok (p : Pu) (B : Bk) (mw mm : Int) (ok : BkOk mw mm B) : ∃ (q : Pu) (B' : Bk), m__law_fewer [p.od, .fz B.d] = .ret (.fz B'.d) [q.od, .fz B.d] ∧ BkOk mw mm B' := by
  have h0 := p.take_nn (n := 2) (by decide)
  by_cases h : p.take 2 = 0
  · exact ⟨p.next 2, B, by simp [m__law_fewer, runB, b__law_fewer, h, outs, isFz], ok⟩
  · have sl : gSl ((.own (.fz (rowsD B.rows)), none), some ((p.next 2).take 12)) = some (.own (.fz (rowsD (cutL B.rows none (some ((p.next 2).take 12)))))) := by
      unfold rowsD
      rw [gSl_tup, cutD_map]
    generalize hc : cutL B.rows none (some ((p.next 2).take 12)) = rs at *
    have sub : rs.Sublist B.rows := by rw [← hc]; exact cutL_sub
    refine ⟨(p.next 2).next 12, ⟨B.rooms, rs⟩, by simp [m__law_fewer, runB, b__law_fewer, h, sl, outs, isFz, Bk.d], ok.w0, ok.w1, ok.rm, ⟨fun m hm => ok.ro.ok m (sub.subset hm), ok.ro.pw.sublist sub⟩, ?_⟩
    have := sub.length_le
    have := ok.m1
    show (rs.length : Int) ≤ mm
    omega
theorem k2_eq (o0 o1 o2 o3 o4 o5 o6 o8 o9 : OD) (ns : List Int) (hl : ns.length < 1000) : lendE 7 RV.nf k_law_2 [o0, o1, o2, o3, o4, o5, o6, .lst (odI ns), o8, o9] = .ok (.own (.lst (ns.map fun _ => .fz (.bl true)))) := by
  refine lend_ok (os := odI ns) (ds := ns.map .int) rfl frzL_odI ?_ (by
    show nfo (.lst _) = true
    rw [nfo_l]
    clear hl
    induction ns with
    | nil => simp
    | cons n ns ih => simpa using ih)
  show k_law_2 [o0, o1, o2, o3, o4, o5, o6, .fz (.lst (ns.map .int)), o8, o9] = _
  unfold k_law_2
  refine Eq.trans (lc_pure (ds := ns.map .int) (fun _ => true) (fun _ => .fz (.bl true)) (by rfl) (by simp) (by simp; omega) (fun d hd => ?elt)) ?fin
  case fin =>
    rw [List.filter_eq_self.mpr (by simp), List.map_map]
    rfl
  case elt =>
    obtain ⟨i, _, rfl⟩ := List.mem_map.mp hd
    exact ⟨[o0, o1, o2, o3, o4, o5, o6, .fz (.lst (ns.map .int)), o8, .fz (.int i)], by simp [wipeE, cSet], by rfl, fun _ => by simp [law_whole_eq, isW]⟩
theorem all_true (n : List Int) : gBs (fun bs => bs.all id) [.own (.lst (n.map fun _ => .fz (.bl true)))] = some (.own (.fz (.bl true))) := by
  have e1 : fzs (n.map fun _ => OD.fz (.bl true)) = some (n.map fun _ => D.bl true) := fzs_map (xs := n) (f := fun _ => D.bl true)
  have e2 : dBools (n.map fun _ => D.bl true) = some (n.map fun _ => true) := by
    induction n with
    | nil => rfl
    | cons a n ih =>
      have := ih (fzs_map (xs := n) (f := fun _ => D.bl true))
      simp [dBools] at this ⊢
  simp [gBs, OD.sitems, OD.items, e1, e2]
def heldO (B : Bk) (i : Nat) : List OD := (List.range i).map fun w => .fz (.lst ((dueW B w).map .int))
theorem turn1 (B : Bk) (mw mm : Int) (ok : BkOk mw mm B) (hw : mw ≤ 99) (hmm : mm ≤ 60) (i : Nat) (hlt : i < B.rooms.length) (s k p x7 x8 x9 : OD) :
    ∃ y7 y8, l_law_1 [s, k, p, .fz B.d, .lst (odN (mkOf B)), .lst (heldO B i), .fz (.int (i : Int)), x7, x8, x9] = .nx [s, k, p, .fz B.d, .lst (odN (mkOf B)), .lst (heldO B (i + 1)), .fz (.int (i : Int)), y7, y8, x9] := by
  have eh := hangs_eq B mw mm ok hw hmm i hlt
  have ek := fun o0 o1 o2 o5 o7 o8 o9 => k1_due B mw mm ok hw i hlt o0 o1 o2 o5 o7 o8 o9
  have dl := due_lt (B := B) (w := i)
  have w1 := ok.w1
  have hs : heldO B (i + 1) = heldO B i ++ [.fz (.lst ((dueW B i).map .int))] := by simp [heldO, List.range_succ]
  have hh : (heldO B i).length < 10000000 := by simp [heldO]; omega
  rw [hs]
  generalize (i : Int) = ix at *
  generalize heldO B i = ho at *
  generalize odN (mkOf B) = mo at *
  generalize hd : dueW B i = due at *
  have k2 := fun o0 o1 o2 o3 o4 o5 o6 o8 o9 => k2_eq o0 o1 o2 o3 o4 o5 o6 o8 o9 due (by omega)
  have at' := all_true due
  have n2 : gNe (.view (.lst (odI due)), .view (.lst (odI due))) = some (.own (.fz (.bl false))) := by
    have := gNe_i (r := .view (.lst (odI due))) (u := .view (.lst (odI due))) (ns := due) (ms := due) rfl rfl
    simpa using this
  have hm : (odI due).length < 10000000 := by simp [odI]; omega
  have fz : frzL (odI due) = some (due.map .int) := frzL_odI
  refine ⟨.lst (odI due ++ [.fz (.int (-1))]), .fz (.lst (due.map .int)), ?_⟩
  unfold l_law_1
  refine Eq.trans (seq_nx (asg_ok (o := .lst (odI due)) (by simp [eh]) (by rfl))) ?_
  refine Eq.trans (seq_nx (asg_ok (ek _ _ _ _ _ _ _) (by rfl))) ?_
  refine Eq.trans (seq_nx (e1 := [s, k, p, .fz B.d, .lst mo, .lst ho, .fz (.int ix), .lst (odI due), .lst (odI due), x9]) (Eq.trans (if_f (by simp [n2, Ty.is])) (by rfl))) ?_
  refine Eq.trans (seq_nx (e1 := [s, k, p, .fz B.d, .lst mo, .lst ho, .fz (.int ix), .lst (odI due), .lst (odI due), x9]) (Eq.trans (if_f (by simp [k2, at'])) (by rfl))) ?_
  refine Eq.trans (seq_nx (expr_eff (r := .own (.fz .non)) (e1 := [s, k, p, .fz B.d, .lst mo, .lst ho, .fz (.int ix), .lst (odI due ++ [.fz (.int (-1))]), .lst (odI due), x9]) (by simp [hm]))) ?_
  exact expr_eff (r := .own (.fz .non)) (by simp [hh, fz])
end Law
namespace Law
open PySem PySem.Spec L2 Tl

theorem frzL_mapO {α : Type} {f : α → OD} {g : α → D} (h : ∀ x, frz (f x) = some (g x)) : ∀ xs : List α, frzL (xs.map f) = some (xs.map g)
  | [] => rfl
  | x :: xs => by
    have := frzL_mapO h xs
    simp only [List.map_cons, frzL, h, this]
def hD (B : Bk) (n : Nat) : D := .lst ((List.range n).map fun w => .lst ((dueW B w).map .int))
theorem hD_ok {B : Bk} {n : Nat} : dOk (hD B n) = true := (shp_lst (n := 1) fun d hd => by
  obtain ⟨w, _, rfl⟩ := List.mem_map.mp hd
  exact shp_lst shp_ints).ok (by decide)
theorem hD_eq {B : Bk} {n : Nat} : dEq (hD B n) (hD B n) = true := by
  have nb : (hD B n).nb = true := by
    unfold hD
    rw [D.nb]
    refine nbL_all fun d hd => ?_
    obtain ⟨w, _, rfl⟩ := List.mem_map.mp hd
    rw [D.nb]
    exact nb_ints
  exact (dEq_iff _ _ nb nb).mpr rfl
theorem k3_eq (B : Bk) (mw mm : Int) (ok : BkOk mw mm B) (hw : mw ≤ 99) (hmm : mm ≤ 60) (o0 o1 o2 o4 o6 o7 o8 o9 : OD) : k_law_3 [o0, o1, o2, .fz B.d, o4, .lst (heldO B B.rooms.length), o6, o7, o8, o9] = .ok (.own (.lst ((List.range B.rooms.length).map fun w => .lst (odI (dueW B w))))) := by
  have w1 := ok.w1
  have hl : (heldO B B.rooms.length).length = B.rooms.length := by simp [heldO]
  have gl : gLen [.view (.lst (heldO B B.rooms.length))] = some (.own (.fz (.int B.rooms.length))) := by rw [gLen_vlst, hl]
  have g2 := eR1 (a := (B.rooms.length : Int)) (by omega) (by omega)
  have s2 : (fun env => O.mapP gR1 (aCons (eL gLen (aCons (eVar 5) aNil)) aNil env)) [o0, o1, o2, .fz B.d, o4, .lst (heldO B B.rooms.length), o6, o7, o8, o9] = .ok (rng 0 (B.rooms.length : Int).toNat) := by
    simp [-eR1, -gLen_vlst, g2, gl]
  unfold k_law_3
  refine Eq.trans (lc_pure (ds := rng 0 (B.rooms.length : Int).toNat) (fun _ => true) (fun d => match d with
    | .int j => .lst (odI (dueW B j.toNat))
    | _ => .un) (by rfl) (by exact s2) (by rw [rng_len]; omega) (fun d hd => ?elt)) ?fin
  case fin =>
    have er : rng 0 (B.rooms.length : Int).toNat = (List.range B.rooms.length).map fun k : Nat => D.int (k : Int) := by
      unfold rng
      rw [Int.toNat_natCast]
      exact List.map_congr_left fun k _ => by rw [Int.zero_add]
    rw [List.filter_eq_self.mpr (by simp), er, List.map_map]
    have : (List.range B.rooms.length).map ((fun d => match d with
    | D.int j => OD.lst (odI (dueW B j.toNat))
    | _ => .un) ∘ fun k : Nat => D.int (k : Int)) = (List.range B.rooms.length).map fun w => OD.lst (odI (dueW B w)) := List.map_congr_left fun k _ => by
      show OD.lst (odI (dueW B ((k : Int)).toNat)) = _
      rw [Int.toNat_natCast]
    rw [this]
  case elt =>
    obtain ⟨i, hi, rfl⟩ := List.mem_map.mp hd
    have hi' : i < B.rooms.length := by simpa using hi
    have eh := hangs_eq B mw mm ok hw hmm i hi'
    have z : (0 + (i : Int)) = (i : Int) := Int.zero_add _
    rw [z]
    refine ⟨[o0, o1, o2, .fz B.d, o4, .lst (heldO B B.rooms.length), .fz (.int (i : Int)), o7, o8, o9], by simp [wipeE, cSet], by rfl, fun _ => ?_⟩
    show eCall m_hangs_with (cVal (eVar 3) (cVal (eVar 6) cNil)) _ = .ok (.own (.lst (odI (dueW B ((i : Int)).toNat))))
    rw [Int.toNat_natCast]
    simp [eh]
theorem n3 (B : Bk) (n : Nat) : gNe (.own (.lst ((List.range n).map fun w => .lst (odI (dueW B w)))), .view (.lst (heldO B n))) = some (.own (.fz (.bl false))) := by
  have e1 : (OD.lst ((List.range n).map fun w => .lst (odI (dueW B w)))).plain = some (hD B n) := by
    rw [plain_lst, frzL_mapO (g := fun w => .lst ((dueW B w).map .int)) (fun w => by rw [frz_lst, frzL_odI]; rfl)]
    rfl
  have e2 : (OD.lst (heldO B n)).plain = some (hD B n) := by
    unfold heldO
    rw [plain_lst, frzL_mapO (g := fun w => .lst ((dueW B w).map .int)) (fun w => frz_fz)]
    rfl
  unfold gNe
  simp only [RV.od, e1, e2, hD_ok, hD_eq, and_self, if_true]
  rfl
theorem turn2 (ns : List Int) (k : Int) (hk : 0 ≤ k) (x2 x3 x4 x5 x6 x7 x8 x9 : OD) : ∃ y2 y3 y4 y5 y6 y7 y8 y9, l_law_2 [.fz (.scr (ns.map .int)), .fz (.int k), x2, x3, x4, x5, x6, x7, x8, x9] = .nx [.fz (.scr (ns.map .int)), .fz (.int k), y2, y3, y4, y5, y6, y7, y8, y9] := by
  have e0 := purse_s ns k hk
  generalize puOf ns k = p at *
  obtain ⟨mm, hmm, b0, b1⟩ : ∃ mm : Int, mm = (if k > 3 then 9 else 60) ∧ 0 ≤ mm ∧ mm ≤ 60 := ⟨_, rfl, by split <;> decide, by split <;> decide⟩
  obtain ⟨q, B0, e1, ok0⟩ := book_ok p 12 mm (by decide) (by decide) b0 b1
  obtain ⟨q2, B, e2', ok⟩ := fewer_ok q B0 12 mm ok0
  have em := marks_eq B 12 mm ok (by decide)
  have w1 := ok.w1
  generalize hS : (OD.fz (.scr (ns.map D.int))) = S at *
  have sS : S ≠ .un := by rw [← hS]; intro z; cases z
  have s3 : eCall m__law_fewer (cIo 2 (cVal (eCall m__law_book (cIo 2 (cVal (eC (.int 12)) (cVal (e2 gIx (eL gLst (aCons (eC (.int 60)) (aCons (eC (.int 9)) aNil))) (eL gInt (aCons (e2 (g2i fun i j => some (iGt i j)) (eVar 1) (eC (.int 3))) aNil))) cNil)))) cNil)) [S, .fz (.int k), p.od, x3, x4, x5, x6, x7, x8, x9] = .eff (.own (.fz B.d)) [S, .fz (.int k), q2.od, x3, x4, x5, x6, x7, x8, x9] := by
    by_cases h : k > 3
    · rw [if_pos h] at hmm
      subst hmm
      have gi : gInt [.own (.fz (.bl true))] = some (.own (.fz (.int 1))) := rfl
      have h' : 3 < k := h
      simp [h', gi, e1, e2']
    · rw [if_neg h] at hmm
      subst hmm
      have gi : gInt [.own (.fz (.bl false))] = some (.own (.fz (.int 0))) := rfl
      have h' : ¬ 3 < k := h
      simp [h', gi, e1, e2']
  have s2 : eCall m__law_purse (cVal (eVar 0) (cVal (eVar 1) cNil)) [S, .fz (.int k), x2, x3, x4, x5, x6, x7, x8, x9] = .ok (.own p.od) := by
    rw [← hS] at e0 ⊢
    simp [e0]
  have g2 := eR1 (a := (B.rooms.length : Int)) (by omega) (by omega)
  have loop := for_ix (P := fun i e => ∃ y6 y7 y8, e = [S, .fz (.int k), q2.od, .fz B.d, .lst (odN (mkOf B)), .lst (heldO B i), y6, y7, y8, x9]) (g := gSet 6) (body := l_law_1) (rng 0 (B.rooms.length : Int).toNat) 0 [S, .fz (.int k), q2.od, .fz B.d, .lst (odN (mkOf B)), .lst (heldO B 0), x6, x7, x8, x9] ⟨x6, x7, x8, rfl⟩ fun i d env hi ⟨y6, y7, y8, he⟩ => by
    obtain ⟨hi, rfl⟩ := rng_get hi
    subst he
    rw [Nat.zero_add, Int.zero_add]
    obtain ⟨z7, z8, e⟩ := turn1 B 12 mm ok (by decide) b1 i (by omega) S (.fz (.int k)) q2.od y7 y8 x9
    exact ⟨_, _, by simp [gSet], .inl e, _, _, _, rfl⟩
  obtain ⟨e, he, y6, y7, y8, rfl⟩ := loop
  rw [Nat.zero_add, rng_len, Int.toNat_natCast] at he
  have k3 := k3_eq B 12 mm ok (by decide) b1 S (.fz (.int k)) q2.od (.lst (odN (mkOf B))) y6 y7 y8 x9
  have nn := n3 B B.rooms.length
  refine ⟨q2.od, .fz B.d, .lst (odN (mkOf B)), .lst (heldO B B.rooms.length), y6, y7, y8, x9, ?_⟩
  unfold l_law_2
  refine Eq.trans (seq_nx (asg_ok s2 (by rfl))) ?_
  refine Eq.trans (seq_nx (asg_eff s3 (by rfl))) ?_
  refine Eq.trans (seq_nx (asg_ok (o := .lst (odN (mkOf B))) (by
    have em' : m__law_marks [.fz B.d] = .ret (.lst (odN (mkOf B))) [.fz B.d] := em
    simp [em']) (by rfl))) ?_
  refine Eq.trans (seq_nx (asg_ok (o := .lst []) (by rfl) (by rfl))) ?_
  refine Eq.trans (seq_nx (Eq.trans (forS_ok (ds := rng 0 (B.rooms.length : Int).toNat) (by simp [-eR1, g2])) he)) ?_
  exact Eq.trans (if_f (by rw [tV_e, e2_e, k3, at_ok, eVar_lst (by rfl)]; simp [nn])) (by rfl)
theorem law_ok (ns : List Int) (hn : ns.length ≤ 63) : ∃ r, m_law [scr ns] = .ret (.fz (.bl true)) r := by
  obtain ⟨mx, hmx⟩ : ∃ mx : Int, mx = (if (if (63 : Int) < ns.length then (63 : Int) else ns.length) > 1 then (if (63 : Int) < ns.length then (63 : Int) else ns.length) else 1) := ⟨_, rfl⟩
  have mb : 0 ≤ mx ∧ mx ≤ 63 := by rw [hmx]; split <;> split <;> omega
  obtain ⟨e, l1, y1, y2, y3, y4, y5, y6, y7, y8, y9, rfl⟩ := for_all (ds := rng 0 mx.toNat) (env := [.fz (.scr (ns.map .int)), .un, .un, .un, .un, .un, .un, .un, .un, .un])
      (P := fun e => ∃ y1 y2 y3 y4 y5 y6 y7 y8 y9, e = [.fz (.scr (ns.map .int)), y1, y2, y3, y4, y5, y6, y7, y8, y9]) (g := gSet 1) (body := l_law_2) ⟨_, _, _, _, _, _, _, _, _, rfl⟩ fun d hd env ⟨y1, y2, y3, y4, y5, y6, y7, y8, y9, he⟩ => by
    obtain ⟨i, _, rfl⟩ := List.mem_map.mp hd
    subst he
    obtain ⟨z2, z3, z4, z5, z6, z7, z8, z9, e⟩ := turn2 ns (0 + (i : Int)) (by omega) y2 y3 y4 y5 y6 y7 y8 y9
    exact ⟨_, _, by simp [gSet], .inl e, _, _, _, _, _, _, _, _, _, rfl⟩
  have r1 : gR1 [.own (.fz (.int mx))] = some (rng 0 mx.toNat) := eR1 (by omega) (by omega)
  have ln : gLen [.own (.fz (.scr (ns.map .int)))] = some (.own (.fz (.int ns.length))) := by simp
  generalize (ns.length : Int) = nl at *
  generalize rng 0 mx.toNat = R1 at *
  have mx1 : gMin [.own (.fz (.int nl)), .own (.fz (.int 63))] = some (.own (.fz (.int (if (63 : Int) < nl then (63 : Int) else nl)))) := gMin_e
  have mx2 : gMax [.own (.fz (.int 1)), .own (.fz (.int (if (63 : Int) < nl then (63 : Int) else nl)))] = some (.own (.fz (.int mx))) := by rw [gMax_e, hmx]
  generalize (if (63 : Int) < nl then (63 : Int) else nl) = m4 at *
  have s1 : (fun env => O.mapP gR1 (aCons (eL gMax (aCons (eC (.int 1)) (aCons (eL gMin (aCons (eL gLen (aCons (eVar 0) aNil)) (aCons (eC (.int 63)) aNil))) aNil))) aNil env)) [.fz (.scr (ns.map .int)), .un, .un, .un, .un, .un, .un, .un, .un, .un] = .ok R1 := by
    simp [-gLen_scr, -gMax_e, -gMin_e, ln, mx1, mx2, r1]
  refine ⟨[.fz (.scr (ns.map .int))], run_rt (e := [.fz (.scr (ns.map .int)), y1, y2, y3, y4, y5, y6, y7, y8, y9]) ?_ (by rfl)⟩
  show b_law [.fz (.scr (ns.map .int)), .un, .un, .un, .un, .un, .un, .un, .un, .un] = _
  unfold b_law
  exact Eq.trans (seq_nx (Eq.trans (forS_ok s1) l1)) (ret_ok (by rfl))
end Law
namespace Law
open PySem PySem.Spec L2 Tl
abbrev st_hangs_with : Stmt := topS 1
theorem sc_hangs_with : FnScope N_hangs_with ["book", "walker"] (defScope st_hangs_with) := ⟨rfl, rfl, rfl, by decide +kernel, rfl, by decide +kernel, by decide +kernel⟩
structure Z_hangs_with (P : Program) (w : World) (K : PySem.W.Frag) (mg : Str → Option Value) (base : Heap) : Prop where
  one : True
  b_len : mg "len" = none
  b_sorted : mg "sorted" = none

set_option maxHeartbeats 4000000 in
theorem cal_hangs_with {P : Program} {w : World} {K : PySem.W.Frag} {mg : Str → Option Value} {base : Heap} (A : FunAt K mg "hangs_with" st_hangs_with ["book", "walker"]) (Z : Z_hangs_with P w K mg base) : Cal P w K mg base "hangs_with" ["book", "walker"] 1 2 m_hangs_with :=
  cal_of A sc_hangs_with rfl rfl rfl fun f cdv A outer s H E hr tk hp => by
    have nd := sc_hangs_with.nd
    unfold b_hangs_with l_hangs_with_2 l_hangs_with_1
    exact (ss_cons (s_set 2 nd (r_lst (r_acons (r_frz 1) r_anil)))
  (ss_cons (s_set 3 nd r_int)
  (ss_cons (s_while 100000 hp (t_c c_lt (r_var 3) (r_cb b_len Z.b_len boot_len_ (r_acons (r_var 2) r_anil)))
  (ss_cons (s_for hp rfl (i_seq (r_ix (r_var 0) r_int)) (g_tup rfl (gs_cons (g_name 4 nd) (gs_cons (g_name 5 nd) (gs_cons (g_name 6 nd) (gs_cons (g_name 7 nd) gs_nil)))))
  (ss_one (s_if (t_w (w_and (t_c (c_in (hu65 hr)) (r_ix (r_var 2) (r_var 3)) (r_tup (r_acons (r_frz 4) (r_acons (r_frz 5) r_anil)))) (w_and1 (t_c (c_nin (hu65 hr)) (r_sub (r_add (r_var 4) (r_var 5)) (r_ix (r_var 2) (r_var 3))) (r_var 2)))))
  (ss_one (s_expr (r_methV 2 PySem.F.plainAttrs_list PySem.F.slot_list_append PySem.F.type_list_append m_append (r_acons (r_sub (r_add (r_var 4) (r_var 5)) (r_ix (r_var 2) (r_var 3))) r_anil))))
  ss_nil)))
  (ss_one (s_set 3 nd (r_add (r_var 3) r_int)))))
  (ss_one (s_ret (r_cb b_sorted Z.b_sorted boot_sorted_ (r_acons (r_var 2) r_anil)))))))
abbrev st__law_purse : Stmt := topS 3
theorem sc__law_purse : FnScope N__law_purse ["_law_script", "_law_k"] (defScope st__law_purse) := ⟨rfl, rfl, rfl, by decide +kernel, rfl, by decide +kernel, by decide +kernel⟩
structure Z__law_purse (P : Program) (w : World) (K : PySem.W.Frag) (mg : Str → Option Value) (base : Heap) : Prop where
  one : True
  b_len : mg "len" = none

set_option maxHeartbeats 4000000 in
theorem cal__law_purse {P : Program} {w : World} {K : PySem.W.Frag} {mg : Str → Option Value} {base : Heap} (A : FunAt K mg "_law_purse" st__law_purse ["_law_script", "_law_k"]) (Z : Z__law_purse P w K mg base) : Cal P w K mg base "_law_purse" ["_law_script", "_law_k"] 1 2 m__law_purse :=
  cal_of A sc__law_purse rfl rfl rfl fun f cdv A outer s H E hr tk hp => by
    have nd := sc__law_purse.nd
    unfold b__law_purse
    exact (ss_cons (s_set 2 nd r_int)
  (ss_cons (s_if (t_c c_lt (r_var 1) (r_cb b_len Z.b_len boot_len_ (r_acons (r_var 0) r_anil)))
  (ss_one (s_set 2 nd (r_ix (r_var 0) (r_var 1))))
  ss_nil)
  (ss_cons (s_set 3 nd r_int)
  (ss_cons (s_if (t_c c_lt (r_var 2) r_int)
  (ss_one (s_set 3 nd (r_sub (r_neg r_int) (r_var 2))))
  ss_nil)
  (ss_cons (s_if (t_c c_ge (r_var 2) (r_pow r_int r_int))
  (ss_one (s_set 3 nd (r_frz 2)))
  ss_nil)
  (ss_one (s_ret (r_lst (r_acons (r_move 3) (r_acons (r_mod (r_add (r_add (r_mul (r_var 2) r_int) (r_mul (r_var 1) r_int)) r_int) r_int) (r_acons r_int r_anil)))))))))))
abbrev st__law_take : Stmt := topS 4
theorem sc__law_take : FnScope N__law_take ["_law_purse_here", "_law_many"] (defScope st__law_take) := ⟨rfl, rfl, rfl, by decide +kernel, rfl, by decide +kernel, by decide +kernel⟩
structure Z__law_take (P : Program) (w : World) (K : PySem.W.Frag) (mg : Str → Option Value) (base : Heap) : Prop where
  one : True

set_option maxHeartbeats 4000000 in
theorem cal__law_take {P : Program} {w : World} {K : PySem.W.Frag} {mg : Str → Option Value} {base : Heap} (A : FunAt K mg "_law_take" st__law_take ["_law_purse_here", "_law_many"]) (Z : Z__law_take P w K mg base) : Cal P w K mg base "_law_take" ["_law_purse_here", "_law_many"] 1 2 m__law_take :=
  cal_of A sc__law_take rfl rfl rfl fun f cdv A outer s H E hr tk hp => by
    have nd := sc__law_take.nd
    unfold b__law_take
    exact (ss_cons (s_if (t_c c_gt (r_ix (r_var 0) r_int) r_int)
  (ss_cons (s_set 2 nd (r_mod (r_ix (r_var 0) r_int) (r_var 1)))
  (ss_cons (s_asg (r_div (r_ix (r_var 0) r_int) (r_var 1)) (g_sub (W := fun cls d _ H => E cls d H) (p_var 0) r_int))
  (ss_one (s_ret (r_move 2)))))
  ss_nil)
  (ss_cons (s_augS io_add (p_var 0) r_int r_int)
  (ss_cons (s_set 3 nd (r_mod (r_mul (r_add (r_ix (r_var 0) r_int) (r_mul (r_ix (r_var 0) r_int) r_int)) r_int) r_int))
  (ss_cons (s_set 3 nd (r_mod (r_add (r_add (r_mul (r_var 3) (r_var 3)) (r_mul (r_ix (r_var 0) r_int) r_int)) (r_ix (r_var 0) r_int)) r_int))
  (ss_one (s_ret (r_mod (r_div (r_mod (r_mul (r_var 3) r_int) r_int) r_int) (r_var 1))))))))
abbrev st__law_rooms : Stmt := topS 5
theorem sc__law_rooms : FnScope N__law_rooms ["_law_purse_here", "_law_walkers"] (defScope st__law_rooms) := ⟨rfl, rfl, rfl, by decide +kernel, rfl, by decide +kernel, by decide +kernel⟩
structure Z__law_rooms (P : Program) (w : World) (K : PySem.W.Frag) (mg : Str → Option Value) (base : Heap) : Prop where
  one : True
  f__law_take : Cal P w K mg base "_law_take" ["_law_purse_here", "_law_many"] 1 2 m__law_take
  b_range : mg "range" = none
  b_tuple : mg "tuple" = none

set_option maxHeartbeats 4000000 in
theorem cal__law_rooms {P : Program} {w : World} {K : PySem.W.Frag} {mg : Str → Option Value} {base : Heap} (A : FunAt K mg "_law_rooms" st__law_rooms ["_law_purse_here", "_law_walkers"]) (Z : Z__law_rooms P w K mg base) : Cal P w K mg base "_law_rooms" ["_law_purse_here", "_law_walkers"] 2 2 m__law_rooms :=
  cal_of A sc__law_rooms rfl rfl rfl fun f cdv A outer s H E hr tk hp => by
    have nd := sc__law_rooms.nd
    unfold b__law_rooms l__law_rooms_1
    exact (ss_cons (s_set 2 nd (r_lst r_anil))
  (ss_cons (s_for hp rfl (i_range1 Z.b_range (r_acons (r_var 1) r_anil)) (g_name 3 nd)
  (ss_cons (s_set 4 nd (r_div (r_fn Z.f__law_take tk hr (by decide) (ca_io 0 (ca_val r_int ca_nil)) (cl_io (cl_val cl_nil))) r_int))
  (ss_cons (s_if (t_c (c_eq hr.units) (r_var 4) r_int)
  (ss_one (s_set 4 nd (r_fn Z.f__law_take tk hr (by decide) (ca_io 0 (ca_val r_int ca_nil)) (cl_io (cl_val cl_nil)))))
  ss_nil)
  (ss_one (s_expr (r_methV 2 PySem.F.plainAttrs_list PySem.F.slot_list_append PySem.F.type_list_append m_append (r_acons (r_frz 4) r_anil)))))))
  (ss_one (s_ret (r_ct b_tuple Z.b_tuple boot_tuple_ (r_acons (r_var 2) r_anil))))))
abbrev st__law_step : Stmt := topS 6
theorem sc__law_step : FnScope N__law_step ["_law_purse_here"] (defScope st__law_step) := ⟨rfl, rfl, rfl, by decide +kernel, rfl, by decide +kernel, by decide +kernel⟩
structure Z__law_step (P : Program) (w : World) (K : PySem.W.Frag) (mg : Str → Option Value) (base : Heap) : Prop where
  one : True
  f__law_take : Cal P w K mg base "_law_take" ["_law_purse_here", "_law_many"] 1 2 m__law_take

set_option maxHeartbeats 4000000 in
theorem cal__law_step {P : Program} {w : World} {K : PySem.W.Frag} {mg : Str → Option Value} {base : Heap} (A : FunAt K mg "_law_step" st__law_step ["_law_purse_here"]) (Z : Z__law_step P w K mg base) : Cal P w K mg base "_law_step" ["_law_purse_here"] 2 1 m__law_step :=
  cal_of A sc__law_step rfl rfl rfl fun f cdv A outer s H E hr tk hp => by
    have nd := sc__law_step.nd
    unfold b__law_step
    exact (ss_cons (s_set 1 nd (r_fn Z.f__law_take tk hr (by decide) (ca_io 0 (ca_val r_int ca_nil)) (cl_io (cl_val cl_nil))))
  (ss_cons (s_if (t_c c_lt (r_var 1) r_int)
  (ss_one (s_ret (r_ix (r_lst (r_acons r_int (r_acons r_int (r_acons r_int r_anil)))) (r_var 1))))
  ss_nil)
  (ss_cons (s_if (t_c (c_eq hr.units) (r_var 1) r_int)
  (ss_one (s_ret (r_add r_int (r_fn Z.f__law_take tk hr (by decide) (ca_io 0 (ca_val r_int ca_nil)) (cl_io (cl_val cl_nil))))))
  ss_nil)
  (ss_one (s_ret (r_add r_int (r_fn Z.f__law_take tk hr (by decide) (ca_io 0 (ca_val (r_mul r_int (r_pow r_int r_int)) ca_nil)) (cl_io (cl_val cl_nil)))))))))
abbrev st__law_meetings : Stmt := topS 7
theorem sc__law_meetings : FnScope N__law_meetings ["_law_purse_here", "_law_walkers", "_law_most"] (defScope st__law_meetings) := ⟨rfl, rfl, rfl, by decide +kernel, rfl, by decide +kernel, by decide +kernel⟩
structure Z__law_meetings (P : Program) (w : World) (K : PySem.W.Frag) (mg : Str → Option Value) (base : Heap) : Prop where
  one : True
  f__law_take : Cal P w K mg base "_law_take" ["_law_purse_here", "_law_many"] 1 2 m__law_take
  f__law_step : Cal P w K mg base "_law_step" ["_law_purse_here"] 2 1 m__law_step
  b_range : mg "range" = none
  b_max : mg "max" = none
  b_min : mg "min" = none
  b_tuple : mg "tuple" = none
  b_sorted : mg "sorted" = none

set_option maxHeartbeats 4000000 in
theorem cal__law_meetings {P : Program} {w : World} {K : PySem.W.Frag} {mg : Str → Option Value} {base : Heap} (A : FunAt K mg "_law_meetings" st__law_meetings ["_law_purse_here", "_law_walkers", "_law_most"]) (Z : Z__law_meetings P w K mg base) : Cal P w K mg base "_law_meetings" ["_law_purse_here", "_law_walkers", "_law_most"] 3 3 m__law_meetings :=
  cal_of A sc__law_meetings rfl rfl rfl fun f cdv A outer s H E hr tk hp => by
    have nd := sc__law_meetings.nd
    unfold b__law_meetings k__law_meetings_1 l__law_meetings_1
    exact (ss_cons (s_set 3 nd (r_lst r_anil))
  (ss_cons (s_set 4 nd (r_add r_int (r_mul (r_div (r_fn Z.f__law_take tk hr (by decide) (ca_io 0 (ca_val r_int ca_nil)) (cl_io (cl_val cl_nil))) r_int) (r_fn Z.f__law_take tk hr (by decide) (ca_io 0 (ca_val (r_pow r_int r_int) ca_nil)) (cl_io (cl_val cl_nil))))))
  (ss_cons (s_set 5 nd (r_lst r_anil))
  (ss_cons (s_for hp rfl (i_range1 Z.b_range (r_acons (r_var 2) r_anil)) (g_name 6 nd)
  (ss_cons (s_set 7 nd (r_fn Z.f__law_take tk hr (by decide) (ca_io 0 (ca_val (r_var 1) ca_nil)) (cl_io (cl_val cl_nil))))
  (ss_cons (s_set 8 nd (r_mod (r_add (r_add (r_var 7) r_int) (r_fn Z.f__law_take tk hr (by decide) (ca_io 0 (ca_val (r_sub (r_var 1) r_int) ca_nil)) (cl_io (cl_val cl_nil)))) (r_var 1)))
  (ss_cons (s_set 9 nd (r_fn Z.f__law_step tk hr (by decide) (ca_io 0 ca_nil) (cl_io cl_nil)))
  (ss_cons (s_if (t_w (w_or (t_c (c_in (hu65 hr)) (r_var 7) (r_var 5)) (w_or1 (t_c (c_in (hu65 hr)) (r_var 8) (r_var 5)))))
  (ss_one (s_set 9 nd (r_cb (b_max rfl) Z.b_max boot_max_ (r_acons r_int (r_acons (r_var 9) r_anil)))))
  ss_nil)
  (ss_cons (s_if (t_c c_gt (r_var 9) r_int)
  (ss_one (s_set 5 nd (r_lst r_anil)))
  ss_nil)
  (ss_cons (s_set 4 nd (r_add (r_var 4) (r_var 9)))
  (ss_cons (s_set 5 nd (r_add (r_var 5) (r_lst (r_acons (r_frz 7) (r_acons (r_frz 8) r_anil)))))
  (ss_cons (s_set 10 nd (r_add r_int (r_div (r_fn Z.f__law_take tk hr (by decide) (ca_io 0 (ca_val r_int ca_nil)) (cl_io (cl_val cl_nil))) r_int)))
  (ss_cons (s_if (t_c (c_eq hr.units) (r_fn Z.f__law_take tk hr (by decide) (ca_io 0 (ca_val r_int ca_nil)) (cl_io (cl_val cl_nil))) r_int)
  (ss_one (s_set 10 nd (r_add r_int (r_fn Z.f__law_take tk hr (by decide) (ca_io 0 (ca_val r_int ca_nil)) (cl_io (cl_val cl_nil))))))
  ss_nil)
  (ss_one (s_expr (r_methV 3 PySem.F.plainAttrs_list PySem.F.slot_list_append PySem.F.type_list_append m_append (r_acons (r_tup (r_acons (r_frz 4) (r_acons (r_cb (b_min rfl) Z.b_min boot_min_ (r_acons (r_var 7) (r_acons (r_var 8) r_anil))) (r_acons (r_cb (b_max rfl) Z.b_max boot_max_ (r_acons (r_var 7) (r_acons (r_var 8) r_anil))) (r_acons (r_frz 10) r_anil))))) r_anil))))))))))))))
  (ss_cons (s_set 11 nd r_int)
  (ss_cons (s_if (t_w (w_and (t_c (c_eq hr.units) (r_fn Z.f__law_take tk hr (by decide) (ca_io 0 (ca_val r_int ca_nil)) (cl_io (cl_val cl_nil))) r_int) (w_and1 (t_c (c_ne hr.units) (r_var 3) (r_lst r_anil)))))
  (ss_one (s_set 11 nd (r_sub (r_pow r_int r_int) (r_var 4))))
  ss_nil)
  (ss_one (s_ret (r_ct b_tuple Z.b_tuple boot_tuple_ (r_acons (r_lc (own := [("_law_then", 12), ("_law_low", 13), ("_law_high", 14), ("_law_room", 15)]) rfl nd (i_seq (r_cb b_sorted Z.b_sorted boot_sorted_ (r_acons (r_var 3) r_anil))) (by show blkC N__law_meetings (defScope st__law_meetings) _ [("_law_then", 12), ("_law_low", 13), ("_law_high", 14), ("_law_room", 15)] = true; decide +kernel) rfl (fun _ => (ct_tup rfl (cts_cons (ct_name 12 nd) (cts_cons (ct_name 13 nd) (cts_cons (ct_name 14 nd) (cts_cons (ct_name 15 nd) cts_nil)))))) (fun _ => ts_nil) (fun _ => (r_tup (r_acons (r_frz 13) (r_acons (r_frz 14) (r_acons (r_add (r_var 12) (r_var 11)) (r_acons (r_frz 15) r_anil))))))) r_anil))))))))))
abbrev st__law_book : Stmt := topS 8
theorem sc__law_book : FnScope N__law_book ["_law_purse_here", "_law_most_walkers", "_law_most_meetings"] (defScope st__law_book) := ⟨rfl, rfl, rfl, by decide +kernel, rfl, by decide +kernel, by decide +kernel⟩
structure Z__law_book (P : Program) (w : World) (K : PySem.W.Frag) (mg : Str → Option Value) (base : Heap) : Prop where
  one : True
  f__law_take : Cal P w K mg base "_law_take" ["_law_purse_here", "_law_many"] 1 2 m__law_take
  f__law_meetings : Cal P w K mg base "_law_meetings" ["_law_purse_here", "_law_walkers", "_law_most"] 3 3 m__law_meetings
  f__law_rooms : Cal P w K mg base "_law_rooms" ["_law_purse_here", "_law_walkers"] 2 2 m__law_rooms
  b_min : mg "min" = none

set_option maxHeartbeats 4000000 in
theorem cal__law_book {P : Program} {w : World} {K : PySem.W.Frag} {mg : Str → Option Value} {base : Heap} (A : FunAt K mg "_law_book" st__law_book ["_law_purse_here", "_law_most_walkers", "_law_most_meetings"]) (Z : Z__law_book P w K mg base) : Cal P w K mg base "_law_book" ["_law_purse_here", "_law_most_walkers", "_law_most_meetings"] 4 3 m__law_book :=
  cal_of A sc__law_book rfl rfl rfl fun f cdv A outer s H E hr tk hp => by
    have nd := sc__law_book.nd
    unfold b__law_book
    exact (ss_cons (s_set 3 nd (r_add r_int (r_fn Z.f__law_take tk hr (by decide) (ca_io 0 (ca_val (r_var 1) ca_nil)) (cl_io (cl_val cl_nil)))))
  (ss_cons (s_set 4 nd (r_cb (b_min rfl) Z.b_min boot_min_ (r_acons (r_var 2) (r_acons (r_fn Z.f__law_take tk hr (by decide) (ca_io 0 (ca_val (r_add (r_var 2) r_int) ca_nil)) (cl_io (cl_val cl_nil))) r_anil))))
  (ss_cons (s_if (t_c (c_eq hr.units) (r_var 3) r_int)
  (ss_one (s_set 4 nd r_int))
  ss_nil)
  (ss_one (s_ret (r_tup (r_acons (r_fn Z.f__law_rooms tk hr (by decide) (ca_io 0 (ca_val (r_var 3) ca_nil)) (cl_io (cl_val cl_nil))) (r_acons (r_fn Z.f__law_meetings tk hr (by decide) (ca_io 0 (ca_val (r_var 3) (ca_val (r_var 4) ca_nil))) (cl_io (cl_val (cl_val cl_nil)))) r_anil))))))))
abbrev st__law_whole : Stmt := topS 9
theorem sc__law_whole : FnScope N__law_whole ["_law_thing"] (defScope st__law_whole) := ⟨rfl, rfl, rfl, by decide +kernel, rfl, by decide +kernel, by decide +kernel⟩
structure Z__law_whole (P : Program) (w : World) (K : PySem.W.Frag) (mg : Str → Option Value) (base : Heap) : Prop where
  one : True
  b_isinstance : mg "isinstance" = none
  b_int : mg "int" = none
  b_bool : mg "bool" = none

set_option maxHeartbeats 4000000 in
theorem cal__law_whole {P : Program} {w : World} {K : PySem.W.Frag} {mg : Str → Option Value} {base : Heap} (A : FunAt K mg "_law_whole" st__law_whole ["_law_thing"]) (Z : Z__law_whole P w K mg base) : Cal P w K mg base "_law_whole" ["_law_thing"] 1 1 m__law_whole :=
  cal_of A sc__law_whole rfl rfl rfl fun f cdv A outer s H E hr tk hp => by
    have nd := sc__law_whole.nd
    unfold b__law_whole
    exact (ss_one (s_ret (r_land (r_isi .int (by decide) Z.b_isinstance boot_isinstance_ Z.b_int boot_int_ (r_var 0)) (r_one (r_not (r_isi .bool (by decide) Z.b_isinstance boot_isinstance_ Z.b_bool boot_bool_ (r_var 0)))))))
abbrev st__law_marks : Stmt := topS 10
theorem sc__law_marks : FnScope N__law_marks ["_law_book_here"] (defScope st__law_marks) := ⟨rfl, rfl, rfl, by decide +kernel, rfl, by decide +kernel, by decide +kernel⟩
structure Z__law_marks (P : Program) (w : World) (K : PySem.W.Frag) (mg : Str → Option Value) (base : Heap) : Prop where
  one : True
  b_list : mg "list" = none
  b_range : mg "range" = none
  b_len : mg "len" = none
  b_min : mg "min" = none

set_option maxHeartbeats 4000000 in
theorem cal__law_marks {P : Program} {w : World} {K : PySem.W.Frag} {mg : Str → Option Value} {base : Heap} (A : FunAt K mg "_law_marks" st__law_marks ["_law_book_here"]) (Z : Z__law_marks P w K mg base) : Cal P w K mg base "_law_marks" ["_law_book_here"] 1 1 m__law_marks :=
  cal_of A sc__law_marks rfl rfl rfl fun f cdv A outer s H E hr tk hp => by
    have nd := sc__law_marks.nd
    unfold b__law_marks l__law_marks_2 l__law_marks_1
    exact (ss_cons (s_set 1 nd (r_listRg Z.b_list Z.b_range (r_cb b_len Z.b_len boot_len_ (r_acons (r_ix (r_var 0) r_int) r_anil))))
  (ss_cons (s_for hp rfl (i_range1 Z.b_range (r_acons (r_cb b_len Z.b_len boot_len_ (r_acons (r_ix (r_var 0) r_int) r_anil)) r_anil)) (g_name 2 nd)
  (ss_one (s_for hp rfl (i_seq (r_ix (r_var 0) r_int)) (g_tup rfl (gs_cons (g_name 3 nd) (gs_cons (g_name 4 nd) (gs_cons (g_name 5 nd) (gs_cons (g_name 6 nd) gs_nil)))))
  (ss_cons (s_set 7 nd (r_cb (b_min rfl) Z.b_min boot_min_ (r_acons (r_ix (r_var 1) (r_var 3)) (r_acons (r_ix (r_var 1) (r_var 4)) r_anil))))
  (ss_cons (s_asg (r_frz 7) (g_sub (W := fun cls d _ H => E cls d H) (p_var 1) (r_var 3)))
  (ss_one (s_asg (r_frz 7) (g_sub (W := fun cls d _ H => E cls d H) (p_var 1) (r_var 4)))))))))
  (ss_one (s_ret (r_move 1)))))
abbrev st__law_fewer : Stmt := topS 11
theorem sc__law_fewer : FnScope N__law_fewer ["_law_purse_here", "_law_book_here"] (defScope st__law_fewer) := ⟨rfl, rfl, rfl, by decide +kernel, rfl, by decide +kernel, by decide +kernel⟩
structure Z__law_fewer (P : Program) (w : World) (K : PySem.W.Frag) (mg : Str → Option Value) (base : Heap) : Prop where
  one : True
  f__law_take : Cal P w K mg base "_law_take" ["_law_purse_here", "_law_many"] 1 2 m__law_take

set_option maxHeartbeats 4000000 in
theorem cal__law_fewer {P : Program} {w : World} {K : PySem.W.Frag} {mg : Str → Option Value} {base : Heap} (A : FunAt K mg "_law_fewer" st__law_fewer ["_law_purse_here", "_law_book_here"]) (Z : Z__law_fewer P w K mg base) : Cal P w K mg base "_law_fewer" ["_law_purse_here", "_law_book_here"] 2 2 m__law_fewer :=
  cal_of A sc__law_fewer rfl rfl rfl fun f cdv A outer s H E hr tk hp => by
    have nd := sc__law_fewer.nd
    unfold b__law_fewer
    exact (ss_cons (s_if (t_c (c_eq hr.units) (r_fn Z.f__law_take tk hr (by decide) (ca_io 0 (ca_val r_int ca_nil)) (cl_io (cl_val cl_nil))) r_int)
  (ss_one (s_ret (r_move 1)))
  ss_nil)
  (ss_cons (s_set 2 nd (r_fn Z.f__law_take tk hr (by decide) (ca_io 0 (ca_val r_int ca_nil)) (cl_io (cl_val cl_nil))))
  (ss_one (s_ret (r_tup (r_acons (r_ix (r_var 1) r_int) (r_acons (r_slice (r_ix (r_var 1) r_int) po_no (po_so (r_var 2))) r_anil)))))))
abbrev st_law : Stmt := topS 12
theorem sc_law : FnScope N_law ["_law_script"] (defScope st_law) := ⟨rfl, rfl, rfl, by decide +kernel, rfl, by decide +kernel, by decide +kernel⟩
structure Z_law (P : Program) (w : World) (K : PySem.W.Frag) (mg : Str → Option Value) (base : Heap) : Prop where
  one : True
  f__law_purse : Cal P w K mg base "_law_purse" ["_law_script", "_law_k"] 1 2 m__law_purse
  f__law_fewer : Cal P w K mg base "_law_fewer" ["_law_purse_here", "_law_book_here"] 2 2 m__law_fewer
  f__law_book : Cal P w K mg base "_law_book" ["_law_purse_here", "_law_most_walkers", "_law_most_meetings"] 4 3 m__law_book
  f__law_marks : Cal P w K mg base "_law_marks" ["_law_book_here"] 1 1 m__law_marks
  f_hangs_with : Cal P w K mg base "hangs_with" ["book", "walker"] 1 2 m_hangs_with
  f__law_whole : Cal P w K mg base "_law_whole" ["_law_thing"] 1 1 m__law_whole
  b_range : mg "range" = none
  b_max : mg "max" = none
  b_min : mg "min" = none
  b_len : mg "len" = none
  b_int : mg "int" = none
  b_isinstance : mg "isinstance" = none
  b_list : mg "list" = none
  b_all : mg "all" = none

set_option maxHeartbeats 4000000 in
theorem ok_law {P : Program} {w : World} {K : PySem.W.Frag} {mg : Str → Option Value} {base : Heap} {f : Addr} {fd : FuncData} (F : Fun K "law" "law" st_law f fd) (Z : Z_law P w K mg base) : FnOk P w K mg base (L2.CX P w) 5 f fd ["_law_script"] (spOf K mg 1 m_law) :=
  ok_of F sc_law rfl rfl rfl fun f cdv A outer s H E hr tk hp => by
    have nd := sc_law.nd
    unfold b_law l_law_2 k_law_3 l_law_1 k_law_2 k_law_1
    exact (ss_cons (s_for hp rfl (i_range1 Z.b_range (r_acons (r_cb (b_max rfl) Z.b_max boot_max_ (r_acons r_int (r_acons (r_cb (b_min rfl) Z.b_min boot_min_ (r_acons (r_cb b_len Z.b_len boot_len_ (r_acons (r_var 0) r_anil)) (r_acons r_int r_anil))) r_anil))) r_anil)) (g_name 1 nd)
  (ss_cons (s_set 2 nd (r_fn Z.f__law_purse tk hr (by decide) (ca_val (r_var 0) (ca_val (r_var 1) ca_nil)) (cl_val (cl_val cl_nil))))
  (ss_cons (s_set 3 nd (r_fn Z.f__law_fewer tk hr (by decide) (ca_io 2 (ca_val (r_fn Z.f__law_book tk hr (by decide) (ca_io 2 (ca_val r_int (ca_val (r_ix (r_lst (r_acons r_int (r_acons r_int r_anil))) (r_ct b_int Z.b_int boot_int_ (r_acons (r_c c_gt (r_var 1) r_int) r_anil))) ca_nil))) (cl_io (cl_val (cl_val cl_nil)))) ca_nil)) (cl_io (cl_val cl_nil))))
  (ss_cons (s_set 4 nd (r_fn Z.f__law_marks tk hr (by decide) (ca_val (r_var 3) ca_nil) (cl_val cl_nil)))
  (ss_cons (s_set 5 nd (r_lst r_anil))
  (ss_cons (s_for hp rfl (i_range1 Z.b_range (r_acons (r_cb b_len Z.b_len boot_len_ (r_acons (r_ix (r_var 3) r_int) r_anil)) r_anil)) (g_name 6 nd)
  (ss_cons (s_set 7 nd (r_fn Z.f_hangs_with tk hr (by decide) (ca_val (r_var 3) (ca_val (r_var 6) ca_nil)) (cl_val (cl_val cl_nil))))
  (ss_cons (s_setLc 8 (own := [("_law_one", 9)]) rfl nd (i_range1 Z.b_range (r_acons (r_cb b_len Z.b_len boot_len_ (r_acons (r_ix (r_var 3) r_int) r_anil)) r_anil)) (by show blkC N_law (defScope st_law) _ [("_law_one", 9)] = true; decide +kernel) rfl (fun _ => (ct_name 9 nd)) (fun _ => (ts_one (t_c (c_eq hr.units) (r_ix (r_var 4) (r_var 9)) (r_ix (r_var 4) (r_var 6))))) (fun _ => (r_frz 9)) (sw_true rfl rfl rfl (by decide +kernel)))
  (ss_cons (s_if (t_w (w_or (t_not (t_val (r_isi .list (by decide) Z.b_isinstance boot_isinstance_ Z.b_list boot_list_ (r_var 7)))) (w_or1 (t_c (c_ne hr.units) (r_var 7) (r_var 8)))))
  (ss_one (s_ret r_bl))
  ss_nil)
  (ss_cons (s_if (t_not (t_val (r_cb (b_all rfl) Z.b_all boot_all_ (r_acons (r_lend 7 (r_lc (own := [("_law_one", 9)]) rfl nd (i_seq (r_frz 7)) (by show blkC N_law (defScope st_law) _ [("_law_one", 9)] = true; decide +kernel) rfl (fun _ => (ct_name 9 nd)) (fun _ => ts_nil) (fun _ => (r_fn Z.f__law_whole takes0 hr (by decide) (ca_val (r_var 9) ca_nil) (cl_val cl_nil))))) r_anil))))
  (ss_one (s_ret r_bl))
  ss_nil)
  (ss_cons (s_expr (r_methV 7 PySem.F.plainAttrs_list PySem.F.slot_list_append PySem.F.type_list_append m_append (r_acons (r_neg r_int) r_anil)))
  (ss_one (s_expr (r_methV 5 PySem.F.plainAttrs_list PySem.F.slot_list_append PySem.F.type_list_append m_append (r_acons (r_frz 8) r_anil))))))))))
  (ss_one (s_if (t_c (c_ne hr.units) (r_lc (own := [("_law_walker", 6)]) rfl nd (i_range1 Z.b_range (r_acons (r_cb b_len Z.b_len boot_len_ (r_acons (r_var 5) r_anil)) r_anil)) (by show blkC N_law (defScope st_law) _ [("_law_walker", 6)] = true; decide +kernel) rfl (fun _ => (ct_name 6 nd)) (fun _ => ts_nil) (fun _ => (r_fn Z.f_hangs_with takes0 hr (by decide) (ca_val (r_var 3) (ca_val (r_var 6) ca_nil)) (cl_val (cl_val cl_nil))))) (r_var 5))
  (ss_one (s_ret r_bl))
  ss_nil))))))))
  (ss_one (s_ret r_bl)))
theorem all_law {P : Program} {w : World} {K : PySem.W.Frag} {mg : Str → Option Value} {fa : Addr} (hfa : mg "law" = some (.ref fa))
    (A_hangs_with : FunAt K mg "hangs_with" st_hangs_with ["book", "walker"])
    (A__law_purse : FunAt K mg "_law_purse" st__law_purse ["_law_script", "_law_k"])
    (A__law_take : FunAt K mg "_law_take" st__law_take ["_law_purse_here", "_law_many"])
    (A__law_rooms : FunAt K mg "_law_rooms" st__law_rooms ["_law_purse_here", "_law_walkers"])
    (A__law_step : FunAt K mg "_law_step" st__law_step ["_law_purse_here"])
    (A__law_meetings : FunAt K mg "_law_meetings" st__law_meetings ["_law_purse_here", "_law_walkers", "_law_most"])
    (A__law_book : FunAt K mg "_law_book" st__law_book ["_law_purse_here", "_law_most_walkers", "_law_most_meetings"])
    (A__law_whole : FunAt K mg "_law_whole" st__law_whole ["_law_thing"])
    (A__law_marks : FunAt K mg "_law_marks" st__law_marks ["_law_book_here"])
    (A__law_fewer : FunAt K mg "_law_fewer" st__law_fewer ["_law_purse_here", "_law_book_here"])
    (A_law : LawAt K mg "law" st_law "_law_script")
    (B_len : mg "len" = none)
    (B_sorted : mg "sorted" = none)
    (B_range : mg "range" = none)
    (B_tuple : mg "tuple" = none)
    (B_max : mg "max" = none)
    (B_min : mg "min" = none)
    (B_isinstance : mg "isinstance" = none)
    (B_int : mg "int" = none)
    (B_bool : mg "bool" = none)
    (B_list : mg "list" = none)
    (B_all : mg "all" = none) :
    ∃ fd : FuncData, (∀ (s : Shared) (u : Value), BindsTo s fd ⟨[u], []⟩ [("_law_script", u)]) ∧ ∀ base : Heap, K.In base → base.Ns mainGlobals mg → FnOk P w K mg base (L2.CX P w) 5 fa fd ["_law_script"] (spOf K mg 1 m_law) := by
  refine law_end (R := fun base fa fd => FnOk P w K mg base (L2.CX P w) 5 fa fd ["_law_script"] (spOf K mg 1 m_law)) hfa A_law fun base f fd F => ?_
  have D_hangs_with : Cal P w K mg base "hangs_with" _ _ _ m_hangs_with := cal_hangs_with A_hangs_with ⟨trivial, B_len, B_sorted⟩
  have D__law_purse : Cal P w K mg base "_law_purse" _ _ _ m__law_purse := cal__law_purse A__law_purse ⟨trivial, B_len⟩
  have D__law_take : Cal P w K mg base "_law_take" _ _ _ m__law_take := cal__law_take A__law_take ⟨trivial⟩
  have D__law_rooms : Cal P w K mg base "_law_rooms" _ _ _ m__law_rooms := cal__law_rooms A__law_rooms ⟨trivial, D__law_take, B_range, B_tuple⟩
  have D__law_step : Cal P w K mg base "_law_step" _ _ _ m__law_step := cal__law_step A__law_step ⟨trivial, D__law_take⟩
  have D__law_meetings : Cal P w K mg base "_law_meetings" _ _ _ m__law_meetings := cal__law_meetings A__law_meetings ⟨trivial, D__law_take, D__law_step, B_range, B_max, B_min, B_tuple, B_sorted⟩
  have D__law_book : Cal P w K mg base "_law_book" _ _ _ m__law_book := cal__law_book A__law_book ⟨trivial, D__law_take, D__law_meetings, D__law_rooms, B_min⟩
  have D__law_whole : Cal P w K mg base "_law_whole" _ _ _ m__law_whole := cal__law_whole A__law_whole ⟨trivial, B_isinstance, B_int, B_bool⟩
  have D__law_marks : Cal P w K mg base "_law_marks" _ _ _ m__law_marks := cal__law_marks A__law_marks ⟨trivial, B_list, B_range, B_len, B_min⟩
  have D__law_fewer : Cal P w K mg base "_law_fewer" _ _ _ m__law_fewer := cal__law_fewer A__law_fewer ⟨trivial, D__law_take⟩
  exact ok_law F ⟨trivial, D__law_purse, D__law_fewer, D__law_book, D__law_marks, D_hangs_with, D__law_whole, B_range, B_max, B_min, B_len, B_int, B_isinstance, B_list, B_all⟩
end Law
open PySem PySem.W PyProof.Rows
set_option maxRecDepth 100000 in
set_option maxHeartbeats 0 in
theorem PySem.Challenge.cw_satchelmeet_k66_hanging_together_holds : PySem.Challenge.rw_satchelmeet_k66_hanging_together.Holds := by
  w_on; o_law; k_head; (case hw => w_witness2)
  k_fill
  refine Tl.walk_law (l := PySem.Challenge.rw_satchelmeet_k66_hanging_together) (n := 63) (k := 5) (x := "_law_script") (Fm := Law.m_law) rfl (by decide) rfl ⟨rfl, by decide, by decide⟩ (fun w h Y => PySem.W.kIn_of Y) ?F Law.law_ok
  case F =>
    intro w mg fa h KX G hmg
    refine' Law.all_law hmg ?A_hangs_with ?A__law_purse ?A__law_take ?A__law_rooms ?A__law_step ?A__law_meetings ?A__law_book ?A__law_whole ?A__law_marks ?A__law_fewer ?A_law ?B_len ?B_sorted ?B_range ?B_tuple ?B_max ?B_min ?B_isinstance ?B_int ?B_bool ?B_list ?B_all
    (case A_hangs_with => refine' Tl.fun_at KX G ?a ?l ?c ?k (fun _ _ _ _ _ _ us hl => match us, hl with | [_, _], _ => rfl); (case a => k_is); (case l => k_is); (case c => k_is); (case k => k_is))
    (case A__law_purse => refine' Tl.fun_at KX G ?a ?l ?c ?k (fun _ _ _ _ _ _ us hl => match us, hl with | [_, _], _ => rfl); (case a => k_is); (case l => k_is); (case c => k_is); (case k => k_is))
    (case A__law_take => refine' Tl.fun_at KX G ?a ?l ?c ?k (fun _ _ _ _ _ _ us hl => match us, hl with | [_, _], _ => rfl); (case a => k_is); (case l => k_is); (case c => k_is); (case k => k_is))
    (case A__law_rooms => refine' Tl.fun_at KX G ?a ?l ?c ?k (fun _ _ _ _ _ _ us hl => match us, hl with | [_, _], _ => rfl); (case a => k_is); (case l => k_is); (case c => k_is); (case k => k_is))
    (case A__law_step => refine' Tl.fun_at KX G ?a ?l ?c ?k (fun _ _ _ _ _ _ us hl => match us, hl with | [_], _ => rfl); (case a => k_is); (case l => k_is); (case c => k_is); (case k => k_is))
    (case A__law_meetings => refine' Tl.fun_at KX G ?a ?l ?c ?k (fun _ _ _ _ _ _ us hl => match us, hl with | [_, _, _], _ => rfl); (case a => k_is); (case l => k_is); (case c => k_is); (case k => k_is))
    (case A__law_book => refine' Tl.fun_at KX G ?a ?l ?c ?k (fun _ _ _ _ _ _ us hl => match us, hl with | [_, _, _], _ => rfl); (case a => k_is); (case l => k_is); (case c => k_is); (case k => k_is))
    (case A__law_whole => refine' Tl.fun_at KX G ?a ?l ?c ?k (fun _ _ _ _ _ _ us hl => match us, hl with | [_], _ => rfl); (case a => k_is); (case l => k_is); (case c => k_is); (case k => k_is))
    (case A__law_marks => refine' Tl.fun_at KX G ?a ?l ?c ?k (fun _ _ _ _ _ _ us hl => match us, hl with | [_], _ => rfl); (case a => k_is); (case l => k_is); (case c => k_is); (case k => k_is))
    (case A__law_fewer => refine' Tl.fun_at KX G ?a ?l ?c ?k (fun _ _ _ _ _ _ us hl => match us, hl with | [_, _], _ => rfl); (case a => k_is); (case l => k_is); (case c => k_is); (case k => k_is))
    (case A_law => refine' Tl.law_at KX G ?a ?l ?c ?k (fun s v => .of_eq rfl); (case a => k_is); (case l => k_is); (case c => k_is); (case k => k_is))
    (case B_len => refine' PySem.W.mg_none_of KX G ?z; (case z => k_is))
    (case B_sorted => refine' PySem.W.mg_none_of KX G ?z; (case z => k_is))
    (case B_range => refine' PySem.W.mg_none_of KX G ?z; (case z => k_is))
    (case B_tuple => refine' PySem.W.mg_none_of KX G ?z; (case z => k_is))
    (case B_max => refine' PySem.W.mg_none_of KX G ?z; (case z => k_is))
    (case B_min => refine' PySem.W.mg_none_of KX G ?z; (case z => k_is))
    (case B_isinstance => refine' PySem.W.mg_none_of KX G ?z; (case z => k_is))
    (case B_int => refine' PySem.W.mg_none_of KX G ?z; (case z => k_is))
    (case B_bool => refine' PySem.W.mg_none_of KX G ?z; (case z => k_is))
    (case B_list => refine' PySem.W.mg_none_of KX G ?z; (case z => k_is))
    (case B_all => refine' PySem.W.mg_none_of KX G ?z; (case z => k_is))
