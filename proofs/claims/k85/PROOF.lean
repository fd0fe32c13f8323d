import PyProof.Rows.All
import Wide.All
import OpenK.AllK
import Wide.FinOn
import HandS.ForMost
import HandS.ForExc
import HandS.Flow
import HandS.IsInst
import HandS.Wide
import HandS.TupAny
import HandS.TupMul
import HandS.Deep
import HandS.Style
import HandS.Iter
import HandS.Zip
import HandS.Rev
import HandS.TupSets
import HandS.SortInts
import HandS.Zip0
import HandS.Conv
import HandS.Dict
import KE.SortKeyHeap
import HandS.SortKw
import HandS.TryOnly
import HandS.ExcIs
import HandS.WordsExc
import KE.KDictZip
import KE.KDictList
import HandS.Text
import HandS.FStr
import PySem.Challenge.RW_satchelmeet_k85_names
set_option Elab.async false
set_option linter.all false
set_option maxRecDepth 100000
/-! Tl: the tree layer. Data as trees (D, OD), who owns which object, what an expression, a statement, a def comes to as a plain function. -/
namespace Tl
open PySem PySem.Spec L2

/-- data that nobody changes -/
inductive D where
  | non | bl (b : Bool) | int (i : Int) | str (x : Str)
  | tup (ds : List D) | lst (ds : List D) | scr (ds : List D)
  | dK (kvs : List (Key × D)) | dT (kvs : List (List Key × D))
  deriving Inhabited

/-- data with owned parts: fz d stays as it is; lst, dK, dT, ins stand alone and may be changed; un: not yet assigned -/
inductive OD where
  | un
  | fz (d : D)
  | lst (os : List OD)
  | tup (os : List OD)
  | dK (kvs : List (Key × OD)) | dT (kvs : List (List Key × OD))
  | ins (c : Str) (fs : List (Str × OD))
  | fzi (c : Str) (fs : List (Str × OD))
  | exc (c : Str)
  deriving Inhabited

abbrev Env := List OD

section
variable (K : PySem.W.Frag)
mutual
inductive Rep (B : Hp) : V → D → Prop where
  | non : Rep B .non .non
  | bl {b} : Rep B (.bl b) (.bl b)
  | int {i} : Rep B (.int i) (.int i)
  | str {x} : Rep B (.str x) (.str x)
  | tup {p vs ds} : SqT K B p vs → RepL B vs ds → Rep B (.ref p) (.tup ds)
  | lst {p vs ds} : B p = some (.lst vs) → RepL B vs ds → Rep B (.ref p) (.lst ds)
  | scr {p vs ds} : SqL K B p vs → RepL B vs ds → Rep B (.ref p) (.scr ds)
  | dK {p kvs ds} : B p = some (.dK kvs) → kvs.map (·.1) = ds.map (·.1) → RepL B (kvs.map (·.2)) (ds.map (·.2)) → Rep B (.ref p) (.dK ds)
  | dT {p kvs ds} : B p = some (.dT kvs) → kvs.map (·.1) = ds.map (·.1) → RepL B (kvs.map (·.2)) (ds.map (·.2)) → Rep B (.ref p) (.dT ds)
inductive RepL (B : Hp) : List V → List D → Prop where
  | nil : RepL B [] []
  | cons {v vs d ds} : Rep B v d → RepL B vs ds → RepL B (v :: vs) (d :: ds)
end

variable (mg : Str → Option Value)
mutual
inductive Own (B H : Hp) : List Addr → V → OD → Prop where
  | un {v} : Own B H [] v .un
  | fz {v d} : Rep K B v d → Own B H [] v (.fz d)
  | lst {p vs F os} : H p = some (.lst vs) → B p = none → OwnL B H F vs os → Own B H (p :: F) (.ref p) (.lst os)
  | tup {p vs F os} : SqT K B p vs → OwnL B H F vs os → Own B H F (.ref p) (.tup os)
  | dK {p kvs F os} : H p = some (.dK kvs) → B p = none → kvs.map (·.1) = os.map (·.1) → OwnL B H F (kvs.map (·.2)) (os.map (·.2)) → Own B H (p :: F) (.ref p) (.dK os)
  | dT {p kvs F os} : H p = some (.dT kvs) → B p = none → kvs.map (·.1) = os.map (·.1) → OwnL B H F (kvs.map (·.2)) (os.map (·.2)) → Own B H (p :: F) (.ref p) (.dT os)
  | ins {p C dx fs F c os} : H p = some (.ins C dx fs) → B p = none → H dx = some (.own p) → B dx = none → mg c = some (.ref C) → fs.map (·.1) = os.map (·.1) →
      OwnL B H F (fs.map (·.2)) (os.map (·.2)) → Own B H (p :: dx :: F) (.ref p) (.ins c os)
  | fzi {p C dx fs c os} : B p = some (.ins C dx fs) → B dx = some (.own p) → mg c = some (.ref C) → fs.map (·.1) = os.map (·.1) → OwnL B H [] (fs.map (·.2)) (os.map (·.2)) → Own B H [] (.ref p) (.fzi c os)
inductive OwnL (B H : Hp) : List Addr → List V → List OD → Prop where
  | nil : OwnL B H [] [] []
  | cons {F G v vs o os} : Own B H F v o → OwnL B H G vs os → OwnL B H (F ++ G) (v :: vs) (o :: os)
end

/-- the frame's slots -/
inductive Slots (B H : Hp) : List Addr → St → Env → Prop where
  | nil : Slots B H [] [] []
  | un {F x σ e} : Slots B H F σ e → Slots B H F (x :: σ) (.un :: e)
  | cons {F G v o σ e} : Own K mg B H F v o → Slots B H G σ e → Slots B H (F ++ G) (some v :: σ) (o :: e)
end

/-- from a heap to a later one: what lies outside F is kept, and what belongs to nobody here (not in B) stays so; F' is of F or new -/
structure Frm (B H : Hp) (F : List Addr) (B' H' : Hp) (F' : List Addr) : Prop where
  sB : Same B B'
  keep : ∀ a o, H a = some o → a ∉ F → H' a = some o
  forg : ∀ a o, H a = some o → a ∉ F → B a = none → B' a = none
  fr : ∀ a, a ∈ F' → a ∈ F ∨ H a = none

theorem Same.seqT {K : PySem.W.Frag} {H H' : Hp} {a : Addr} {xs : List V} (e : Same H H') (h : SqT K H a xs) : SqT K H' a xs := by
  rcases h with (h | ⟨o, h⟩) | h
  · exact .inl (.inl (e _ _ h))
  · exact .inl (.inr ⟨o, e _ _ h⟩)
  · exact .inr h

section
variable {K : PySem.W.Frag} {mg : Str → Option Value} {B B' B2 H H' H2 : Hp} {F F' F2 G : List Addr} {v : V} {vs : List V} {d : D} {ds : List D} {o : OD} {os : List OD} {σ : St} {env : Env}

mutual
theorem Rep.mono (s : Same B B') : ∀ {v : V} {d : D}, Rep K B v d → Rep K B' v d
  | _, _, .non => .non
  | _, _, .bl => .bl
  | _, _, .int => .int
  | _, _, .str => .str
  | _, _, .tup h r => .tup (Same.seqT s h) (RepL.mono s r)
  | _, _, .lst h r => .lst (s _ _ h) (RepL.mono s r)
  | _, _, .scr h r => .scr (s.seq h) (RepL.mono s r)
  | _, _, .dK h e r => .dK (s _ _ h) e (RepL.mono s r)
  | _, _, .dT h e r => .dT (s _ _ h) e (RepL.mono s r)
theorem RepL.mono (s : Same B B') : ∀ {vs : List V} {ds : List D}, RepL K B vs ds → RepL K B' vs ds
  | _, _, .nil => .nil
  | _, _, .cons r t => .cons (Rep.mono s r) (RepL.mono s t)
end

mutual
/-- what is owned stands in the heap -/
theorem Own.there : ∀ {F : List Addr} {v : V} {o : OD}, Own K mg B H F v o → ∀ a ∈ F, B a = none ∧ ∃ u, H a = some u
  | _, _, _, .fz _ => fun _ h => nomatch h
  | _, _, _, .un => fun _ h => nomatch h
  | _, _, _, .fzi .. => fun _ h => nomatch h
  | _, _, _, .lst h b r => fun a ha => by
    rcases List.mem_cons.mp ha with e | ha
    · subst e; exact ⟨b, _, h⟩
    · exact OwnL.there r a ha
  | _, _, _, .tup _ r => fun a ha => OwnL.there r a ha
  | _, _, _, .dK h b _ r => fun a ha => by
    rcases List.mem_cons.mp ha with e | ha
    · subst e; exact ⟨b, _, h⟩
    · exact OwnL.there r a ha
  | _, _, _, .dT h b _ r => fun a ha => by
    rcases List.mem_cons.mp ha with e | ha
    · subst e; exact ⟨b, _, h⟩
    · exact OwnL.there r a ha
  | _, _, _, .ins h b h2 b2 _ _ r => fun a ha => by
    rcases List.mem_cons.mp ha with e | ha
    · subst e; exact ⟨b, _, h⟩
    · rcases List.mem_cons.mp ha with e | ha
      · subst e; exact ⟨b2, _, h2⟩
      · exact OwnL.there r a ha
theorem OwnL.there : ∀ {F : List Addr} {vs : List V} {os : List OD}, OwnL K mg B H F vs os → ∀ a ∈ F, B a = none ∧ ∃ u, H a = some u
  | _, _, _, .nil => fun _ h => nomatch h
  | _, _, _, .cons r t => fun a ha => (List.mem_append.mp ha).elim (Own.there r a) (OwnL.there t a)
end

mutual
/-- what is owned outlives all that leaves it alone -/
theorem Own.mono (s : Same B B') : ∀ {G : List Addr} {v : V} {o : OD}, Own K mg B H G v o → (∀ a ∈ G, (∀ u, H a = some u → H' a = some u) ∧ B' a = none) → Own K mg B' H' G v o
  | _, _, _, .fz r, _ => .fz (r.mono s)
  | _, _, _, .un, _ => .un
  | _, _, _, .fzi h h2 g e r, k => .fzi (s _ _ h) (s _ _ h2) g e (OwnL.mono s r fun _ z => nomatch z)
  | _, _, _, .lst h b r, k => .lst ((k _ List.mem_cons_self).1 _ h) (k _ List.mem_cons_self).2 (OwnL.mono s r fun a ha => k a (List.mem_cons_of_mem _ ha))
  | _, _, _, .tup h r, k => .tup (Same.seqT s h) (OwnL.mono s r k)
  | _, _, _, .dK h b e r, k => .dK ((k _ List.mem_cons_self).1 _ h) (k _ List.mem_cons_self).2 e (OwnL.mono s r fun a ha => k a (List.mem_cons_of_mem _ ha))
  | _, _, _, .dT h b e r, k => .dT ((k _ List.mem_cons_self).1 _ h) (k _ List.mem_cons_self).2 e (OwnL.mono s r fun a ha => k a (List.mem_cons_of_mem _ ha))
  | _, _, _, .ins h b h2 b2 g e r, k => .ins ((k _ List.mem_cons_self).1 _ h) (k _ List.mem_cons_self).2 ((k _ (List.mem_cons_of_mem _ List.mem_cons_self)).1 _ h2) (k _ (List.mem_cons_of_mem _ List.mem_cons_self)).2 g e
      (OwnL.mono s r fun a ha => k a (List.mem_cons_of_mem _ (List.mem_cons_of_mem _ ha)))
theorem OwnL.mono (s : Same B B') : ∀ {G : List Addr} {vs : List V} {os : List OD}, OwnL K mg B H G vs os → (∀ a ∈ G, (∀ u, H a = some u → H' a = some u) ∧ B' a = none) → OwnL K mg B' H' G vs os
  | _, _, _, .nil, _ => .nil
  | _, _, _, .cons r t, k => .cons (Own.mono s r fun a ha => k a (List.mem_append_left _ ha)) (OwnL.mono s t fun a ha => k a (List.mem_append_right _ ha))
end
theorem Slots.there (x : Slots K mg B H F σ env) : ∀ a ∈ F, B a = none ∧ ∃ u, H a = some u := by
  induction x with
  | nil => exact fun _ h => nomatch h
  | un _ ih => exact ih
  | cons r _ ih => exact fun a ha => (List.mem_append.mp ha).elim (r.there a) (ih a)
theorem Slots.mono (s : Same B B') (x : Slots K mg B H F σ env) (k : ∀ a ∈ F, (∀ u, H a = some u → H' a = some u) ∧ B' a = none) : Slots K mg B' H' F σ env := by
  induction x with
  | nil => exact .nil
  | un _ ih => exact .un (ih k)
  | cons r _ ih => exact .cons (r.mono s fun a ha => k a (List.mem_append_left _ ha)) (ih fun a ha => k a (List.mem_append_right _ ha))
theorem Frm.refl : Frm B H F B H F := ⟨Same.refl _, fun _ _ h _ => h, fun _ _ _ _ b => b, fun _ h => .inl h⟩
theorem Frm.trans (a : Frm B H F B' H' F') (b : Frm B' H' F' B2 H2 F2) : Frm B H F B2 H2 F2 := by
  have nin : ∀ c u, H c = some u → c ∉ F → c ∉ F' := fun c u e n m => by
    rcases a.fr c m with z | z
    · exact n z
    · rw [e] at z; cases z
  refine ⟨a.sB.trans b.sB, fun c u e n => b.keep c u (a.keep c u e n) (nin c u e n), fun c u e n z => b.forg c u (a.keep c u e n) (nin c u e n) (a.forg c u e n z), fun c m => ?_⟩
  rcases b.fr c m with z | z
  · exact a.fr c z
  · cases q : H c with
    | none => exact .inr rfl
    | some u =>
      by_cases n : c ∈ F
      · exact .inl n
      · rw [a.keep c u q n] at z; cases z
/-- more is let be changed -/
theorem Frm.wide (a : Frm B H F B' H' F') (h : ∀ c ∈ F, c ∈ G) (h' : ∀ c ∈ F2, c ∈ F' ∨ c ∈ G) : Frm B H G B' H' F2 :=
  ⟨a.sB, fun c u e n => a.keep c u e fun m => n (h c m), fun c u e n => a.forg c u e fun m => n (h c m), fun c m => (h' c m).elim (fun z => (a.fr c z).imp (h c) id) .inl⟩
theorem Frm.own (a : Frm B H F B' H' F') (r : Own K mg B H G v o) (n : ∀ c ∈ G, c ∉ F) : Own K mg B' H' G v o :=
  r.mono a.sB fun c m => ⟨fun u e => a.keep c u e (n c m), let ⟨b, u, e⟩ := r.there c m; a.forg c u e (n c m) b⟩
theorem Frm.ownL (a : Frm B H F B' H' F') (r : OwnL K mg B H G vs os) (n : ∀ c ∈ G, c ∉ F) : OwnL K mg B' H' G vs os :=
  r.mono a.sB fun c m => ⟨fun u e => a.keep c u e (n c m), let ⟨b, u, e⟩ := r.there c m; a.forg c u e (n c m) b⟩
theorem Frm.slots (a : Frm B H F B' H' F') (r : Slots K mg B H G σ env) (n : ∀ c ∈ G, c ∉ F) : Slots K mg B' H' G σ env :=
  r.mono a.sB fun c m => ⟨fun u e => a.keep c u e (n c m), let ⟨b, u, e⟩ := r.there c m; a.forg c u e (n c m) b⟩
end

/-! ### outcomes -/
/-- what an expression gives: its own (nobody else's), or a look at what stands elsewhere -/
inductive RV where
  | own (o : OD) | view (o : OD)
  deriving Inhabited
@[simp] def RV.od : RV → OD
  | .own o => o
  | .view o => o
/-- an expression's outcome: ok: nothing was changed; eff: the frame's data are now env -/
inductive O (α : Type) where
  | ok (a : α) | eff (a : α) (env : Env) | exc (c : Str) (env : Env) | bad
/-- a statement's -/
inductive SO where
  | nx (env : Env) | rt (o : OD) (env : Env) | bk (env : Env) | ct (env : Env) | exc (c : Str) (env : Env) | bad
/-- a def's: what it hands back, what its arguments are then -/
inductive FO where
  | ret (o : OD) (args : List OD) | exc (c : Str) (args : List OD) | bad
end Tl
namespace Tl
open PySem PySem.Spec L2

/-- the state of a frame -/
structure Sta (K : PySem.W.Frag) (mg : Str → Option Value) (B H : Hp) (F : List Addr) (σ : St) (env : Env) : Prop where
  sub : Same B H
  sl : Slots K mg B H F σ env
  nd : F.Nodup

abbrev Rl (α β : Type) := Hp → Hp → List Addr → α → β → Prop
/-- a relation between results and what they stand for: what is owned is there; it outlives what leaves it alone -/
structure Stb {α β : Type} (R : Rl α β) (safe : β → Bool) : Prop where
  there : ∀ B H G x a, R B H G x a → ∀ c ∈ G, B c = none ∧ ∃ u, H c = some u
  keep : ∀ B H F B' H' F' G x a, R B H G x a → Frm B H F B' H' F' → (∀ c ∈ G, c ∉ F) → (safe a = true ∨ F = []) → R B' H' G x a

def rvR (K : PySem.W.Frag) (mg : Str → Option Value) : Rl V RV := fun B H G v r =>
  match r with
  | .own o => Own K mg B H G v o
  | .view o => G = [] ∧ ∃ G', Own K mg B H G' v o
def RV.safe : RV → Bool
  | .own _ => true
  | .view _ => false
theorem stb_rv {K : PySem.W.Frag} {mg : Str → Option Value} : Stb (rvR K mg) RV.safe where
  there := fun B H G x a h => by
    cases a with
    | own o => exact Own.there h
    | view o => obtain ⟨rfl, _⟩ := h; exact fun _ z => nomatch z
  keep := fun B H F B' H' F' G x a h f n s => by
    cases a with
    | own o => exact f.own h n
    | view o =>
      obtain ⟨rfl, G', r⟩ := h
      rcases s with s | rfl
      · cases s
      · exact ⟨rfl, G', f.own r fun _ _ z => nomatch z⟩
def boR : Rl Bool Bool := fun _ _ G a b => G = [] ∧ a = b
theorem stb_bo : Stb boR (fun _ => true) where
  there := fun B H G x a h => by obtain ⟨rfl, _⟩ := h; exact fun _ z => nomatch z
  keep := fun _ _ _ _ _ _ _ _ _ h _ _ _ => h
/-- two in a row -/
def prR {α β γ δ : Type} (R : Rl α β) (R' : Rl γ δ) : Rl (α × γ) (β × δ) := fun B H G p q => ∃ G1 G2, G = G1 ++ G2 ∧ R B H G1 p.1 q.1 ∧ R' B H G2 p.2 q.2
theorem stb_pr {α β γ δ : Type} {R : Rl α β} {R' : Rl γ δ} {sf : β → Bool} {sf' : δ → Bool} (h : Stb R sf) (h' : Stb R' sf') : Stb (prR R R') (fun q => sf q.1 && sf' q.2) where
  there := fun B H G x a ⟨G1, G2, e, r1, r2⟩ c hc => by
    subst e
    exact (List.mem_append.mp hc).elim (h.there _ _ _ _ _ r1 c) (h'.there _ _ _ _ _ r2 c)
  keep := fun B H F B' H' F' G x a ⟨G1, G2, e, r1, r2⟩ f n s => by
    subst e
    refine ⟨G1, G2, rfl, h.keep _ _ _ _ _ _ _ _ _ r1 f (fun c z => n c (List.mem_append_left _ z)) (s.imp (fun z => ?_) id), h'.keep _ _ _ _ _ _ _ _ _ r2 f (fun c z => n c (List.mem_append_right _ z)) (s.imp (fun z => ?_) id)⟩
    · simp at z; exact z.1
    · simp at z; exact z.2
inductive lsR {α β : Type} (R : Rl α β) (B H : Hp) : List Addr → List α → List β → Prop
  | nil : lsR R B H [] [] []
  | cons {F G x a xs as} : R B H F x a → lsR R B H G xs as → lsR R B H (F ++ G) (x :: xs) (a :: as)
theorem stb_ls {α β : Type} {R : Rl α β} {sf : β → Bool} (h : Stb R sf) : Stb (lsR R) (fun q => q.all sf) where
  there := fun B H G x a r => by
    induction r with
    | nil => exact fun _ z => nomatch z
    | cons r1 _ ih => exact fun c hc => (List.mem_append.mp hc).elim (h.there _ _ _ _ _ r1 c) (ih c)
  keep := fun B H F B' H' F' G x a r f n s => by
    induction r with
    | nil => exact .nil
    | cons r1 _ ih =>
      refine .cons (h.keep _ _ _ _ _ _ _ _ _ r1 f (fun c z => n c (List.mem_append_left _ z)) (s.imp (fun z => ?_) id)) (ih (fun c z => n c (List.mem_append_right _ z)) (s.imp (fun z => ?_) id))
      · simp at z; exact z.1
      · simp at z ⊢; exact z.2

/-- what is wanted of an exception of the class named c -/
def Raised (X : Cx) (W : WX) (c : Str) (σ : St) (H : Hp) : Prop := ∀ C, X.mg c = some (.ref C) → W (.ref C) none σ H

abbrev TX (α : Type) := St → Hp → (α → Hp → Prop) → Prop
/-- what must be so of Q that an outcome be fine -/
def EPost {α β : Type} (X : Cx) (W : WX) (R : Rl α β) (B H : Hp) (F : List Addr) (σ : St) (Q : α → Hp → Prop) : O β → Prop
  | .ok r => ∀ x B' H' G, R B' H' G x r → Same B' H' → G.Nodup → Frm B H [] B' H' G → Q x H'
  | .eff r env' => ∀ x B' H' G F', R B' H' G x r → Slots X.K X.mg B' H' F' σ env' → Same B' H' → (G ++ F').Nodup → Frm B H F B' H' (G ++ F') → Q x H'
  | .exc c env' => ∀ B' H' F', Sta X.K X.mg B' H' F' σ env' → Frm B H F B' H' F' → Raised X W c σ H'
  | .bad => False
def EOkS {α β : Type} (X : Cx) (W : WX) (R : St → Rl α β) (t : TX α) (f : Env → O β) : Prop :=
  ∀ B H F σ env Q, Sta X.K X.mg B H F σ env → EPost X W (R σ) B H F σ Q (f env) → t σ H Q
abbrev EOk {α β : Type} (X : Cx) (W : WX) (R : Rl α β) (t : TX α) (f : Env → O β) : Prop := EOkS X W (fun _ => R) t f

/-! ### two in a row -/
def O.andThen {β γ δ : Type} (safe : β → Bool) (x : O β) (env : Env) (k : β → Env → O γ) (j : β → γ → δ) : O δ :=
  match x with
  | .ok a => match k a env with
    | .ok b => .ok (j a b)
    | .eff b env2 => if safe a then .eff (j a b) env2 else .bad
    | .exc c e => .exc c e
    | .bad => .bad
  | .eff a env1 => match k a env1 with
    | .ok b => .eff (j a b) env1
    | .eff b env2 => if safe a then .eff (j a b) env2 else .bad
    | .exc c e => .exc c e
    | .bad => .bad
  | .exc c e => .exc c e
  | .bad => .bad

section
variable {X : Cx} {W : WX} {α β γ δ : Type}
theorem Sta.pure {B H B' H' : Hp} {F G : List Addr} {σ : St} {env : Env} (S : Sta X.K X.mg B H F σ env) (s' : Same B' H') (f : Frm B H [] B' H' G) : Sta X.K X.mg B' H' F σ env :=
  ⟨s', f.slots S.sl (fun _ _ z => nomatch z), S.nd⟩
theorem Frm.wide0 {B H B' H' : Hp} {F G : List Addr} (f : Frm B H [] B' H' G) : Frm B H F B' H' (G ++ F) :=
  f.wide (fun _ z => nomatch z) fun c m => List.mem_append.mp m
theorem nodup_new {B H B' H' : Hp} {F G : List Addr} (hF : ∀ a ∈ F, ∃ u, H a = some u) (nF : F.Nodup) (nG : G.Nodup) (f : Frm B H [] B' H' G) : (G ++ F).Nodup := by
  refine List.nodup_append.mpr ⟨nG, nF, fun a ha b hb e => ?_⟩
  subst e
  obtain ⟨u, q⟩ := hF a hb
  rcases f.fr a ha with z | z
  · cases z
  · rw [q] at z; cases z
/-- an outcome's Q, seen from an earlier heap: an outcome without effect -/
theorem EOkS.andThen {ε ζ : Type} {R : St → Rl α β} {R' : St → Rl γ δ} {R'' : St → Rl ε ζ} {jx : α → γ → ε} {jb : β → δ → ζ} {t : TX α} {u : α → TX γ} {f : Env → O β} {k : β → Env → O δ} {safe : β → Bool} {sf' : δ → Bool} (hs : ∀ σ, Stb (R σ) safe) (hs' : ∀ σ, Stb (R' σ) sf') (hj : ∀ σ B H G1 G2 x y a b, R σ B H G1 x a → R' σ B H G2 y b → R'' σ B H (G1 ++ G2) (jx x y) (jb a b))
    (h : EOkS X W R t f) (h' : ∀ x a, (∃ σ B H G, R σ B H G x a) → EOkS X W R' (u x) (k a)) :
    EOkS X W R'' (fun σ H Q => t σ H fun x H1 => u x σ H1 fun y H2 => Q (jx x y) H2) (fun env => (f env).andThen safe env k jb) := by
  intro B H F σ env Q S q
  refine h B H F σ env _ S ?_
  dsimp only [O.andThen] at q
  cases e : f env with
  | bad => rw [e] at q; exact q
  | exc c e1 => rw [e] at q; exact q
  | ok a =>
    rw [e] at q
    intro x B1 H1 G1 r1 s1 n1 f1
    have S1 := S.pure s1 f1
    refine h' x a ⟨_, _, _, _, r1⟩ B1 H1 F σ env _ S1 ?_
    dsimp only at q
    cases e2 : k a env with
    | bad => rw [e2] at q; exact q
    | exc c e1 =>
      rw [e2] at q
      intro B2 H2 F2 S2 f2
      refine q B2 H2 F2 S2 ((Frm.wide (F2 := F) f1 (fun _ z => nomatch z) fun c z => .inr z).trans f2)
    | ok b =>
      rw [e2] at q
      intro y B2 H2 G2 r2 s2 n2 f2
      refine q (jx x y) B2 H2 (G1 ++ G2) (hj _ _ _ _ _ _ _ _ _ ((hs σ).keep _ _ _ _ _ _ _ _ _ r1 f2 (fun _ _ z => nomatch z) (.inr rfl)) r2) s2 ?_ ?_
      · have z := List.nodup_append.mp (nodup_new (F := G1) (fun a ha => ((hs σ).there _ _ _ _ _ r1 a ha).2) n1 n2 f2)
        exact List.nodup_append.mpr ⟨z.2.1, z.1, fun a ha b hb e => z.2.2 b hb a ha e.symm⟩
      · refine f1.trans (f2.wide (fun _ z => nomatch z) fun c m => ?_)
        exact (List.mem_append.mp m).symm
    | eff b env2 =>
      rw [e2] at q
      dsimp only at q
      by_cases hsf : safe a = true
      · rw [if_pos hsf] at q
        intro y B2 H2 G2 F2 r2 l2 s2 n2 f2
        have dj : ∀ c ∈ G1, c ∉ F := fun c m z => by
          obtain ⟨_, u, e⟩ := S.sl.there c z
          rcases f1.fr c m with y | y
          · cases y
          · rw [e] at y; cases y
        refine q (jx x y) B2 H2 (G1 ++ G2) F2 (hj _ _ _ _ _ _ _ _ _ ((hs σ).keep _ _ _ _ _ _ _ _ _ r1 f2 dj (.inl hsf)) r2) l2 s2 ?_ ?_
        · rw [List.append_assoc]
          refine List.nodup_append.mpr ⟨n1, n2, fun c hc b hb ec => ?_⟩
          subst ec
          rcases f2.fr c hb with z | z
          · exact dj c hc z
          · obtain ⟨_, u, e⟩ := (hs σ).there _ _ _ _ _ r1 c hc
            rw [e] at z; cases z
        · refine (f1.wide0 (F := F)).trans (f2.wide (fun c z => List.mem_append_right _ z) fun c m => ?_)
          rw [List.append_assoc] at m
          rcases List.mem_append.mp m with m | m
          · exact .inr (List.mem_append_left _ m)
          · exact .inl m
      · rw [if_neg hsf] at q; exact q.elim
  | eff a env1 =>
    rw [e] at q
    intro x B1 H1 G1 F1 r1 l1 s1 n1 f1
    have S1 : Sta X.K X.mg B1 H1 F1 σ env1 := ⟨s1, l1, (List.nodup_append.mp n1).2.1⟩
    have ng1 := (List.nodup_append.mp n1).1
    have dj : ∀ c ∈ G1, c ∉ F1 := fun c m z => (List.nodup_append.mp n1).2.2 c m c z rfl
    refine h' x a ⟨_, _, _, _, r1⟩ B1 H1 F1 σ env1 _ S1 ?_
    dsimp only at q
    have wd : ∀ {B2 H2 : Hp} {F2 : List Addr}, Frm B1 H1 F1 B2 H2 F2 → Frm B1 H1 (G1 ++ F1) B2 H2 F2 := fun f2 => f2.wide (fun c z => List.mem_append_right _ z) fun c m => .inl m
    cases e2 : k a env1 with
    | bad => rw [e2] at q; exact q
    | exc c e1 =>
      rw [e2] at q
      intro B2 H2 F2 S2 f2
      exact q B2 H2 F2 S2 (f1.trans (wd f2))
    | ok b =>
      rw [e2] at q
      intro y B2 H2 G2 r2 s2 n2 f2
      have l2 := f2.slots l1 fun _ _ z => nomatch z
      refine q (jx x y) B2 H2 (G1 ++ G2) F1 (hj _ _ _ _ _ _ _ _ _ ((hs σ).keep _ _ _ _ _ _ _ _ _ r1 f2 (fun _ _ z => nomatch z) (.inr rfl)) r2) l2 s2 ?_ ?_
      · have z := nodup_new (F := G1 ++ F1) (fun a ha => ?_) n1 n2 f2
        · rw [List.append_assoc]
          have z2 := List.nodup_append.mp z
          refine List.nodup_append.mpr ⟨ng1, List.nodup_append.mpr ⟨n2, S1.nd, fun a ha b hb => z2.2.2 a ha b (List.mem_append_right _ hb)⟩, fun a ha b hb => ?_⟩
          rcases List.mem_append.mp hb with hb | hb
          · exact fun e => z2.2.2 b hb a (List.mem_append_left _ ha) e.symm
          · exact fun e => dj a ha (e ▸ hb)
        · rcases List.mem_append.mp ha with ha | ha
          · exact ((hs σ).there _ _ _ _ _ r1 a ha).2
          · exact (l1.there a ha).2
      · refine f1.trans (f2.wide (fun _ z => nomatch z) fun c m => ?_)
        rw [List.append_assoc] at m
        rcases List.mem_append.mp m with m | m
        · exact .inr (List.mem_append_left _ m)
        · exact (List.mem_append.mp m).imp id fun z => List.mem_append_right _ z
    | eff b env2 =>
      rw [e2] at q
      dsimp only at q
      by_cases hsf : safe a = true
      · rw [if_pos hsf] at q
        intro y B2 H2 G2 F2 r2 l2 s2 n2 f2
        refine q (jx x y) B2 H2 (G1 ++ G2) F2 (hj _ _ _ _ _ _ _ _ _ ((hs σ).keep _ _ _ _ _ _ _ _ _ r1 f2 dj (.inl hsf)) r2) l2 s2 ?_ ?_
        · rw [List.append_assoc]
          refine List.nodup_append.mpr ⟨ng1, n2, fun c hc b hb ec => ?_⟩
          subst ec
          rcases f2.fr c hb with z | z
          · exact dj c hc z
          · obtain ⟨_, u, e⟩ := (hs σ).there _ _ _ _ _ r1 c hc
            rw [e] at z; cases z
        · refine f1.trans (f2.wide (fun c z => List.mem_append_right _ z) fun c m => ?_)
          rw [List.append_assoc] at m
          rcases List.mem_append.mp m with m | m
          · exact .inr (List.mem_append_left _ m)
          · exact .inl m
      · rw [if_neg hsf] at q; exact q.elim

theorem EOk.andThen {ε ζ : Type} {R : Rl α β} {R' : Rl γ δ} {R'' : Rl ε ζ} {jx : α → γ → ε} {jb : β → δ → ζ} {t : TX α} {u : α → TX γ} {f : Env → O β} {k : β → Env → O δ} {safe : β → Bool} {sf' : δ → Bool} (hs : Stb R safe) (hs' : Stb R' sf')
    (hj : ∀ B H G1 G2 x y a b, R B H G1 x a → R' B H G2 y b → R'' B H (G1 ++ G2) (jx x y) (jb a b)) (h : EOk X W R t f) (h' : ∀ x a, (∃ B H G, R B H G x a) → EOk X W R' (u x) (k a)) :
    EOk X W R'' (fun σ H Q => t σ H fun x H1 => u x σ H1 fun y H2 => Q (jx x y) H2) (fun env => (f env).andThen safe env k jb) :=
  EOkS.andThen (fun _ => hs) (fun _ => hs') (fun _ => hj) h fun x a ⟨_, z⟩ => h' x a z

/-! ### a step on values -/
def O.mapP {β γ : Type} (g : β → Option γ) : O β → O γ
  | .ok a => match g a with
    | some b => .ok b
    | none => .bad
  | .eff a env => match g a with
    | some b => .eff b env
    | none => .bad
  | .exc c e => .exc c e
  | .bad => .bad
/-- what is wanted behind a step on values -/
def VPost {β γ : Type} (R' : Rl γ β) (B H : Hp) (G : List Addr) (Q : γ → Hp → Prop) : Option β → Prop
  | some b => ∀ y B' H' G', R' B' H' G' y b → Same B' H' → G'.Nodup → Frm B H G B' H' G' → Q y H'
  | none => False
def VOk {α β γ δ : Type} (R : Rl α β) (R' : Rl γ δ) (r : α → Hp → (γ → Hp → Prop) → Prop) (g : β → Option δ) : Prop :=
  ∀ B H G x a Q, Same B H → R B H G x a → G.Nodup → VPost R' B H G Q (g a) → r x H Q
theorem EOkS.map {R : St → Rl α β} {R' : St → Rl γ δ} {t : TX α} {r : α → Hp → (γ → Hp → Prop) → Prop} {f : Env → O β} {g : β → Option δ} (h : EOkS X W R t f) (v : ∀ σ, VOk (R σ) (R' σ) r g) :
    EOkS X W R' (fun σ H Q => t σ H fun x H1 => r x H1 Q) (fun env => (f env).mapP g) := by
  intro B H F σ env Q S q
  refine h B H F σ env _ S ?_
  dsimp only [O.mapP] at q
  cases e : f env with
  | bad => rw [e] at q; exact q
  | exc c e1 => rw [e] at q; exact q
  | ok a =>
    rw [e] at q
    intro x B1 H1 G1 r1 s1 n1 f1
    refine v σ B1 H1 G1 x a Q s1 r1 n1 ?_
    dsimp only at q
    cases e2 : g a with
    | none => rw [e2] at q; exact q
    | some b =>
      rw [e2] at q
      intro y B2 H2 G2 r2 s2 n2 f2
      exact q y B2 H2 G2 r2 s2 n2 (f1.trans f2)
  | eff a env1 =>
    rw [e] at q
    intro x B1 H1 G1 F1 r1 l1 s1 n1 f1
    have ng1 := (List.nodup_append.mp n1)
    refine v σ B1 H1 G1 x a Q s1 r1 ng1.1 ?_
    dsimp only at q
    cases e2 : g a with
    | none => rw [e2] at q; exact q
    | some b =>
      rw [e2] at q
      intro y B2 H2 G2 r2 s2 n2 f2
      refine q y B2 H2 G2 F1 r2 (f2.slots l1 fun c m z => ng1.2.2 c z c m rfl) s2 ?_ (f1.trans (f2.wide (fun c z => List.mem_append_left _ z) fun c m => ?_))
      · refine List.nodup_append.mpr ⟨n2, ng1.2.1, fun a ha b hb e => ?_⟩
        subst e
        rcases f2.fr a ha with z | z
        · exact ng1.2.2 a z a hb rfl
        · obtain ⟨_, u, e⟩ := l1.there a hb
          rw [e] at z; cases z
      · exact (List.mem_append.mp m).imp id fun z => List.mem_append_right _ z
theorem EOk.map {R : Rl α β} {R' : Rl γ δ} {t : TX α} {r : α → Hp → (γ → Hp → Prop) → Prop} {f : Env → O β} {g : β → Option δ} (h : EOk X W R t f) (v : VOk R R' r g) :
    EOk X W R' (fun σ H Q => t σ H fun x H1 => r x H1 Q) (fun env => (f env).mapP g) := EOkS.map h fun _ => v
end
end Tl
namespace Tl
open PySem PySem.Spec L2

/-! ### looks at data -/
def fzs : List OD → Option (List D)
  | [] => some []
  | .fz d :: r => match fzs r with
    | some ds => some (d :: ds)
    | none => none
  | _ :: _ => none
@[simp] theorem fzs_nil : fzs [] = some [] := rfl
@[simp] theorem fzs_cons {d : D} {r : List OD} : fzs (.fz d :: r) = (fzs r).map (d :: ·) := by
  show (match fzs r with | some ds => some (d :: ds) | none => none) = _
  cases fzs r <;> rfl
@[simp] theorem fzs_map {α : Type} {xs : List α} {f : α → D} : fzs (xs.map fun x => .fz (f x)) = some (xs.map f) := by
  induction xs with
  | nil => rfl
  | cons x xs ih => rw [List.map_cons, fzs_cons, ih]; rfl
@[simp] theorem fzs_mapfz {ds : List D} : fzs (ds.map OD.fz) = some ds := by
  have := fzs_map (xs := ds) (f := id)
  simpa using this
/-- the items of a list -/
def OD.items : OD → Option (List D)
  | .fz (.lst ds) => some ds
  | .fz (.scr ds) => some ds
  | .lst os => fzs os
  | _ => none
/-- of a list that is no script -/
def OD.litems : OD → Option (List D)
  | .fz (.lst ds) => some ds
  | .lst os => fzs os
  | _ => none
/-- of a tuple -/
def OD.titems : OD → Option (List D)
  | .fz (.tup ds) => some ds
  | .tup os => fzs os
  | _ => none
/-- of either -/
def OD.sitems : OD → Option (List D)
  | .fz (.lst ds) => some ds
  | .fz (.scr ds) => some ds
  | .lst os => fzs os
  | .fz (.tup ds) => some ds
  | .tup os => fzs os
  | _ => none

section
variable {K : PySem.W.Frag} {mg : Str → Option Value} {B H : Hp} {F G : List Addr} {v : V} {vs : List V} {d : D} {ds : List D} {o : OD} {os : List OD} {r : RV}
theorem RepL.length (h : RepL K B vs ds) : vs.length = ds.length := by
  induction vs generalizing ds with
  | nil => cases h; rfl
  | cons v vs ih => cases h with | cons _ t => simp [ih t]
theorem OwnL.length (h : OwnL K mg B H F vs os) : vs.length = os.length := by
  induction vs generalizing os F with
  | nil => cases h; rfl
  | cons v vs ih => cases h with | cons _ t => simp [ih t]
theorem RepL.get {i : Nat} (h : RepL K B vs ds) (e : ds[i]? = some d) : ∃ v, vs[i]? = some v ∧ Rep K B v d := by
  induction vs generalizing ds i with
  | nil => cases h; simp at e
  | cons v vs ih =>
    cases h with
    | cons r t =>
      cases i with
      | zero => simp at e; subst e; exact ⟨v, rfl, r⟩
      | succ i => simp at e; exact ih t e
theorem OwnL.get {i : Nat} (h : OwnL K mg B H F vs os) (e : os[i]? = some o) : ∃ v G, vs[i]? = some v ∧ Own K mg B H G v o ∧ (∀ a ∈ G, a ∈ F) ∧ (F.Nodup → G.Nodup) := by
  induction vs generalizing os i F with
  | nil => cases h; simp at e
  | cons v vs ih =>
    cases h with
    | cons r t =>
      cases i with
      | zero => simp at e; subst e; exact ⟨v, _, rfl, r, fun a m => List.mem_append_left _ m, fun n => (List.nodup_append.mp n).1⟩
      | succ i =>
        simp at e
        obtain ⟨v', G, h1, h2, h3, h4⟩ := ih t e
        exact ⟨v', G, h1, h2, fun a m => List.mem_append_right _ (h3 a m), fun n => h4 (List.nodup_append.mp n).2.1⟩
/-- owned items that are all plain -/
theorem OwnL.rep (h : OwnL K mg B H F vs os) (e : fzs os = some ds) : F = [] ∧ RepL K B vs ds := by
  induction vs generalizing os F ds with
  | nil => cases h; simp at e; subst e; exact ⟨rfl, .nil⟩
  | cons v vs ih =>
    cases h with
    | @cons F1 G1 _ _ o os r t =>
      cases r with
      | fz r =>
        rw [fzs_cons] at e
        cases q : fzs os with
        | none => rw [q] at e; cases e
        | some ds' =>
          rw [q] at e; cases e
          obtain ⟨e1, e2⟩ := ih t q
          subst e1
          exact ⟨rfl, .cons r e2⟩
      | _ => cases e
theorem RepL.ownL (h : RepL K B vs ds) : OwnL K mg B H [] vs (ds.map .fz) := by
  induction vs generalizing ds with
  | nil => cases h; exact .nil
  | cons v vs ih => cases h with | cons r t => exact .cons (F := []) (.fz r) (ih t)
theorem rv_own (h : rvR K mg B H G v r) : ∃ G', Own K mg B H G' v r.od := by
  cases r with
  | own o => exact ⟨G, h⟩
  | view o => exact h.2
theorem rv_fz (h : rvR K mg B H G v r) (e : r.od = .fz d) : Rep K B v d := by
  obtain ⟨G', q⟩ := rv_own h
  rw [e] at q
  cases q with | fz r => exact r
theorem rv_items (s : Same B H) (h : rvR K mg B H G v r) (e : r.od.items = some ds) : ∃ p vs, v = .ref p ∧ SqL K H p vs ∧ RepL K B vs ds := by
  obtain ⟨G', q⟩ := rv_own h
  generalize r.od = o at q e
  cases q with
  | fz r =>
    cases r <;> first
      | (cases e; done)
      | (rename_i h1 h2; cases e; exact ⟨_, _, rfl, s.seq h1, h2⟩)
      | (rename_i h1 h2; cases e; exact ⟨_, _, rfl, SqL.of (s _ _ h1), h2⟩)
  | lst h1 _ h3 => exact ⟨_, _, rfl, SqL.of h1, (h3.rep e).2⟩
  | _ => cases e
theorem rv_litems (s : Same B H) (h : rvR K mg B H G v r) (e : r.od.litems = some ds) : ∃ p vs, v = .ref p ∧ H p = some (.lst vs) ∧ RepL K B vs ds := by
  obtain ⟨G', q⟩ := rv_own h
  generalize r.od = o at q e
  cases q with
  | fz r =>
    cases r <;> first
      | (cases e; done)
      | (rename_i h1 h2; cases e; exact ⟨_, _, rfl, s _ _ h1, h2⟩)
  | lst h1 _ h3 => exact ⟨_, _, rfl, h1, (h3.rep e).2⟩
  | _ => cases e
theorem rv_titems (s : Same B H) (h : rvR K mg B H G v r) (e : r.od.titems = some ds) : ∃ p vs, v = .ref p ∧ SqT K H p vs ∧ RepL K B vs ds := by
  obtain ⟨G', q⟩ := rv_own h
  generalize r.od = o at q e
  cases q with
  | fz r =>
    cases r <;> first
      | (cases e; done)
      | (rename_i h1 h2; cases e; exact ⟨_, _, rfl, Same.seqT s h1, h2⟩)
  | tup h1 h3 => exact ⟨_, _, rfl, Same.seqT s h1, (h3.rep e).2⟩
  | _ => cases e
theorem rv_sitems (s : Same B H) (h : rvR K mg B H G v r) (e : r.od.sitems = some ds) : ∃ p vs, v = .ref p ∧ (SqL K H p vs ∨ SqT K H p vs) ∧ RepL K B vs ds := by
  obtain ⟨G', q⟩ := rv_own h
  generalize r.od = o at q e
  cases q with
  | fz r =>
    cases r <;> first
      | (cases e; done)
      | (rename_i h1 h2; cases e; exact ⟨_, _, rfl, .inl (s.seq h1), h2⟩)
      | (rename_i h1 h2; cases e; exact ⟨_, _, rfl, .inl (SqL.of (s _ _ h1)), h2⟩)
      | (rename_i h1 h2; cases e; exact ⟨_, _, rfl, .inr (Same.seqT s h1), h2⟩)
  | lst h1 _ h3 => exact ⟨_, _, rfl, .inl (SqL.of h1), (h3.rep e).2⟩
  | tup h1 h3 => exact ⟨_, _, rfl, .inr (Same.seqT s h1), (h3.rep e).2⟩
  | _ => cases e
/-- a plain value handed on, the heap as it was -/
theorem VPost.fz {Q : VK} (q : VPost (rvR K mg) B H G Q (some (.own (.fz d)))) (s : Same B H) (r : Rep K B v d) : Q v H :=
  q v B H [] (.fz r) s List.nodup_nil ⟨Same.refl _, fun _ _ h _ => h, fun _ _ _ _ b => b, fun _ z => nomatch z⟩
/-- a new list -/
theorem VPost.lst {Q : VK} (q : VPost (rvR K mg) B H G Q (some (.own (.lst (ds.map .fz))))) (s : Same B H) (r : RepL K B vs ds) {p : Addr} (hp : H p = none) : Q (.ref p) (upd H p (.lst vs)) := by
  have hb : B p = none := s.free hp
  refine q (.ref p) B _ [p] (.lst upd_same hb ?_) (fun a u e => ?_) (by simp) ⟨Same.refl _, fun a u e _ => ?_, fun _ _ _ _ b => b, fun a m => ?_⟩
  · exact r.ownL
  · have := s a u e
    rw [upd_ne (ne_of_none this hp)]; exact this
  · rw [upd_ne (ne_of_none e hp)]; exact e
  · have : a = p := by simpa using m
    subst this; exact .inr hp
/-- a new tuple -/
theorem VPost.tup {Q : VK} (q : VPost (rvR K mg) B H G Q (some (.own (.fz (.tup ds))))) (s : Same B H) (r : RepL K B vs ds) {p : Addr} (hp : H p = none) : Q (.ref p) (upd H p (.tup vs)) := by
  have hb : B p = none := s.free hp
  have sb : Same B (upd B p (.tup vs)) := fun a u e => by rw [upd_ne (ne_of_none e hb)]; exact e
  refine q (.ref p) (upd B p (.tup vs)) _ [] (.fz (.tup (.inl (.inl upd_same)) (r.mono sb))) (fun a u e => ?_) List.nodup_nil ⟨sb, fun a u e _ => ?_, fun a u e _ b => ?_, fun _ z => nomatch z⟩
  · by_cases h : a = p
    · subst h; rw [upd_same] at e ⊢; exact e
    · rw [upd_ne h] at e ⊢; exact s a u e
  · rw [upd_ne (ne_of_none e hp)]; exact e
  · rw [upd_ne (ne_of_none e hp)]; exact b
end

/-! ### expressions -/
def PEr (X : Cx) (W : WX) (e : Expr) (f : Env → O RV) : Prop := ∃ t, PE X e t ∧ EOk X W (rvR X.K X.mg) t f
def PTr (X : Cx) (W : WX) (e : Expr) (f : Env → O Bool) : Prop := ∃ t, PT X e t ∧ EOk X W boR t f
def PWr (X : Cx) (W : WX) (e : Expr) (f : Env → O Bool) : Prop := ∃ t, PW X e t ∧ EOk X W boR t f
def PAr (X : Cx) (W : WX) (es : List Expr) (f : Env → O (List RV)) : Prop := ∃ t, PA X es t ∧ EOk X W (lsR (rvR X.K X.mg)) t f

abbrev RV.i (n : Int) : RV := .own (.fz (.int n))
abbrev RV.b (b : Bool) : RV := .own (.fz (.bl b))
abbrev RV.s (x : Str) : RV := .own (.fz (.str x))
abbrev RV.n : RV := .own (.fz .non)

/-- a name: what stands there, plain, or a look at it -/
def eVar (i : Nat) : Env → O RV := fun env =>
  match env[i]? with
  | some (.fz d) => .ok (.own (.fz d))
  | some .un => .bad
  | some o => .ok (.view o)
  | none => .bad
def eC (d : D) : Env → O RV := fun _ => .ok (.own (.fz d))
def e1 (g : RV → Option RV) (f : Env → O RV) : Env → O RV := fun env => (f env).mapP g
def e2 (g : RV × RV → Option RV) (f1 f2 : Env → O RV) : Env → O RV := fun env => ((f1 env).andThen RV.safe env (fun _ e => f2 e) Prod.mk).mapP g
def aNil : Env → O (List RV) := fun _ => .ok []
def aCons (f : Env → O RV) (r : Env → O (List RV)) : Env → O (List RV) := fun env => (f env).andThen RV.safe env (fun _ e => r e) List.cons
def eL (g : List RV → Option RV) (f : Env → O (List RV)) : Env → O RV := fun env => (f env).mapP g

section
variable {X : Cx} {W : WX} {a b c e : Expr} {es : List Expr} {f fa fb fc : Env → O RV} {pos : Pos}
theorem Slots.get {K : PySem.W.Frag} {mg : Str → Option Value} {B H : Hp} {F : List Addr} {σ : St} {env : Env} (x : Slots K mg B H F σ env) {i : Nat} {o : OD} (e : env[i]? = some o) (n : o ≠ .un) :
    ∃ v G, σ[i]? = some (some v) ∧ Own K mg B H G v o ∧ (∀ a ∈ G, a ∈ F) := by
  induction x generalizing i with
  | nil => simp at e
  | un _ ih =>
    cases i with
    | zero => simp at e; exact absurd e.symm n
    | succ i => simp at e; simpa using ih e
  | cons r _ ih =>
    cases i with
    | zero => simp at e; subst e; exact ⟨_, _, rfl, r, fun a m => List.mem_append_left _ m⟩
    | succ i =>
      simp at e
      obtain ⟨v, G, h1, h2, h3⟩ := ih e
      exact ⟨v, G, by simpa using h1, h2, fun a m => List.mem_append_right _ (h3 a m)⟩
theorem Frm.none {B H : Hp} {F : List Addr} : Frm B H F B H [] := ⟨Same.refl _, fun _ _ h _ => h, fun _ _ _ _ b => b, fun _ z => nomatch z⟩
theorem r_var (i : Nat) {x : Str} {pos : Pos} (hN : X.N[i]? = some x := by rfl) (hv : Vis X.env.scope x := by first | exact Or.inl rfl | exact Or.inr (Or.inl rfl) | exact Or.inr (Or.inr rfl))
    (hd : (x == ("__debug__" : Str)) = false := by decide) (hcd : (x == ("__classdict__" : Str)) = false := by decide) : PEr X W (.Name x pos) (eVar i) := by
  refine ⟨_, pe_var hN hv hd hcd, fun B H F σ env Q S q => ?_⟩
  dsimp only [eVar] at q
  cases e : env[i]? with
  | none => rw [e] at q; exact q.elim
  | some o =>
    rw [e] at q
    by_cases n : o = .un
    · subst n; exact q.elim
    · obtain ⟨v, G, h1, h2, h3⟩ := S.sl.get e n
      refine ⟨v, h1, ?_⟩
      cases o with
      | un => exact absurd rfl n
      | fz d =>
        cases h2 with
        | fz r => exact q v B H [] (.fz r) S.sub List.nodup_nil Frm.none
      | _ => exact q v B H [] ⟨rfl, G, h2⟩ S.sub List.nodup_nil Frm.none
theorem r_const {t : TE} {d : D} {v : V} (h : PE X e t) (ht : t = tC v) (r : ∀ B, Rep X.K B v d) : PEr X W e (eC d) := by
  subst ht
  exact ⟨_, h, fun B H F σ env Q S q => q v B H [] (.fz (r B)) S.sub List.nodup_nil Frm.none⟩
theorem r_int {i j pos} : PEr X W (.Constant (.int i) j pos) (eC (.int i)) := r_const pe_int rfl fun _ => .int
theorem r_bl {b j pos} : PEr X W (.Constant (.bool b) j pos) (eC (.bl b)) := r_const pe_bl rfl fun _ => .bl
theorem r_non {j pos} : PEr X W (.Constant .none j pos) (eC .non) := r_const pe_non rfl fun _ => .non
theorem r_str {x j pos} : PEr X W (.Constant (.str x) j pos) (eC (.str x)) := r_const pe_str rfl fun _ => .str
/-- a module's constant -/
theorem r_glob {x : Str} {v : V} {u : Value} {d : D} {pos : Pos} (hg : Gl X x) (hm : X.mg x = some u) (r : RelV v u) (rd : ∀ B, Rep X.K B v d) (hd : (x == ("__debug__" : Str)) = false := by decide) : PEr X W (.Name x pos) (eC d) :=
  r_const (pe_glob hg hm r hd) rfl rd
theorem pe_sub1 {f : Env → O RV} {g : RV → Option RV} {t : TE} {r : V → Hp → VK → Prop} (h : EOk X W (rvR X.K X.mg) t f) (v : VOk (rvR X.K X.mg) (rvR X.K X.mg) r g) :
    EOk X W (rvR X.K X.mg) (fun σ H Q => t σ H fun x H1 => r x H1 Q) (e1 g f) := h.map v
theorem EOk.two {ta tb : TE} {r : V → V → Hp → VK → Prop} {g : RV × RV → Option RV} (h1 : EOk X W (rvR X.K X.mg) ta fa) (h2 : EOk X W (rvR X.K X.mg) tb fb) (v : VOk (prR (rvR X.K X.mg) (rvR X.K X.mg)) (rvR X.K X.mg) (fun p => r p.1 p.2) g) :
    EOk X W (rvR X.K X.mg) (fun σ H Q => ta σ H fun x H1 => tb σ H1 fun y H2 => r x y H2 Q) (e2 g fa fb) :=
  (EOk.andThen (jx := Prod.mk) (jb := Prod.mk) (R'' := prR (rvR X.K X.mg) (rvR X.K X.mg)) (u := fun _ => tb) stb_rv stb_rv (fun _ _ G1 G2 _ _ _ _ a b => ⟨G1, G2, rfl, a, b⟩) h1 fun _ _ _ => h2).map v
theorem r_op {op : Operator} {r : R2} {g : RV × RV → Option RV} (ho : OpR X (binaryOp op) r) (v : VOk (prR (rvR X.K X.mg) (rvR X.K X.mg)) (rvR X.K X.mg) (fun p => r p.1 p.2) g) (ha : PEr X W a fa) (hb : PEr X W b fb) :
    PEr X W (.BinOp a op b pos) (e2 g fa fb) := by
  obtain ⟨ta, ha, ka⟩ := ha
  obtain ⟨tb, hb, kb⟩ := hb
  exact ⟨_, pe_op ho ha hb, ka.two kb v⟩
theorem r_cmp {op : CmpOp} {r : R2} {g : RV × RV → Option RV} (ho : OpR X (compareOp op) r) (v : VOk (prR (rvR X.K X.mg) (rvR X.K X.mg)) (rvR X.K X.mg) (fun p => r p.1 p.2) g) (ha : PEr X W a fa) (hb : PEr X W b fb) (hm : behindInMarks op b = false) :
    PEr X W (.Compare a [op] [b] pos) (e2 g fa fb) := by
  obtain ⟨ta, ha, ka⟩ := ha
  obtain ⟨tb, hb, kb⟩ := hb
  exact ⟨_, pe_cmpR ho ha hb hm, ka.two kb v⟩
/-- a comparison by values -/
def CmpOk (X : Cx) (op : CmpOp) (g : RV × RV → Option RV) : Prop := ∃ r, OpR X (compareOp op) r ∧ VOk (prR (rvR X.K X.mg) (rvR X.K X.mg)) (rvR X.K X.mg) (fun p => r p.1 p.2) g
theorem r_c {op : CmpOp} {g : RV × RV → Option RV} (h : CmpOk X op g) (ha : PEr X W a fa) (hb : PEr X W b fb) (hm : behindInMarks op b = false := by first | exact nomark _ | with_unfolding_all rfl) : PEr X W (.Compare a [op] [b] pos) (e2 g fa fb) := by
  obtain ⟨r, ho, v⟩ := h
  exact r_cmp ho v ha hb hm
theorem r_anil : PAr X W [] aNil := ⟨_, pa_nil, fun B H F σ env Q S q => q [] B H [] .nil S.sub List.nodup_nil Frm.none⟩
theorem r_acons {fr : Env → O (List RV)} (ha : PEr X W e f) (hr : PAr X W es fr) (hs : starEach (e :: es) X.env = (false, eval e X.env) :: starEach es X.env := by rfl) : PAr X W (e :: es) (aCons f fr) := by
  obtain ⟨ta, ha, ka⟩ := ha
  obtain ⟨tb, hb, kb⟩ := hr
  exact ⟨_, pa_cons ha hb hs, EOk.andThen (jx := List.cons) (jb := List.cons) (u := fun _ => tb) stb_rv (stb_ls stb_rv) (fun _ _ _ _ _ _ _ _ a b => .cons a b) ka fun _ _ _ => kb⟩
end
end Tl
namespace Tl
open PySem PySem.Spec L2

/-! ### arithmetic -/
def g2i (op : Int → Int → Option D) (p : RV × RV) : Option RV :=
  match p.1.od, p.2.od with
  | .fz (.int i), .fz (.int j) => (op i j).map fun d => .own (.fz d)
  | _, _ => none
section
variable {X : Cx} {W : WX} {a b c e : Expr} {es : List Expr} {f fa fb fc : Env → O RV} {pos : Pos}
abbrev rr (X : Cx) := prR (rvR X.K X.mg) (rvR X.K X.mg)
theorem v2i {C : Int → Int → Prop} {g : Int → Int → V} {op : Int → Int → Option D} (h : ∀ i j d, op i j = some d → C i j ∧ ∀ B, Rep X.K B (g i j) d) :
    VOk (rr X) (rvR X.K X.mg) (fun p => rI C g p.1 p.2) (g2i op) := by
  rintro B H G ⟨x, y⟩ ⟨r1, r2⟩ Q s ⟨G1, G2, _, h1, h2⟩ n q
  dsimp only [g2i] at q h1 h2 ⊢
  split at q
  · rename_i i j e1 e2
    have z1 := rv_fz h1 e1
    have z2 := rv_fz h2 e2
    cases z1; cases z2
    cases e : op i j with
    | none => rw [e] at q; exact q.elim
    | some d =>
      rw [e] at q
      obtain ⟨hc, hr⟩ := h i j d e
      exact ⟨i, j, rfl, rfl, hc, VPost.fz q s (hr B)⟩
  · exact q.elim
theorem v2i0 {g : Int → Int → V} {op : Int → Int → D} (h : ∀ i j B, Rep X.K B (g i j) (op i j)) :
    VOk (rr X) (rvR X.K X.mg) (fun p => rI0 g p.1 p.2) (g2i fun i j => some (op i j)) := by
  intro B H G p a Q s r n q
  obtain ⟨i, j, e1, e2, _, z⟩ := v2i (X := X) (C := fun _ _ => True) (g := g) (op := fun i j => some (op i j)) (fun i j d e => ⟨True.intro, fun B => by cases e; exact h i j B⟩) B H G p a Q s r n q
  exact ⟨i, j, e1, e2, z⟩
def iSub (i j : Int) : D := .int (i - j)
def iLt (i j : Int) : D := .bl (decide (i < j))
def iLe (i j : Int) : D := .bl (decide (i ≤ j))
def iGt (i j : Int) : D := .bl (decide (j < i))
def iGe (i j : Int) : D := .bl (decide (j ≤ i))
def iDiv (i j : Int) : Option D := if 0 < j ∧ j.natAbs.log2 < 9000 then some (.int (i / j)) else none
def iMod (i j : Int) : Option D := if 0 < j then some (.int (i % j)) else none
def iPow (i j : Int) : Option D := if 0 ≤ j ∧ j ≤ 1000000 ∧ i.natAbs < 2 ^ 64 then some (.int (i ^ j.toNat)) else none
def iShl (i j : Int) : Option D := if 0 ≤ j ∧ j ≤ 1000000 ∧ i.natAbs < 2 ^ 64 then some (.int (i * 2 ^ j.toNat)) else none
def iShr (i j : Int) : Option D := if 0 ≤ j then some (.int (i / 2 ^ j.toNat)) else none
def mulSafe (i j : Int) : Prop := (-(2 ^ 64) < i ∧ i < 2 ^ 64) ∨ (-(2 ^ 64) < j ∧ j < 2 ^ 64) ∨ i.natAbs.log2 + j.natAbs.log2 < 1000000
instance {i j : Int} : Decidable (mulSafe i j) := by unfold mulSafe; exact inferInstance
theorem r_sub (ha : PEr X W a fa) (hb : PEr X W b fb) : PEr X W (.BinOp a .Sub b pos) (e2 (g2i fun i j => some (iSub i j)) fa fb) := r_op op_sub (v2i0 fun _ _ _ => .int) ha hb
theorem r_div (ha : PEr X W a fa) (hb : PEr X W b fb) : PEr X W (.BinOp a .FloorDiv b pos) (e2 (g2i iDiv) fa fb) :=
  r_op op_fdivW (v2i fun i j d e => by unfold iDiv at e; split at e <;> cases e; rename_i h; exact ⟨h, fun _ => .int⟩) ha hb
theorem r_mod (ha : PEr X W a fa) (hb : PEr X W b fb) : PEr X W (.BinOp a .Mod b pos) (e2 (g2i iMod) fa fb) :=
  r_op op_mod (v2i fun i j d e => by unfold iMod at e; split at e <;> cases e; rename_i h; exact ⟨h, fun _ => .int⟩) ha hb
theorem r_pow (ha : PEr X W a fa) (hb : PEr X W b fb) : PEr X W (.BinOp a .Pow b pos) (e2 (g2i iPow) fa fb) :=
  r_op op_pow (v2i fun i j d e => by unfold iPow at e; split at e <;> cases e; rename_i h; exact ⟨h, fun _ => .int⟩) ha hb
theorem r_shl (ha : PEr X W a fa) (hb : PEr X W b fb) : PEr X W (.BinOp a .LShift b pos) (e2 (g2i iShl) fa fb) :=
  r_op op_shl (v2i fun i j d e => by unfold iShl at e; split at e <;> cases e; rename_i h; exact ⟨h, fun _ => .int⟩) ha hb
theorem r_shr (ha : PEr X W a fa) (hb : PEr X W b fb) : PEr X W (.BinOp a .RShift b pos) (e2 (g2i iShr) fa fb) :=
  r_op op_shr (v2i fun i j d e => by unfold iShr at e; split at e <;> cases e; rename_i h; exact ⟨h, fun _ => .int⟩) ha hb
theorem r_and (ha : PEr X W a fa) (hb : PEr X W b fb) : PEr X W (.BinOp a .BitAnd b pos) (e2 (g2i fun i j => some (.int (Builtin.bitAnd i j))) fa fb) := r_op op_and (v2i0 fun _ _ _ => .int) ha hb
theorem r_or (ha : PEr X W a fa) (hb : PEr X W b fb) : PEr X W (.BinOp a .BitOr b pos) (e2 (g2i fun i j => some (.int (Builtin.bitOr i j))) fa fb) := r_op op_or (v2i0 fun _ _ _ => .int) ha hb
theorem r_xor (ha : PEr X W a fa) (hb : PEr X W b fb) : PEr X W (.BinOp a .BitXor b pos) (e2 (g2i fun i j => some (.int (Builtin.bitXor i j))) fa fb) := r_op op_xor (v2i0 fun _ _ _ => .int) ha hb
theorem c_lt : CmpOk X .Lt (g2i fun i j => some (iLt i j)) := ⟨_, op_lt, v2i0 fun _ _ _ => .bl⟩
theorem c_le : CmpOk X .LtE (g2i fun i j => some (iLe i j)) := ⟨_, op_le, v2i0 fun _ _ _ => .bl⟩
theorem c_gt : CmpOk X .Gt (g2i fun i j => some (iGt i j)) := ⟨_, op_gt, v2i0 fun _ _ _ => .bl⟩
theorem c_ge : CmpOk X .GtE (g2i fun i j => some (iGe i j)) := ⟨_, op_ge, v2i0 fun _ _ _ => .bl⟩
/-! ### + and * of any kind -/
def gAdd (p : RV × RV) : Option RV :=
  match p.1.od, p.2.od with
  | .fz (.int i), .fz (.int j) => some (.own (.fz (.int (i + j))))
  | .fz (.str x), .fz (.str y) => if x.length + y.length ≤ sizeLine then some (.own (.fz (.str (x ++ y)))) else none
  | o, u => match o.litems, u.litems with
    | some xs, some ys => if xs.length + ys.length ≤ sizeLine then some (.own (.lst ((xs ++ ys).map .fz))) else none
    | _, _ => match o.titems, u.titems with
      | some xs, some ys => if xs.length + ys.length ≤ sizeLine then some (.own (.fz (.tup (xs ++ ys)))) else none
      | _, _ => none
def gMul (p : RV × RV) : Option RV :=
  match p.1.od, p.2.od with
  | .fz (.int i), .fz (.int j) => if mulSafe i j then some (.own (.fz (.int (i * j)))) else none
  | o, .fz (.int k) => match o.litems with
    | some xs => if -(2 ^ 63) ≤ k ∧ k < 2 ^ 63 ∧ xs.length * k.toNat ≤ sizeLine then some (.own (.lst ((List.replicate k.toNat xs).flatten.map .fz))) else none
    | none => match o.titems with
      | some xs => if xs ≠ [] ∧ 2 ≤ k ∧ k ≤ 1000 ∧ xs.length ≤ 1000 then some (.own (.fz (.tup (List.replicate k.toNat xs).flatten))) else none
      | none => none
  | _, _ => none
theorem RepL.append {K : PySem.W.Frag} {B : Hp} {vs us : List V} {ds es : List D} (h : RepL K B vs ds) (h' : RepL K B us es) : RepL K B (vs ++ us) (ds ++ es) := by
  induction vs generalizing ds with
  | nil => cases h; exact h'
  | cons v vs ih => cases h with | cons r t => exact .cons r (ih t)
theorem RepL.rep {K : PySem.W.Frag} {B : Hp} {vs : List V} {ds : List D} (h : RepL K B vs ds) (n : Nat) : RepL K B (List.replicate n vs).flatten (List.replicate n ds).flatten := by
  induction n with
  | zero => exact .nil
  | succ n ih => simpa [List.replicate_succ] using h.append ih
theorem RepL.nil_iff {K : PySem.W.Frag} {B : Hp} {vs : List V} {ds : List D} (h : RepL K B vs ds) : vs = [] ↔ ds = [] := by
  have := h.length
  constructor <;> intro e <;> subst e <;> simp at this
  · exact List.eq_nil_of_length_eq_zero this.symm
  · exact this
theorem rv_tfz {K : PySem.W.Frag} {mg : Str → Option Value} {B H : Hp} {G : List Addr} {v : V} {r : RV} {ds : List D} (h : rvR K mg B H G v r) (e : r.od.titems = some ds) : Rep K B v (.tup ds) := by
  obtain ⟨G', z⟩ := rv_own h
  generalize r.od = o at z e
  cases z with
  | fz r => cases r with
    | tup k1 k2 => cases e; exact .tup k1 k2
    | _ => cases e
  | tup k1 k2 => exact .tup k1 (k2.rep e).2
  | _ => cases e
theorem v_add : VOk (rr X) (rvR X.K X.mg) (fun p H Q => ((rI0 (fun i j => V.int (i + j)) p.1 p.2 H Q ∨ (∃ i j, p.1 = .str i ∧ p.2 = .str j ∧ i.length + j.length ≤ sizeLine ∧ Q (.str (i ++ j)) H)) ∨ rCat p.1 p.2 H Q) ∨ rCatA X.K p.1 p.2 H Q) gAdd := by
  rintro B H G ⟨x, y⟩ ⟨r1, r2⟩ Q s ⟨G1, G2, _, h1, h2⟩ n q
  dsimp only [gAdd] at q h1 h2 ⊢
  split at q
  · rename_i i j e1 e2
    have z1 := rv_fz h1 e1
    have z2 := rv_fz h2 e2
    cases z1; cases z2
    exact .inl (.inl (.inl ⟨i, j, rfl, rfl, VPost.fz q s .int⟩))
  · rename_i i j e1 e2
    have z1 := rv_fz h1 e1
    have z2 := rv_fz h2 e2
    cases z1; cases z2
    split at q
    · rename_i hl
      exact .inl (.inl (.inr ⟨i, j, rfl, rfl, hl, VPost.fz q s .str⟩))
    · exact q.elim
  · split at q
    · rename_i xs ys e1 e2
      obtain ⟨p1, v1, rfl, a1, b1⟩ := rv_litems s h1 e1
      obtain ⟨p2, v2, rfl, a2, b2⟩ := rv_litems s h2 e2
      split at q
      · rename_i hl
        exact .inl (.inr ⟨p1, p2, v1, v2, rfl, rfl, a1, a2, by rw [b1.length, b2.length]; exact hl, fun p hp => VPost.lst q s (b1.append b2) hp⟩)
      · exact q.elim
    · split at q
      · rename_i xs ys e1 e2
        obtain ⟨p1, v1, rfl, a1, b1⟩ := rv_titems s h1 e1
        obtain ⟨p2, v2, rfl, a2, b2⟩ := rv_titems s h2 e2
        split at q
        · rename_i hl
          refine .inr ⟨p1, p2, v1, v2, rfl, rfl, a1, a2, by rw [b1.length, b2.length]; exact hl, fun e => ?_, fun _ e => ?_, fun _ _ p hp => VPost.tup q s (b1.append b2) hp⟩
          · have e' := (b1.nil_iff).mp e
            subst e'
            exact VPost.fz q s (rv_tfz h2 e2)
          · have e' := (b2.nil_iff).mp e
            subst e'
            rw [List.append_nil] at q
            exact VPost.fz q s (rv_tfz h1 e1)
        · exact q.elim
      · exact q.elim
theorem r_add (ha : PEr X W a fa) (hb : PEr X W b fb) : PEr X W (.BinOp a .Add b pos) (e2 gAdd fa fb) := r_op (((op_add.or op_add_str).or op_cat).or op_catA) v_add ha hb
theorem v_mul : VOk (rr X) (rvR X.K X.mg) (fun p H Q => (((rI CMul (fun i j => V.int (i * j)) p.1 p.2 H Q ∨ rI CMulW (fun i j => V.int (i * j)) p.1 p.2 H Q) ∨ rRep p.1 p.2 H Q) ∨ rRepT X.K p.1 p.2 H Q)) gMul := by
  rintro B H G ⟨x, y⟩ ⟨r1, r2⟩ Q s ⟨G1, G2, _, h1, h2⟩ n q
  dsimp only [gMul] at q h1 h2 ⊢
  split at q
  · rename_i i j e1 e2
    have z1 := rv_fz h1 e1
    have z2 := rv_fz h2 e2
    cases z1; cases z2
    split at q
    · rename_i hm
      have q' := VPost.fz (v := .int (i * j)) q s .int
      rcases hm with hm | hm | hm
      · exact .inl (.inl (.inl ⟨i, j, rfl, rfl, .inl hm, q'⟩))
      · exact .inl (.inl (.inl ⟨i, j, rfl, rfl, .inr hm, q'⟩))
      · exact .inl (.inl (.inr ⟨i, j, rfl, rfl, hm, q'⟩))
    · exact q.elim
  · rename_i k e2 _
    have z2 := rv_fz h2 e2
    cases z2
    split at q
    · rename_i xs e1
      obtain ⟨p1, v1, rfl, a1, b1⟩ := rv_litems s h1 e1
      split at q
      · rename_i hl
        exact .inl (.inr ⟨p1, k, v1, rfl, rfl, a1, hl.1, hl.2.1, by rw [b1.length]; exact hl.2.2, fun p hp => VPost.lst q s (b1.rep _) hp⟩)
      · exact q.elim
    · split at q
      · rename_i xs e1
        obtain ⟨p1, v1, rfl, a1, b1⟩ := rv_titems s h1 e1
        split at q
        · rename_i hl
          exact .inr ⟨p1, k, v1, rfl, rfl, a1, fun z => hl.1 (b1.nil_iff.mp z), hl.2.1, hl.2.2.1, by rw [b1.length]; exact hl.2.2.2, fun p hp => VPost.tup q s (b1.rep _) hp⟩
        · exact q.elim
      · exact q.elim
  · exact q.elim
theorem r_mul (ha : PEr X W a fa) (hb : PEr X W b fb) : PEr X W (.BinOp a .Mult b pos) (e2 gMul fa fb) := r_op (((op_mul.or op_mulW).or op_rep).or op_repT) v_mul ha hb
def gNeg (r : RV) : Option RV := match r.od with
  | .fz (.int i) => some (.own (.fz (.int (-i))))
  | _ => none
theorem r_neg (ha : PEr X W a fa) : PEr X W (.UnaryOp .USub a pos) (e1 gNeg fa) := by
  obtain ⟨ta, ha, ka⟩ := ha
  refine ⟨_, pe_un un_neg ha, ka.map (r := rU fun i => V.int (-i)) fun B H G x r Q s h n q => ?_⟩
  dsimp only [gNeg] at q
  split at q
  · rename_i i e
    have z := rv_fz h e
    cases z
    exact ⟨i, rfl, VPost.fz q s .int⟩
  · exact q.elim
/-! ### is None -/
def gIsN (p : RV × RV) : Option RV := match p.1.od, p.2.od with
  | .fz .non, .fz .non => some (.b true)
  | .un, _ => none
  | _, .fz .non => some (.b false)
  | _, _ => none
def gNotN (p : RV × RV) : Option RV := match p.1.od, p.2.od with
  | .fz .non, .fz .non => some (.b false)
  | .un, _ => none
  | _, .fz .non => some (.b true)
  | _, _ => none
theorem rv_non {K : PySem.W.Frag} {mg : Str → Option Value} {B H : Hp} {G : List Addr} {v : V} {r : RV} (h : rvR K mg B H G v r) : r.od ≠ .un → r.od ≠ .fz .non → v ≠ .non := by
  obtain ⟨G', q⟩ := rv_own h
  generalize r.od = o at q
  intro n0 n e
  subst e
  cases q with
  | un => exact n0 rfl
  | fz r => cases r; exact n rfl
theorem c_isN : CmpOk X .Is gIsN := by
  refine ⟨_, op_isN, ?_⟩
  rintro B H G ⟨x, y⟩ ⟨r1, r2⟩ Q s ⟨G1, G2, _, h1, h2⟩ n q
  dsimp only [gIsN] at q h1 h2 ⊢
  split at q
  · rename_i e1 e2
    have z1 := rv_fz h1 e1
    have z2 := rv_fz h2 e2
    cases z1; cases z2
    exact ⟨rfl, VPost.fz q s .bl⟩
  · exact q.elim
  · rename_i e2 n2 n1
    have z2 := rv_fz h2 e2
    cases z2
    refine ⟨rfl, ?_⟩
    rw [decide_eq_false (rv_non h1 (fun z => n1 z) fun z => n2 z)]
    exact VPost.fz q s .bl
  · exact q.elim
theorem c_notN : CmpOk X .IsNot gNotN := by
  refine ⟨_, op_notN, ?_⟩
  rintro B H G ⟨x, y⟩ ⟨r1, r2⟩ Q s ⟨G1, G2, _, h1, h2⟩ n q
  dsimp only [gNotN] at q h1 h2 ⊢
  split at q
  · rename_i e1 e2
    have z1 := rv_fz h1 e1
    have z2 := rv_fz h2 e2
    cases z1; cases z2
    exact ⟨rfl, VPost.fz q s .bl⟩
  · exact q.elim
  · rename_i e2 n2 n1
    have z2 := rv_fz h2 e2
    cases z2
    refine ⟨rfl, ?_⟩
    rw [decide_eq_false (rv_non h1 (fun z => n1 z) fun z => n2 z)]
    exact VPost.fz q s .bl
  · exact q.elim
end
end Tl
namespace Tl
open PySem PySem.Spec L2

section
variable {X : Cx} {W : WX} {a b c e : Expr} {es : List Expr} {f fa fb fc : Env → O RV} {pos : Pos}

/-! ### displays -/
def owns : List RV → Option (List OD)
  | [] => some []
  | .own o :: r => match owns r with
    | some os => some (o :: os)
    | none => none
  | .view _ :: _ => none
@[simp] theorem owns_nil : owns [] = some [] := rfl
@[simp] theorem owns_cons {o : OD} {r : List RV} : owns (.own o :: r) = (owns r).map (o :: ·) := by
  show (match owns r with | some os => some (o :: os) | none => none) = _
  cases owns r <;> rfl
theorem lsR_owns {K : PySem.W.Frag} {mg : Str → Option Value} {B H : Hp} {G : List Addr} {vs : List V} {rs : List RV} {os : List OD} (h : lsR (rvR K mg) B H G vs rs) (e : owns rs = some os) : OwnL K mg B H G vs os := by
  induction h generalizing os with
  | nil => cases e; exact .nil
  | @cons F1 G1 x a xs as r _ ih =>
    cases a with
    | view o => cases e
    | own o =>
      rw [owns_cons] at e
      cases q : owns as with
      | none => rw [q] at e; cases e
      | some os' => rw [q] at e; cases e; exact .cons r (ih q)
theorem lsR_len {α β : Type} {R : Rl α β} {B H : Hp} {G : List Addr} {xs : List α} {as : List β} (h : lsR R B H G xs as) : xs.length = as.length := by
  induction h with
  | nil => rfl
  | cons _ _ ih => simp [ih]
def gLst (rs : List RV) : Option RV := if rs.length ≤ 1000 then (owns rs).map fun os => .own (.lst os) else none
def gTup (rs : List RV) : Option RV := if rs.length ≤ 1000 then (owns rs).map fun os => match fzs os with
  | some ds => .own (.fz (.tup ds))
  | none => .own (.tup os) else none
theorem small {n : Nat} (h : n ≤ 1000) : n ≤ sizeLine := Nat.le_trans h (by decide)
theorem VPost.list {K : PySem.W.Frag} {mg : Str → Option Value} {B H : Hp} {G : List Addr} {vs : List V} {os : List OD} {Q : VK} (q : VPost (rvR K mg) B H G Q (some (.own (.lst os)))) (s : Same B H) (r : OwnL K mg B H G vs os) (n : G.Nodup) {p : Addr} (hp : H p = none) : Q (.ref p) (upd H p (.lst vs)) := by
  have hb : B p = none := s.free hp
  have np : ∀ a ∈ G, a ≠ p := fun a m e => by
    obtain ⟨_, u, z⟩ := r.there a m
    rw [e, hp] at z; cases z
  refine q (.ref p) B _ (p :: G) (.lst upd_same hb (r.mono (Same.refl _) fun a m => ⟨fun u e => by rw [upd_ne (np a m)]; exact e, (r.there a m).1⟩)) (fun a u e => ?_) (List.nodup_cons.mpr ⟨fun m => np p m rfl, n⟩) ⟨Same.refl _, fun a u e _ => ?_, fun _ _ _ _ b => b, fun a m => ?_⟩
  · have := s a u e
    rw [upd_ne (ne_of_none this hp)]; exact this
  · rw [upd_ne (ne_of_none e hp)]; exact e
  · rcases List.mem_cons.mp m with e | m
    · subst e; exact .inr hp
    · exact .inl m
theorem VPost.tuple {K : PySem.W.Frag} {mg : Str → Option Value} {B H : Hp} {G : List Addr} {vs : List V} {os : List OD} {Q : VK} (q : VPost (rvR K mg) B H G Q (some (.own (.tup os)))) (s : Same B H) (r : OwnL K mg B H G vs os) (n : G.Nodup) {p : Addr} (hp : H p = none) : Q (.ref p) (upd H p (.tup vs)) := by
  have hb : B p = none := s.free hp
  have sb : Same B (upd B p (.tup vs)) := fun a u e => by rw [upd_ne (ne_of_none e hb)]; exact e
  have np : ∀ a ∈ G, a ≠ p := fun a m e => by
    obtain ⟨_, u, z⟩ := r.there a m
    rw [e, hp] at z; cases z
  refine q (.ref p) (upd B p (.tup vs)) _ G (.tup (.inl (.inl upd_same)) (r.mono sb fun a m => ⟨fun u e => by rw [upd_ne (np a m)]; exact e, by rw [upd_ne (np a m)]; exact (r.there a m).1⟩)) (fun a u e => ?_) n ⟨sb, fun a u e _ => ?_, fun a u e _ b => ?_, fun a m => .inl m⟩
  · by_cases h : a = p
    · subst h; rw [upd_same] at e ⊢; exact e
    · rw [upd_ne h] at e ⊢; exact s a u e
  · rw [upd_ne (ne_of_none e hp)]; exact e
  · rw [upd_ne (ne_of_none e hp)]; exact b
theorem r_lst {fr : Env → O (List RV)} (h : PAr X W es fr) : PEr X W (.List es pos) (eL gLst fr) := by
  obtain ⟨t, h, k⟩ := h
  refine ⟨_, pe_lst h, k.map (r := fun (xs : List V) (H : Hp) (Q : VK) => xs.length ≤ sizeLine ∧ ∀ p, H p = none → Q (V.ref p) (upd H p (.lst xs))) fun B H G xs rs Q s r n q => ?_⟩
  dsimp only [gLst] at q
  split at q
  · rename_i hl
    cases e : owns rs with
    | none => rw [e] at q; exact q.elim
    | some os =>
      rw [e] at q
      exact ⟨by rw [lsR_len r]; exact small hl, fun p hp => VPost.list q s (lsR_owns r e) n hp⟩
  · exact q.elim
theorem r_tup {x1} {fr : Env → O (List RV)} (h : PAr X W es fr) : PEr X W (.Tuple es x1 pos) (eL gTup fr) := by
  obtain ⟨t, h, k⟩ := h
  refine ⟨_, pe_tup h, k.map (r := fun (xs : List V) (H : Hp) (Q : VK) => xs.length ≤ sizeLine ∧ ∀ p, H p = none → Q (V.ref p) (upd H p (.tup xs))) fun B H G xs rs Q s r n q => ?_⟩
  dsimp only [gTup] at q
  split at q
  · rename_i hl
    cases e : owns rs with
    | none => rw [e] at q; exact q.elim
    | some os =>
      rw [e] at q
      refine ⟨by rw [lsR_len r]; exact small hl, fun p hp => ?_⟩
      have z := lsR_owns r e
      dsimp only [Option.map] at q
      cases e2 : fzs os with
      | none => rw [e2] at q; exact VPost.tuple q s z n hp
      | some ds =>
        rw [e2] at q
        obtain ⟨e3, z'⟩ := z.rep e2
        exact VPost.tup q s z' hp
  · exact q.elim

/-! ### subscripts -/
/-- a part of what one has: own where the whole is -/
def RV.part (r : RV) (o : OD) : RV := match o with
  | .fz d => .own (.fz d)
  | o => match r with
    | .own _ => .own o
    | .view _ => .view o
def gIx (p : RV × RV) : Option RV :=
  match p.1.od, p.2.od with
  | .fz (.str z), .fz (.int i) => if z.length ≤ sizeLine then (atI z.cps.toList i).map fun c => .own (.fz (.str ⟨#[c]⟩)) else none
  | .lst os, .fz (.int i) => (atI os i).map p.1.part
  | .tup os, .fz (.int i) => (atI os i).map p.1.part
  | .fz (.lst ds), .fz (.int i) => (atI ds i).map fun d => .own (.fz d)
  | .fz (.tup ds), .fz (.int i) => (atI ds i).map fun d => .own (.fz d)
  | .fz (.scr ds), .fz (.int i) => (atI ds i).map fun d => .own (.fz d)
  | _, _ => none
theorem atI_len {α β : Type} {xs : List α} {ys : List β} {i : Int} {y : β} (hl : xs.length = ys.length) (h : atI ys i = some y) : ∃ j, ixN xs.length i = some j ∧ ys[j]? = some y := by
  unfold atI at h
  rw [hl]
  cases e : ixN ys.length i with
  | none => rw [e] at h; cases h
  | some j => rw [e] at h; exact ⟨j, rfl, h⟩
theorem RepL.at {K : PySem.W.Frag} {B : Hp} {vs : List V} {ds : List D} {i : Int} {d : D} (r : RepL K B vs ds) (h : atI ds i = some d) : ∃ v, atI vs i = some v ∧ Rep K B v d := by
  obtain ⟨j, h1, h2⟩ := atI_len r.length h
  obtain ⟨v, h3, h4⟩ := r.get h2
  exact ⟨v, by unfold atI; rw [h1]; exact h3, h4⟩
theorem OwnL.at {K : PySem.W.Frag} {mg : Str → Option Value} {B H : Hp} {F : List Addr} {vs : List V} {os : List OD} {i : Int} {o : OD} (r : OwnL K mg B H F vs os) (h : atI os i = some o) :
    ∃ v G, atI vs i = some v ∧ Own K mg B H G v o ∧ (∀ a ∈ G, a ∈ F) ∧ (F.Nodup → G.Nodup) := by
  obtain ⟨j, h1, h2⟩ := atI_len r.length h
  obtain ⟨v, G, h3, h4⟩ := r.get h2
  exact ⟨v, G, by unfold atI; rw [h1]; exact h3, h4⟩
/-- a part of what one has, handed on -/
theorem VPost.part {K : PySem.W.Frag} {mg : Str → Option Value} {B H : Hp} {G : List Addr} {v v2 : V} {r : RV} {o : OD} {Q : VK} (q : VPost (rvR K mg) B H G Q (some (r.part o))) (s : Same B H) (n : G.Nodup)
    (hr : rvR K mg B H G v r) (ho : ∀ F, Own K mg B H F v r.od → ∃ G2, Own K mg B H G2 v2 o ∧ (∀ a ∈ G2, a ∈ F) ∧ (F.Nodup → G2.Nodup)) : Q v2 H := by
  cases r with
  | own w =>
    obtain ⟨G2, h1, h2, h3⟩ := ho G hr
    have e : RV.part (.own w) o = .own o := by cases o <;> rfl
    rw [e] at q
    exact q v2 B H G2 h1 s (h3 n) ⟨Same.refl _, fun _ _ h _ => h, fun _ _ _ _ b => b, fun a m => .inl (h2 a m)⟩
  | view w =>
    obtain ⟨e, G', hr⟩ := hr
    subst e
    obtain ⟨G2, h1, h2, h3⟩ := ho G' hr
    cases o with
    | fz d => cases h1 with | fz z => exact VPost.fz q s z
    | _ => exact q v2 B H [] ⟨rfl, G2, h1⟩ s List.nodup_nil Frm.refl
theorem v_ix : VOk (rr X) (rvR X.K X.mg) (fun p H Q => rIx X.K p.1 p.2 H Q) gIx := by
  rintro B H G ⟨x, y⟩ ⟨r1, r2⟩ Q s ⟨G1, G2, eG, h1, h2⟩ n q
  have q0 : ∀ o, VPost (rvR X.K X.mg) B H G Q (some (r1.part o)) → VPost (rvR X.K X.mg) B H G1 Q (some (r1.part o)) := fun o z v B' H' G' a b c d =>
    z v B' H' G' a b c (d.wide (fun a m => by rw [eG]; exact List.mem_append_left _ m) fun a m => .inl m)
  have n1 : G1.Nodup := by rw [eG] at n; exact (List.nodup_append.mp n).1
  dsimp only [gIx] at q h1 h2 ⊢
  split at q
  · rename_i z i e1 e2
    have z1 := rv_fz h1 e1
    have z2 := rv_fz h2 e2
    cases z1; cases z2
    split at q
    · rename_i hl
      cases e : atI z.cps.toList i with
      | none => rw [e] at q; exact q.elim
      | some c => rw [e] at q; exact .inr (.inr ⟨z, i, c, rfl, rfl, hl, e, VPost.fz q s .str⟩)
    · exact q.elim
  · rename_i os i e1 e2
    have z2 := rv_fz h2 e2
    cases z2
    cases e : atI os i with
    | none => rw [e] at q; exact q.elim
    | some o =>
      rw [e] at q
      obtain ⟨G', k⟩ := rv_own h1
      rw [e1] at k
      cases k with
      | @lst p vs F' _ hp hb hr =>
        obtain ⟨v2, G2, a1, _⟩ := hr.at e
        refine .inl ⟨p, vs, i, v2, rfl, rfl, SqL.of hp, a1, VPost.part (q0 o q) s n1 h1 fun F k2 => ?_⟩
        rw [e1] at k2
        cases k2 with
        | lst hp2 hb2 hr2 =>
          rw [hp] at hp2; cases hp2
          obtain ⟨v3, G3, b1, b2, b3, b4⟩ := hr2.at e
          rw [a1] at b1; cases b1
          exact ⟨G3, b2, fun a m => List.mem_cons_of_mem _ (b3 a m), fun nd => b4 (List.nodup_cons.mp nd).2⟩
  · rename_i os i e1 e2
    have z2 := rv_fz h2 e2
    cases z2
    cases e : atI os i with
    | none => rw [e] at q; exact q.elim
    | some o =>
      rw [e] at q
      cases r1 with
      | own w =>
        dsimp only [RV.od] at e1
        subst e1
        cases h1 with
        | @tup p vs _ _ hp hr =>
          obtain ⟨v2, G2, a1, b2, b3, b4⟩ := hr.at e
          have ee : RV.part (.own (.tup os)) o = .own o := by cases o <;> rfl
          dsimp only [Option.map] at q
          rw [ee] at q
          refine .inr (.inl ⟨p, vs, i, v2, rfl, rfl, Same.seqT s hp, a1, q v2 B H G2 b2 s (b4 n1) ⟨Same.refl _, fun _ _ h _ => h, fun _ _ _ _ b => b, fun a m => .inl (by rw [eG]; exact List.mem_append_left _ (b3 a m))⟩⟩)
      | view w =>
        dsimp only [RV.od] at e1
        subst e1
        obtain ⟨eg, G', k⟩ := h1
        cases k with
        | @tup p vs _ _ hp hr =>
          obtain ⟨v2, G2, a1, b2, b3, b4⟩ := hr.at e
          refine .inr (.inl ⟨p, vs, i, v2, rfl, rfl, Same.seqT s hp, a1, ?_⟩)
          cases o with
          | fz d => cases b2 with | fz z => exact VPost.fz q s z
          | _ => exact q v2 B H [] ⟨rfl, G2, b2⟩ s List.nodup_nil Frm.none
  · rename_i ds i e1 e2
    have z1 := rv_fz h1 e1
    have z2 := rv_fz h2 e2
    cases z2
    cases e : atI ds i with
    | none => rw [e] at q; exact q.elim
    | some d =>
      rw [e] at q
      cases z1 with
      | @lst p vs _ hp hr =>
        obtain ⟨v2, a1, a2⟩ := hr.at e
        exact .inl ⟨p, vs, i, v2, rfl, rfl, SqL.of (s _ _ hp), a1, VPost.fz q s a2⟩
  · rename_i ds i e1 e2
    have z1 := rv_fz h1 e1
    have z2 := rv_fz h2 e2
    cases z2
    cases e : atI ds i with
    | none => rw [e] at q; exact q.elim
    | some d =>
      rw [e] at q
      cases z1 with
      | @tup p vs _ hp hr =>
        obtain ⟨v2, a1, a2⟩ := hr.at e
        exact .inr (.inl ⟨p, vs, i, v2, rfl, rfl, Same.seqT s hp, a1, VPost.fz q s a2⟩)
  · rename_i ds i e1 e2
    have z1 := rv_fz h1 e1
    have z2 := rv_fz h2 e2
    cases z2
    cases e : atI ds i with
    | none => rw [e] at q; exact q.elim
    | some d =>
      rw [e] at q
      cases z1 with
      | @scr p vs _ hp hr =>
        obtain ⟨v2, a1, a2⟩ := hr.at e
        exact .inl ⟨p, vs, i, v2, rfl, rfl, s.seq hp, a1, VPost.fz q s a2⟩
  · exact q.elim
theorem r_ix (ha : PEr X W a fa) (hb : PEr X W b fb) (hs : PlainIx b := by exact fun _ _ => rfl) : PEr X W (.Subscript a b pos) (e2 gIx fa fb) := by
  obtain ⟨ta, ha, ka⟩ := ha
  obtain ⟨tb, hb, kb⟩ := hb
  exact ⟨_, pe_ix ix_seq ha hb hs, ka.two kb v_ix⟩
end
end Tl
namespace Tl
open PySem PySem.Spec L2

/-! ### truth -/
def OD.tru : OD → Option Bool
  | .fz .non => some false
  | .fz (.bl b) => some b
  | .fz (.int i) => some (i != 0)
  | .fz (.str y) => if y.length ≤ sizeLine then some ((y.length : Int) != 0) else none
  | .fz (.lst ds) => some (!ds.isEmpty)
  | .fz (.scr ds) => some (!ds.isEmpty)
  | .fz (.tup ds) => some (!ds.isEmpty)
  | .lst os => some (!os.isEmpty)
  | .tup os => some (!os.isEmpty)
  | _ => none
def RV.bool? (r : RV) : Option Bool := match r.od with
  | .fz (.bl b) => some b
  | _ => none
def vbR : Rl V Bool := fun _ _ G v b => G = [] ∧ v = .bl b
theorem stb_vb : Stb vbR (fun _ => true) where
  there := fun B H G x a h => by obtain ⟨rfl, _⟩ := h; exact fun _ z => nomatch z
  keep := fun _ _ _ _ _ _ _ _ _ h _ _ _ => h

section
variable {X : Cx} {W : WX} {a b c e : Expr} {es rest : List Expr} {f fa fb fc : Env → O RV} {pos : Pos}
theorem isEmpty_eq {α β : Type} {xs : List α} {ys : List β} (h : xs.length = ys.length) : xs.isEmpty = ys.isEmpty := by
  cases xs <;> cases ys <;> first | rfl | simp at h
theorem rv_tru {K : PySem.W.Frag} {mg : Str → Option Value} {B H : Hp} {G : List Addr} {v : V} {r : RV} {k : Bool} (s : Same B H) (h : rvR K mg B H G v r) (e : r.od.tru = some k) : TruV K v H k := by
  obtain ⟨G', z⟩ := rv_own h
  generalize r.od = o at z e
  cases z with
  | fz r => cases r with
    | non => cases e; rfl
    | bl => cases e; rfl
    | int => cases e; rfl
    | str =>
      dsimp only [OD.tru] at e
      split at e
      · cases e; rename_i hl; exact ⟨hl, rfl⟩
      · cases e
    | tup k1 k2 => cases e; exact .inr (.inl ⟨_, Same.seqT s k1, by rw [isEmpty_eq k2.length]⟩)
    | lst k1 k2 => cases e; exact .inl ⟨_, SqL.of (s _ _ k1), by rw [isEmpty_eq k2.length]⟩
    | scr k1 k2 => cases e; exact .inl ⟨_, s.seq k1, by rw [isEmpty_eq k2.length]⟩
    | _ => cases e
  | lst k1 _ k2 => cases e; exact .inl ⟨_, SqL.of k1, by rw [isEmpty_eq k2.length]⟩
  | tup k1 k2 => cases e; exact .inr (.inl ⟨_, Same.seqT s k1, by rw [isEmpty_eq k2.length]⟩)
  | _ => cases e
theorem rv_bool {K : PySem.W.Frag} {mg : Str → Option Value} {B H : Hp} {G : List Addr} {v : V} {r : RV} {k : Bool} (h : rvR K mg B H G v r) (e : r.bool? = some k) : v = .bl k := by
  unfold RV.bool? at e
  split at e
  · rename_i b e2
    cases e
    have z := rv_fz h e2
    cases z; rfl
  · cases e

/-- what is wanted behind a step that gives a bool -/
theorem VPost.bo {B H : Hp} {G : List Addr} {b : Bool} {Q : Bool → Hp → Prop} (q : VPost boR B H G Q (some b)) (s : Same B H) : Q b H :=
  q b B H [] ⟨rfl, rfl⟩ s List.nodup_nil Frm.none
theorem VPost.vb {B H : Hp} {G : List Addr} {b : Bool} {Q : V → Hp → Prop} (q : VPost vbR B H G Q (some b)) (s : Same B H) : Q (.bl b) H :=
  q (.bl b) B H [] ⟨rfl, rfl⟩ s List.nodup_nil Frm.none

def tV (g : RV → Option Bool) (f : Env → O RV) : Env → O Bool := fun env => (f env).mapP g
/-- a plain expression as a test -/
theorem t_val (h : PEr X W e f) (he : ∀ whole, isTrue e X.env whole = (do let v ← whole; standAt e.pos; holding [v] (truthy v)) := by intro _; rfl) : PTr X W e (tV (fun r => r.od.tru) f) := by
  obtain ⟨t, h, k⟩ := h
  refine ⟨_, pt_truth h he, k.map (r := fun (x : V) (H : Hp) (Q : Bool → Hp → Prop) => ∃ k, TruV X.K x H k ∧ Q k H) fun B H G x r Q s h n q => ?_⟩
  cases e : r.od.tru with
  | none => rw [e] at q; exact q.elim
  | some k => rw [e] at q; exact ⟨k, rv_tru s h e, VPost.bo q s⟩
theorem t_c {op : CmpOp} {g : RV × RV → Option RV} (h : CmpOk X op g) (ha : PEr X W a fa) (hb : PEr X W b fb) (hm : behindInMarks op b = false := by first | exact nomark _ | with_unfolding_all rfl) :
    PTr X W (.Compare a [op] [b] pos) (tV RV.bool? (e2 g fa fb)) := by
  obtain ⟨r, ho, v⟩ := h
  obtain ⟨ta, ha, ka⟩ := ha
  obtain ⟨tb, hb, kb⟩ := hb
  refine ⟨_, pt_cmpR ho ha hb hm, (ka.two kb v).map (r := fun (x : V) (H : Hp) (Q : Bool → Hp → Prop) => ∃ k, x = .bl k ∧ Q k H) fun B H G x r Q s h n q => ?_⟩
  cases e : r.bool? with
  | none => rw [e] at q; exact q.elim
  | some k => rw [e] at q; exact ⟨k, rv_bool h e, VPost.bo q s⟩
/-! ### and, or, not -/
def bNot (f : Env → O Bool) : Env → O Bool := fun env => (f env).mapP fun b => some (!b)
def bAnd (f g : Env → O Bool) : Env → O Bool := fun env => (f env).andThen (fun _ => true) env (fun b e => if b = true then g e else .ok false) (fun _ c => c)
def bOr (f g : Env → O Bool) : Env → O Bool := fun env => (f env).andThen (fun _ => true) env (fun b e => if b = true then .ok true else g e) (fun _ c => c)
theorem t_not {f : Env → O Bool} (ha : PTr X W a f) : PTr X W (.UnaryOp .Not a pos) (bNot f) := by
  obtain ⟨ta, ha, ka⟩ := ha
  exact ⟨_, pt_not ha, ka.map (r := fun (x : Bool) (H : Hp) (Q : Bool → Hp → Prop) => Q (!x) H) fun B H G x b Q s h n q => by obtain ⟨_, rfl⟩ := h; exact VPost.bo q s⟩
theorem EOk.konst {α β : Type} {R : Rl α β} {x : α} {b : β} (h : ∀ B H, R B H [] x b) : EOk X W R (fun σ H Q => Q x H) (fun _ => .ok b) :=
  fun B H F σ env Q S q => q x B H [] (h B H) S.sub List.nodup_nil Frm.none
theorem EOk.ite {α β : Type} {R : Rl α β} {t u : TX α} {f g : Env → O β} {b : Bool} (h1 : EOk X W R t f) (h2 : EOk X W R u g) : EOk X W R (fun σ H Q => if b = true then t σ H Q else u σ H Q) (fun env => if b = true then f env else g env) := by
  intro B H F σ env Q S q
  cases b with
  | true => exact h1 B H F σ env Q S q
  | false => exact h2 B H F σ env Q S q
theorem EOk.and {t u : TT} {f g : Env → O Bool} (h1 : EOk X W boR t f) (h2 : EOk X W boR u g) : EOk X W boR (tAnd t u) (bAnd f g) := by
  refine EOk.andThen (R'' := boR) (jx := fun _ c => c) (jb := fun _ c => c) (u := fun b σ H Q => if b = true then u σ H Q else Q false H) stb_bo stb_bo (fun B H G1 G2 x y a b h h' => ⟨by rw [h.1, h'.1]; rfl, h'.2⟩) h1 fun x a hx => ?_
  obtain ⟨_, _, _, _, e⟩ := hx
  subst e
  exact EOk.ite h2 (EOk.konst fun _ _ => ⟨rfl, rfl⟩)
theorem EOk.or {t u : TT} {f g : Env → O Bool} (h1 : EOk X W boR t f) (h2 : EOk X W boR u g) : EOk X W boR (tOr t u) (bOr f g) := by
  refine EOk.andThen (R'' := boR) (jx := fun _ c => c) (jb := fun _ c => c) (u := fun b σ H Q => if b = true then Q true H else u σ H Q) stb_bo stb_bo (fun B H G1 G2 x y a b h h' => ⟨by rw [h.1, h'.1]; rfl, h'.2⟩) h1 fun x a hx => ?_
  obtain ⟨_, _, _, _, e⟩ := hx
  subst e
  exact EOk.ite (EOk.konst fun _ _ => ⟨rfl, rfl⟩) h2
theorem w_and1 {f : Env → O Bool} (ha : PTr X W a f) : PWr X W (.BoolOp .And [a] pos) f := by
  obtain ⟨ta, ha, ka⟩ := ha
  exact ⟨_, pw_and1 ha, ka⟩
theorem w_or1 {f : Env → O Bool} (ha : PTr X W a f) : PWr X W (.BoolOp .Or [a] pos) f := by
  obtain ⟨ta, ha, ka⟩ := ha
  exact ⟨_, pw_or1 ha, ka⟩
theorem w_and {f g : Env → O Bool} (ha : PTr X W a f) (hb : PWr X W (.BoolOp .And (b :: rest) pos) g) : PWr X W (.BoolOp .And (a :: b :: rest) pos) (bAnd f g) := by
  obtain ⟨ta, ha, ka⟩ := ha
  obtain ⟨tb, hb, kb⟩ := hb
  exact ⟨_, pw_and ha hb, ka.and kb⟩
theorem w_or {f g : Env → O Bool} (ha : PTr X W a f) (hb : PWr X W (.BoolOp .Or (b :: rest) pos) g) : PWr X W (.BoolOp .Or (a :: b :: rest) pos) (bOr f g) := by
  obtain ⟨ta, ha, ka⟩ := ha
  obtain ⟨tb, hb, kb⟩ := hb
  exact ⟨_, pw_or ha hb, ka.or kb⟩
theorem t_w {f : Env → O Bool} (h : PWr X W e f) : PTr X W e f := by
  obtain ⟨t, h, k⟩ := h
  exact ⟨t, h.pt, k⟩
/-- as values: of bools -/
def eB (f : Env → O Bool) : Env → O RV := fun env => (f env).mapP fun b => some (.own (.fz (.bl b)))
def eAnd (f g : Env → O RV) : Env → O RV := fun env => ((f env).mapP RV.bool?).andThen (fun _ => true) env (fun b e => if b = true then g e else .ok (.own (.fz (.bl false)))) (fun _ c => c)
def eOr (f g : Env → O RV) : Env → O RV := fun env => ((f env).mapP RV.bool?).andThen (fun _ => true) env (fun b e => if b = true then .ok (.own (.fz (.bl true))) else g e) (fun _ c => c)
theorem EOk.vb {t : TE} {f : Env → O RV} (h : EOk X W (rvR X.K X.mg) t f) : EOk X W vbR t (fun env => (f env).mapP RV.bool?) := by
  refine h.map (r := fun (x : V) (H : Hp) (Q : VK) => Q x H) fun B H G x r Q s h n q => ?_
  cases e : r.bool? with
  | none => rw [e] at q; exact q.elim
  | some k => rw [e] at q; rw [rv_bool h e]; exact VPost.vb q s
theorem r_one {op} (h : PEr X W a f) : PEr X W (.BoolOp op [a] pos) f := by
  obtain ⟨t, h, k⟩ := h
  exact ⟨_, pe_one h, k⟩
theorem r_land (ha : PEr X W a fa) (hb : PEr X W (.BoolOp .And (b :: rest) pos) fb) : PEr X W (.BoolOp .And (a :: b :: rest) pos) (eAnd fa fb) := by
  obtain ⟨ta, ha, ka⟩ := ha
  obtain ⟨tb, hb, kb⟩ := hb
  refine ⟨_, pe_andT ha hb, EOk.andThen (R'' := rvR X.K X.mg) (jx := fun _ c => c) (jb := fun _ c => c) (u := fun x σ H Q => ∃ k, TruV X.K x H k ∧ if k = true then tb σ H Q else Q x H) stb_vb stb_rv (fun B H G1 G2 x y a b h h' => by rw [h.1]; exact h') ka.vb fun x k hx => ?_⟩
  obtain ⟨_, _, _, _, e⟩ := hx
  subst e
  intro B H F σ env Q S q
  refine ⟨k, rfl, ?_⟩
  cases k with
  | true => exact kb B H F σ env Q S q
  | false => exact q (.bl false) B H [] (.fz .bl) S.sub List.nodup_nil Frm.none
theorem r_lor (ha : PEr X W a fa) (hb : PEr X W (.BoolOp .Or (b :: rest) pos) fb) : PEr X W (.BoolOp .Or (a :: b :: rest) pos) (eOr fa fb) := by
  obtain ⟨ta, ha, ka⟩ := ha
  obtain ⟨tb, hb, kb⟩ := hb
  refine ⟨_, pe_orT ha hb, EOk.andThen (R'' := rvR X.K X.mg) (jx := fun _ c => c) (jb := fun _ c => c) (u := fun x σ H Q => ∃ k, TruV X.K x H k ∧ if k = true then Q x H else tb σ H Q) stb_vb stb_rv (fun B H G1 G2 x y a b h h' => by rw [h.1]; exact h') ka.vb fun x k hx => ?_⟩
  obtain ⟨_, _, _, _, e⟩ := hx
  subst e
  intro B H F σ env Q S q
  refine ⟨k, rfl, ?_⟩
  cases k with
  | false => exact kb B H F σ env Q S q
  | true => exact q (.bl true) B H [] (.fz .bl) S.sub List.nodup_nil Frm.none
theorem r_not (ha : PEr X W a fa) : PEr X W (.UnaryOp .Not a pos) (eB (bNot (tV (fun r => r.od.tru) fa))) := by
  obtain ⟨ta, ha, ka⟩ := ha
  have k1 : EOk X W boR (fun σ H Q => ta σ H fun x H1 => ∃ k, TruV X.K x H1 k ∧ Q k H1) (tV (fun r => r.od.tru) fa) := ka.map (r := fun (x : V) (H : Hp) (Q : Bool → Hp → Prop) => ∃ k, TruV X.K x H k ∧ Q k H) fun B H G x r Q s h n q => by
    cases e : r.od.tru with
    | none => rw [e] at q; exact q.elim
    | some k => rw [e] at q; exact ⟨k, rv_tru s h e, VPost.bo q s⟩
  have k2 : EOk X W boR (fun σ H Q => ta σ H fun x H1 => ∃ k, TruV X.K x H1 k ∧ Q (!k) H1) (bNot (tV (fun r => r.od.tru) fa)) := k1.map (r := fun (x : Bool) (H : Hp) (Q : Bool → Hp → Prop) => Q (!x) H) fun B H G x b Q s h n q => by obtain ⟨_, rfl⟩ := h; exact VPost.bo q s
  exact ⟨_, pe_notT ha, k2.map (r := fun (x : Bool) (H : Hp) (Q : VK) => Q (.bl x) H) fun B H G x b Q s h n q => by obtain ⟨_, rfl⟩ := h; exact VPost.fz q s .bl⟩
/-- a test's outcome as a value (not, comparisons): where the value of a test-like expression is wanted -/
def bIf {β : Type} (c : Env → O Bool) (f g : Env → O β) : Env → O β := fun env => (c env).andThen (fun _ => true) env (fun b e => if b = true then f e else g e) (fun _ d => d)
theorem r_ifx {fc : Env → O Bool} (hc : PTr X W c fc) (ha : PEr X W a fa) (hb : PEr X W b fb) : PEr X W (.IfExp c a b pos) (bIf fc fa fb) := by
  obtain ⟨tc, hc, kc⟩ := hc
  obtain ⟨ta, ha, ka⟩ := ha
  obtain ⟨tb, hb, kb⟩ := hb
  refine ⟨_, pe_ifExp hc ha hb, EOk.andThen (R'' := rvR X.K X.mg) (jx := fun _ c => c) (jb := fun _ c => c) (u := fun b σ H Q => if b = true then ta σ H Q else tb σ H Q) stb_bo stb_rv (fun B H G1 G2 x y a b h h' => by rw [h.1]; exact h') kc fun x k hx => ?_⟩
  obtain ⟨_, _, _, _, e⟩ := hx
  subst e
  exact EOk.ite ka kb
/-! ### a op b op c, b an int -/
def ch1 (g : RV × RV → Option RV) (p : RV × RV) : Option (Bool × Int) :=
  match p.2.od with
  | .fz (.int j) => match g p with
    | some r => match r.bool? with
      | some k => some (k, j)
      | none => none
    | none => none
  | _ => none
def e3c (g g' : RV × RV → Option RV) (fa fb fc : Env → O RV) : Env → O RV := fun env =>
  (((fa env).andThen RV.safe env (fun _ e => fb e) Prod.mk).mapP (ch1 g)).andThen (fun _ => true) env (fun p e => if p.1 = true then (fc e).mapP (fun r => g' (.own (.fz (.int p.2)), r)) else .ok (.own (.fz (.bl false)))) (fun _ c => c)
def chR : Rl (V × V) (Bool × Int) := fun _ _ G v p => G = [] ∧ v = (.bl p.1, .int p.2)
theorem stb_ch : Stb chR (fun _ => true) where
  there := fun B H G x a h => by obtain ⟨rfl, _⟩ := h; exact fun _ z => nomatch z
  keep := fun _ _ _ _ _ _ _ _ _ h _ _ _ => h
theorem VPost.none_elim {β γ : Type} {R' : Rl γ β} {B H : Hp} {G : List Addr} {Q : γ → Hp → Prop} (q : VPost R' B H G Q none) : False := q
theorem EOk.chain {r r' : R2} {g g' : RV × RV → Option RV} {ta tb tc : TE} (v : VOk (prR (rvR X.K X.mg) (rvR X.K X.mg)) (rvR X.K X.mg) (fun p => r p.1 p.2) g) (v' : VOk (prR (rvR X.K X.mg) (rvR X.K X.mg)) (rvR X.K X.mg) (fun p => r' p.1 p.2) g')
    (ka : EOk X W (rvR X.K X.mg) ta fa) (kb : EOk X W (rvR X.K X.mg) tb fb) (kc : EOk X W (rvR X.K X.mg) tc fc) : EOk X W (rvR X.K X.mg) (tChain r r' ta tb tc) (e3c g g' fa fb fc) := by
  have k1 : EOk X W (prR (rvR X.K X.mg) (rvR X.K X.mg)) (fun σ H Q => ta σ H fun x H1 => tb σ H1 fun y H2 => Q (x, y) H2) (fun env => (fa env).andThen RV.safe env (fun _ e => fb e) Prod.mk) :=
    EOk.andThen (jx := Prod.mk) (jb := Prod.mk) (R'' := prR (rvR X.K X.mg) (rvR X.K X.mg)) (u := fun _ => tb) stb_rv stb_rv (fun _ _ G1 G2 _ _ _ _ a b => ⟨G1, G2, rfl, a, b⟩) ka fun _ _ _ => kb
  have k2 : EOk X W chR (fun σ H Q => ta σ H fun x H1 => tb σ H1 fun y H2 => r x y H2 fun z H3 => Q (z, y) H3) (fun env => ((fa env).andThen RV.safe env (fun _ e => fb e) Prod.mk).mapP (ch1 g)) :=
    k1.map (R' := chR) (r := fun (p : V × V) (H : Hp) (Q : V × V → Hp → Prop) => r p.1 p.2 H fun z H3 => Q (z, p.2) H3) fun B H G x p Q s h n q => by
      refine v B H G x p _ s h n ?_
      obtain ⟨G1, G2, _, h1, h2⟩ := h
      dsimp only [ch1] at q
      split at q
      · rename_i j e2
        have z2 := rv_fz h2 e2
        cases e : g p with
        | none => rw [e] at q; exact q.elim
        | some w =>
          rw [e] at q
          dsimp only at q
          cases e3 : w.bool? with
          | none => rw [e3] at q; exact q.elim
          | some k =>
            rw [e3] at q
            intro y B' H' G' r1 s1 n1 f1
            rw [rv_bool r1 e3]
            generalize x.2 = x2 at z2
            cases z2
            exact q (.bl k, .int j) B' H' [] ⟨rfl, rfl⟩ s1 List.nodup_nil (f1.trans Frm.none)
      · exact q.elim
  refine EOk.andThen (R'' := rvR X.K X.mg) (jx := fun _ c => c) (jb := fun _ c => c) (u := fun z σ H Q => ∃ k, z.1 = .bl k ∧ if k = true then tc σ H fun w' H4 => r' z.2 w' H4 Q else Q (.bl false) H) stb_ch stb_rv (fun B H G1 G2 x y a b h h' => by rw [h.1]; exact h') k2 fun x p hx => ?_
  obtain ⟨_, _, _, _, e⟩ := hx
  subst e
  obtain ⟨k, j⟩ := p
  intro B H F σ env Q S q
  refine ⟨k, rfl, ?_⟩
  cases k with
  | false => exact q (.bl false) B H [] (.fz .bl) S.sub List.nodup_nil Frm.none
  | true =>
    refine (kc.map (R' := rvR X.K X.mg) (r := fun (w : V) (H : Hp) (Q : VK) => r' (.int j) w H Q) (g := fun r => g' (.own (.fz (.int j)), r)) fun B H G w a Q s h n q => ?_) B H F σ env Q S q
    exact v' B H G (.int j, w) (.own (.fz (.int j)), a) Q s ⟨[], G, rfl, .fz .int, h⟩ n q
theorem r_chain {op op' : CmpOp} {g g' : RV × RV → Option RV} (h : CmpOk X op g) (h' : CmpOk X op' g') (ha : PEr X W a fa) (hb : PEr X W b fb) (hc : PEr X W c fc) (hm : lastMarks [op, op'] [b, c] = false := by with_unfolding_all rfl) :
    PEr X W (.Compare a [op, op'] [b, c] pos) (e3c g g' fa fb fc) := by
  obtain ⟨r, ho, v⟩ := h
  obtain ⟨r', ho', v'⟩ := h'
  obtain ⟨ta, ha, ka⟩ := ha
  obtain ⟨tb, hb, kb⟩ := hb
  obtain ⟨tc, hc, kc⟩ := hc
  exact ⟨_, pe_chain ho ho' ha hb hc hm, EOk.chain v v' ka kb kc⟩
theorem t_chain {op op' : CmpOp} {g g' : RV × RV → Option RV} (h : CmpOk X op g) (h' : CmpOk X op' g') (ha : PEr X W a fa) (hb : PEr X W b fb) (hc : PEr X W c fc) (hm : lastMarks [op, op'] [b, c] = false := by with_unfolding_all rfl) :
    PTr X W (.Compare a [op, op'] [b, c] pos) (tV RV.bool? (e3c g g' fa fb fc)) := by
  obtain ⟨r, ho, v⟩ := h
  obtain ⟨r', ho', v'⟩ := h'
  obtain ⟨ta, ha, ka⟩ := ha
  obtain ⟨tb, hb, kb⟩ := hb
  obtain ⟨tc, hc, kc⟩ := hc
  refine ⟨_, pt_chain ho ho' ha hb hc hm, (EOk.chain v v' ka kb kc).map (r := fun (x : V) (H : Hp) (Q : Bool → Hp → Prop) => ∃ k, x = .bl k ∧ Q k H) fun B H G x r Q s h n q => ?_⟩
  cases e : r.bool? with
  | none => rw [e] at q; exact q.elim
  | some k => rw [e] at q; exact ⟨k, rv_bool h e, VPost.bo q s⟩
end
end Tl
namespace Tl
open PySem PySem.Spec L2

/-! ### owned data taken as plain -/
mutual
def frz : OD → Option D
  | .un => none
  | .fz d => some d
  | .lst os => (frzL os).map .lst
  | .tup os => (frzL os).map .tup
  | .dK kvs => (frzK kvs).map .dK
  | .dT kvs => (frzT kvs).map .dT
  | .ins _ _ => none
  | .fzi _ _ => none
  | .exc _ => none
def frzL : List OD → Option (List D)
  | [] => some []
  | o :: os => match frz o, frzL os with
    | some d, some ds => some (d :: ds)
    | _, _ => none
def frzK : List (Key × OD) → Option (List (Key × D))
  | [] => some []
  | (k, o) :: os => match frz o, frzK os with
    | some d, some ds => some ((k, d) :: ds)
    | _, _ => none
def frzT : List (List Key × OD) → Option (List (List Key × D))
  | [] => some []
  | (k, o) :: os => match frz o, frzT os with
    | some d, some ds => some ((k, d) :: ds)
    | _, _ => none
end
theorem frzK_keys : ∀ {kvs : List (Key × OD)} {ds}, frzK kvs = some ds → kvs.map (·.1) = ds.map (·.1) ∧ frzL (kvs.map (·.2)) = some (ds.map (·.2))
  | [], ds, e => by cases e; exact ⟨rfl, rfl⟩
  | (k, o) :: os, ds, e => by
    unfold frzK at e
    split at e
    · rename_i d ds' e1 e2
      cases e
      obtain ⟨h1, h2⟩ := frzK_keys e2
      refine ⟨by simp [h1], ?_⟩
      show frzL (o :: os.map (·.2)) = _
      unfold frzL
      rw [e1, h2]
      rfl
    · cases e
theorem frzT_keys : ∀ {kvs : List (List Key × OD)} {ds}, frzT kvs = some ds → kvs.map (·.1) = ds.map (·.1) ∧ frzL (kvs.map (·.2)) = some (ds.map (·.2))
  | [], ds, e => by cases e; exact ⟨rfl, rfl⟩
  | (k, o) :: os, ds, e => by
    unfold frzT at e
    split at e
    · rename_i d ds' e1 e2
      cases e
      obtain ⟨h1, h2⟩ := frzT_keys e2
      refine ⟨by simp [h1], ?_⟩
      show frzL (o :: os.map (·.2)) = _
      unfold frzL
      rw [e1, h2]
      rfl
    · cases e
@[simp] theorem frzL_nil : frzL [] = some [] := by unfold frzL; rfl
@[simp] theorem frzL_cons {o : OD} {os : List OD} : frzL (o :: os) = (frz o).bind fun d => (frzL os).map fun ds => d :: ds := by
  rw [frzL]
  cases frz o <;> cases frzL os <;> rfl
@[simp] theorem frz_fz {d : D} : frz (.fz d) = some d := by unfold frz; rfl
@[simp] theorem frz_lst {os : List OD} : frz (.lst os) = (frzL os).map .lst := by rw [frz]
@[simp] theorem frz_tup {os : List OD} : frz (.tup os) = (frzL os).map .tup := by rw [frz]
@[simp] theorem frzL_map {α : Type} {xs : List α} {f : α → D} : frzL (xs.map fun x => .fz (f x)) = some (xs.map f) := by
  induction xs with
  | nil => simp
  | cons x xs ih => simp [ih]
@[simp] theorem frzL_mapfz {ds : List D} : frzL (ds.map OD.fz) = some ds := by
  have := frzL_map (xs := ds) (f := id)
  simpa using this
section
variable {K : PySem.W.Frag} {mg : Str → Option Value} {B B' H H' : Hp}
mutual
theorem Own.frz (s : Same B B') : ∀ {F : List Addr} {v : V} {o : OD} {d : D}, Own K mg B H F v o → Tl.frz o = some d → (∀ a ∈ F, ∀ u, H a = some u → B' a = some u) → Rep K B' v d
  | _, _, _, _, .fz r, e, _ => by rw [frz_fz] at e; cases e; exact r.mono s
  | _, _, _, _, .lst (os := os) h b r, e, k => by
    rw [frz_lst] at e
    cases q : frzL os with
    | none => rw [q] at e; cases e
    | some ds => rw [q] at e; cases e; exact .lst (k _ List.mem_cons_self _ h) (OwnL.frz s r q fun a m => k a (List.mem_cons_of_mem _ m))
  | _, _, _, _, .tup (os := os) h r, e, k => by
    rw [frz_tup] at e
    cases q : frzL os with
    | none => rw [q] at e; cases e
    | some ds => rw [q] at e; cases e; exact .tup (Same.seqT s h) (OwnL.frz s r q k)
  | _, _, _, _, .dK (os := os) h b ke r, e, k => by
    rw [Tl.frz] at e
    cases q : frzK os with
    | none => rw [q] at e; cases e
    | some ds =>
      rw [q] at e; cases e
      obtain ⟨q1, q2⟩ := frzK_keys q
      exact .dK (k _ List.mem_cons_self _ h) (ke.trans q1) (OwnL.frz s r q2 fun a m => k a (List.mem_cons_of_mem _ m))
  | _, _, _, _, .dT (os := os) h b ke r, e, k => by
    rw [Tl.frz] at e
    cases q : frzT os with
    | none => rw [q] at e; cases e
    | some ds =>
      rw [q] at e; cases e
      obtain ⟨q1, q2⟩ := frzT_keys q
      exact .dT (k _ List.mem_cons_self _ h) (ke.trans q1) (OwnL.frz s r q2 fun a m => k a (List.mem_cons_of_mem _ m))
  | _, _, _, _, .ins .., e, _ => by rw [Tl.frz] at e; cases e
  | _, _, _, _, .fzi .., e, _ => by rw [Tl.frz] at e; cases e
theorem OwnL.frz (s : Same B B') : ∀ {F : List Addr} {vs : List V} {os : List OD} {ds : List D}, OwnL K mg B H F vs os → frzL os = some ds → (∀ a ∈ F, ∀ u, H a = some u → B' a = some u) → RepL K B' vs ds
  | _, _, _, _, .nil, e, _ => by rw [frzL_nil] at e; cases e; exact .nil
  | _, _, _, _, .cons (o := o) (os := os) r t, e, k => by
    rw [frzL_cons] at e
    cases q : Tl.frz o with
    | none => rw [q] at e; cases e
    | some d =>
      rw [q] at e
      cases q2 : frzL os with
      | none => rw [q2] at e; cases e
      | some ds => rw [q2] at e; cases e; exact .cons (Own.frz s r q fun a m => k a (List.mem_append_left _ m)) (OwnL.frz s t q2 fun a m => k a (List.mem_append_right _ m))
end

/-! ### no plain list or dict within -/
mutual
def nfl : D → Bool
  | .non => true
  | .bl _ => true
  | .int _ => true
  | .str _ => true
  | .tup ds => nflL ds
  | .lst _ => false
  | .scr _ => false
  | .dK _ => false
  | .dT _ => false
def nflL : List D → Bool
  | [] => true
  | d :: ds => nfl d && nflL ds
end
mutual
def nfo : OD → Bool
  | .un => true
  | .fz d => nfl d
  | .lst os => nfoL os
  | .tup os => nfoL os
  | .dK kvs => nfoK kvs
  | .dT kvs => nfoT kvs
  | .ins _ fs => nfoS fs
  | .fzi _ _ => false
  | .exc _ => true
def nfoL : List OD → Bool
  | [] => true
  | o :: os => nfo o && nfoL os
def nfoK : List (Key × OD) → Bool
  | [] => true
  | (_, o) :: os => nfo o && nfoK os
def nfoT : List (List Key × OD) → Bool
  | [] => true
  | (_, o) :: os => nfo o && nfoT os
def nfoS : List (Str × OD) → Bool
  | [] => true
  | (_, o) :: os => nfo o && nfoS os
end
theorem nfoK_L : ∀ {kvs : List (Key × OD)}, nfoK kvs = nfoL (kvs.map (·.2))
  | [] => by simp [nfoK, nfoL]
  | (k, o) :: r => by simp [nfoK, nfoL, nfoK_L (kvs := r)]
theorem nfoT_L : ∀ {kvs : List (List Key × OD)}, nfoT kvs = nfoL (kvs.map (·.2))
  | [] => by simp [nfoT, nfoL]
  | (k, o) :: r => by simp [nfoT, nfoL, nfoT_L (kvs := r)]
theorem nfoS_L : ∀ {kvs : List (Str × OD)}, nfoS kvs = nfoL (kvs.map (·.2))
  | [] => by simp [nfoS, nfoL]
  | (k, o) :: r => by simp [nfoS, nfoL, nfoS_L (kvs := r)]
/-- what no tuple is -/
def noTup : HO → Bool
  | .tup _ => false
  | .frz _ _ => false
  | _ => true
mutual
theorem Own.kind : ∀ {F : List Addr} {v : V} {o : OD}, Own K mg B H F v o → ∀ a ∈ F, ∃ u, H a = some u ∧ noTup u = true
  | _, _, _, .fz _ => fun _ h => nomatch h
  | _, _, _, .un => fun _ h => nomatch h
  | _, _, _, .fzi .. => fun _ h => nomatch h
  | _, _, _, .lst h b r => fun a ha => by
    rcases List.mem_cons.mp ha with e | ha
    · subst e; exact ⟨_, h, rfl⟩
    · exact OwnL.kind r a ha
  | _, _, _, .tup _ r => fun a ha => OwnL.kind r a ha
  | _, _, _, .dK h b _ r => fun a ha => by
    rcases List.mem_cons.mp ha with e | ha
    · subst e; exact ⟨_, h, rfl⟩
    · exact OwnL.kind r a ha
  | _, _, _, .dT h b _ r => fun a ha => by
    rcases List.mem_cons.mp ha with e | ha
    · subst e; exact ⟨_, h, rfl⟩
    · exact OwnL.kind r a ha
  | _, _, _, .ins h b h2 b2 _ _ r => fun a ha => by
    rcases List.mem_cons.mp ha with e | ha
    · subst e; exact ⟨_, h, rfl⟩
    · rcases List.mem_cons.mp ha with e | ha
      · subst e; exact ⟨_, h2, rfl⟩
      · exact OwnL.kind r a ha
theorem OwnL.kind : ∀ {F : List Addr} {vs : List V} {os : List OD}, OwnL K mg B H F vs os → ∀ a ∈ F, ∃ u, H a = some u ∧ noTup u = true
  | _, _, _, .nil => fun _ h => nomatch h
  | _, _, _, .cons r t => fun a ha => (List.mem_append.mp ha).elim (Own.kind r a) (OwnL.kind t a)
end
/-- B without what stands at L -/
def less (B : Hp) (L : List Addr) : Hp := fun a => if a ∈ L then none else B a
/-- B with what stands in H at L -/
def more (B H : Hp) (L : List Addr) : Hp := fun a => if a ∈ L then H a else B a
theorem seqT_less {L : List Addr} {p : Addr} {vs : List V} (k : ∀ a ∈ L, ∀ u, B a = some u → noTup u = true) (h : SqT K B p vs) : SqT K (less B L) p vs := by
  have z : ∀ u, B p = some u → noTup u = false → less B L p = some u := fun u e n => by
    unfold less
    by_cases m : p ∈ L
    · rw [k p m u e] at n; cases n
    · rw [if_neg m]; exact e
  rcases h with (h | ⟨o, h⟩) | h
  · exact .inl (.inl (z _ h rfl))
  · exact .inl (.inr ⟨o, z _ h rfl⟩)
  · exact .inr h
mutual
theorem Rep.less {L : List Addr} (k : ∀ a ∈ L, ∀ u, B a = some u → noTup u = true) : ∀ {v : V} {d : D}, Rep K B v d → nfl d = true → Rep K (less B L) v d
  | _, _, .non, _ => .non
  | _, _, .bl, _ => .bl
  | _, _, .int, _ => .int
  | _, _, .str, _ => .str
  | _, _, .tup h r, e => by rw [nfl] at e; exact .tup (seqT_less k h) (RepL.less k r e)
  | _, _, .lst _ _, e => by rw [nfl] at e; cases e
  | _, _, .scr _ _, e => by rw [nfl] at e; cases e
  | _, _, .dK _ _ _, e => by rw [nfl] at e; cases e
  | _, _, .dT _ _ _, e => by rw [nfl] at e; cases e
theorem RepL.less {L : List Addr} (k : ∀ a ∈ L, ∀ u, B a = some u → noTup u = true) : ∀ {vs : List V} {ds : List D}, RepL K B vs ds → nflL ds = true → RepL K (less B L) vs ds
  | _, _, .nil, _ => .nil
  | _, _, .cons r t, e => by
    rw [nflL, Bool.and_eq_true] at e
    exact .cons (Rep.less k r e.1) (RepL.less k t e.2)
end
theorem less_none {L : List Addr} {a : Addr} (h : B a = none) : less B L a = none := by
  unfold less; split
  · rfl
  · exact h
mutual
theorem Own.less {L : List Addr} (k : ∀ a ∈ L, ∀ u, B a = some u → noTup u = true) : ∀ {F : List Addr} {v : V} {o : OD}, Own K mg B H F v o → nfo o = true → Own K mg (less B L) H F v o
  | _, _, _, .fz r, e => by rw [nfo] at e; exact .fz (r.less k e)
  | _, _, _, .un, _ => .un
  | _, _, _, .fzi .., e => by rw [nfo] at e; cases e
  | _, _, _, .lst h b r, e => by rw [nfo] at e; exact .lst h (less_none b) (OwnL.less k r e)
  | _, _, _, .tup h r, e => by rw [nfo] at e; exact .tup (seqT_less k h) (OwnL.less k r e)
  | _, _, _, .dK h b ke r, e => by rw [nfo, nfoK_L] at e; exact .dK h (less_none b) ke (OwnL.less k r e)
  | _, _, _, .dT h b ke r, e => by rw [nfo, nfoT_L] at e; exact .dT h (less_none b) ke (OwnL.less k r e)
  | _, _, _, .ins h b h2 b2 g ke r, e => by rw [nfo, nfoS_L] at e; exact .ins h (less_none b) h2 (less_none b2) g ke (OwnL.less k r e)
theorem OwnL.less {L : List Addr} (k : ∀ a ∈ L, ∀ u, B a = some u → noTup u = true) : ∀ {F : List Addr} {vs : List V} {os : List OD}, OwnL K mg B H F vs os → nfoL os = true → OwnL K mg (less B L) H F vs os
  | _, _, _, .nil, _ => .nil
  | _, _, _, .cons r t, e => by
    rw [nfoL, Bool.and_eq_true] at e
    exact .cons (Own.less k r e.1) (OwnL.less k t e.2)
end
/-! instances taken as they stand -/
def frzS : List (Str × OD) → Option (List (Str × OD))
  | [] => some []
  | (k, o) :: os => match Tl.frz o, frzS os with
    | some d, some ds => some ((k, .fz d) :: ds)
    | _, _ => none
theorem frzS_own (s : Same B B') : ∀ {os ds : List (Str × OD)} {vs : List V} {F : List Addr}, OwnL K mg B H F vs (os.map (·.2)) → frzS os = some ds → (∀ a ∈ F, ∀ u, H a = some u → B' a = some u) → ∀ H', os.map (·.1) = ds.map (·.1) ∧ OwnL K mg B' H' [] vs (ds.map (·.2))
  | [], ds, vs, F, h, e, k, H' => by cases e; cases h; exact ⟨rfl, .nil⟩
  | (x, o) :: os, ds, vs, F, h, e, k, H' => by
    cases h with
    | @cons F1 G1 v vs _ _ r t =>
      unfold frzS at e
      split at e
      · rename_i d ds' e1 e2
        cases e
        obtain ⟨q1, q2⟩ := frzS_own s t e2 (fun a m => k a (List.mem_append_right _ m)) H'
        exact ⟨by simp only [List.map_cons, q1], .cons (F := []) (.fz (Own.frz s r e1 fun a m => k a (List.mem_append_left _ m))) q2⟩
      · cases e
theorem Own.frzI (s : Same B B') {F : List Addr} {v : V} {c : Str} {os ds : List (Str × OD)} (h : Own K mg B H F v (.ins c os)) (e : frzS os = some ds) (k : ∀ a ∈ F, ∀ u, H a = some u → B' a = some u) (H' : Hp) : Own K mg B' H' [] v (.fzi c ds) := by
  cases h with
  | ins h1 b1 h2 b2 g ke r =>
    obtain ⟨q1, q2⟩ := frzS_own s r e (fun a m => k a (List.mem_cons_of_mem _ (List.mem_cons_of_mem _ m))) H'
    exact .fzi (k _ List.mem_cons_self _ h1) (k _ (List.mem_cons_of_mem _ List.mem_cons_self) _ h2) g (ke.trans q1) q2
end
end Tl
namespace Tl
open PySem PySem.Spec L2

/-! ### == -/
mutual
def pd : D → PyData
  | .non => .none
  | .bl b => .bool b
  | .int i => .int i
  | .str x => .str x
  | .tup ds => .tuple (pdL ds)
  | .lst ds => .list (pdL ds)
  | .scr ds => .list (pdL ds)
  | .dK _ => .dict []
  | .dT _ => .dict []
def pdL : List D → List PyData
  | [] => []
  | d :: ds => pd d :: pdL ds
end
theorem pdL_eq : ∀ ds : List D, pdL ds = ds.map pd
  | [] => rfl
  | d :: ds => by show pd d :: pdL ds = _; rw [pdL_eq ds]; rfl
def OD.plain : OD → Option D := frz
section
variable {K : PySem.W.Frag} {mg : Str → Option Value} {B H : Hp}
mutual
theorem Rep.dp (s : Same B H) : ∀ {v : V} {d : D}, Rep K B v d → (pd d).canLay0 = true → Dp K H v (pd d)
  | _, _, .non, _ => .non
  | _, _, .bl, _ => .bl _
  | _, _, .int, _ => .int _
  | _, _, .str, _ => .str _
  | _, _, .tup h r, e => .tup (Same.seqT s h) (RepL.dp s r e)
  | _, _, .lst h r, e => .lst (SqL.of (s _ _ h)) (RepL.dp s r e)
  | _, _, .scr h r, e => .lst (s.seq h) (RepL.dp s r e)
  | _, _, .dK _ _ _, e => nomatch e
  | _, _, .dT _ _ _, e => nomatch e
theorem RepL.dp (s : Same B H) : ∀ {vs : List V} {ds : List D}, RepL K B vs ds → PyData.canLayAll0 (pdL ds) = true → DpAll K H vs (pdL ds)
  | _, _, .nil, _ => .nil
  | _, _, .cons r t, e => by
    have e' : (_ && _) = true := e
    rw [Bool.and_eq_true] at e'
    exact .cons (Rep.dp s r e'.1) (RepL.dp s t e'.2)
end
theorem rv_dp {G : List Addr} {v : V} {r : RV} {d : D} (s : Same B H) (h : rvR K mg B H G v r) (e : r.od.plain = some d) (l : (pd d).canLay0 = true) : Dp K H v (pd d) := by
  obtain ⟨G', z⟩ := rv_own h
  exact Rep.dp (Same.refl _) (Own.frz s z e fun _ _ _ h => h) l
end
def dEq (d e : D) : Bool := PyData.eqv (pd d) (pd e)
def dOk (d : D) : Bool := SeqAt.shaped (pd d)
def gEq (p : RV × RV) : Option RV := match p.1.od.plain, p.2.od.plain with
  | some d, some e => if dOk d = true ∧ dOk e = true then some (.b (dEq d e)) else none
  | _, _ => none
def gNe (p : RV × RV) : Option RV := match p.1.od.plain, p.2.od.plain with
  | some d, some e => if dOk d = true ∧ dOk e = true then some (.b (!dEq d e)) else none
  | _, _ => none
/-- x in a list, a tuple (of plain things), a text -/
def gIn (p : RV × RV) : Option RV := match p.1.od, p.2.od with
  | .fz (.str x), .fz (.str y) => some (.b (!(Builtin.Str.occurrences y x 0 y.length 1).isEmpty))
  | o, u => match o.plain with
    | none => none
    | some d => match u.items with
      | some ds => if dOk d = true ∧ dOk (.lst ds) = true then some (.b (ds.any fun z => dEq z d)) else none
      | none => match u.titems with
        | some ds => match flatD d, flatDs ds with
          | some x, some xs => some (.b (inV x xs))
          | _, _ => none
        | none => none
where
  flatD : D → Option V
    | .non => some .non
    | .bl b => some (.bl b)
    | .int i => some (.int i)
    | .str x => some (.str x)
    | _ => none
  flatDs : List D → Option (List V)
    | [] => some []
    | d :: ds => match flatD d, flatDs ds with
      | some x, some xs => some (x :: xs)
      | _, _ => none
theorem frz_flat {o : OD} {d : D} {x : V} (h : frz o = some d) (k : gIn.flatD d = some x) : o = .fz d := by
  cases o with
  | fz e => rw [frz_fz] at h; cases h; rfl
  | lst os => rw [frz_lst] at h; cases q : frzL os <;> rw [q] at h <;> cases h; cases k
  | tup os => rw [frz_tup] at h; cases q : frzL os <;> rw [q] at h <;> cases h; cases k
  | dK os => unfold frz at h; cases q : frzK os <;> rw [q] at h <;> cases h; cases k
  | dT os => unfold frz at h; cases q : frzT os <;> rw [q] at h <;> cases h; cases k
  | _ => unfold frz at h; cases h
def gNotIn (p : RV × RV) : Option RV := (gIn p).bind fun r => match r.bool? with
  | some k => some (.b (!k))
  | none => none
section
variable {X : Cx} {W : WX} {a b c e : Expr} {es rest : List Expr} {f fa fb fc : Env → O RV} {pos : Pos}
theorem canLay (d : D) (h : dOk d = true) : (pd d).canLay0 = true := SeqAt.canLay_of_shaped h
theorem c_eq (hu : X.A.units + 64 < cLine) : CmpOk X .Eq gEq := by
  refine ⟨_, op_eqD hu, ?_⟩
  rintro B H G ⟨x, y⟩ ⟨r1, r2⟩ Q s ⟨G1, G2, _, h1, h2⟩ n q
  dsimp only [gEq] at q h1 h2 ⊢
  split at q
  · rename_i d e e1 e2
    split at q
    · rename_i hk
      exact ⟨_, _, rv_dp s h1 e1 (canLay d hk.1), rv_dp s h2 e2 (canLay e hk.2), hk.1, hk.2, VPost.fz q s .bl⟩
    · exact q.elim
  · exact q.elim
theorem c_ne (hu : X.A.units + 64 < cLine) : CmpOk X .NotEq gNe := by
  refine ⟨_, op_neD hu, ?_⟩
  rintro B H G ⟨x, y⟩ ⟨r1, r2⟩ Q s ⟨G1, G2, _, h1, h2⟩ n q
  dsimp only [gNe] at q h1 h2 ⊢
  split at q
  · rename_i d e e1 e2
    split at q
    · rename_i hk
      exact ⟨_, _, rv_dp s h1 e1 (canLay d hk.1), rv_dp s h2 e2 (canLay e hk.2), hk.1, hk.2, VPost.fz q s .bl⟩
    · exact q.elim
  · exact q.elim
theorem flat_rep {K : PySem.W.Frag} {B : Hp} {v : V} {d : D} {x : V} (h : Rep K B v d) (e : gIn.flatD d = some x) : v = x ∧ flatV x = true := by
  cases h <;> first
    | (cases e; exact ⟨rfl, rfl⟩)
    | (cases e; done)
theorem flat_reps {K : PySem.W.Frag} {B : Hp} {vs : List V} {ds : List D} {xs : List V} (h : RepL K B vs ds) (e : gIn.flatDs ds = some xs) : vs = xs ∧ xs.all flatV = true := by
  induction vs generalizing ds xs with
  | nil => cases h; cases e; exact ⟨rfl, rfl⟩
  | cons v vs ih =>
    cases h with
    | @cons _ _ d ds r t =>
      unfold gIn.flatDs at e
      split at e
      · rename_i x xs' e1 e2
        cases e
        obtain ⟨rfl, f1⟩ := flat_rep r e1
        obtain ⟨rfl, f2⟩ := ih t e2
        exact ⟨rfl, by rw [List.all_cons, f1, f2]; rfl⟩
      · cases e
/-- in, not in: what is asked, in one -/
def rInA (K : PySem.W.Frag) (neg : Bool) : R2 := fun x y H Q =>
  ((∃ i j, x = .str i ∧ y = .str j ∧ Q (.bl (if neg then !(!(Builtin.Str.occurrences j i 0 j.length 1).isEmpty) else !(Builtin.Str.occurrences j i 0 j.length 1).isEmpty)) H) ∨
   (∃ d ds, Dp K H x d ∧ Dp K H y (.list ds) ∧ SeqAt.shaped d = true ∧ SeqAt.shaped (.list ds) = true ∧ Q (.bl (if neg then !ds.any fun z => PyData.eqv z d else ds.any fun z => PyData.eqv z d)) H)) ∨ rIn K neg x y H Q
theorem any_pd {d : D} : ∀ ds : List D, ((pdL ds).any fun z => PyData.eqv z (pd d)) = ds.any fun z => dEq z d
  | [] => rfl
  | e :: ds => by show (PyData.eqv (pd e) (pd d) || (pdL ds).any fun z => PyData.eqv z (pd d)) = _; rw [any_pd ds]; rfl
theorem rv_idp {K : PySem.W.Frag} {mg : Str → Option Value} {B H : Hp} {G : List Addr} {v : V} {r : RV} {ds : List D} (s : Same B H) (h : rvR K mg B H G v r) (e : r.od.items = some ds) (l : (pd (.lst ds)).canLay0 = true) : Dp K H v (.list (pdL ds)) := by
  obtain ⟨p, vs, rfl, h1, h2⟩ := rv_items s h e
  exact .lst h1 (RepL.dp s h2 l)
theorem v_in (neg : Bool) : VOk (prR (rvR X.K X.mg) (rvR X.K X.mg)) (rvR X.K X.mg) (fun p => rInA X.K neg p.1 p.2) (if neg then gNotIn else gIn) := by
  rintro B H G ⟨x, y⟩ ⟨r1, r2⟩ Q s ⟨G1, G2, _, h1, h2⟩ n q
  have key : ∀ k : Bool, gIn (r1, r2) = some (.b k) → Q (.bl (if neg then !k else k)) H := fun k e => by
    cases neg with
    | false => rw [if_neg Bool.false_ne_true, e] at q; exact VPost.fz q s .bl
    | true =>
      rw [if_pos rfl] at q
      dsimp only [gNotIn] at q
      rw [e] at q
      exact VPost.fz q s .bl
  have bad : gIn (r1, r2) = none → False := fun e => by
    cases neg with
    | false => rw [if_neg Bool.false_ne_true, e] at q; exact q
    | true =>
      rw [if_pos rfl] at q
      dsimp only [gNotIn] at q
      rw [e] at q
      exact q
  clear q
  dsimp only [gIn] at key bad h1 h2 ⊢
  split at key
  · rename_i i j e1 e2
    have z1 := rv_fz h1 e1
    have z2 := rv_fz h2 e2
    cases z1; cases z2
    refine .inl (.inl ⟨i, j, rfl, rfl, ?_⟩)
    have := key _ rfl
    cases neg <;> exact this
  · rename_i hno
    split at bad
    · rename_i e1 e2
      exact absurd e2 (fun e2 => hno _ _ e1 e2)
    · clear hno
      cases e1 : r1.od.plain with
      | none => rw [e1] at bad; exact (bad rfl).elim
      | some d =>
        rw [e1] at key bad
        dsimp only at key bad
        split at key
        · rename_i ds e2
          split at key
          · rename_i hk
            refine .inl (.inr ⟨pd d, pdL ds, rv_dp s h1 e1 (canLay d hk.1), rv_idp s h2 e2 (canLay _ hk.2), hk.1, hk.2, ?_⟩)
            rw [any_pd]
            have := key _ rfl
            cases neg <;> exact this
          · rename_i hk
            rw [e2] at bad
            dsimp only at bad
            rw [if_neg hk] at bad
            exact (bad rfl).elim
        · rename_i e2
          split at key
          · rename_i ds e3
            obtain ⟨p, vs, rfl, a1, a2⟩ := rv_titems s h2 e3
            split at key
            · rename_i x' xs e4 e5
              have z1 : Rep X.K B x d := by
                obtain ⟨G', z⟩ := rv_own h1
                rw [frz_flat e1 e4] at z
                cases z with
                | fz r => exact r
              obtain ⟨rfl, f1⟩ := flat_rep z1 e4
              obtain ⟨rfl, f2⟩ := flat_reps a2 e5
              refine .inr ⟨p, vs, rfl, .inr a1, f1, f2, ?_⟩
              have := key _ rfl
              cases neg <;> exact this
            · rename_i hk
              rw [e2, e3] at bad
              dsimp only at bad
              split at bad
              · rename_i x' xs e4 e5
                exact (hk _ _ e4 e5).elim
              · exact (bad rfl).elim
          · rename_i e3
            rw [e2, e3] at bad
            exact (bad rfl).elim
theorem c_in (hu : X.A.units + 65 < cLine) : CmpOk X .In gIn := by
  refine ⟨rInA X.K false, ?_, v_in false⟩
  exact (op_in_str.or (op_inD hu)).or op_in_seq
theorem c_nin (hu : X.A.units + 65 < cLine) : CmpOk X .NotIn gNotIn := by
  refine ⟨rInA X.K true, ?_, v_in true⟩
  exact (op_notIn_str.or (op_notInD hu)).or op_notIn_seq
end
end Tl
namespace Tl
open PySem PySem.Spec L2

/-! ### slots taken out and put back -/
section
variable {K : PySem.W.Frag} {mg : Str → Option Value} {B B' H H' : Hp}
theorem Slots.take {F : List Addr} {σ : St} {env : Env} (x : Slots K mg B H F σ env) {i : Nat} {o : OD} (e : env[i]? = some o) (n : o ≠ .un) :
    ∃ v Fi Fr, σ[i]? = some (some v) ∧ Own K mg B H Fi v o ∧ Slots K mg B H Fr σ (env.set i .un) ∧ F.Perm (Fi ++ Fr) := by
  induction x generalizing i with
  | nil => simp at e
  | @un F x σ env h ih =>
    cases i with
    | zero => simp at e; exact absurd e.symm n
    | succ i =>
      simp at e
      obtain ⟨v, Fi, Fr, h1, h2, h3, h4⟩ := ih e
      exact ⟨v, Fi, Fr, by simpa using h1, h2, .un h3, h4⟩
  | @cons F G v o' σ env r h ih =>
    cases i with
    | zero => simp at e; subst e; exact ⟨v, F, G, rfl, r, .un h, List.Perm.refl _⟩
    | succ i =>
      simp at e
      obtain ⟨w, Fi, Fr, h1, h2, h3, h4⟩ := ih e
      refine ⟨w, Fi, F ++ Fr, by simpa using h1, h2, .cons r h3, ?_⟩
      refine (h4.append_left F).trans ?_
      rw [← List.append_assoc, ← List.append_assoc]
      exact (List.perm_append_comm).append_right Fr
theorem Slots.put {F : List Addr} {σ : St} {env : Env} (x : Slots K mg B H F σ env) {i : Nat} (e : env[i]? = some .un) {v : V} (hv : σ[i]? = some (some v)) {Fi : List Addr} {o : OD} (r : Own K mg B H Fi v o) :
    ∃ F', Slots K mg B H F' σ (env.set i o) ∧ F'.Perm (Fi ++ F) := by
  induction x generalizing i with
  | nil => simp at e
  | @un F x σ env h ih =>
    cases i with
    | zero => simp at hv; subst hv; exact ⟨Fi ++ F, .cons r h, List.Perm.refl _⟩
    | succ i =>
      simp at e hv
      obtain ⟨F', h1, h2⟩ := ih e hv
      exact ⟨F', .un h1, h2⟩
  | @cons F G w o' σ env r' h ih =>
    cases i with
    | zero => simp at e hv; subst e; subst hv; cases r'; exact ⟨Fi ++ G, .cons r h, by simp⟩
    | succ i =>
      simp at e hv
      obtain ⟨F', h1, h2⟩ := ih e hv
      refine ⟨F ++ F', .cons r' h1, ?_⟩
      refine (h2.append_left F).trans ?_
      rw [← List.append_assoc, ← List.append_assoc]
      exact (List.perm_append_comm).append_right G
end

/-! ### a def's promise -/
def FPost (K : PySem.W.Frag) (mg : Str → Option Value) (B H : Hp) (G : List Addr) (vs : List V) (Q : VK) (E : XK) : FO → Prop
  | .ret o ds' => ∀ v B' H' Fr G', Own K mg B' H' Fr v o → OwnL K mg B' H' G' vs ds' → Same B' H' → (Fr ++ G').Nodup → Frm B H G B' H' (Fr ++ G') → Q v H'
  | .exc c ds' => ∀ B' H' G', OwnL K mg B' H' G' vs ds' → Same B' H' → G'.Nodup → Frm B H G B' H' G' → ∀ C, mg c = some (.ref C) → E (.ref C) none H'
  | .bad => False
def spOf (K : PySem.W.Frag) (mg : Str → Option Value) (n : Nat) (Fm : List OD → FO) : Sp := fun vs H Q E =>
  vs.length = n ∧ ∃ B G ds, Same B H ∧ OwnL K mg B H G vs ds ∧ G.Nodup ∧ FPost K mg B H G vs Q E (Fm ds)

/-! ### arguments of a call: values; names whose objects the def may change -/
inductive AR where
  | rv (r : RV) | io (i : Nat) | tmp (o : OD)
def aR (K : PySem.W.Frag) (mg : Str → Option Value) (σ : St) : Rl V AR := fun B H G v a =>
  match a with
  | .rv r => rvR K mg B H G v r
  | .io i => G = [] ∧ σ[i]? = some (some v)
  | .tmp o => Own K mg B H G v o
def AR.safe : AR → Bool
  | .rv r => r.safe
  | .io _ => true
  | .tmp _ => true
theorem stb_aR {K : PySem.W.Frag} {mg : Str → Option Value} (σ : St) : Stb (aR K mg σ) AR.safe where
  there := fun B H G x a h => by
    cases a with
    | rv r => exact stb_rv.there B H G x r h
    | io i => obtain ⟨rfl, _⟩ := h; exact fun _ z => nomatch z
    | tmp o => exact Own.there h
  keep := fun B H F B' H' F' G x a h f n s => by
    cases a with
    | rv r => exact stb_rv.keep B H F B' H' F' G x r h f n s
    | io i => exact h
    | tmp o => exact f.own h n
def PCr (X : Cx) (W : WX) (es : List Expr) (f : Env → O (List AR)) : Prop := ∃ t, PA X es t ∧ EOkS X W (fun σ => lsR (aR X.K X.mg σ)) t f
def cNil : Env → O (List AR) := fun _ => .ok []
def cVal (f : Env → O RV) (r : Env → O (List AR)) : Env → O (List AR) := fun env => (f env).andThen RV.safe env (fun _ e => r e) (fun a b => .rv a :: b)
def cTmp (f : Env → O RV) (r : Env → O (List AR)) : Env → O (List AR) := fun env => ((f env).mapP fun r => match r with
  | .own o => some o
  | .view _ => none).andThen (fun _ => true) env (fun _ e => r e) (fun a b => .tmp a :: b)
def cIo (i : Nat) (r : Env → O (List AR)) : Env → O (List AR) := fun env => match env[i]? with
  | some .un => .bad
  | some _ => match r env with
    | .ok b => .ok (.io i :: b)
    | .eff b e => .eff (.io i :: b) e
    | .exc c e => .exc c e
    | .bad => .bad
  | none => .bad
section
variable {X : Cx} {W : WX} {a b c e : Expr} {es rest : List Expr} {f fa fb fc : Env → O RV} {pos : Pos}
theorem ca_nil : PCr X W [] cNil := ⟨_, pa_nil, fun B H F σ env Q S q => q [] B H [] .nil S.sub List.nodup_nil Frm.none⟩
theorem ca_val {fr : Env → O (List AR)} (ha : PEr X W e f) (hr : PCr X W es fr) (hs : starEach (e :: es) X.env = (false, eval e X.env) :: starEach es X.env := by rfl) : PCr X W (e :: es) (cVal f fr) := by
  obtain ⟨ta, ha, ka⟩ := ha
  obtain ⟨tb, hb, kb⟩ := hr
  exact ⟨_, pa_cons ha hb hs, EOkS.andThen (R := fun _ => rvR X.K X.mg) (R' := fun σ => lsR (aR X.K X.mg σ)) (R'' := fun σ => lsR (aR X.K X.mg σ)) (jx := List.cons) (jb := fun a b => .rv a :: b) (u := fun _ => tb) (fun _ => stb_rv) (fun σ => stb_ls (stb_aR σ)) (fun _ _ _ _ _ _ _ _ _ a b => .cons (R := aR X.K X.mg _) a b) ka fun _ _ _ => kb⟩
def owR (K : PySem.W.Frag) (mg : Str → Option Value) : Rl V OD := fun B H G v o => Own K mg B H G v o
theorem stb_ow {K : PySem.W.Frag} {mg : Str → Option Value} : Stb (owR K mg) (fun _ => true) where
  there := fun B H G x a h => Own.there h
  keep := fun B H F B' H' F' G x a h f n _ => f.own h n
theorem ca_tmp {fr : Env → O (List AR)} (ha : PEr X W e f) (hr : PCr X W es fr) (hs : starEach (e :: es) X.env = (false, eval e X.env) :: starEach es X.env := by rfl) : PCr X W (e :: es) (cTmp f fr) := by
  obtain ⟨ta, ha, ka⟩ := ha
  obtain ⟨tb, hb, kb⟩ := hr
  have k1 : EOk X W (owR X.K X.mg) (fun σ H Q => ta σ H fun x H1 => Q x H1) (fun env => (f env).mapP fun r => match r with
      | .own o => some o
      | .view _ => none) := ka.map (R' := owR X.K X.mg) (r := fun (x : V) (H : Hp) (Q : VK) => Q x H) fun B H G v r Q s h n q => by
    cases r with
    | view o => exact q.elim
    | own o => exact q v B H G h s n Frm.refl
  exact ⟨_, pa_cons ha hb hs, EOkS.andThen (R := fun _ => owR X.K X.mg) (R' := fun σ => lsR (aR X.K X.mg σ)) (R'' := fun σ => lsR (aR X.K X.mg σ)) (jx := List.cons) (jb := fun a b => .tmp a :: b) (u := fun _ => tb) (fun _ => stb_ow) (fun σ => stb_ls (stb_aR σ)) (fun _ _ _ _ _ _ _ _ _ a b => .cons (R := aR X.K X.mg _) a b) k1 fun _ _ _ => kb⟩
theorem ca_io (i : Nat) {x : Str} {pos : Pos} {fr : Env → O (List AR)} (hr : PCr X W es fr) (hN : X.N[i]? = some x := by rfl) (hv : Vis X.env.scope x := by first | exact Or.inl rfl | exact Or.inr (Or.inl rfl) | exact Or.inr (Or.inr rfl))
    (hd : (x == ("__debug__" : Str)) = false := by decide) (hcd : (x == ("__classdict__" : Str)) = false := by decide)
    (hs : starEach (.Name x pos :: es) X.env = (false, eval (.Name x pos) X.env) :: starEach es X.env := by rfl) : PCr X W (.Name x pos :: es) (cIo i fr) := by
  obtain ⟨tb, hb, kb⟩ := hr
  refine ⟨_, pa_cons (pe_var hN hv hd hcd) hb hs, fun B H F σ env Q S q => ?_⟩
  dsimp only [cIo] at q
  cases e : env[i]? with
  | none => rw [e] at q; exact q.elim
  | some o =>
    rw [e] at q
    by_cases n : o = .un
    · subst n; exact q.elim
    · obtain ⟨v, G, h1, h2, h3⟩ := S.sl.get e n
      refine ⟨v, h1, kb B H F σ env _ S ?_⟩
      have q' : EPost X W (lsR (aR X.K X.mg σ)) B H F σ Q (match fr env with
        | .ok b => .ok (.io i :: b)
        | .eff b e => .eff (.io i :: b) e
        | .exc c e => .exc c e
        | .bad => .bad) := by cases o <;> first | exact q | exact absurd rfl n
      cases e2 : fr env with
      | bad => rw [e2] at q'; exact q'
      | exc c e3 => rw [e2] at q'; exact q'
      | ok b => rw [e2] at q'; exact fun x B' H' G' r s' nd f => q' _ B' H' G' (.cons (R := aR X.K X.mg σ) (F := []) ⟨rfl, h1⟩ r) s' nd f
      | eff b e3 => rw [e2] at q'; exact fun x B' H' G' F' r l s' nd f => q' _ B' H' G' F' (.cons (R := aR X.K X.mg σ) (F := []) ⟨rfl, h1⟩ r) l s' nd f
end

/-! ### what a def is handed -/
def RV.plainArg (r : RV) : Option D := match r.od with
  | .fz d => some d
  | o => frz o
/-- what a def is handed of it -/
def RV.argO (r : RV) : Option OD := match r.od with
  | .fzi c fs => some (.fzi c fs)
  | .ins c fs => (frzS fs).map (.fzi c)
  | _ => r.plainArg.map .fz
def RV.lent (r : RV) : Bool := match r.od with
  | .fz _ => false
  | .fzi _ _ => false
  | _ => true
def gath : List AR → Env → Option (List OD × Env)
  | [], env => some ([], env)
  | .rv r :: as, env => match r.argO with
    | some d => match gath as env with
      | some (ds, e) => some (d :: ds, e)
      | none => none
    | none => none
  | .tmp o :: as, env => match gath as env with
    | some (ds, e) => some (o :: ds, e)
    | none => none
  | .io i :: as, env => match env[i]? with
    | some .un => none
    | some o => match gath as (env.set i .un) with
      | some (ds, e) => some (o :: ds, e)
      | none => none
    | none => none
def putB : List AR → List OD → Env → Env
  | .tmp _ :: as, _ :: ds, env => putB as ds env
  | .io i :: as, o :: ds, env => (putB as ds env).set i o
  | .rv _ :: as, _ :: ds, env => putB as ds env
  | _, _, env => env
def hasIo : List AR → Bool
  | [] => false
  | .io _ :: _ => true
  | .tmp _ :: as => hasIo as
  | .rv _ :: as => hasIo as
def hasTmp : List AR → Bool
  | [] => false
  | .tmp _ :: _ => true
  | _ :: as => hasTmp as
def lends : List AR → Bool
  | [] => false
  | .rv r :: as => r.lent || lends as
  | .io _ :: as => lends as
  | .tmp _ :: as => lends as
def looks : List AR → Bool
  | [] => false
  | .rv (.view o) :: as => (RV.view o).lent || looks as
  | _ :: as => looks as
def nfIo : List AR → List OD → Bool
  | .io _ :: as, o :: ds => nfo o && nfIo as ds
  | .rv _ :: as, _ :: ds => nfIo as ds
  | .tmp _ :: as, _ :: ds => nfIo as ds
  | _, _ => true
def ioAll (P : OD → Prop) : List AR → List OD → Prop
  | .io _ :: as, o :: ds => P o ∧ ioAll P as ds
  | .rv _ :: as, _ :: ds => ioAll P as ds
  | .tmp _ :: as, _ :: ds => ioAll P as ds
  | _, _ => True
theorem ioAll_nf : ∀ {ars : List AR} {ds : List OD}, nfIo ars ds = true → ioAll (fun o => nfo o = true) ars ds
  | .io _ :: as, o :: ds, h => by
    rw [nfIo, Bool.and_eq_true] at h
    exact ⟨h.1, ioAll_nf h.2⟩
  | .rv _ :: as, _ :: ds, h => ioAll_nf (ars := as) (ds := ds) h
  | .tmp _ :: as, _ :: ds, h => ioAll_nf (ars := as) (ds := ds) h
  | .tmp _ :: _, [], _ => True.intro
  | [], _, _ => True.intro
  | .io _ :: _, [], _ => True.intro
  | .rv _ :: _, [], _ => True.intro
theorem ioAll_true : ∀ {ars : List AR} {ds : List OD}, ioAll (fun _ => True) ars ds
  | .io _ :: as, o :: ds => ⟨True.intro, ioAll_true⟩
  | .rv _ :: as, _ :: ds => ioAll_true (ars := as) (ds := ds)
  | .tmp _ :: as, _ :: ds => ioAll_true (ars := as) (ds := ds)
  | .tmp _ :: _, [] => True.intro
  | [], _ => True.intro
  | .io _ :: _, [] => True.intro
  | .rv _ :: _, [] => True.intro
section
variable {K : PySem.W.Frag} {mg : Str → Option Value}
theorem gath_un {i : Nat} : ∀ {ars : List AR} {env : Env} {ds : List OD} {e : Env}, gath ars env = some (ds, e) → env[i]? = some .un → e[i]? = some .un ∧ ∀ (ds' : List OD) (e' : Env), e'[i]? = some .un → (putB ars ds' e')[i]? = some .un
  | [], env, ds, e, h, hu => by cases h; exact ⟨hu, fun ds' e' h => by cases ds' <;> exact h⟩
  | .rv r :: as, env, ds, e, h, hu => by
    rw [gath] at h
    split at h
    · split at h
      · rename_i e1
        cases h
        obtain ⟨h1, h2⟩ := gath_un e1 hu
        exact ⟨h1, fun ds' e' h => by cases ds' with | nil => exact h | cons o ds' => exact h2 ds' e' h⟩
      · cases h
    · cases h
  | .tmp o :: as, env, ds, e, h, hu => by
    rw [gath] at h
    split at h
    · rename_i e1
      cases h
      obtain ⟨h1, h2⟩ := gath_un e1 hu
      exact ⟨h1, fun ds' e' h => by cases ds' with | nil => exact h | cons o ds' => exact h2 ds' e' h⟩
    · cases h
  | .io j :: as, env, ds, e, h, hu => by
    rw [gath] at h
    split at h
    · cases h
    · rename_i o hn e0
      split at h
      · rename_i ds1 e1 e2
        cases h
        have hij : i ≠ j := fun z => by subst z; rw [hu] at e0; cases e0; exact hn rfl
        obtain ⟨h1, h2⟩ := gath_un e2 (i := i) (by rw [List.getElem?_set_ne (Ne.symm hij)]; exact hu)
        refine ⟨h1, fun ds' e' h => ?_⟩
        cases ds' with
        | nil => exact h
        | cons o' ds' =>
          show ((putB as ds' e').set j o')[i]? = _
          rw [List.getElem?_set_ne (Ne.symm hij)]
          exact h2 ds' e' h
      · cases h
    · cases h
/-- the arguments, gathered -/
theorem perm3 {α : Type} {A B C D E F G : List α} (h : A.Perm (B ++ C ++ D)) (k : E.Perm (F ++ G)) : (E ++ A).Perm ((F ++ B) ++ C ++ (G ++ D)) := by
  refine (k.append h).trans ?_
  have := (List.perm_append_comm (l₁ := G) (l₂ := B ++ C)).append_right D
  simp only [List.append_assoc] at this ⊢
  exact List.Perm.append_left F this
theorem perm3' {α : Type} {A B C D E : List α} (h : A.Perm (B ++ C ++ D)) : (E ++ A).Perm (B ++ (E ++ C) ++ D) := by
  refine (h.append_left E).trans ?_
  rw [← List.append_assoc, ← List.append_assoc]
  refine List.Perm.append_right D ?_
  rw [← List.append_assoc]
  exact (List.perm_append_comm).append_right C
theorem gath_ok {B H : Hp} {σ : St} {F G : List Addr} {vs : List V} {ars : List AR} {env envh : Env} {ds : List OD} (s : Slots K mg B H F σ env) (h : lsR (aR K mg σ) B H G vs ars) (e : gath ars env = some (ds, envh)) :
    ∃ L Gio Gt Gc Fh, Slots K mg B H Fh σ envh ∧ F.Perm (Gio ++ Fh) ∧ Gc.Perm (Gio ++ Gt) ∧ (hasTmp ars = false → Gt = []) ∧ (looks ars = false → ∃ M, G.Perm (L ++ Gt ++ M)) ∧ Gt.Sublist G ∧
      (∀ Bp, Same B Bp → (∀ a ∈ L, ∀ u, H a = some u → Bp a = some u) → (∀ a ∈ Gc, Bp a = none) → OwnL K mg Bp H Gc vs ds) ∧
      (∀ a ∈ L, B a = none ∧ ∃ u, H a = some u ∧ noTup u = true) ∧ (lends ars = false → L = []) ∧ (hasIo ars = false → Gio = [] ∧ envh = env) ∧
      (∀ B2 B3 H2 Fh' (P : OD → Prop) vs' (G' : List Addr) ds', Slots K mg B2 H2 Fh' σ envh → vs' = vs → OwnL K mg B3 H2 G' vs' ds' → (∀ F v o, P o → Own K mg B3 H2 F v o → Own K mg B2 H2 F v o) → ioAll P ars ds' → ∃ F2 Gi, Slots K mg B2 H2 F2 σ (putB ars ds' envh) ∧ F2.Perm (Gi ++ Fh') ∧ Gi.Sublist G') := by
  induction h generalizing env envh ds F with
  | nil =>
    cases e
    exact ⟨[], [], [], [], F, s, List.Perm.refl _, List.Perm.refl _, fun _ => rfl, fun _ => ⟨[], List.Perm.refl _⟩, List.Sublist.refl _, fun _ _ _ _ => .nil, (fun _ z => nomatch z), fun _ => rfl, fun _ => ⟨rfl, rfl⟩, fun B2 B3 H2 Fh' P vs' G' ds' s2 ev r _ _ => by subst ev; cases r; exact ⟨Fh', [], s2, List.Perm.refl _, List.Sublist.refl _⟩⟩
  | @cons F1 G1 v a vs as r t ih =>
    cases a with
    | rv r1 =>
      rw [gath] at e
      split at e
      · rename_i d e1
        split at e
        · rename_i ds1 envh1 e2
          cases e
          obtain ⟨L, Gio, Gt, Gc, Fh, a1, a2, p1, p2, p3, p4, a3, a4, a5, a6, a8⟩ := ih s e2
          -- this one's own
          obtain ⟨L1, b1, b2, b3, b4⟩ : ∃ L1 : List Addr, (∀ Bp, Same B Bp → (∀ a ∈ L1, ∀ u, H a = some u → Bp a = some u) → Own K mg Bp H [] v d) ∧ (∀ a ∈ L1, B a = none ∧ ∃ u, H a = some u ∧ noTup u = true) ∧ (r1.lent = false → L1 = []) ∧
              (((∃ o, r1 = .own o) ∨ r1.lent = false) → ∃ M, F1.Perm (L1 ++ M)) := by
            unfold RV.argO at e1
            split at e1
            · rename_i c fs e3
              cases e1
              obtain ⟨G', k⟩ := rv_own (show rvR K mg B H F1 v r1 from r)
              rw [e3] at k
              have k0 : G' = [] := by cases k; rfl
              subst k0
              exact ⟨[], fun Bp sp _ => k.mono sp (fun _ z => nomatch z), (fun _ z => nomatch z), fun _ => rfl, fun _ => ⟨F1, List.Perm.refl _⟩⟩
            · rename_i c fs e3
              obtain ⟨G', k⟩ := rv_own (show rvR K mg B H F1 v r1 from r)
              have ln : r1.lent = true := by unfold RV.lent; rw [e3]
              rw [e3] at k
              cases e4 : frzS fs with
              | none => rw [e4] at e1; cases e1
              | some ds4 =>
                rw [e4] at e1; cases e1
                cases r1 with
                | own o =>
                  have k2 : Own K mg B H F1 v o := r
                  have e3 : o = .ins c fs := e3
                  subst e3
                  exact ⟨F1, fun Bp sp l => Own.frzI sp k2 e4 l H, fun a m => ⟨(Own.there k2 a m).1, Own.kind k2 a m⟩, (fun z => by rw [ln] at z; cases z), fun _ => ⟨[], by simp⟩⟩
                | view o => exact ⟨G', fun Bp sp l => Own.frzI sp k e4 l H, fun a m => ⟨(k.there a m).1, k.kind a m⟩, (fun z => by rw [ln] at z; cases z), (fun z => by rcases z with ⟨o', z⟩ | z; cases z; rw [ln] at z; cases z)⟩
            · rename_i hni hnf
              cases e5 : r1.plainArg with
              | none => rw [e5] at e1; cases e1
              | some d5 =>
              rw [e5] at e1; cases e1
              unfold RV.plainArg at e5
              split at e5
              · rename_i d' e3
                cases e5
                exact ⟨[], fun Bp sp _ => .fz ((rv_fz (show rvR K mg B H F1 v r1 from r) e3).mono sp), (fun _ z => nomatch z), fun _ => rfl, fun _ => ⟨F1, List.Perm.refl _⟩⟩
              rename_i hno
              obtain ⟨G', k⟩ := rv_own (show rvR K mg B H F1 v r1 from r)
              have ln : r1.lent = true := by
                unfold RV.lent
                split
                · rename_i d' e3; exact absurd e3 (hno d')
                · rename_i c' f' e3; exact absurd e3 (hni c' f')
                · rfl
              cases r1 with
              | own o => exact ⟨F1, fun Bp sp l => .fz (Own.frz sp (show Own K mg B H F1 v o from r) e5 l), fun a m => ⟨(Own.there (show Own K mg B H F1 v o from r) a m).1, Own.kind (show Own K mg B H F1 v o from r) a m⟩, (fun z => by rw [ln] at z; cases z), fun _ => ⟨[], by simp⟩⟩
              | view o => exact ⟨G', fun Bp sp l => .fz (k.frz sp e5 l), fun a m => ⟨(k.there a m).1, k.kind a m⟩, (fun z => by rw [ln] at z; cases z), (fun z => by rcases z with ⟨o', z⟩ | z; cases z; rw [ln] at z; cases z)⟩
          refine ⟨L1 ++ L, Gio, Gt, Gc, Fh, a1, a2, p1, fun z => p2 z, fun z => ?_, p4.trans (List.sublist_append_right _ _), fun Bp sp l n => ?_, fun a m => (List.mem_append.mp m).elim (b2 a) (a4 a), fun z => ?_, fun z => a6 z, fun B2 B3 H2 Fh' P vs' G' ds' s2 ev r2 cv io => ?_⟩
          · have z' : looks as = false ∧ ((∃ o, r1 = .own o) ∨ r1.lent = false) := by
              cases r1 with
              | own o => exact ⟨z, .inl ⟨o, rfl⟩⟩
              | view o =>
                have z' : ((RV.view o).lent || looks as) = false := z
                rw [Bool.or_eq_false_iff] at z'
                exact ⟨z'.2, .inr z'.1⟩
            obtain ⟨M1, k1⟩ := b4 z'.2
            obtain ⟨M2, k2⟩ := p3 z'.1
            exact ⟨M1 ++ M2, perm3 k2 k1⟩
          · exact .cons (F := []) (b1 Bp sp fun a m => l a (List.mem_append_left _ m)) (a3 Bp sp (fun a m => l a (List.mem_append_right _ m)) n)
          · have z' : (r1.lent || lends as) = false := z
            rw [Bool.or_eq_false_iff] at z'
            rw [b3 z'.1, a5 z'.2]; rfl
          · subst ev
            cases r2 with
            | @cons F3 G3 _ _ o' ds3 r3 t3 =>
              obtain ⟨F2, Gi, c1, c2, c3⟩ := a8 B2 B3 H2 Fh' P vs G3 ds3 s2 rfl t3 cv io
              exact ⟨F2, Gi, c1, c2, c3.trans (List.sublist_append_right _ _)⟩
        · cases e
      · cases e
    | tmp o =>
      rw [gath] at e
      split at e
      · rename_i ds1 envh1 e2
        cases e
        obtain ⟨L, Gio, Gt, Gc, Fh, a1, a2, p1, p2, p3, p4, a3, a4, a5, a6, a8⟩ := ih s e2
        have r' : Own K mg B H F1 v o := r
        refine ⟨L, Gio, F1 ++ Gt, F1 ++ Gc, Fh, a1, a2, ?_, (fun z => by cases z), fun z => ?_, (List.Sublist.refl F1).append p4, fun Bp sp l n => ?_, a4, fun z => a5 z, fun z => a6 z, fun B2 B3 H2 Fh' P vs' G' ds' s2 ev r2 cv io => ?_⟩
        · refine (p1.append_left F1).trans ?_
          rw [← List.append_assoc, ← List.append_assoc]
          exact (List.perm_append_comm).append_right Gt
        · obtain ⟨M, k⟩ := p3 z
          exact ⟨M, perm3' k⟩
        · exact .cons (r'.mono sp fun a m => ⟨fun _ z => z, n a (List.mem_append_left _ m)⟩) (a3 Bp sp l fun a m => n a (List.mem_append_right _ m))
        · subst ev
          cases r2 with
          | @cons F3 G3 _ _ o' ds3 r3 t3 =>
            obtain ⟨F2, Gi, c1, c2, c3⟩ := a8 B2 B3 H2 Fh' P vs G3 ds3 s2 rfl t3 cv io
            exact ⟨F2, Gi, c1, c2, c3.trans (List.sublist_append_right _ _)⟩
      · cases e
    | io i =>
      rw [gath] at e
      split at e
      · cases e
      · rename_i o hn e0
        split at e
        · rename_i ds1 envh1 e2
          cases e
          obtain ⟨rfl, hv⟩ := r
          obtain ⟨w, Fi, Fr, b1, b2, b3, b4⟩ := s.take e0 (fun z => hn (by subst z; rfl))
          rw [hv] at b1; cases b1
          obtain ⟨L, Gio, Gt, Gc, Fh, a1, a2, p1, p2, p3, p4, a3, a4, a5, a6, a8⟩ := ih b3 e2
          have hu : (env.set i OD.un)[i]? = some .un := by
            rw [List.getElem?_set_self]; exact (List.getElem?_eq_some_iff.mp e0).1
          obtain ⟨u1, u2⟩ := gath_un e2 hu
          refine ⟨L, Fi ++ Gio, Gt, Fi ++ Gc, Fh, a1, ?_, ?_, fun z => p2 z, fun z => p3 z, p4, fun Bp sp l n => ?_, a4, fun z => a5 z, (fun z => by cases z), fun B2 B3 H2 Fh' P vs' G' ds' s2 ev r2 cv io => ?_⟩
          · rw [List.append_assoc]
            exact b4.trans (a2.append_left Fi)
          · rw [List.append_assoc]; exact p1.append_left Fi
          · exact .cons (b2.mono sp fun a m => ⟨fun _ z => z, n a (List.mem_append_left _ m)⟩) (a3 Bp sp l fun a m => n a (List.mem_append_right _ m))
          · subst ev
            cases r2 with
            | @cons F3 G3 _ _ o' ds3 r3 t3 =>
              obtain ⟨F2, Gi, c1, c2, c3⟩ := a8 B2 B3 H2 Fh' P vs G3 ds3 s2 rfl t3 cv io.2
              obtain ⟨F4, d1, d2⟩ := c1.put (u2 ds3 _ u1) hv (cv _ _ _ io.1 r3)
              refine ⟨F4, F3 ++ Gi, d1, ?_, (List.Sublist.refl F3).append c3⟩
              rw [List.append_assoc]
              exact d2.trans (c2.append_left F3)
        · cases e
      · cases e
end
end Tl
namespace Tl
open PySem PySem.Spec L2

/-! ### the call of a def -/
def callAt (Fm : List OD → FO) (ars : List AR) (env : Env) (touched : Bool) : O RV :=
  match gath ars env with
  | none => .bad
  | some (ds, envh) => if (looks ars && (hasIo ars || hasTmp ars)) = true then .bad else
    match Fm ds with
    | .ret o ds' => if (lends ars && !(nfo o && nfIo ars ds')) = true then .bad else if (hasIo ars || touched) = true then .eff (.own o) (putB ars ds' envh) else .ok (.own o)
    | .exc c ds' => if (lends ars && !(nfIo ars ds')) = true then .bad else .exc c (putB ars ds' envh)
    | .bad => .bad
def eCall (Fm : List OD → FO) (f : Env → O (List AR)) : Env → O RV := fun env =>
  match f env with
  | .ok ars => callAt Fm ars env false
  | .eff ars env1 => callAt Fm ars env1 true
  | .exc c e => .exc c e
  | .bad => .bad
section
variable {X : Cx} {W : WX}
theorem more_in {B H : Hp} {L : List Addr} {a : Addr} (h : a ∈ L) : more B H L a = H a := if_pos h
theorem more_out {B H : Hp} {L : List Addr} {a : Addr} (h : a ∉ L) : more B H L a = B a := if_neg h
theorem less_in {B : Hp} {L : List Addr} {a : Addr} (h : a ∈ L) : less B L a = none := if_pos h
theorem less_out {B : Hp} {L : List Addr} {a : Addr} (h : a ∉ L) : less B L a = B a := if_neg h
theorem less_nil {B : Hp} : less B [] = B := by funext a; exact less_out (by simp)
/-- the call, from the state behind the arguments -/
theorem call_ok {Fm : List OD → FO} {n : Nat} {B0 H0 B H : Hp} {F0 F G : List Addr} {σ : St} {env : Env} {vs : List V} {ars : List AR} {Q : VK} {t : Bool} (S : Sta X.K X.mg B H F σ env) (h : lsR (aR X.K X.mg σ) B H G vs ars) (hl : vs.length = n)
    (nGF : (G ++ F).Nodup) (f0 : Frm B0 H0 F0 B H (G ++ F)) (fp : t = false → F0 = F ∧ Frm B0 H0 [] B H G) (q : EPost X W (rvR X.K X.mg) B0 H0 F0 σ Q (callAt Fm ars env t)) : spOf X.K X.mg n Fm vs H Q (WE W σ) := by
  have dj : ∀ a ∈ G, a ∉ F := fun a m z => (List.nodup_append.mp nGF).2.2 a m a z rfl
  have nG : G.Nodup := (List.nodup_append.mp nGF).1
  unfold callAt at q
  split at q
  · exact q.elim
  · rename_i ds envh e
    split at q
    · exact q.elim
    · rename_i hlk
      obtain ⟨L, Gio, Gt, Gc, Fh, a1, a2, p1, p2, p3, p4, a3, a4, a5, a6, a8⟩ := gath_ok S.sl h e
      have nd := a2.nodup_iff.mp S.nd
      have ndg := (List.nodup_append.mp nd).1
      have ndh := (List.nodup_append.mp nd).2.1
      have inF : ∀ a, a ∈ Gio ∨ a ∈ Fh → a ∈ F := fun a m => a2.mem_iff.mpr (List.mem_append.mpr m)
      have inC : ∀ a, a ∈ Gc → a ∈ G ++ F := fun a m => (List.mem_append.mp (p1.mem_iff.mp m)).elim (fun z => List.mem_append_right _ (inF a (.inl z))) fun z => List.mem_append_left _ (p4.subset z)
      have nGc : Gc.Nodup := p1.nodup_iff.mpr (List.nodup_append.mpr ⟨ndg, nG.sublist p4, fun a ha b hb e => by subst e; exact dj a (p4.subset hb) (inF a (.inl ha))⟩)
      -- what is lent is not handed on to be changed
      have lg : ∀ a ∈ L, a ∉ Gc := fun a m z => by
        cases hq : looks ars with
        | false =>
          obtain ⟨M, k⟩ := p3 hq
          rcases List.mem_append.mp (p1.mem_iff.mp z) with y | y
          · exact dj a (k.mem_iff.mpr (List.mem_append_left _ (List.mem_append_left _ m))) (inF a (.inl y))
          · have := k.nodup_iff.mp nG
            exact (List.nodup_append.mp (List.nodup_append.mp this).1).2.2 a m a y rfl
        | true =>
          have hn : hasIo ars = false ∧ hasTmp ars = false := by
            rw [hq, Bool.true_and] at hlk
            simpa using hlk
          have z2 := p1.mem_iff.mp z
          rw [(a6 hn.1).1, p2 hn.2] at z2
          cases z2
      have sp : Same B (more B H L) := fun a u z => by
        rw [more_out]
        · exact z
        · intro m; rw [(a4 a m).1] at z; cases z
      have sp2 : Same (more B H L) H := fun a u z => by
        by_cases m : a ∈ L
        · rw [more_in m] at z; exact z
        · rw [more_out m] at z; exact S.sub a u z
      have thGF : ∀ a ∈ G ++ F, B a = none ∧ ∃ u, H a = some u := fun a m => (List.mem_append.mp m).elim ((stb_ls (stb_aR (K := X.K) (mg := X.mg) σ)).there _ _ _ _ _ h a) (S.sl.there a)
      have gn : ∀ a ∈ Gc, more B H L a = none := fun a m => by
        rw [more_out fun z => lg a z m]
        exact (thGF a (inC a m)).1
      refine ⟨hl, more B H L, Gc, ds, sp2, a3 _ sp (fun a m u z => by rw [more_in m]; exact z) gn, nGc, ?_⟩
      have fhc : ∀ a ∈ Fh, a ∉ Gc := fun a m z => by
        rcases List.mem_append.mp (p1.mem_iff.mp z) with y | y
        · exact (List.nodup_append.mp nd).2.2 a y a m rfl
        · exact dj a (p4.subset y) (inF a (.inr m))
      -- what comes behind
      have back : ∀ {B' H' : Hp} {F' : List Addr}, Same B' H' → Frm (more B H L) H Gc B' H' F' → Same B (less B' L) ∧ Same (less B' L) H' ∧ (∀ a ∈ L, ∀ u, B' a = some u → noTup u = true) ∧
          (∀ a u, H a = some u → a ∉ Gc → H' a = some u) ∧ (∀ a u, H a = some u → a ∉ Gc → B a = none → less B' L a = none) := fun {B' H' F'} s' f => by
        have inL : ∀ a ∈ L, ∀ u, H a = some u → B' a = some u := fun a m u z => f.sB a u (by rw [more_in m]; exact z)
        refine ⟨fun a u z => ?_, fun a u z => ?_, fun a m u z => ?_, fun a u z m => f.keep a u z m, fun a u z m b => ?_⟩
        · have m : a ∉ L := fun m => by rw [(a4 a m).1] at z; cases z
          rw [less_out m]
          exact f.sB a u (sp a u z)
        · by_cases m : a ∈ L
          · rw [less_in m] at z; cases z
          · rw [less_out m] at z; exact s' a u z
        · obtain ⟨_, w, e1, e2⟩ := a4 a m
          rw [inL a m w e1] at z; cases z
          exact e2
        · by_cases ml : a ∈ L
          · exact less_in ml
          · rw [less_out ml]
            exact f.forg a u z m (by rw [more_out ml]; exact b)
      have slots : ∀ {B' H' : Hp} {F' : List Addr}, Same B' H' → Frm (more B H L) H Gc B' H' F' → Slots X.K X.mg (less B' L) H' Fh σ envh := fun {B' H' F'} s' f => by
        obtain ⟨b1, b2, b3, b4, b5⟩ := back s' f
        refine a1.mono b1 fun a m => ?_
        obtain ⟨c1, u, c2⟩ := S.sl.there a (inF a (.inr m))
        have ng := fhc a m
        exact ⟨fun u z => b4 a u z ng, b5 a u c2 ng c1⟩
      -- results put back
      have putq : ∀ {B' H' : Hp} {F' G' : List Addr} {ds' : List OD}, Same B' H' → Frm (more B H L) H Gc B' H' F' → OwnL X.K X.mg B' H' G' vs ds' → (lends ars = true → nfIo ars ds' = true) →
          ∃ F2 Gi, Slots X.K X.mg (less B' L) H' F2 σ (putB ars ds' envh) ∧ F2.Perm (Gi ++ Fh) ∧ Gi.Sublist G' := fun {B' H' F' G' ds'} s' f r nf => by
        obtain ⟨b1, b2, b3, b4, b5⟩ := back s' f
        cases hle : lends ars with
        | true => exact a8 _ B' H' Fh (fun o => nfo o = true) vs G' ds' (slots s' f) rfl r (fun F v o p z => z.less b3 p) (ioAll_nf (nf hle))
        | false =>
          have e0 := a5 hle
          have sl := slots s' f
          rw [e0, less_nil] at sl ⊢
          exact a8 _ B' H' Fh (fun _ => True) vs G' ds' sl rfl r (fun F v o p z => z) ioAll_true
      have frm : ∀ {B' H' : Hp} {Fr G' F2 Gi : List Addr}, Same B' H' → Frm (more B H L) H Gc B' H' (Fr ++ G') → F2.Perm (Gi ++ Fh) → Gi.Sublist G' → (Fr ++ G').Nodup → (Fr ++ F2).Nodup ∧ F2.Nodup ∧ Frm B H (G ++ F) (less B' L) H' (Fr ++ F2) := fun {B' H' Fr G' F2 Gi} s' f pm sb nn => by
        obtain ⟨b1, b2, b3, b4, b5⟩ := back s' f
        have fh : ∀ a ∈ Fh, ∃ u, H a = some u := fun a m => (S.sl.there a (inF a (.inr m))).2
        have nfg : ∀ a, a ∈ Fr ++ G' → a ∉ Fh := fun a m z => by
          rcases f.fr a m with y | y
          · exact fhc a z y
          · obtain ⟨u, e⟩ := fh a z
            rw [e] at y; cases y
        have ngi : Gi.Nodup := (List.nodup_append.mp nn).2.1.sublist sb
        have n2 : F2.Nodup := pm.nodup_iff.mpr (List.nodup_append.mpr ⟨ngi, ndh, fun a ha b hb z => by subst z; exact nfg a (List.mem_append_right _ (sb.subset ha)) hb⟩)
        refine ⟨List.nodup_append.mpr ⟨(List.nodup_append.mp nn).1, n2, fun a ha b hb z => ?_⟩, n2, b1, fun a u z m => b4 a u z fun y => m (inC a y), fun a u z m b => b5 a u z (fun y => m (inC a y)) b, fun a m => ?_⟩
        · subst z
          rcases List.mem_append.mp (pm.mem_iff.mp hb) with y | y
          · exact (List.nodup_append.mp nn).2.2 a ha a (sb.subset y) rfl
          · exact nfg a (List.mem_append_left _ ha) y
        · rcases List.mem_append.mp m with m | m
          · exact (f.fr a (List.mem_append_left _ m)).imp (fun y => inC a y) id
          · rcases List.mem_append.mp (pm.mem_iff.mp m) with y | y
            · exact (f.fr a (List.mem_append_right _ (sb.subset y))).imp (fun y => inC a y) id
            · exact .inl (List.mem_append_right _ (inF a (.inr y)))
      cases e2 : Fm ds with
      | bad => rw [e2] at q; exact q.elim
      | exc c ds' =>
        rw [e2] at q
        dsimp only at q
        split at q
        · exact q.elim
        · rename_i hn
          intro B' H' G' r s' nn f C hC
          have nf : lends ars = true → nfIo ars ds' = true := fun z => by
            rw [z] at hn; simpa using hn
          obtain ⟨F2, Gi, c1, c2, c3⟩ := putq s' f r nf
          obtain ⟨d1, d2, d3⟩ := frm (Fr := []) (G' := G') s' f c2 c3 nn
          exact q (less B' L) H' F2 ⟨(back s' f).2.1, c1, d2⟩ (f0.trans d3) C hC
      | ret o ds' =>
        rw [e2] at q
        dsimp only at q
        split at q
        · exact q.elim
        · rename_i hn
          intro v B' H' Fr G' ro r s' nn f
          have nf : lends ars = true → nfo o = true ∧ nfIo ars ds' = true := fun z => by
            rw [z] at hn; simpa using hn
          obtain ⟨F2, Gi, c1, c2, c3⟩ := putq s' f r fun z => (nf z).2
          obtain ⟨d1, d2, d3⟩ := frm s' f c2 c3 nn
          have ro2 : Own X.K X.mg (less B' L) H' Fr v o := by
            cases hle : lends ars with
            | true => exact ro.less (back s' f).2.2.1 (nf hle).1
            | false => rw [a5 hle, less_nil]; exact ro
          split at q
          · exact q v (less B' L) H' Fr F2 ro2 c1 (back s' f).2.1 d1 (f0.trans d3)
          · rename_i hno
            have hno2 : hasIo ars = false ∧ t = false := by simpa using hno
            obtain ⟨eF, fq⟩ := fp hno2.2
            have e0 := (a6 hno2.1).1
            have inG : ∀ a, a ∈ Gc → a ∈ G := fun a m => by
              have z := p1.mem_iff.mp m
              rw [e0] at z
              exact p4.subset z
            refine q v (less B' L) H' Fr ro2 (back s' f).2.1 (List.nodup_append.mp nn).1 (fq.trans ⟨d3.sB, fun a u z m => (back s' f).2.2.2.1 a u z fun y => m (inG a y), fun a u z m b => (back s' f).2.2.2.2 a u z (fun y => m (inG a y)) b, fun a m => ?_⟩)
            exact (f.fr a (List.mem_append_left _ m)).imp (inG a) id
theorem EOk.call {t : TA} {f : Env → O (List AR)} {Fm : List OD → FO} {n : Nat} (hn : ∀ env ars, (f env = .ok ars ∨ ∃ e, f env = .eff ars e) → ars.length = n) (h : EOkS X W (fun σ => lsR (aR X.K X.mg σ)) t f) :
    EOk X W (rvR X.K X.mg) (tCallS (spOf X.K X.mg n Fm) (WE W) t) (eCall Fm f) := by
  intro B H F σ env Q S q
  refine h B H F σ env _ S ?_
  dsimp only [eCall] at q
  cases e : f env with
  | bad => rw [e] at q; exact q
  | exc c e1 => rw [e] at q; exact q
  | ok ars =>
    rw [e] at q
    intro vs B1 H1 G1 r1 s1 n1 f1
    exact call_ok (t := false) (S.pure s1 f1) r1 ((lsR_len r1).trans (hn env ars (.inl e))) (nodup_new (fun a m => (S.sl.there a m).2) S.nd n1 f1) f1.wide0 (fun _ => ⟨rfl, f1⟩) q
  | eff ars env1 =>
    rw [e] at q
    intro vs B1 H1 G1 F1 r1 l1 s1 n1 f1
    exact call_ok (t := true) ⟨s1, l1, (List.nodup_append.mp n1).2.1⟩ r1 ((lsR_len r1).trans (hn env ars (.inr ⟨_, e⟩))) n1 f1 (fun z => nomatch z) q
end
end Tl
namespace Tl
open PySem PySem.Spec L2

/-! ### statements -/
/-- the slots of io hold what they held -/
def Agree (io : List Nat) (σ σ' : St) : Prop := ∀ i ∈ io, σ'[i]? = σ[i]?
theorem Agree.refl {io : List Nat} {σ : St} : Agree io σ σ := fun _ _ => rfl
theorem Agree.trans {io : List Nat} {σ σ' σ2 : St} (a : Agree io σ σ') (b : Agree io σ' σ2) : Agree io σ σ2 := fun i m => (b i m).trans (a i m)
def SPost (X : Cx) (W : WX) (io : List Nat) (B H : Hp) (F : List Addr) (σ : St) (D : Ends) : SO → Prop
  | .nx env' => ∀ B' H' F' σ', Sta X.K X.mg B' H' F' σ' env' → Frm B H F B' H' F' → Agree io σ σ' → D.nx σ' H'
  | .rt o env' => ∀ v B' H' G F' σ', Own X.K X.mg B' H' G v o → Slots X.K X.mg B' H' F' σ' env' → Same B' H' → (G ++ F').Nodup → Frm B H F B' H' (G ++ F') → Agree io σ σ' → D.rt v H'
  | .bk env' => ∀ B' H' F' σ', Sta X.K X.mg B' H' F' σ' env' → Frm B H F B' H' F' → Agree io σ σ' → D.bk σ' H'
  | .ct env' => ∀ B' H' F' σ', Sta X.K X.mg B' H' F' σ' env' → Frm B H F B' H' F' → Agree io σ σ' → D.ct σ' H'
  | .exc c env' => ∀ B' H' F' σ', Sta X.K X.mg B' H' F' σ' env' → Frm B H F B' H' F' → Agree io σ σ' → Raised X W c σ' H'
  | .bad => False
def SOk (X : Cx) (W : WX) (io : List Nat) (t : TS) (f : Env → SO) : Prop :=
  ∀ B H F σ env D, Sta X.K X.mg B H F σ env → SPost X W io B H F σ D (f env) → t D σ H
def PSr (X : Cx) (W : WX) (io : List Nat) (st : Stmt) (f : Env → SO) : Prop := ∃ t, PS X st t ∧ SOk X W io t f
def PSsr (X : Cx) (W : WX) (io : List Nat) (st : List Stmt) (f : Env → SO) : Prop := ∃ t, PSs X st t ∧ SOk X W io t f

section
variable {X : Cx} {W : WX} {io : List Nat} {a b c e : Expr} {es : List Expr} {f fa fb fc : Env → O RV} {st : Stmt} {sts rest : List Stmt} {pos : Pos}
/-- later -/
theorem SPost.later {B H B1 H1 : Hp} {F F1 : List Addr} {σ σ1 : St} {D : Ends} {o : SO} (q : SPost X W io B H F σ D o) (f : Frm B H F B1 H1 F1) (ag : Agree io σ σ1) : SPost X W io B1 H1 F1 σ1 D o := by
  cases o with
  | bad => exact q
  | rt o env' => exact fun v B' H' G F' σ' a b c d f' g => q v B' H' G F' σ' a b c d (f.trans f') (ag.trans g)
  | _ => exact fun B' H' F' σ' s f' g => q B' H' F' σ' s (f.trans f') (ag.trans g)
def sSeq (f g : Env → SO) : Env → SO := fun env => match f env with
  | .nx e => g e
  | o => o
def sNx : Env → SO := fun env => .nx env
theorem SOk.seq {t u : TS} {f g : Env → SO} (h : SOk X W io t f) (k : SOk X W io u g) : SOk X W io (tSeq t u) (sSeq f g) := by
  intro B H F σ env D S q
  refine h B H F σ env _ S ?_
  dsimp only [sSeq] at q
  cases e : f env with
  | nx env1 =>
    rw [e] at q
    exact fun B1 H1 F1 σ1 S1 f1 g1 => k B1 H1 F1 σ1 env1 D S1 (SPost.later q f1 g1)
  | _ => rw [e] at q; exact q
theorem ss_nil : PSsr X W io [] sNx := ⟨_, pss_nil, fun B H F σ env D S q => q B H F σ S Frm.refl Agree.refl⟩
theorem ss_cons {f g : Env → SO} (h : PSr X W io st f) (k : PSsr X W io rest g) : PSsr X W io (st :: rest) (sSeq f g) := by
  obtain ⟨t, h1, h2⟩ := h
  obtain ⟨u, k1, k2⟩ := k
  exact ⟨_, pss_cons h1 k1, h2.seq k2⟩
theorem ss_one {f : Env → SO} (h : PSr X W io st f) : PSsr X W io [st] f := by
  obtain ⟨t, h1, h2⟩ := h
  exact ⟨_, pss_one h1, h2⟩
theorem s_pass : PSr X W io (.Pass pos) sNx := ⟨_, ps_pass, fun B H F σ env D S q => q B H F σ S Frm.refl Agree.refl⟩
def sBk : Env → SO := fun env => .bk env
def sCt : Env → SO := fun env => .ct env
theorem s_break : PSr X W io (.Break pos) sBk := ⟨_, ps_break, fun B H F σ env D S q => q B H F σ S Frm.refl Agree.refl⟩
theorem s_cont : PSr X W io (.Continue pos) sCt := ⟨_, ps_continue, fun B H F σ env D S q => q B H F σ S Frm.refl Agree.refl⟩
theorem s_doc {x j pos pos'} : PSr X W io (.Expr (.Constant (.str x) j pos) pos') sNx := ⟨_, ps_doc, fun B H F σ env D S q => q B H F σ S Frm.refl Agree.refl⟩
/-- an expression, its value dropped -/
def sE {β : Type} (f : Env → O β) (k : β → Env → SO) : Env → SO := fun env => match f env with
  | .ok r => k r env
  | .eff r e => k r e
  | .exc c e => .exc c e
  | .bad => .bad
def sExpr (f : Env → O RV) : Env → SO := sE f fun _ e => .nx e
theorem s_expr (h : PEr X W e f) (hs : swapsWith e none pos.line X.env = pure false := by rfl) : PSr X W io (.Expr e pos) (sExpr f) := by
  obtain ⟨t, h, k⟩ := h
  refine ⟨_, ps_expr h hs, fun B H F σ env D S q => k B H F σ env _ S ?_⟩
  dsimp only [sExpr, sE] at q
  cases e2 : f env with
  | bad => rw [e2] at q; exact q
  | exc c e => rw [e2] at q; exact fun B' H' F' S' f' => q B' H' F' σ S' f' Agree.refl
  | ok r => rw [e2] at q; exact fun v B' H' G r s n f => q B' H' F σ (S.pure s f) (f.wide (fun _ z => nomatch z) fun c m => .inr m) Agree.refl
  | eff r e => rw [e2] at q; exact fun v B' H' G F' r l s n f => q B' H' F' σ ⟨s, l, (List.nodup_append.mp n).2.1⟩ (f.wide (fun c m => m) fun c m => .inl (List.mem_append_right _ m)) Agree.refl
def kRet (r : RV) (e : Env) : SO := match r with
  | .own o => .rt o e
  | .view _ => .bad
def sRet (f : Env → O RV) : Env → SO := sE f kRet
theorem s_ret (h : PEr X W e f) : PSr X W io (.Return (some e) pos) (sRet f) := by
  obtain ⟨t, h, k⟩ := h
  refine ⟨_, ps_ret h, fun B H F σ env D S q => k B H F σ env _ S ?_⟩
  dsimp only [sRet, sE] at q
  cases e2 : f env with
  | bad => rw [e2] at q; exact q
  | exc c e => rw [e2] at q; exact fun B' H' F' S' f' => q B' H' F' σ S' f' Agree.refl
  | ok r =>
    rw [e2] at q
    cases r with
    | view o => exact q.elim
    | own o => exact fun v B' H' G r s n f => q v B' H' G F σ r (S.pure s f).sl s (nodup_new (fun a m => (S.sl.there a m).2) S.nd n f) f.wide0 Agree.refl
  | eff r e =>
    rw [e2] at q
    cases r with
    | view o => exact q.elim
    | own o => exact fun v B' H' G F' r l s n f => q v B' H' G F' σ r l s n f Agree.refl
def sRetN : Env → SO := fun env => .rt (.fz .non) env
theorem s_retN : PSr X W io (.Return none pos) sRetN := ⟨_, ps_retN, fun B H F σ env D S q => q .non B H [] F σ (.fz .non) S.sl S.sub S.nd Frm.refl Agree.refl⟩
def sIf (c : Env → O Bool) (f g : Env → SO) : Env → SO := sE c fun b e => if b = true then f e else g e
theorem s_if {c : Expr} {cc : Env → O Bool} {f g : Env → SO} {p q : List Stmt} (hc : PTr X W c cc) (hp : PSsr X W io p f) (hq : PSsr X W io q g) : PSr X W io (.If c p q pos) (sIf cc f g) := by
  obtain ⟨t, h, k⟩ := hc
  obtain ⟨t1, h1, k1⟩ := hp
  obtain ⟨t2, h2, k2⟩ := hq
  refine ⟨_, ps_if h h1 h2, fun B H F σ env D S q => k B H F σ env _ S ?_⟩
  dsimp only [sIf, sE] at q
  have fin : ∀ (b : Bool) (B' H' : Hp) (F' : List Addr) (e : Env), Sta X.K X.mg B' H' F' σ e → Frm B H F B' H' F' → SPost X W io B H F σ D (if b = true then f e else g e) → if b = true then t1 D σ H' else t2 D σ H' := fun b B' H' F' e S' f' q' => by
    cases b with
    | true => exact k1 B' H' F' σ e D S' (SPost.later q' f' Agree.refl)
    | false => exact k2 B' H' F' σ e D S' (SPost.later q' f' Agree.refl)
  cases e2 : cc env with
  | bad => rw [e2] at q; exact q
  | exc c e => rw [e2] at q; exact fun B' H' F' S' f' => q B' H' F' σ S' f' Agree.refl
  | ok b =>
    rw [e2] at q
    intro b' B' H' G r s n f
    obtain ⟨rfl, rfl⟩ := r
    exact fin _ B' H' F env (S.pure s f) (f.wide (fun _ z => nomatch z) fun c m => .inr m) q
  | eff b e =>
    rw [e2] at q
    intro b' B' H' G F' r l s n f
    obtain ⟨rfl, rfl⟩ := r
    exact fin _ B' H' F' e ⟨s, l, n⟩ f q

/-! ### targets -/
def GPost (X : Cx) (io : List Nat) (B H : Hp) (F : List Addr) (σ : St) (Q : St → Hp → Prop) : Option Env → Prop
  | some env' => ∀ B' H' F' σ', Sta X.K X.mg B' H' F' σ' env' → Frm B H F B' H' F' → Agree io σ σ' → Q σ' H'
  | none => False
def PGr (X : Cx) (io : List Nat) (tg : Expr) (g : OD → Env → Option Env) : Prop := ∃ t, PG X tg t ∧ ∀ B H F G σ env v o Q, Slots X.K X.mg B H F σ env → Same B H → Own X.K X.mg B H G v o → (G ++ F).Nodup → GPost X io B H (G ++ F) σ Q (g o env) → t v σ H Q
def PGsr (X : Cx) (io : List Nat) (tgs : List Expr) (g : List OD → Env → Option Env) : Prop := ∃ t, PGs X tgs t ∧ ∀ B H F G σ env vs os Q, Slots X.K X.mg B H F σ env → Same B H → OwnL X.K X.mg B H G vs os → (G ++ F).Nodup → GPost X io B H (G ++ F) σ Q (g os env) → t vs σ H Q
theorem Slots.store {K : PySem.W.Frag} {mg : Str → Option Value} {B H : Hp} {F : List Addr} {σ : St} {env : Env} (x : Slots K mg B H F σ env) {i : Nat} (hi : i < env.length) {v : V} {G : List Addr} {o : OD} (r : Own K mg B H G v o) :
    ∃ F' Fr, Slots K mg B H F' (σ.set i (some v)) (env.set i o) ∧ F'.Perm (G ++ Fr) ∧ Fr.Sublist F := by
  induction x generalizing i with
  | nil => simp at hi
  | @un F x σ env h ih =>
    cases i with
    | zero => exact ⟨G ++ F, F, .cons r h, List.Perm.refl _, List.Sublist.refl _⟩
    | succ i =>
      obtain ⟨F', Fr, h1, h2, h3⟩ := ih (by simpa using hi)
      exact ⟨F', Fr, .un h1, h2, h3⟩
  | @cons F1 G1 w o' σ env r' h ih =>
    cases i with
    | zero => exact ⟨G ++ G1, G1, .cons r h, List.Perm.refl _, List.sublist_append_right _ _⟩
    | succ i =>
      obtain ⟨F', Fr, h1, h2, h3⟩ := ih (by simpa using hi)
      refine ⟨F1 ++ F', F1 ++ Fr, .cons r' h1, ?_, (List.Sublist.refl _).append h3⟩
      refine (h2.append_left F1).trans ?_
      rw [← List.append_assoc, ← List.append_assoc]
      exact (List.perm_append_comm).append_right Fr
def gSet (i : Nat) : OD → Env → Option Env := fun o env => if i < env.length then some (env.set i o) else none
theorem Slots.len {K : PySem.W.Frag} {mg : Str → Option Value} {B H : Hp} {F : List Addr} {σ : St} {env : Env} (x : Slots K mg B H F σ env) : σ.length = env.length := by
  induction x with
  | nil => rfl
  | un _ ih => simp [ih]
  | cons _ _ ih => simp [ih]
theorem Agree.set {i : Nat} {σ : St} {v : Option V} (h : io.contains i = false) : Agree io σ (σ.set i v) := fun j m => by
  have : i ≠ j := fun e => by
    subst e
    have : io.contains i = true := by simpa using m
    rw [h] at this; cases this
  rw [List.getElem?_set_ne this]
/-- a slot's data put anew: what was there is nobody's then -/
theorem store_ok {B H : Hp} {F G : List Addr} {σ : St} {env : Env} {v : V} {o : OD} {i : Nat} (sl : Slots X.K X.mg B H F σ env) (s : Same B H) (r : Own X.K X.mg B H G v o) (n : (G ++ F).Nodup) (hi : i < env.length) (hio : io.contains i = false) :
    ∃ F', Sta X.K X.mg B H F' (σ.set i (some v)) (env.set i o) ∧ Frm B H (G ++ F) B H F' ∧ Agree io σ (σ.set i (some v)) := by
  obtain ⟨F', Fr, h1, h2, h3⟩ := sl.store hi r
  have nn : (G ++ Fr).Nodup := n.sublist ((List.Sublist.refl _).append h3)
  exact ⟨F', ⟨s, h1, h2.nodup_iff.mpr nn⟩, ⟨Same.refl _, fun _ _ e _ => e, fun _ _ _ _ b => b, fun a m => .inl (((List.Sublist.refl _).append h3).subset (h2.mem_iff.mp m))⟩, Agree.set hio⟩
theorem g_name (i : Nat) {x : Str} (hN : X.N.Nodup) (hi : X.N[i]? = some x := by rfl) (hx : Loc X.env.scope x := by first | exact Or.inl rfl | exact Or.inr rfl) (hio : io.contains i = false := by rfl)
    (hf : X.fn x = true ∨ X.env.scope.names.lookup x = some .local := by first | exact .inl rfl | exact .inr rfl) : PGr X io (.Name x pos) (gSet i) := by
  refine ⟨_, pg_name hN hi hx hf, fun B H F G σ env v o Q sl s r n q => ?_⟩
  dsimp only [gSet] at q
  split at q
  · rename_i hl
    obtain ⟨F', h1, h2, h3⟩ := store_ok (io := io) sl s r n hl hio
    exact q B H F' _ h1 h2 h3
  · exact q.elim
def kAsg (g : OD → Env → Option Env) (r : RV) (e : Env) : SO := match r with
  | .own o => match g o e with
    | some e' => .nx e'
    | none => .bad
  | .view _ => .bad
def sAsg (f : Env → O RV) (g : OD → Env → Option Env) : Env → SO := sE f (kAsg g)
theorem s_asg {tg : Expr} {g : OD → Env → Option Env} (he : PEr X W e f) (hg : PGr X io tg g) (hs : swapsWithSole [tg] e pos.line X.env = pure false := by rfl) (hw : swappedStores [tg] e X.env = pure none := by rfl)
    (h1 : (assignEach [tg] X.env).map (·.2) = [assign tg X.env] := by rfl) : PSr X W io (.Assign [tg] e pos) (sAsg f g) := by
  obtain ⟨t, h, k⟩ := he
  obtain ⟨u, h2, k2⟩ := hg
  refine ⟨_, ps_asg h h2 hs hw h1, fun B H F σ env D S q => k B H F σ env _ S ?_⟩
  dsimp only [sAsg, sE] at q
  cases e2 : f env with
  | bad => rw [e2] at q; exact q
  | exc c e => rw [e2] at q; exact fun B' H' F' S' f' => q B' H' F' σ S' f' Agree.refl
  | ok r =>
    rw [e2] at q
    cases r with
    | view o => exact q.elim
    | own o =>
      intro v B' H' G r s n f
      refine k2 B' H' F G σ env v o D.nx (S.pure s f).sl s r (nodup_new (fun a m => (S.sl.there a m).2) S.nd n f) ?_
      dsimp only [kAsg] at q
      cases e3 : g o env with
      | none => rw [e3] at q; exact q
      | some e' => rw [e3] at q; exact fun B2 H2 F2 σ2 S2 f2 g2 => q B2 H2 F2 σ2 S2 (f.wide0.trans f2) g2
  | eff r e =>
    rw [e2] at q
    cases r with
    | view o => exact q.elim
    | own o =>
      intro v B' H' G F' r l s n f
      refine k2 B' H' F' G σ e v o D.nx l s r n ?_
      dsimp only [kAsg] at q
      cases e3 : g o e with
      | none => rw [e3] at q; exact q
      | some e' => rw [e3] at q; exact fun B2 H2 F2 σ2 S2 f2 g2 => q B2 H2 F2 σ2 S2 (f.trans f2) g2
/-- x = e, the plain way -/
theorem s_set (i : Nat) {x : Str} {pos' : Pos} (hN : X.N.Nodup) (he : PEr X W e f) (hi : X.N[i]? = some x := by rfl) (hx : Loc X.env.scope x := by first | exact Or.inl rfl | exact Or.inr rfl) (hio : io.contains i = false := by rfl)
    (hs : swapsWith e (some (.Name x pos')) pos.line X.env = pure false := by rfl)
    (hf : X.fn x = true ∨ X.env.scope.names.lookup x = some .local := by first | exact .inl rfl | exact .inr rfl) : PSr X W io (.Assign [.Name x pos'] e pos) (sAsg f (gSet i)) := by
  obtain ⟨t, h, k⟩ := he
  refine ⟨_, ps_set hN hi hx h hs hf, fun B H F σ env D S q => k B H F σ env _ S ?_⟩
  dsimp only [sAsg, sE] at q
  cases e2 : f env with
  | bad => rw [e2] at q; exact q
  | exc c e => rw [e2] at q; exact fun B' H' F' S' f' => q B' H' F' σ S' f' Agree.refl
  | ok r =>
    rw [e2] at q
    cases r with
    | view o => exact q.elim
    | own o =>
      intro v B' H' G r s n f
      dsimp only [kAsg, gSet] at q
      split at q
      · rename_i e3
        split at e3
        · rename_i hl
          cases e3
          obtain ⟨F2, h1, h2, h3⟩ := store_ok (io := io) (S.pure s f).sl s r (nodup_new (fun a m => (S.sl.there a m).2) S.nd n f) hl hio
          exact q B' H' F2 _ h1 (f.wide0.trans h2) h3
        · cases e3
      · exact q.elim
  | eff r e =>
    rw [e2] at q
    cases r with
    | view o => exact q.elim
    | own o =>
      intro v B' H' G F' r l s n f
      dsimp only [kAsg, gSet] at q
      split at q
      · rename_i e3
        split at e3
        · rename_i hl
          cases e3
          obtain ⟨F2, h1, h2, h3⟩ := store_ok (io := io) l s r n hl hio
          exact q B' H' F2 _ h1 (f.trans h2) h3
        · cases e3
      · exact q.elim
end
end Tl
namespace Tl
open PySem PySem.Spec L2

section
variable {X : Cx} {W : WX} {io : List Nat} {a b c e : Expr} {es : List Expr} {f fa fb fc : Env → O RV} {st : Stmt} {sts rest : List Stmt} {pos : Pos}
/-! ### tuple targets -/
def gsNil : List OD → Env → Option Env := fun os env => match os with
  | [] => some env
  | _ :: _ => none
def gsCons (g : OD → Env → Option Env) (gs : List OD → Env → Option Env) : List OD → Env → Option Env := fun os env => match os with
  | [] => none
  | o :: r => match g o env with
    | some e => gs r e
    | none => none
def gTupT (n : Nat) (gs : List OD → Env → Option Env) : OD → Env → Option Env := fun o env => match o with
  | .fz (.tup ds) => if ds.length = n then gs (ds.map .fz) env else none
  | .tup os => if os.length = n then gs os env else none
  | _ => none
theorem gs_nil : PGsr X io [] gsNil := by
  refine ⟨_, pgs_nil, fun B H F G σ env vs os Q sl s r n q => ?_⟩
  cases r with
  | nil => exact ⟨rfl, q B H F σ ⟨s, sl, by simpa using n⟩ Frm.refl Agree.refl⟩
  | cons _ _ => exact q.elim
theorem gs_cons {tg : Expr} {tgs : List Expr} {g : OD → Env → Option Env} {gs : List OD → Env → Option Env} (h : PGr X io tg g) (k : PGsr X io tgs gs) (h2 : (assignEach (tg :: tgs) X.env).map (·.2) = assign tg X.env :: (assignEach tgs X.env).map (·.2) := by rfl) : PGsr X io (tg :: tgs) (gsCons g gs) := by
  obtain ⟨t, h1, h3⟩ := h
  obtain ⟨u, k1, k3⟩ := k
  refine ⟨_, pgs_cons h1 k1 h2, fun B H F G σ env vs os Q sl s r n q => ?_⟩
  cases r with
  | nil => exact q.elim
  | @cons F1 G1 v vs o os r1 r2 =>
    have n' := n
    rw [List.append_assoc] at n'
    have na := List.nodup_append.mp n'
    have nb := List.nodup_append.mp na.2.1
    refine ⟨v, vs, rfl, h3 B H F F1 σ env v o _ sl s r1 (List.nodup_append.mpr ⟨na.1, nb.2.1, fun a ha b hb => na.2.2 a ha b (List.mem_append_right _ hb)⟩) ?_⟩
    dsimp only [gsCons] at q
    cases e : g o env with
    | none => rw [e] at q; exact q
    | some e1 =>
      rw [e] at q
      intro B1 H1 F' σ1 S1 f1 g1
      have dj : ∀ a ∈ G1, a ∉ F1 ++ F := fun a m z => by
        rcases List.mem_append.mp z with z | z
        · exact na.2.2 a z a (List.mem_append_left _ m) rfl
        · exact nb.2.2 a m a z rfl
      have r2' := f1.ownL r2 dj
      refine k3 B1 H1 F' G1 σ1 e1 vs os Q S1.sl S1.sub r2' ?_ ?_
      · refine List.nodup_append.mpr ⟨nb.1, S1.nd, fun a ha b hb z => ?_⟩
        subst z
        rcases f1.fr a hb with y | y
        · exact dj a ha y
        · obtain ⟨_, u, e⟩ := r2.there a ha
          rw [e] at y; cases y
      · dsimp only at q
        cases e2 : gs os e1 with
        | none => rw [e2] at q; exact q
        | some e' =>
          rw [e2] at q
          refine fun B2 H2 F2 σ2 S2 f2 g2 => q B2 H2 F2 σ2 S2 (Frm.trans (f1.wide (G := F1 ++ G1 ++ F) (F2 := G1 ++ F') (fun c m => ?_) fun c m => ?_) f2) (g1.trans g2)
          · rcases List.mem_append.mp m with m | m
            · exact List.mem_append_left _ (List.mem_append_left _ m)
            · exact List.mem_append_right _ m
          · rcases List.mem_append.mp m with m | m
            · exact .inr (List.mem_append_left _ (List.mem_append_right _ m))
            · exact .inl m
theorem g_tup {k : Nat} {n : Nat} {gs : List OD → Env → Option Env} (hc : X.calm = true) (h : PGsr X io es gs) (hn : (assignEach es X.env).length = n := by rfl) (hst : (assignEach es X.env).findIdx? (·.1) = none := by rfl) : PGr X io (.Tuple es k pos) (gTupT n gs) := by
  obtain ⟨t, h1, h3⟩ := h
  refine ⟨_, pg_tup hc h1 hn hst, fun B H F G σ env v o Q sl s r nd q => ?_⟩
  dsimp only [gTupT] at q
  split at q
  · rename_i ds
    split at q
    · rename_i hl
      cases r with
      | fz r =>
        cases r with
        | @tup p vs _ k1 k2 => exact ⟨p, vs, rfl, Same.seqT s k1, k2.length.trans hl, h3 B H F [] σ env vs _ Q sl s k2.ownL nd q⟩
    · exact q.elim
  · rename_i os
    split at q
    · rename_i hl
      cases r with
      | @tup p vs _ _ k1 k2 => exact ⟨p, vs, rfl, Same.seqT s k1, k2.length.trans hl, h3 B H F G σ env vs _ Q sl s k2 nd q⟩
    · exact q.elim
  · exact q.elim

/-! ### raise -/
/-- an own exception class named c -/
structure ExcT (K : PySem.W.Frag) (mg : Str → Option Value) (c : Str) : Prop where
  ex : ∃ C, mg c = some (.ref C) ∧ PySem.W.excIn K C [.type "ValueError", .type "Exception", .type "BaseException", .type "object"] "ValueError.__new__" = true ∧ PySem.W.keepIn K (.ref C) = true ∧
    PySem.W.subIn K (.ref C) (.type "BaseException") = some true ∧ PySem.W.typeIn K (.ref C) = some (.type "type")
def sRaise (c : Str) : Env → SO := fun env => .exc c env
theorem s_raise {x m : Str} {j : Nat} {p p2 p3 : Pos} (hc : X.calm = true) (tk : Takes X W) (T : ExcT X.K X.mg x) (hg : Gl X x := by rfl) (hdb : (x == ("__debug__" : Str)) = false := by decide) :
    PSr X W io (.Raise (some (.Call (.Name x p) [.Constant (.str m) j p2] [] p3)) none pos) (sRaise x) := by
  obtain ⟨C, gC, xC, kC, bC, tC⟩ := T.ex
  exact ⟨_, ps_raise hc tk (pmk_own PySem.F.excBase_ValueError xC gC kC (raises_own bC tC) hg hdb), fun B H F σ env D S q => q B H F σ S Frm.refl Agree.refl C gC⟩

/-! ### calls -/
theorem r_call {k n : Nat} {fn : Addr} {fd : FuncData} {ps : List Str} {x : Str} {p : Pos} {Fm : List OD → FO} {fr : Env → O (List AR)} (tk : Takes X W) (F : FnOk X.prog X.w X.K X.mg X.base (L2.CX X.prog X.w) k fn fd ps (spOf X.K X.mg n Fm)) (hr : Room k X.A)
    (hm : X.mg x = some (.ref fn)) (hk : PySem.W.keepIn X.K (.ref fn) = true) (hb : Binds X.K fd ps []) (ha : PCr X W (e :: es) fr) (hl : ∀ env ars, (fr env = .ok ars ∨ ∃ e, fr env = .eff ars e) → ars.length = n) (hg : Gl X x := by rfl) (hdb : (x == ("__debug__" : Str)) = false := by decide)
    (he : starEach (e :: es) X.env = (false, eval e X.env) :: starEach es X.env := by rfl) (hpl : (backTo pos (starEach es X.env)).any (·.1) = false := by rfl) : PEr X W (.Call (.Name x p) (e :: es) [] pos) (eCall Fm fr) := by
  obtain ⟨t, h, k⟩ := ha
  exact ⟨_, pe_callS F hr hg hm hk hb (fun σ => passAt tk σ) h hdb he hpl, EOk.call hl k⟩
theorem cl_nil : ∀ env ars, (cNil env = .ok ars ∨ ∃ e, cNil env = .eff ars e) → ars.length = 0 := fun env ars h => by
  rcases h with h | ⟨e, h⟩ <;> cases h
  rfl
theorem andThen_len {β : Type} {x : O β} {safe : β → Bool} {env : Env} {g : Env → O (List AR)} {j : β → List AR → List AR} {n : Nat} (hj : ∀ a b, (j a b).length = b.length + 1) (h : ∀ env ars, (g env = .ok ars ∨ ∃ e, g env = .eff ars e) → ars.length = n) :
    ∀ ars, (x.andThen safe env (fun _ e => g e) j = .ok ars ∨ ∃ e, x.andThen safe env (fun _ e => g e) j = .eff ars e) → ars.length = n + 1 := fun ars z => by
  have key : ∀ e1 b, (g e1 = .ok b ∨ ∃ e, g e1 = .eff b e) → ∀ a, (j a b).length = n + 1 := fun e1 b z a => by rw [hj, h e1 b z]
  unfold O.andThen at z
  cases x with
  | bad => rcases z with z | ⟨e, z⟩ <;> cases z
  | exc c e => rcases z with z | ⟨e, z⟩ <;> cases z
  | ok a =>
    dsimp only at z
    cases q : g env with
    | bad => rw [q] at z; rcases z with z | ⟨e, z⟩ <;> cases z
    | exc c e => rw [q] at z; rcases z with z | ⟨e, z⟩ <;> cases z
    | ok b => rw [q] at z; rcases z with z | ⟨e, z⟩ <;> cases z; exact key env b (.inl q) a
    | eff b e =>
      rw [q] at z; dsimp only at z
      split at z
      · rcases z with z | ⟨e, z⟩ <;> cases z; exact key env b (.inr ⟨_, q⟩) a
      · rcases z with z | ⟨e, z⟩ <;> cases z
  | eff a e1 =>
    dsimp only at z
    cases q : g e1 with
    | bad => rw [q] at z; rcases z with z | ⟨e, z⟩ <;> cases z
    | exc c e => rw [q] at z; rcases z with z | ⟨e, z⟩ <;> cases z
    | ok b => rw [q] at z; rcases z with z | ⟨e, z⟩ <;> cases z; exact key e1 b (.inl q) a
    | eff b e =>
      rw [q] at z; dsimp only at z
      split at z
      · rcases z with z | ⟨e, z⟩ <;> cases z; exact key e1 b (.inr ⟨_, q⟩) a
      · rcases z with z | ⟨e, z⟩ <;> cases z
theorem cl_val {fr : Env → O (List AR)} {n : Nat} (h : ∀ env ars, (fr env = .ok ars ∨ ∃ e, fr env = .eff ars e) → ars.length = n) : ∀ env ars, (cVal f fr env = .ok ars ∨ ∃ e, cVal f fr env = .eff ars e) → ars.length = n + 1 :=
  fun env ars z => andThen_len (fun _ _ => rfl) h ars z
theorem cl_io {i : Nat} {fr : Env → O (List AR)} {n : Nat} (h : ∀ env ars, (fr env = .ok ars ∨ ∃ e, fr env = .eff ars e) → ars.length = n) : ∀ env ars, (cIo i fr env = .ok ars ∨ ∃ e, cIo i fr env = .eff ars e) → ars.length = n + 1 := fun env ars z => by
  unfold cIo at z
  split at z
  · rcases z with z | ⟨e, z⟩ <;> cases z
  · cases q : fr env with
    | bad => rw [q] at z; rcases z with z | ⟨e, z⟩ <;> cases z
    | exc c e => rw [q] at z; rcases z with z | ⟨e, z⟩ <;> cases z
    | ok b => rw [q] at z; rcases z with z | ⟨e, z⟩ <;> cases z; simp [h env b (.inl q)]
    | eff b e => rw [q] at z; rcases z with z | ⟨e, z⟩ <;> cases z; simp [h env b (.inr ⟨_, q⟩)]
  · rcases z with z | ⟨e, z⟩ <;> cases z
theorem cl_tmp {fr : Env → O (List AR)} {n : Nat} (h : ∀ env ars, (fr env = .ok ars ∨ ∃ e, fr env = .eff ars e) → ars.length = n) : ∀ env ars, (cTmp f fr env = .ok ars ∨ ∃ e, cTmp f fr env = .eff ars e) → ars.length = n + 1 :=
  fun env ars z => andThen_len (fun _ _ => rfl) h ars z
end

/-! ### a def -/
def isFz : OD → Bool
  | .fz _ => true
  | .fzi _ _ => true
  | _ => false
/-- the arguments at the end: those of io as they are then, the others as they were (plain) -/
def outs (io : List Nat) (env : Env) : Nat → List OD → Option (List OD)
  | _, [] => some []
  | k, d :: ds => if io.contains k = true then match env[k]? with
      | some .un => none
      | some o => match outs io (env.set k .un) (k + 1) ds with
        | some r => some (o :: r)
        | none => none
      | none => none
    else if isFz d = true then match outs io env (k + 1) ds with
      | some r => some (d :: r)
      | none => none
    else none
def runB (m : Nat) (io : List Nat) (body : Env → SO) : List OD → FO := fun ds => match body (ds ++ List.replicate m .un) with
  | .nx e => match outs io e 0 ds with
    | some r => .ret (.fz .non) r
    | none => .bad
  | .rt o e => match outs io e 0 ds with
    | some r => .ret o r
    | none => .bad
  | .exc c e => match outs io e 0 ds with
    | some r => .exc c r
    | none => .bad
  | _ => .bad
section
variable {K : PySem.W.Frag} {mg : Str → Option Value}
theorem slots_start {B H : Hp} {G : List Addr} {vs : List V} {ds : List OD} (m : Nat) (h : OwnL K mg B H G vs ds) : Slots K mg B H G (vs.map some ++ List.replicate m none) (ds ++ List.replicate m .un) := by
  induction vs generalizing ds G with
  | nil =>
    cases h
    induction m with
    | zero => exact .nil
    | succ m ih => simp only [List.map_nil, List.nil_append, List.replicate_succ] at ih ⊢; exact .un ih
  | cons v vs ih => cases h with | cons r t => exact .cons r (ih t)
theorem outs_ok {io : List Nat} {B0 H0 B H : Hp} {G0 : List Addr} {σ : St} : ∀ {k : Nat} {vs : List V} {ds os : List OD} {F : List Addr} {env : Env}, Slots K mg B H F σ env → Same B0 B → OwnL K mg B0 H0 G0 vs ds → outs io env k ds = some os → (∀ j v, vs[j]? = some v → io.contains (k + j) = true → σ[k + j]? = some (some v)) →
    ∃ G Fr, OwnL K mg B H G vs os ∧ F.Perm (G ++ Fr) := by
  intro k vs ds os F env sl s h e hv
  induction vs generalizing G0 ds os F env k with
  | nil => cases h; cases e; exact ⟨[], F, .nil, List.Perm.refl _⟩
  | cons v vs ih =>
    cases h with
    | @cons F1 G1 _ _ d ds r t =>
      unfold outs at e
      have hv' : ∀ j w, vs[j]? = some w → io.contains (k + 1 + j) = true → σ[k + 1 + j]? = some (some w) := fun j w e1 e2 => by
        have := hv (j + 1) w (by simpa using e1)
        rw [show k + (j + 1) = k + 1 + j by omega] at this
        exact this e2
      split at e
      · rename_i hio
        split at e
        · cases e
        · rename_i o hn e0
          split at e
          · rename_i r' e1
            cases e
            obtain ⟨w, Fi, Fr, b1, b2, b3, b4⟩ := sl.take e0 (fun z => hn (by subst z; rfl))
            have := hv 0 v (by simp) (by simpa using hio)
            rw [Nat.add_zero] at this
            rw [this] at b1; cases b1
            obtain ⟨G, Fr2, c1, c2⟩ := ih b3 t e1 hv'
            exact ⟨Fi ++ G, Fr2, .cons b2 c1, by rw [List.append_assoc]; exact b4.trans (c2.append_left Fi)⟩
          · cases e
        · cases e
      · split at e
        · rename_i hf
          split at e
          · rename_i r' e1
            cases e
            obtain ⟨G, Fr2, c1, c2⟩ := ih sl t e1 hv'
            cases r with
            | fz r => exact ⟨G, Fr2, .cons (F := []) (.fz (r.mono s)) c1, c2⟩
            | fzi a1 a2 a3 a4 a5 => exact ⟨G, Fr2, .cons (F := []) ((Own.fzi a1 a2 a3 a4 a5).mono s (fun _ z => nomatch z)) c1, c2⟩
            | _ => cases hf
          · cases e
        · cases e
end
section
variable {P : Program} {w : World} {K : PySem.W.Frag} {mg : Str → Option Value} {base : Heap}
/-- a def keeps its promise -/
theorem fn_ok {x qual : Str} {st : Stmt} {f : Addr} {fd : FuncData} {N ps : List Str} {k n m : Nat} {io : List Nat} {body : Env → SO} (F : Fun K x qual st f fd) (S : FnScope N ps (defScope st)) (hn : ps.length = n) (hm : N.length = n + m) (hio : io.all (fun i => decide (i < n)) = true)
    (hb : ∀ (cdv : Value) (A : Around) (outer : List PySem.Env) (s : Shared) (H : Hp) (E : XK), Room k (A.deeper (PyProof.Rows.envOfC qual (defScope st) s.heap.objs.size f cdv)) →
      PSsr (cxOf (L2.CX P w) P w K mg base N qual (defScope st) f cdv A outer s H E) (fun cls d _ H => E cls d H) io (defBody st) body) :
    FnOk P w K mg base (L2.CX P w) (k + 1) f fd ps (spOf K mg n (runB m io body)) := by
  refine F.okX S (fun vs H Q E h => h.1.trans hn.symm) (fun cdv A outer s H vs Q E hr h => ?_)
  obtain ⟨t, ht, kt⟩ := hb cdv A outer s H E hr
  obtain ⟨hl, B, G, ds, sb, r, nd, q⟩ := h
  refine ⟨t, ht, ?_⟩
  have est : L2.start N vs = vs.map some ++ List.replicate m none := by
    unfold L2.start
    rw [hl, hm]
    congr 2
    omega
  have sl := slots_start m r
  rw [← est] at sl
  refine kt B H G (L2.start N vs) _ _ ⟨sb, sl, nd⟩ ?_
  have at0 : ∀ j v, vs[j]? = some v → (L2.start N vs)[j]? = some (some v) := fun j v e => by
    rw [est, List.getElem?_append_left (by rw [List.length_map]; exact (List.getElem?_eq_some_iff.mp e).1), List.getElem?_map, e]
    rfl
  have pins : ∀ {σ' : St}, Agree io (L2.start N vs) σ' → ∀ j v, vs[j]? = some v → io.contains (0 + j) = true → σ'[0 + j]? = some (some v) := fun ag j v e hj => by
    rw [Nat.zero_add] at hj ⊢
    rw [ag j (by simpa using hj)]
    exact at0 j v e
  dsimp only [runB] at q
  cases e : body (ds ++ List.replicate m .un) with
  | bad => rw [e] at q; exact q.elim
  | bk _ => rw [e] at q; exact q.elim
  | ct _ => rw [e] at q; exact q.elim
  | nx env' =>
    rw [e] at q
    intro B' H' F' σ' S' f' ag
    dsimp only at q
    cases e2 : outs io env' 0 ds with
    | none => rw [e2] at q; exact q.elim
    | some os =>
      rw [e2] at q
      obtain ⟨G', Fr, c1, c2⟩ := outs_ok S'.sl f'.sB r e2 (pins ag)
      have nn := c2.nodup_iff.mp S'.nd
      exact q .non B' H' [] G' (.fz .non) c1 S'.sub (List.nodup_append.mp nn).1 ⟨f'.sB, f'.keep, f'.forg, fun a m => f'.fr a (c2.mem_iff.mpr (List.mem_append_left _ m))⟩
  | rt o env' =>
    rw [e] at q
    intro v B' H' Gr F' σ' ro sl' s' nn f' ag
    dsimp only at q
    cases e2 : outs io env' 0 ds with
    | none => rw [e2] at q; exact q.elim
    | some os =>
      rw [e2] at q
      obtain ⟨G', Fr, c1, c2⟩ := outs_ok sl' f'.sB r e2 (pins ag)
      have n2 := List.nodup_append.mp nn
      refine q v B' H' Gr G' ro c1 s' (List.nodup_append.mpr ⟨n2.1, (List.nodup_append.mp (c2.nodup_iff.mp n2.2.1)).1, fun a ha b hb => n2.2.2 a ha b (c2.mem_iff.mpr (List.mem_append_left _ hb))⟩) ⟨f'.sB, f'.keep, f'.forg, fun a m => f'.fr a ?_⟩
      rcases List.mem_append.mp m with m | m
      · exact List.mem_append_left _ m
      · exact List.mem_append_right _ (c2.mem_iff.mpr (List.mem_append_left _ m))
  | exc c env' =>
    rw [e] at q
    intro B' H' F' σ' S' f' ag C hC
    dsimp only at q
    cases e2 : outs io env' 0 ds with
    | none => rw [e2] at q; exact q.elim
    | some os =>
      rw [e2] at q
      obtain ⟨G', Fr, c1, c2⟩ := outs_ok S'.sl f'.sB r e2 (pins ag)
      have nn := c2.nodup_iff.mp S'.nd
      exact q B' H' G' c1 S'.sub (List.nodup_append.mp nn).1 ⟨f'.sB, f'.keep, f'.forg, fun a m => f'.fr a (c2.mem_iff.mpr (List.mem_append_left _ m))⟩ C hC
end
end Tl
namespace Tl
open PySem PySem.Spec L2

/-! ### built-in functions -/
def CallOk (X : Cx) (f : Value) (g : List RV → Option RV) : Prop := ∃ r, CallR X f r ∧ VOk (lsR (rvR X.K X.mg)) (rvR X.K X.mg) r g
section
variable {X : Cx} {W : WX} {a b c e : Expr} {es rest : List Expr} {f fa fb fc : Env → O RV} {pos : Pos}
theorem r_cb {id : String} {x : Str} {p : Pos} {g : List RV → Option RV} {fr : Env → O (List RV)} (h : CallOk X (.builtin id) g) (hm : X.mg x = none) (hv : bootBuiltins x = some (.builtin id)) (ha : PAr X W (e :: es) fr) (hg : Gl X x := by rfl) (hn : x ≠ "__name__" := by decide) (hdb : (x == ("__debug__" : Str)) = false := by decide)
    (he : starEach (e :: es) X.env = (false, eval e X.env) :: starEach es X.env := by rfl) (hpl : (backTo pos (starEach es X.env)).any (·.1) = false := by rfl) : PEr X W (.Call (.Name x p) (e :: es) [] pos) (eL g fr) := by
  obtain ⟨r, hc, v⟩ := h
  obtain ⟨t, h, k⟩ := ha
  exact ⟨_, pe_callB hc hg hm hv h hn hdb he hpl, k.map v⟩
theorem r_ct {T : String} {x : Str} {p : Pos} {g : List RV → Option RV} {fr : Env → O (List RV)} (h : CallOk X (.type T) g) (hm : X.mg x = none) (hv : bootBuiltins x = some (.type T)) (ha : PAr X W (e :: es) fr) (hg : Gl X x := by rfl) (hn : x ≠ "__name__" := by decide) (hdb : (x == ("__debug__" : Str)) = false := by decide)
    (he : starEach (e :: es) X.env = (false, eval e X.env) :: starEach es X.env := by rfl) (hpl : (backTo pos (starEach es X.env)).any (·.1) = false := by rfl) : PEr X W (.Call (.Name x p) (e :: es) [] pos) (eL g fr) := by
  obtain ⟨r, hc, v⟩ := h
  obtain ⟨t, h, k⟩ := ha
  exact ⟨_, pe_callTy hc hg hm hv h hn hdb he hpl, k.map v⟩
theorem lsR_one {K : PySem.W.Frag} {mg : Str → Option Value} {B H : Hp} {G : List Addr} {vs : List V} {r : RV} (h : lsR (rvR K mg) B H G vs [r]) : ∃ v, vs = [v] ∧ rvR K mg B H G v r := by
  cases h with
  | @cons F1 G1 x _ xs _ h t =>
    cases t
    exact ⟨x, rfl, by rw [List.append_nil]; exact h⟩
theorem lsR_two {K : PySem.W.Frag} {mg : Str → Option Value} {B H : Hp} {G : List Addr} {vs : List V} {r r' : RV} (h : lsR (rvR K mg) B H G vs [r, r']) : ∃ v v' G1 G2, vs = [v, v'] ∧ rvR K mg B H G1 v r ∧ rvR K mg B H G2 v' r' := by
  cases h with
  | cons h t =>
    obtain ⟨v', rfl, h'⟩ := lsR_one t
    exact ⟨_, _, _, _, rfl, h, h'⟩
/-! len -/
def OD.len : OD → Option Int
  | .fz (.lst ds) => some ds.length
  | .fz (.scr ds) => some ds.length
  | .fz (.tup ds) => some ds.length
  | .fz (.str x) => if x.length ≤ sizeLine then some x.length else none
  | .lst os => some os.length
  | .tup os => some os.length
  | _ => none
def gLen (rs : List RV) : Option RV := match rs with
  | [r] => r.od.len.map fun n => .own (.fz (.int n))
  | _ => none
theorem rv_len {K : PySem.W.Frag} {mg : Str → Option Value} {B H : Hp} {G : List Addr} {v : V} {r : RV} {k : Int} (s : Same B H) (h : rvR K mg B H G v r) (e : r.od.len = some k) : ∃ n : Nat, k = n ∧ LenV K v H n := by
  obtain ⟨G', z⟩ := rv_own h
  generalize r.od = o at z e
  cases z with
  | fz r => cases r with
    | str =>
      dsimp only [OD.len] at e
      split at e
      · cases e; rename_i hl; exact ⟨_, rfl, hl, rfl⟩
      · cases e
    | tup k1 k2 => cases e; exact ⟨_, rfl, .inr ⟨_, Same.seqT s k1, k2.length.symm⟩⟩
    | lst k1 k2 => cases e; exact ⟨_, rfl, .inl ⟨_, SqL.of (s _ _ k1), k2.length.symm⟩⟩
    | scr k1 k2 => cases e; exact ⟨_, rfl, .inl ⟨_, s.seq k1, k2.length.symm⟩⟩
    | _ => cases e
  | lst k1 _ k2 => cases e; exact ⟨_, rfl, .inl ⟨_, SqL.of k1, k2.length.symm⟩⟩
  | tup k1 k2 => cases e; exact ⟨_, rfl, .inr ⟨_, Same.seqT s k1, k2.length.symm⟩⟩
  | _ => cases e
theorem b_len : CallOk X (.builtin "len") gLen := by
  refine ⟨_, call_len, fun B H G vs rs Q s h n q => ?_⟩
  dsimp only [gLen] at q
  split at q
  · rename_i r
    obtain ⟨v, rfl, h1⟩ := lsR_one h
    cases e : r.od.len with
    | none => rw [e] at q; exact q.elim
    | some k =>
      rw [e] at q
      obtain ⟨n, rfl, z⟩ := rv_len s h1 e
      exact ⟨v, n, rfl, z, VPost.fz q s .int⟩
  · exact q.elim
/-! ints -/
def gI2 (op : Int → Int → Int) (rs : List RV) : Option RV := match rs with
  | [r, r'] => match r.od, r'.od with
    | .fz (.int i), .fz (.int j) => some (.own (.fz (.int (op i j))))
    | _, _ => none
  | _ => none
def pyMax (i j : Int) : Int := if j > i then j else i
def pyMin (i j : Int) : Int := if j < i then j else i
theorem v_i2 {op : Int → Int → Int} : VOk (lsR (rvR X.K X.mg)) (rvR X.K X.mg) (fun xs H Q => ∃ i j, xs = [.int i, .int j] ∧ Q (.int (op i j)) H) (gI2 op) := by
  intro B H G vs rs Q s h n q
  dsimp only [gI2] at q
  split at q
  · rename_i r r'
    obtain ⟨v, v', G1, G2, rfl, h1, h2⟩ := lsR_two h
    split at q
    · rename_i i j e1 e2
      have z1 := rv_fz h1 e1
      have z2 := rv_fz h2 e2
      cases z1; cases z2
      exact ⟨i, j, rfl, VPost.fz q s .int⟩
    · exact q.elim
  · exact q.elim
/-! a list's least, greatest, sum, all, any -/
def dInts : List D → Option (List Int)
  | [] => some []
  | .int i :: ds => match dInts ds with
    | some ns => some (i :: ns)
    | none => none
  | _ :: _ => none
@[simp] theorem dInts_nil : dInts [] = some [] := rfl
@[simp] theorem dInts_cons {i : Int} {ds : List D} : dInts (.int i :: ds) = (dInts ds).map (i :: ·) := by
  show (match dInts ds with | some ns => some (i :: ns) | none => none) = _
  cases dInts ds <;> rfl
@[simp] theorem dInts_map {α : Type} {xs : List α} {f : α → Int} : dInts (xs.map fun x => .int (f x)) = some (xs.map f) := by
  induction xs with
  | nil => rfl
  | cons x xs ih => rw [List.map_cons, dInts_cons, ih]; rfl
theorem RepL.dInts {K : PySem.W.Frag} {B : Hp} {vs : List V} {ds : List D} {ns : List Int} (h : RepL K B vs ds) (e : Tl.dInts ds = some ns) : vs = ns.map V.int := by
  induction vs generalizing ds ns with
  | nil => cases h; cases e; rfl
  | cons v vs ih =>
    cases h with
    | cons r t =>
      cases r <;> first
        | (cases e; done)
        | (rw [dInts_cons] at e
           rename_i ds i
           cases q : Tl.dInts ds with
           | none => rw [q] at e; cases e
           | some ns' => rw [q] at e; cases e; rw [ih t q]; rfl)
def dBools : List D → Option (List Bool)
  | [] => some []
  | .bl i :: ds => match dBools ds with
    | some ns => some (i :: ns)
    | none => none
  | _ :: _ => none
@[simp] theorem bools_nil : dBools [] = some [] := rfl
@[simp] theorem bools_cons {i : Bool} {ds : List D} : dBools (.bl i :: ds) = (dBools ds).map (i :: ·) := by
  show (match dBools ds with | some ns => some (i :: ns) | none => none) = _
  cases dBools ds <;> rfl
@[simp] theorem bools_map {α : Type} {xs : List α} {f : α → Bool} : dBools (xs.map fun x => .bl (f x)) = some (xs.map f) := by
  induction xs with
  | nil => rfl
  | cons x xs ih => rw [List.map_cons, bools_cons, ih]; rfl
theorem RepL.dBools {K : PySem.W.Frag} {B : Hp} {vs : List V} {ds : List D} {ns : List Bool} (h : RepL K B vs ds) (e : Tl.dBools ds = some ns) : vs = ns.map V.bl := by
  induction vs generalizing ds ns with
  | nil => cases h; cases e; rfl
  | cons v vs ih =>
    cases h with
    | cons r t =>
      cases r <;> first
        | (cases e; done)
        | (rw [bools_cons] at e
           rename_i ds i
           cases q : Tl.dBools ds with
           | none => rw [q] at e; cases e
           | some ns' => rw [q] at e; cases e; rw [ih t q]; rfl)
def leastL : List Int → Int
  | [] => 0
  | [n] => n
  | n :: ns => min n (leastL ns)
def mostL : List Int → Int
  | [] => 0
  | [n] => n
  | n :: ns => max n (mostL ns)
theorem leastL_is : ∀ {ns : List Int}, 0 < ns.length → leastL ns ∈ ns ∧ ∀ y ∈ ns, leastL ns ≤ y
  | [], h => nomatch h
  | [n], _ => ⟨by simp [leastL], fun y m => by simp at m; subst m; exact Int.le_refl _⟩
  | n :: m :: ns, _ => by
    obtain ⟨h1, h2⟩ := leastL_is (ns := m :: ns) (by simp)
    have e : leastL (n :: m :: ns) = min n (leastL (m :: ns)) := rfl
    rw [e]
    refine ⟨?_, fun y hy => ?_⟩
    · by_cases h : n ≤ leastL (m :: ns)
      · rw [Int.min_eq_left h]; exact List.mem_cons_self
      · rw [Int.min_eq_right (by omega)]; exact List.mem_cons_of_mem _ h1
    · rcases List.mem_cons.mp hy with rfl | hy
      · omega
      · have := h2 y hy; omega
theorem mostL_is : ∀ {ns : List Int}, 0 < ns.length → mostL ns ∈ ns ∧ ∀ y ∈ ns, y ≤ mostL ns
  | [], h => nomatch h
  | [n], _ => ⟨by simp [mostL], fun y m => by simp at m; subst m; exact Int.le_refl _⟩
  | n :: m :: ns, _ => by
    obtain ⟨h1, h2⟩ := mostL_is (ns := m :: ns) (by simp)
    have e : mostL (n :: m :: ns) = max n (mostL (m :: ns)) := rfl
    rw [e]
    refine ⟨?_, fun y hy => ?_⟩
    · by_cases h : mostL (m :: ns) ≤ n
      · rw [Int.max_eq_left h]; exact List.mem_cons_self
      · rw [Int.max_eq_right (by omega)]; exact List.mem_cons_of_mem _ h1
    · rcases List.mem_cons.mp hy with rfl | hy
      · omega
      · have := h2 y hy; omega
def gIs (g : List Int → Option D) (rs : List RV) : Option RV := match rs with
  | [r] => match r.od.items with
    | some ds => match dInts ds with
      | some ns => (g ns).map fun d => .own (.fz d)
      | none => none
    | none => none
  | _ => none
theorem v_ints {r : List V → Hp → VK → Prop} {g : List Int → Option D} (h : ∀ H a ns d Q, SqL X.K H a (ns.map V.int) → g ns = some d → (∀ v, (∀ B, Rep X.K B v d) → Q v H) → r [.ref a] H Q) : VOk (lsR (rvR X.K X.mg)) (rvR X.K X.mg) r (gIs g) := by
  intro B H G vs rs Q s h1 n q
  dsimp only [gIs] at q
  split at q
  · rename_i r
    obtain ⟨v, rfl, h2⟩ := lsR_one h1
    split at q
    · rename_i ds e1
      obtain ⟨p, vs, rfl, a1, a2⟩ := rv_items s h2 e1
      split at q
      · rename_i ns e2
        rw [a2.dInts e2] at a1
        cases e3 : g ns with
        | none => rw [e3] at q; exact q.elim
        | some d => rw [e3] at q; exact h H p ns d Q a1 e3 fun v hv => VPost.fz q s (hv B)
      · exact q.elim
    · exact q.elim
  · exact q.elim
theorem b_sum (hc : X.calm = true) : CallOk X (.builtin "sum") (gIs fun ns => some (.int ns.sum)) := ⟨_, cr_sum hc, v_ints fun H a ns d Q h e k => by cases e; exact ⟨a, ns, rfl, h, k _ fun _ => .int⟩⟩
def oLeast (ns : List Int) : Option D := if 0 < ns.length then some (.int (leastL ns)) else none
def oMost (ns : List Int) : Option D := if 0 < ns.length then some (.int (mostL ns)) else none
/-! min and max: of two ints, of a list of ints -/
def gMin (rs : List RV) : Option RV := match rs with
  | [r] => gIs oLeast [r]
  | rs => gI2 pyMin rs
def gMax (rs : List RV) : Option RV := match rs with
  | [r] => gIs oMost [r]
  | rs => gI2 pyMax rs
theorem callR_or2 {fv : Value} {ra rb : List V → Hp → VK → Prop} (ha : CallR X fv ra) (hb : CallR X fv rb) : CallR X fv (fun xs H Q => ra xs H Q ∨ rb xs H Q) :=
  fun pn s₁ σ₁ H₁ xs us Qw Iw rs q => q.elim (ha pn s₁ σ₁ H₁ xs us Qw Iw rs) (hb pn s₁ σ₁ H₁ xs us Qw Iw rs)
theorem b_min (hc : X.calm = true) : CallOk X (.builtin "min") gMin := by
  refine ⟨_, callR_or2 (cr_min hc) (call_min2 hc), fun B H G vs rs Q s h n q => ?_⟩
  dsimp only [gMin] at q
  split at q
  · refine .inl (v_ints (X := X) (r := rMin X.K) (g := oLeast) (fun H a ns d Q h e k => ?_) B H G vs _ Q s h n q)
    unfold oLeast at e
    split at e
    · rename_i hl
      cases e
      refine ⟨a, ns, rfl, h, hl, fun m h1 h2 => ?_⟩
      obtain ⟨k1, k2⟩ := leastL_is hl
      have : m = leastL ns := Int.le_antisymm (h2 _ k1) (k2 _ h1)
      rw [this]; exact k _ fun _ => .int
    · cases e
  · exact .inr (v_i2 (X := X) B H G vs rs Q s h n q)
theorem b_max (hc : X.calm = true) : CallOk X (.builtin "max") gMax := by
  refine ⟨_, callR_or2 (cr_max hc) (call_max2 hc), fun B H G vs rs Q s h n q => ?_⟩
  dsimp only [gMax] at q
  split at q
  · refine .inl (v_ints (X := X) (r := rMax X.K) (g := oMost) (fun H a ns d Q h e k => ?_) B H G vs _ Q s h n q)
    unfold oMost at e
    split at e
    · rename_i hl
      cases e
      refine ⟨a, ns, rfl, h, hl, fun m h1 h2 => ?_⟩
      obtain ⟨k1, k2⟩ := mostL_is hl
      have : m = mostL ns := Int.le_antisymm (k2 _ h1) (h2 _ k1)
      rw [this]; exact k _ fun _ => .int
    · cases e
  · exact .inr (v_i2 (X := X) B H G vs rs Q s h n q)
def gBs (g : List Bool → Bool) (rs : List RV) : Option RV := match rs with
  | [r] => match r.od.items with
    | some ds => match dBools ds with
      | some ns => some (.own (.fz (.bl (g ns))))
      | none => none
    | none => none
  | _ => none
theorem v_bools {g : List Bool → Bool} : VOk (lsR (rvR X.K X.mg)) (rvR X.K X.mg) (fun vs H Q => ∃ (a : Addr) (bs : List Bool), vs = [V.ref a] ∧ SqL X.K H a (bs.map V.bl) ∧ Q (.bl (g bs)) H) (gBs g) := by
  intro B H G vs rs Q s h1 n q
  dsimp only [gBs] at q
  split at q
  · rename_i r
    obtain ⟨v, rfl, h2⟩ := lsR_one h1
    split at q
    · rename_i ds e1
      obtain ⟨p, vs, rfl, a1, a2⟩ := rv_items s h2 e1
      split at q
      · rename_i ns e2
        rw [a2.dBools e2] at a1
        exact ⟨p, ns, rfl, a1, VPost.fz q s .bl⟩
      · exact q.elim
    · exact q.elim
  · exact q.elim
theorem b_all (hc : X.calm = true) : CallOk X (.builtin "all") (gBs fun bs => bs.all id) := ⟨_, cr_all hc, v_bools⟩
theorem b_any (hc : X.calm = true) : CallOk X (.builtin "any") (gBs fun bs => bs.any id) := ⟨_, cr_any hc, v_bools⟩
/-! list(..), tuple(..), int(..), str(..), abs -/
def gList (rs : List RV) : Option RV := match rs with
  | [r] => (r.od.sitems).map fun ds => .own (.lst (ds.map .fz))
  | _ => none
def gTuple (rs : List RV) : Option RV := match rs with
  | [r] => match r.od.items with
    | some ds => some (.own (.fz (.tup ds)))
    | none => match r.od.titems with
      | some ds => some (.own (.fz (.tup ds)))
      | none => none
  | _ => none
theorem b_list : CallOk X (.type "list") gList := by
  refine ⟨_, call_list_of, fun B H G vs rs Q s h n q => ?_⟩
  dsimp only [gList] at q
  split at q
  · rename_i r
    obtain ⟨v, rfl, h2⟩ := lsR_one h
    cases e : r.od.sitems with
    | none => rw [e] at q; exact q.elim
    | some ds =>
      rw [e] at q
      obtain ⟨p, vs, rfl, a1, a2⟩ := rv_sitems s h2 e
      exact ⟨p, vs, rfl, a1, fun l hl => VPost.lst q s a2 hl⟩
  · exact q.elim
theorem b_tuple : CallOk X (.type "tuple") gTuple := by
  refine ⟨_, call_tuple_of, fun B H G vs rs Q s h n q => ?_⟩
  dsimp only [gTuple] at q
  split at q
  · rename_i r
    obtain ⟨v, rfl, h2⟩ := lsR_one h
    split at q
    · rename_i ds e
      obtain ⟨p, vs, rfl, a1, a2⟩ := rv_items s h2 e
      exact ⟨p, vs, rfl, .inl ⟨a1, fun l hl => VPost.tup q s a2 hl⟩⟩
    · split at q
      · rename_i ds e
        have z := rv_tfz h2 e
        obtain ⟨p, vs, rfl, a1, a2⟩ := rv_titems s h2 e
        exact ⟨p, vs, rfl, .inr ⟨a1, VPost.fz q s z⟩⟩
      · exact q.elim
  · exact q.elim
def gInt (rs : List RV) : Option RV := match rs with
  | [r] => match r.od with
    | .fz (.int i) => some (.own (.fz (.int i)))
    | .fz (.bl b) => some (.own (.fz (.int (if b then 1 else 0))))
    | _ => none
  | _ => none
theorem b_int : CallOk X (.type "int") gInt := by
  refine ⟨_, call_int1, fun B H G vs rs Q s h n q => ?_⟩
  dsimp only [gInt] at q
  split at q
  · rename_i r
    obtain ⟨v, rfl, h2⟩ := lsR_one h
    split at q
    · rename_i i e
      have z := rv_fz h2 e
      cases z
      exact .inl ⟨i, rfl, VPost.fz q s .int⟩
    · rename_i i e
      have z := rv_fz h2 e
      cases z
      exact .inr ⟨i, rfl, VPost.fz q s .int⟩
    · exact q.elim
  · exact q.elim
def gStr (rs : List RV) : Option RV := match rs with
  | [r] => match r.od with
    | .fz (.int i) => if i.natAbs.log2 < 1920 then some (.own (.fz (.str (toString i)))) else none
    | _ => none
  | _ => none
theorem b_str : CallOk X (.type "str") gStr := by
  refine ⟨_, call_str_int, fun B H G vs rs Q s h n q => ?_⟩
  dsimp only [gStr] at q
  split at q
  · rename_i r
    obtain ⟨v, rfl, h2⟩ := lsR_one h
    split at q
    · rename_i i e
      have z := rv_fz h2 e
      cases z
      split at q
      · rename_i hl
        exact ⟨i, rfl, hl, VPost.fz q s .str⟩
      · exact q.elim
    · exact q.elim
  · exact q.elim
/-! isinstance(x, T), T a built-in type -/
inductive Ty where
  | non | bool | int | str | list | tuple | dict
  deriving DecidableEq
def Ty.name : Ty → String
  | .non => "NoneType" | .bool => "bool" | .int => "int" | .str => "str" | .list => "list" | .tuple => "tuple" | .dict => "dict"
def Ty.is (a b : Ty) : Bool := decide (a = b) || (decide (a = .bool) && decide (b = .int))
theorem Ty.is_kit (a b : Ty) (hb : b ≠ .non) : kitB a.name b.name = some (a.is b) := by
  cases b <;> first
    | exact absurd rfl hb
    | (cases a <;> decide +kernel)
def OD.ty : OD → Option Ty
  | .un => none
  | .fz .non => some .non
  | .fz (.bl _) => some .bool
  | .fz (.int _) => some .int
  | .fz (.str _) => some .str
  | .fz (.tup _) => some .tuple
  | .fz (.lst _) => some .list
  | .fz (.scr _) => some .list
  | .fz (.dK _) => some .dict
  | .fz (.dT _) => some .dict
  | .lst _ => some .list
  | .tup _ => some .tuple
  | .dK _ => some .dict
  | .dT _ => some .dict
  | .ins _ _ => none
  | .fzi _ _ => none
  | .exc _ => none
theorem sqL_ty {K : PySem.W.Frag} {H : Hp} {p : Addr} {xs : List V} (h : SqL K H p xs) : TyX K H (.ref p) (.type "list") := by
  rcases h with (h | ⟨o, h⟩) | ⟨o, its, n, e, c, _⟩
  · exact .base (.lst h)
  · exact .base (.frz h)
  · exact .kList e c
theorem sqT_ty {K : PySem.W.Frag} {H : Hp} {p : Addr} {xs : List V} (h : SqT K H p xs) : TyX K H (.ref p) (.type "tuple") := by
  rcases h with (h | ⟨o, h⟩) | ⟨o, its, n, e, c, _⟩
  · exact .base (.tup h)
  · exact .fTuple h
  · exact .kTuple e c
theorem rv_ty {K : PySem.W.Frag} {mg : Str → Option Value} {B H : Hp} {G : List Addr} {v : V} {r : RV} {t : Ty} (s : Same B H) (h : rvR K mg B H G v r) (e : r.od.ty = some t) : TyX K H v (.type t.name) := by
  obtain ⟨G', z⟩ := rv_own h
  generalize r.od = o at z e
  cases z with
  | fz r => cases r with
    | non => cases e; exact .base .non
    | bl => cases e; exact .base (.bl _)
    | int => cases e; exact .base (.int _)
    | str => cases e; exact .base (.str _)
    | tup k1 k2 => cases e; exact sqT_ty (Same.seqT s k1)
    | lst k1 k2 => cases e; exact .base (.lst (s _ _ k1))
    | scr k1 k2 => cases e; exact sqL_ty (s.seq k1)
    | dK k1 => cases e; exact .base (.dK (s _ _ k1))
    | dT k1 => cases e; exact .base (.dT (s _ _ k1))
  | lst k1 => cases e; exact .base (.lst k1)
  | tup k1 k2 => cases e; exact sqT_ty (Same.seqT s k1)
  | dK k1 => cases e; exact .base (.dK k1)
  | dT k1 => cases e; exact .base (.dT k1)
  | ins => cases e
  | un => cases e
  | fzi => cases e
def gIsi (T : Ty) (r : RV) : Option RV := match r.od.ty with
  | some t => some (.own (.fz (.bl (t.is T))))
  | none => none
theorem r_isi (T : Ty) {x y : Str} {p p2 : Pos} (hT : T ≠ .non) (hm : X.mg x = none) (hv : bootBuiltins x = some (.builtin "isinstance")) (hm2 : X.mg y = none) (hv2 : bootBuiltins y = some (.type T.name)) (ha : PEr X W e f) (hg : Gl X x := by rfl) (hg2 : Gl X y := by rfl) (hn : x ≠ "__name__" := by decide) (hdb : (x == ("__debug__" : Str)) = false := by decide)
    (hn2 : y ≠ "__name__" := by decide) (hdb2 : (y == ("__debug__" : Str)) = false := by decide)
    (he : starEach (e :: [.Name y p2]) X.env = (false, eval e X.env) :: starEach [.Name y p2] X.env := by rfl) (hpl : (backTo pos (starEach [.Name y p2] X.env)).any (·.1) = false := by rfl)
    (he2 : starEach ([.Name y p2]) X.env = (false, eval (.Name y p2) X.env) :: starEach [] X.env := by rfl) : PEr X W (.Call (.Name x p) [e, .Name y p2] [] pos) (e1 (gIsi T) f) := by
  obtain ⟨t, h, k⟩ := ha
  refine ⟨_, pe_callB call_isi hg hm hv (pa_cons h (pa_cons (pe_bltn hg2 hm2 hv2 (show RelV (.ty T.name) (.type T.name) from rfl) hn2 hdb2) pa_nil he2) he) hn hdb he hpl, k.map (r := fun (x : V) (H : Hp) (Q : VK) => rIsi X.K [x, .ty T.name] H Q) fun B H G v r Q s h n q => ?_⟩
  dsimp only [gIsi] at q
  split at q
  · rename_i t e
    exact ⟨v, .ty T.name, _, _, _, rfl, .ty _, rv_ty s h e, kit_ty (Ty.is_kit t T hT), VPost.fz q s .bl⟩
  · exact q.elim
end
end Tl
namespace Tl
open PySem PySem.Spec L2

/-! ### what is walked -/
/-- J gives just ds, one after another, while B's things stand -/
def Spec (K : PySem.W.Frag) (B : Hp) (J : It) (ds : List D) : Prop := ∀ B2 H2, Same B B2 → Same B2 H2 →
  (∀ i d, ds[i]? = some d → J.go i H2 ∧ ∀ x H3, J.yld i H2 x H3 → ∃ B3, Frm B2 H2 [] B3 H3 [] ∧ Same B3 H3 ∧ Rep K B3 x d) ∧ J.stop ds.length H2
def itR (K : PySem.W.Frag) : Rl It (List D) := fun B _ G J ds => G = [] ∧ Spec K B J ds
theorem stb_it {K : PySem.W.Frag} : Stb (itR K) (fun _ => true) where
  there := fun B H G x a h => by obtain ⟨rfl, _⟩ := h; exact fun _ z => nomatch z
  keep := fun B H F B' H' F' G x a h f _ _ => ⟨h.1, fun B2 H2 s s2 => h.2 B2 H2 (f.sB.trans s) s2⟩
def PIr (X : Cx) (W : WX) (tg iter : Expr) (f : Env → O (List D)) : Prop := ∃ wi, PI X tg iter wi ∧ EOk X W (itR X.K) wi f

section
variable {X : Cx} {W : WX} {io : List Nat} {a b c e tg : Expr} {es rest : List Expr} {f fa fb fc : Env → O RV} {pos : Pos}
theorem spec_list {K : PySem.W.Frag} {B : Hp} {p : Addr} {vs : List V} {ds : List D} (h : SqL K B p vs) (r : RepL K B vs ds) : Spec K B (Itl K p) ds := fun B2 H2 s s2 => by
  have h2 := (s.trans s2).seq h
  refine ⟨fun i d e => ?_, vs, h2, by rw [r.length]; exact Nat.le_refl _⟩
  obtain ⟨v, e1, r1⟩ := r.get e
  refine ⟨⟨vs, v, h2, e1⟩, fun x H3 y => ?_⟩
  obtain ⟨rfl, y⟩ := y
  have := y vs h2
  rw [e1] at this; cases this
  exact ⟨B2, Frm.none, s2, r1.mono s⟩
theorem spec_tup {K : PySem.W.Frag} {B : Hp} {p : Addr} {vs : List V} {ds : List D} (h : SqT K B p vs) (r : RepL K B vs ds) : Spec K B (Itt K p) ds := fun B2 H2 s s2 => by
  have h2 := Same.seqT (s.trans s2) h
  refine ⟨fun i d e => ?_, vs, h2, by rw [r.length]; exact Nat.le_refl _⟩
  obtain ⟨v, e1, r1⟩ := r.get e
  refine ⟨⟨vs, v, h2, e1⟩, fun x H3 y => ?_⟩
  obtain ⟨rfl, y⟩ := y
  have := y vs h2
  rw [e1] at this; cases this
  exact ⟨B2, Frm.none, s2, r1.mono s⟩
/-- own things taken as plain from now on -/
theorem frm_more {K : PySem.W.Frag} {mg : Str → Option Value} {B H : Hp} {G : List Addr} (s : Same B H) (h : ∀ a ∈ G, B a = none ∧ ∃ u, H a = some u) : Same B (more B H G) ∧ Same (more B H G) H ∧ Frm B H G (more B H G) H [] := by
  have s1 : Same B (more B H G) := fun a u e => by
    unfold more
    split
    · rename_i m; rw [(h a m).1] at e; cases e
    · exact e
  refine ⟨s1, fun a u e => ?_, s1, fun a u e _ => e, fun a u e n b => ?_, fun _ z => nomatch z⟩
  · unfold more at e
    split at e
    · exact e
    · exact s a u e
  · unfold more; rw [if_neg n]; exact b
/-- a list or a tuple, plain or nobody else's -/
def gItems (r : RV) : Option (List D) := match r with
  | .own o => (frz o).bind fun d => (OD.fz d).sitems
  | .view _ => none
theorem fzs_frz : ∀ {os : List OD} {ds : List D}, fzs os = some ds → frzL os = some ds
  | [], ds, h => by cases h; unfold frzL; rfl
  | o :: os, ds, h => by
    cases o with
    | fz d =>
      rw [fzs_cons] at h
      cases e : fzs os with
      | none => rw [e] at h; cases h
      | some es =>
        rw [e] at h; cases h
        unfold frzL
        rw [frz_fz, fzs_frz e]
    | _ => cases h
theorem items_of {o : OD} {ds : List D} (h : o.sitems = some ds) : gItems (.own o) = some ds := by
  cases o with
  | fz d => show (frz (.fz d)).bind (fun d => (OD.fz d).sitems) = _; rw [frz_fz]; exact h
  | lst os => show (frz (.lst os)).bind (fun d => (OD.fz d).sitems) = _; rw [frz_lst, fzs_frz (show fzs os = some ds from h)]; rfl
  | tup os => show (frz (.tup os)).bind (fun d => (OD.fz d).sitems) = _; rw [frz_tup, fzs_frz (show fzs os = some ds from h)]; rfl
  | _ => cases h
/-- list or tuple, walked -/
def iSeq (K : PySem.W.Frag) (tl : TE) : TI := fun σ H R => tl σ H fun x H1 => ∃ a, x = .ref a ∧ (((∃ xs, SqL K H1 a xs) ∧ R (Itl K a) H1) ∨ ((∃ xs, SqT K H1 a xs) ∧ R (Itt K a) H1))
theorem pi_seq {l : Expr} {tl : TE} (hl : PE X l tl) : PI X tg l (iSeq X.K tl) := by
  refine ⟨fun pins s σ H R I h => ?_⟩
  refine thn (hl.run pins s σ H _ I h) fun v s1 ⟨x, H1, I1, r1, q1⟩ => ?_
  obtain ⟨a, e, q⟩ := q1
  subst e
  cases r1
  rcases q with ⟨⟨xs, hq⟩, q⟩ | ⟨⟨xs, hq⟩, q⟩
  · obtain ⟨its, rv, p, hz⟩ := I1.list hq
    refine wpAny_pyIter_list p.isList ?_
    refine ⟨s1.heap.objs.size, [s1.heap.objs.size], _, _, H1, rfl, I1.kept (t' := s1.toks) fun b o e => Heap.get?_push_of_some _ e, turn_list a _, ⟨_, Heap.get?_push_size _ rfl, rfl, rfl⟩, fun b hb => ?_, q⟩
    have e : b = s1.heap.objs.size := by simpa using hb
    subst e
    exact I1.fpOk (Nat.le_refl _) (I1.hok.fresh (Nat.le_refl _))
  · obtain ⟨its, rv, p, hz⟩ := I1.tuple hq
    refine wpAny_pyIter_tuple (show s1.heap.IsTuple a its.toArray from p) ?_
    refine ⟨s1.heap.objs.size, [s1.heap.objs.size], _, _, H1, rfl, I1.kept (t' := s1.toks) fun b o e => Heap.get?_push_of_some _ e, turn_tuple a _, ⟨_, Heap.get?_push_size _ rfl, rfl, rfl⟩, fun b hb => ?_, q⟩
    have e : b = s1.heap.objs.size := by simpa using hb
    subst e
    exact I1.fpOk (Nat.le_refl _) (I1.hok.fresh (Nat.le_refl _))
/-- what is walked, as plain data that stays -/
theorem rv_sit {K : PySem.W.Frag} {mg : Str → Option Value} {B H : Hp} {G : List Addr} {v : V} {r : RV} {ds : List D} (s : Same B H) (h : rvR K mg B H G v r) (e : gItems r = some ds) :
    ∃ p vs, v = .ref p ∧ (SqL K (more B H G) p vs ∨ SqT K (more B H G) p vs) ∧ RepL K (more B H G) vs ds := by
  cases r with
  | view o => cases e
  | own o =>
    obtain ⟨s1, s2, f⟩ := frm_more (K := K) (mg := mg) (G := G) s (Own.there (show Own K mg B H G v o from h))
    have h' : Own K mg B H G v o := h
    have e' : (frz o).bind (fun d => (OD.fz d).sitems) = some ds := e
    clear e h
    cases ef : frz o with
    | none => rw [ef] at e'; cases e'
    | some d =>
      rw [ef] at e'
      have e' : (OD.fz d).sitems = some ds := e'
      have rp : Rep K (more B H G) v d := Own.frz s1 h' ef fun a m u z => by rw [more_in m]; exact z
      cases rp with
      | lst h1 h2 => cases e'; exact ⟨_, _, rfl, .inl (SqL.of h1), h2⟩
      | scr h1 h2 => cases e'; exact ⟨_, _, rfl, .inl h1, h2⟩
      | tup h1 h2 => cases e'; exact ⟨_, _, rfl, .inr h1, h2⟩
      | _ => cases e'
theorem VPost.it {K : PySem.W.Frag} {mg : Str → Option Value} {B H : Hp} {G : List Addr} {ds : List D} {J : It} {R : It → Hp → Prop} (q : VPost (itR K) B H G R (some ds)) (s : Same B H) (h : ∀ a ∈ G, B a = none ∧ ∃ u, H a = some u) (sp : Spec K (more B H G) J ds) : R J H := by
  obtain ⟨s1, s2, f⟩ := frm_more (K := K) (mg := mg) (G := G) s h
  exact q J (more B H G) H [] ⟨rfl, sp⟩ s2 List.nodup_nil f
theorem i_seq (h : PEr X W e f) : PIr X W tg e (fun env => (f env).mapP gItems) := by
  obtain ⟨t, h, k⟩ := h
  refine ⟨_, pi_seq h, EOk.map (r := fun (x : V) (H1 : Hp) (R : It → Hp → Prop) => ∃ a, x = .ref a ∧ (((∃ xs, SqL X.K H1 a xs) ∧ R (Itl X.K a) H1) ∨ ((∃ xs, SqT X.K H1 a xs) ∧ R (Itt X.K a) H1))) k fun B H G v r R s h n q => ?_⟩
  cases e2 : gItems r with
  | none => rw [e2] at q; exact q.elim
  | some ds =>
    rw [e2] at q
    have th := stb_rv.there _ _ _ _ _ h
    obtain ⟨p, vs, rfl, a1, a2⟩ := rv_sit s h e2
    obtain ⟨s1, s2, f⟩ := frm_more (K := X.K) (mg := X.mg) (G := G) s th
    refine ⟨p, rfl, ?_⟩
    rcases a1 with a1 | a1
    · exact .inl ⟨⟨vs, s2.seq a1⟩, VPost.it (mg := X.mg) q s th (spec_list a1 a2)⟩
    · exact .inr ⟨⟨vs, Same.seqT s2 a1⟩, VPost.it (mg := X.mg) q s th (spec_tup a1 a2)⟩
/-! ranges -/
def rng (lo : Int) (n : Nat) : List D := (List.range n).map fun (k : Nat) => D.int (lo + (k : Int))
theorem rng_get {lo : Int} {n i : Nat} {d : D} (h : (rng lo n)[i]? = some d) : i < n ∧ d = .int (lo + i) := by
  unfold rng at h
  rw [List.getElem?_map] at h
  cases e : (List.range n)[i]? with
  | none => rw [e] at h; cases h
  | some k =>
    rw [e] at h; cases h
    obtain ⟨h1, h2⟩ := List.getElem?_eq_some_iff.mp e
    rw [List.length_range] at h1
    rw [List.getElem_range] at h2
    exact ⟨h1, by rw [h2]⟩
theorem rng_len {lo : Int} {n : Nat} : (rng lo n).length = n := by simp [rng]
theorem spec_rng {K : PySem.W.Frag} {B : Hp} {lo : Int} {n : Nat} : Spec K B (Itr lo n) (rng lo n) := fun B2 H2 s s2 => by
  refine ⟨fun i d e => ?_, by rw [rng_len]; exact Nat.le_refl _⟩
  obtain ⟨h1, rfl⟩ := rng_get e
  refine ⟨h1, fun x H3 y => ?_⟩
  obtain ⟨rfl, rfl⟩ := y
  exact ⟨B2, Frm.none, s2, .int⟩
def gR1 (rs : List RV) : Option (List D) := match rs with
  | [r] => match r.od with
    | .fz (.int j) => if -(2 ^ 62) ≤ j ∧ j < 2 ^ 62 then some (rng 0 j.toNat) else none
    | _ => none
  | _ => none
def gR2 (rs : List RV) : Option (List D) := match rs with
  | [r, r'] => match r.od, r'.od with
    | .fz (.int i), .fz (.int j) => if -(2 ^ 62) ≤ i ∧ i < 2 ^ 62 ∧ -(2 ^ 62) ≤ j ∧ j < 2 ^ 62 then some (rng i (j - i).toNat) else none
    | _, _ => none
  | _ => none
theorem VPost.it0 {K : PySem.W.Frag} {B H : Hp} {G : List Addr} {ds : List D} {J : It} {R : It → Hp → Prop} (q : VPost (itR K) B H G R (some ds)) (s : Same B H) (sp : Spec K B J ds) : R J H :=
  q J B H [] ⟨rfl, sp⟩ s List.nodup_nil Frm.none
theorem i_range1 {p : Pos} {fr : Env → O (List RV)} (hm : X.mg "range" = none) (ha : PAr X W [a] fr) (hg : Gl X "range" := by rfl) (hs : starEach [a] X.env = [(false, eval a X.env)] := by rfl) : PIr X W tg (.Call (.Name "range" p) [a] [] pos) (fun env => (fr env).mapP gR1) := by
  obtain ⟨t, h, k⟩ := ha
  refine ⟨_, pi_range1 hg hm h hs, EOk.map (r := fun (vs : List V) (H1 : Hp) (R : It → Hp → Prop) => ∃ j : Int, vs = [.int j] ∧ -(2 ^ 62) ≤ j ∧ j < 2 ^ 62 ∧ R (Itr 0 j.toNat) H1) k fun B H G vs rs R s h n q => ?_⟩
  dsimp only [gR1] at q
  split at q
  · obtain ⟨v, rfl, h1⟩ := lsR_one h
    split at q
    · rename_i j e
      have z := rv_fz h1 e
      cases z
      split at q
      · rename_i hj
        exact ⟨j, rfl, hj.1, hj.2, VPost.it0 q s spec_rng⟩
      · exact q.elim
    · exact q.elim
  · exact q.elim
theorem i_range2 {p : Pos} {fr : Env → O (List RV)} (hm : X.mg "range" = none) (ha : PAr X W [a, b] fr) (hg : Gl X "range" := by rfl) (hs : starEach [a, b] X.env = [(false, eval a X.env), (false, eval b X.env)] := by rfl) (hs2 : starEach [b] X.env = [(false, eval b X.env)] := by rfl) :
    PIr X W tg (.Call (.Name "range" p) [a, b] [] pos) (fun env => (fr env).mapP gR2) := by
  obtain ⟨t, h, k⟩ := ha
  refine ⟨_, pi_range2 hg hm h hs hs2, EOk.map (r := fun (vs : List V) (H1 : Hp) (R : It → Hp → Prop) => ∃ i j : Int, vs = [.int i, .int j] ∧ (-(2 ^ 62) ≤ i ∧ i < 2 ^ 62 ∧ -(2 ^ 62) ≤ j ∧ j < 2 ^ 62) ∧ R (Itr i (j - i).toNat) H1) k fun B H G vs rs R s h n q => ?_⟩
  dsimp only [gR2] at q
  split at q
  · obtain ⟨v, v', G1, G2, rfl, h1, h2⟩ := lsR_two h
    split at q
    · rename_i i j e1 e2
      have z1 := rv_fz h1 e1
      have z2 := rv_fz h2 e2
      cases z1; cases z2
      split at q
      · rename_i hj
        exact ⟨i, j, rfl, hj, VPost.it0 q s spec_rng⟩
      · exact q.elim
    · exact q.elim
  · exact q.elim
/-- range(i, j, -1) -/
def rngD (hi : Int) (n : Nat) : List D := (List.range n).map fun (k : Nat) => D.int (hi - (k : Int))
def gR3 (rs : List RV) : Option (List D) := match rs with
  | [r, r', r''] => match r.od, r'.od, r''.od with
    | .fz (.int i), .fz (.int j), .fz (.int c) => if -(2 ^ 62) ≤ i ∧ i < 2 ^ 62 ∧ -(2 ^ 62) ≤ j ∧ j < 2 ^ 62 ∧ c = -1 then some (rngD i (i - j).toNat) else none
    | _, _, _ => none
  | _ => none
theorem spec_rngD {K : PySem.W.Frag} {B : Hp} {hi : Int} {n : Nat} : Spec K B (Itc hi (-1) n) (rngD hi n) := fun B2 H2 s s2 => by
  refine ⟨fun i d e => ?_, by show n ≤ (rngD hi n).length; simp [rngD]⟩
  unfold rngD at e
  rw [List.getElem?_map] at e
  cases e2 : (List.range n)[i]? with
  | none => rw [e2] at e; cases e
  | some k =>
    rw [e2] at e; cases e
    obtain ⟨h1, h2⟩ := List.getElem?_eq_some_iff.mp e2
    rw [List.length_range] at h1
    rw [List.getElem_range] at h2
    subst h2
    refine ⟨h1, fun x H3 y => ?_⟩
    obtain ⟨rfl, rfl⟩ := y
    refine ⟨B2, Frm.none, s2, ?_⟩
    have : hi + (i : Int) * -1 = hi - i := by omega
    rw [this]
    exact .int
theorem i_range3 {p : Pos} {fr : Env → O (List RV)} (hm : X.mg "range" = none) (ha : PAr X W [a, b, c] fr) (hg : Gl X "range" := by rfl) (hs : starEach [a, b, c] X.env = (false, eval a X.env) :: starEach [b, c] X.env := by rfl) (hpl : (backTo pos (starEach [b, c] X.env)).any (·.1) = false := by rfl) :
    PIr X W tg (.Call (.Name "range" p) [a, b, c] [] pos) (fun env => (fr env).mapP gR3) := by
  obtain ⟨t, h, k⟩ := ha
  refine ⟨_, pi_range3 hg hm h hs hpl, EOk.map (r := fun (vs : List V) (H1 : Hp) (R : It → Hp → Prop) => ∃ (i j c : Int) (n : Nat), vs = [.int i, .int j, .int c] ∧ RgC i j c n ∧ R (Itc i c n) H1) k fun B H G vs rs R s h n q => ?_⟩
  dsimp only [gR3] at q
  split at q
  · cases h with
    | cons h1 t =>
      obtain ⟨v, v', G1, G2, rfl, h2, h3⟩ := lsR_two t
      split at q
      · rename_i i j c e1 e2 e3
        have z1 := rv_fz h1 e1
        have z2 := rv_fz h2 e2
        have z3 := rv_fz h3 e3
        cases z1; cases z2; cases z3
        split at q
        · rename_i hj
          obtain ⟨j1, j2, j3, j4, rfl⟩ := hj
          exact ⟨i, j, -1, (i - j).toNat, rfl, RgC.neg j1 j2 j3 j4, VPost.it0 q s spec_rngD⟩
        · exact q.elim
      · exact q.elim
  · exact q.elim
end
/-! ### for, while -/
def forGo (g : OD → Env → Option Env) (body : Env → SO) : List D → Env → SO
  | [], env => .nx env
  | d :: ds, env => match g (.fz d) env with
    | none => .bad
    | some e1 => match body e1 with
      | .nx e2 => forGo g body ds e2
      | .ct e2 => forGo g body ds e2
      | .bk e2 => .nx e2
      | o => o
def sFor (f : Env → O (List D)) (g : OD → Env → Option Env) (body : Env → SO) : Env → SO := sE f (forGo g body)
def whileGo (c : Env → O Bool) (body : Env → SO) : Nat → Env → SO
  | 0, _ => .bad
  | n + 1, env => sE c (fun b e => if b = true then match body e with
      | .nx e2 => whileGo c body n e2
      | .ct e2 => whileGo c body n e2
      | .bk e2 => .nx e2
      | o => o else .nx e) env
section
variable {X : Cx} {W : WX} {io : List Nat} {tg iter : Expr} {st : List Stmt} {pos : Pos}
theorem s_for {f : Env → O (List D)} {g : OD → Env → Option Env} {body : Env → SO} (hp : PassesOwn (model X.prog X.w) X.A X.env X.xe) (hc : X.calm = true) (hi : PIr X W tg iter f) (hg : PGr X io tg g) (hb : PSsr X W io st body)
    (hs : ∀ x, foldedSetIterable iter X.env x = pure x := by intro _; rfl) : PSr X W io (.For tg iter st [] pos) (sFor f g body) := by
  obtain ⟨wi, hi, ki⟩ := hi
  obtain ⟨tg', hg, kg⟩ := hg
  obtain ⟨tb, hb, kb⟩ := hb
  refine ⟨_, ps_for hp hc hi hg hb hs, fun B H F σ env D S q => ?_⟩
  refine ki B H F σ env _ S ?_
  dsimp only [sFor, sE] at q
  -- the loop from a state
  have core : ∀ {J : It} {B1 H1 : Hp} {F1 : List Addr} {env1 : Env} {ds : List Tl.D}, Spec X.K B1 J ds → Sta X.K X.mg B1 H1 F1 σ env1 → Frm B H F B1 H1 F1 → SPost X W io B H F σ D (forGo g body ds env1) →
      ∃ W' : Nat → Nat → St → Hp → Prop, (∃ m, W' 0 m σ H1) ∧ ∀ i m σ H, W' i m σ H →
        (J.stop i H ∧ D.nx σ H) ∨ (J.go i H ∧ ∃ N : St → Hp → Prop, (∀ σ' H', N σ' H' → ∃ m', m' < m ∧ W' (i + 1) m' σ' H') ∧ ∀ x H', J.yld i H x H' → tg' x σ H' fun σ2 H2 => tb { D with nx := N, ct := N, bk := D.nx } σ2 H2) := by
    intro J B1 H1 F1 env1 ds sp S1 f1 q1
    refine ⟨fun i m σ H => m = ds.length - i ∧ i ≤ ds.length ∧ ∃ B F env, Sta X.K X.mg B H F σ env ∧ Same B1 B ∧ SPost X W io B H F σ D (forGo g body (ds.drop i) env), ⟨ds.length, by simp, Nat.zero_le _, B1, F1, env1, S1, Same.refl _, by rw [List.drop_zero]; exact SPost.later q1 f1 Agree.refl⟩, ?_⟩
    rintro i m σ2 H2 ⟨rfl, hi, B2, F2, env2, S2, s12, q2⟩
    obtain ⟨sp1, sp2⟩ := sp B2 H2 s12 S2.sub
    by_cases hlt : i < ds.length
    · have e0 : ds[i]? = some ds[i] := by simp [hlt]
      obtain ⟨go, yl⟩ := sp1 i ds[i] e0
      refine .inr ⟨go, fun σ' H' => (ds.length - (i + 1)) = ds.length - (i + 1) ∧ i + 1 ≤ ds.length ∧ ∃ B F env, Sta X.K X.mg B H' F σ' env ∧ Same B1 B ∧ SPost X W io B H' F σ' D (forGo g body (ds.drop (i + 1)) env), fun σ' H' h => ⟨ds.length - (i + 1), by omega, h⟩, fun x H3 y => ?_⟩
      obtain ⟨B3, f3, s3, r3⟩ := yl x H3 y
      have S3 := S2.pure s3 f3
      have f23 : Frm B2 H2 F2 B3 H3 F2 := f3.wide (fun _ z => nomatch z) fun c m => .inr m
      rw [List.drop_eq_getElem_cons hlt] at q2
      dsimp only [forGo] at q2
      refine kg B3 H3 F2 [] σ2 env2 x (.fz ds[i]) _ S3.sl s3 (.fz r3) S3.nd ?_
      cases e1 : g (.fz ds[i]) env2 with
      | none => rw [e1] at q2; exact q2
      | some e4 =>
        rw [e1] at q2
        intro B4 H4 F4 σ4 S4 f4 g4
        have f24 := f23.trans f4
        refine kb B4 H4 F4 σ4 e4 _ S4 ?_
        have next : ∀ {e5 : Env}, SPost X W io B2 H2 F2 σ2 D (forGo g body (ds.drop (i + 1)) e5) → ∀ (B5 H5 : Hp) (F5 : List Addr) (σ5 : St), Sta X.K X.mg B5 H5 F5 σ5 e5 → Frm B4 H4 F4 B5 H5 F5 → Agree io σ4 σ5 →
            (ds.length - (i + 1)) = ds.length - (i + 1) ∧ i + 1 ≤ ds.length ∧ ∃ B F env, Sta X.K X.mg B H5 F σ5 env ∧ Same B1 B ∧ SPost X W io B H5 F σ5 D (forGo g body (ds.drop (i + 1)) env) := fun {e5} q5 B5 H5 F5 σ5 S5 f5 g5 =>
          ⟨rfl, hlt, B5, F5, e5, S5, s12.trans (f24.sB.trans f5.sB), SPost.later q5 (f24.trans f5) (g4.trans g5)⟩
        dsimp only at q2
        cases e5 : body e4 with
        | bad => rw [e5] at q2; exact q2
        | nx e6 => rw [e5] at q2; exact next q2
        | ct e6 => rw [e5] at q2; exact next q2
        | bk e6 => rw [e5] at q2; exact fun B5 H5 F5 σ5 S5 f5 g5 => q2 B5 H5 F5 σ5 S5 (f24.trans f5) (g4.trans g5)
        | rt o e6 => rw [e5] at q2; exact fun v B5 H5 G5 F5 σ5 a b c d f5 g5 => q2 v B5 H5 G5 F5 σ5 a b c d (f24.trans f5) (g4.trans g5)
        | exc c e6 => rw [e5] at q2; exact fun B5 H5 F5 σ5 S5 f5 g5 => q2 B5 H5 F5 σ5 S5 (f24.trans f5) (g4.trans g5)
    · have e0 : i = ds.length := by omega
      subst e0
      rw [List.drop_length] at q2
      exact .inl ⟨sp2, q2 B2 H2 F2 σ2 S2 Frm.refl Agree.refl⟩
  cases e2 : f env with
  | bad => rw [e2] at q; exact q
  | exc c e => rw [e2] at q; exact fun B' H' F' S' f' => q B' H' F' σ S' f' Agree.refl
  | ok ds =>
    rw [e2] at q
    intro J B' H' G r s n f'
    obtain ⟨rfl, sp⟩ := r
    exact core sp (S.pure s f') (f'.wide (fun _ z => nomatch z) fun c m => .inr m) q
  | eff ds e =>
    rw [e2] at q
    intro J B' H' G F' r l s n f'
    obtain ⟨rfl, sp⟩ := r
    exact core sp ⟨s, l, n⟩ f' q
theorem s_while {c : Expr} {cc : Env → O Bool} {body : Env → SO} (n : Nat) (hp : PassesOwn (model X.prog X.w) X.A X.env X.xe) (hc : PTr X W c cc) (hb : PSsr X W io st body) : PSr X W io (.While c st [] pos) (whileGo cc body n) := by
  obtain ⟨tc, hc, kc⟩ := hc
  obtain ⟨tb, hb, kb⟩ := hb
  refine ⟨_, ps_while hp hc hb, fun B H F σ env D S q => ?_⟩
  refine ⟨fun m σ H => ∃ B F env, Sta X.K X.mg B H F σ env ∧ SPost X W io B H F σ D (whileGo cc body m env), ⟨n, B, F, env, S, q⟩, ?_⟩
  rintro m σ2 H2 ⟨B2, F2, env2, S2, q2⟩
  cases m with
  | zero => exact q2.elim
  | succ m =>
    refine kc B2 H2 F2 σ2 env2 _ S2 ?_
    dsimp only [whileGo, sE] at q2
    have fin : ∀ (b : Bool) (B3 H3 : Hp) (F3 : List Addr) (e : Env), Sta X.K X.mg B3 H3 F3 σ2 e → Frm B2 H2 F2 B3 H3 F3 → SPost X W io B2 H2 F2 σ2 D (if b = true then match body e with
        | .nx e2 => whileGo cc body m e2
        | .ct e2 => whileGo cc body m e2
        | .bk e2 => .nx e2
        | o => o else .nx e) → if b = true then ∃ N : St → Hp → Prop, (∀ σ' H', N σ' H' → ∃ m', m' < m + 1 ∧ ∃ B F env, Sta X.K X.mg B H' F σ' env ∧ SPost X W io B H' F σ' D (whileGo cc body m' env)) ∧ tb { D with nx := N, ct := N, bk := D.nx } σ2 H3 else D.nx σ2 H3 := fun b B3 H3 F3 e S3 f3 q3 => by
      cases b with
      | false => exact q3 B3 H3 F3 σ2 S3 f3 Agree.refl
      | true =>
        rw [if_pos rfl] at q3
        rw [if_pos rfl]
        refine ⟨fun σ' H' => ∃ B F env, Sta X.K X.mg B H' F σ' env ∧ SPost X W io B H' F σ' D (whileGo cc body m env), fun σ' H' h => ⟨m, Nat.lt_succ_self m, h⟩, ?_⟩
        refine kb B3 H3 F3 σ2 e _ S3 ?_
        have next : ∀ {e5 : Env}, SPost X W io B2 H2 F2 σ2 D (whileGo cc body m e5) → ∀ (B5 H5 : Hp) (F5 : List Addr) (σ5 : St), Sta X.K X.mg B5 H5 F5 σ5 e5 → Frm B3 H3 F3 B5 H5 F5 → Agree io σ2 σ5 →
            ∃ B F env, Sta X.K X.mg B H5 F σ5 env ∧ SPost X W io B H5 F σ5 D (whileGo cc body m env) := fun {e5} q5 B5 H5 F5 σ5 S5 f5 g5 => ⟨B5, F5, e5, S5, SPost.later q5 (f3.trans f5) g5⟩
        cases e5 : body e with
        | bad => rw [e5] at q3; exact q3
        | nx e6 => rw [e5] at q3; exact next q3
        | ct e6 => rw [e5] at q3; exact next q3
        | bk e6 => rw [e5] at q3; exact fun B5 H5 F5 σ5 S5 f5 g5 => q3 B5 H5 F5 σ5 S5 (f3.trans f5) g5
        | rt o e6 => rw [e5] at q3; exact fun v B5 H5 G5 F5 σ5 a b c d f5 g5 => q3 v B5 H5 G5 F5 σ5 a b c d (f3.trans f5) g5
        | exc c e6 => rw [e5] at q3; exact fun B5 H5 F5 σ5 S5 f5 g5 => q3 B5 H5 F5 σ5 S5 (f3.trans f5) g5
    cases e2 : cc env2 with
    | bad => rw [e2] at q2; exact q2
    | exc c e => rw [e2] at q2; exact fun B' H' F' S' f' => q2 B' H' F' σ2 S' f' Agree.refl
    | ok b =>
      rw [e2] at q2
      intro b' B' H' G r s nn f'
      obtain ⟨rfl, rfl⟩ := r
      exact fin _ B' H' F2 env2 (S2.pure s f') (f'.wide (fun _ z => nomatch z) fun c m => .inr m) q2
    | eff b e =>
      rw [e2] at q2
      intro b' B' H' G F' r l s nn f'
      obtain ⟨rfl, rfl⟩ := r
      exact fin _ B' H' F' e ⟨s, l, nn⟩ f' q2
end
end Tl
namespace Tl
open PySem PySem.Spec L2

/-! ### places: what stands there may be changed -/
/-- what is put back at a place, the rest being as it was -/
def Plug (K : PySem.W.Frag) (mg : Str → Option Value) (B H : Hp) (Fr : List Addr) (σ : St) (put : OD → Env) (v : V) : Prop :=
  ∀ B' H' Fo' o', Same B B' → (∀ a ∈ Fr, (∀ u, H a = some u → H' a = some u) ∧ B' a = none) → Own K mg B' H' Fo' v o' → ∃ F', Slots K mg B' H' F' σ (put o') ∧ F'.Perm (Fo' ++ Fr)
def PLr (X : Cx) (e : Expr) (get : Env → Option OD) (put : Env → OD → Env) : Prop := ∃ t, PE X e t ∧ ∀ B H F σ env o (Q : VK), Sta X.K X.mg B H F σ env → get env = some o →
  (∀ v B1 H1 Fo Fr, Frm B H [] B1 H1 [] → Same B1 H1 → F.Perm (Fo ++ Fr) → Own X.K X.mg B1 H1 Fo v o → Plug X.K X.mg B1 H1 Fr σ (put env) v → Q v H1) → t σ H Q
def vGet (i : Nat) : Env → Option OD := fun env => match env[i]? with
  | some .un => none
  | o => o
def vPut (i : Nat) : Env → OD → Env := fun env o => env.set i o
section
variable {X : Cx} {W : WX} {io : List Nat} {a b c e : Expr} {es rest : List Expr} {f fa fb fc : Env → O RV} {pos : Pos}
theorem slots_plug {K : PySem.W.Frag} {mg : Str → Option Value} {B H : Hp} {F : List Addr} {σ : St} {env : Env} {i : Nat} {o : OD} (sl : Slots K mg B H F σ env) (e : vGet i env = some o) :
    ∃ v Fo Fr, σ[i]? = some (some v) ∧ F.Perm (Fo ++ Fr) ∧ Own K mg B H Fo v o ∧ Plug K mg B H Fr σ (vPut i env) v := by
  have e0 : env[i]? = some o ∧ o ≠ .un := by
    unfold vGet at e
    split at e
    · cases e
    · rename_i h; exact ⟨e, fun z => h (by subst z; exact e)⟩
  obtain ⟨v, Fo, Fr, h1, h2, h3, h4⟩ := sl.take e0.1 e0.2
  refine ⟨v, Fo, Fr, h1, h4, h2, fun B' H' Fo' o' s k r => ?_⟩
  have hu : (env.set i OD.un)[i]? = some .un := by
    rw [List.getElem?_set_self]; exact (List.getElem?_eq_some_iff.mp e0.1).1
  obtain ⟨F', c1, c2⟩ := (h3.mono s k).put hu h1 r
  rw [List.set_set] at c1
  exact ⟨F', c1, c2⟩
theorem p_var (i : Nat) {x : Str} {pos : Pos} (hN : X.N[i]? = some x := by rfl) (hv : Vis X.env.scope x := by first | exact Or.inl rfl | exact Or.inr (Or.inl rfl) | exact Or.inr (Or.inr rfl))
    (hd : (x == ("__debug__" : Str)) = false := by decide) (hcd : (x == ("__classdict__" : Str)) = false := by decide) : PLr X (.Name x pos) (vGet i) (vPut i) := by
  refine ⟨_, pe_var hN hv hd hcd, fun B H F σ env o Q S e q => ?_⟩
  obtain ⟨v, Fo, Fr, h1, h2, h3, h4⟩ := slots_plug S.sl e
  exact ⟨v, h1, q v B H Fo Fr Frm.none S.sub h2 h3 h4⟩
/-! ### a list's items changed -/
theorem OwnL.set {K : PySem.W.Frag} {mg : Str → Option Value} {B H : Hp} {F : List Addr} {vs : List V} {os : List OD} (h : OwnL K mg B H F vs os) {j : Nat} (hj : j < os.length) {v : V} {G : List Addr} {o : OD} (r : Own K mg B H G v o) :
    ∃ F' Fr, OwnL K mg B H F' (vs.set j v) (os.set j o) ∧ F'.Perm (G ++ Fr) ∧ Fr.Sublist F := by
  induction vs generalizing os F j with
  | nil => cases h; simp at hj
  | cons w vs ih =>
    cases h with
    | @cons F1 G1 _ _ o1 os r1 t =>
      cases j with
      | zero => exact ⟨G ++ G1, G1, .cons r t, List.Perm.refl _, List.sublist_append_right _ _⟩
      | succ j =>
        obtain ⟨F', Fr, h1, h2, h3⟩ := ih t (by simpa using hj)
        refine ⟨F1 ++ F', F1 ++ Fr, .cons r1 h1, ?_, (List.Sublist.refl _).append h3⟩
        refine (h2.append_left F1).trans ?_
        rw [← List.append_assoc, ← List.append_assoc]
        exact (List.perm_append_comm).append_right Fr
theorem OwnL.append {K : PySem.W.Frag} {mg : Str → Option Value} {B H : Hp} {F G : List Addr} {vs us : List V} {os ps : List OD} (h : OwnL K mg B H F vs os) (k : OwnL K mg B H G us ps) : OwnL K mg B H (F ++ G) (vs ++ us) (os ++ ps) := by
  induction vs generalizing os F with
  | nil => cases h; exact k
  | cons w vs ih =>
    cases h with
    | cons r1 t => rw [List.append_assoc]; exact .cons r1 (ih t)
/-- what a method of a list does: its items, its arguments; what it gives, the items then -/
def MPost (X : Cx) (B H : Hp) (p : Addr) (F G : List Addr) (Q : VK) : Option (OD × List OD) → Prop
  | some (o, os') => ∀ v vs' Fr F' B' H', Own X.K X.mg B' H' Fr v o → OwnL X.K X.mg B' H' F' vs' os' → H' p = some (.lst vs') → Same B B' → (∀ a u, a ≠ p → H a = some u → H' a = some u) → (∀ a u, H a = some u → B a = none → B' a = none) → Same B' H' →
      (∃ L, (F ++ G).Perm (Fr ++ F' ++ L)) → Q v H'
  | none => False
def MOk (X : Cx) (id : String) (g : List OD → List RV → Option (OD × List OD)) : Prop := ∃ r, MtR X id r ∧ ∀ B H p F G vs os xs rs Q, Same B H → H p = some (.lst vs) → B p = none → OwnL X.K X.mg B H F vs os → lsR (rvR X.K X.mg) B H G xs rs → (p :: F ++ G).Nodup →
  MPost X B H p F G Q (g os rs) → r (.ref p) xs H Q
theorem own_upd {K : PySem.W.Frag} {mg : Str → Option Value} {B H : Hp} {F : List Addr} {v : V} {o : OD} {p : Addr} {u : HO} (r : Own K mg B H F v o) (n : p ∉ F) : Own K mg B (upd H p u) F v o :=
  r.mono (Same.refl _) fun a m => ⟨fun w e => by rw [upd_ne (fun z => by subst z; exact n m)]; exact e, (r.there a m).1⟩
theorem ownL_upd {K : PySem.W.Frag} {mg : Str → Option Value} {B H : Hp} {F : List Addr} {vs : List V} {os : List OD} {p : Addr} {u : HO} (r : OwnL K mg B H F vs os) (n : p ∉ F) : OwnL K mg B (upd H p u) F vs os :=
  r.mono (Same.refl _) fun a m => ⟨fun w e => by rw [upd_ne (fun z => by subst z; exact n m)]; exact e, (r.there a m).1⟩
theorem same_upd {B H : Hp} {p : Addr} {u : HO} (s : Same B H) (b : B p = none) : Same B (upd H p u) := fun a w e => by
  rw [upd_ne (ne_of_none e b)]; exact s a w e
/-- the usual way: the list alone is changed -/
theorem MPost.upd {X : Cx} {B H : Hp} {p : Addr} {F G : List Addr} {Q : VK} {o : OD} {os' : List OD} (q : MPost X B H p F G Q (some (o, os'))) (s : Same B H) (b : B p = none) {v : V} {vs' : List V} {Fr F' : List Addr} (r : Own X.K X.mg B H Fr v o) (rl : OwnL X.K X.mg B H F' vs' os') (n1 : p ∉ Fr) (n2 : p ∉ F')
    (pm : ∃ L, (F ++ G).Perm (Fr ++ F' ++ L)) : Q v (upd H p (.lst vs')) :=
  q v vs' Fr F' B _ (own_upd r n1) (ownL_upd rl n2) upd_same (Same.refl _) (fun a u h e => by rw [upd_ne h]; exact e) (fun _ _ _ b => b) (same_upd s b) pm
def mAppend (os : List OD) (rs : List RV) : Option (OD × List OD) := match rs with
  | [.own o] => if os.length < 10000000 then some (.fz .non, os ++ [o]) else none
  | _ => none
theorem m_append : MOk X "list.append" mAppend := by
  refine ⟨rAppend, mt_append, fun B H p F G vs os xs rs Q s hp hb r rs' nd q => ?_⟩
  dsimp only [mAppend] at q
  split at q
  · rename_i o
    split at q
    · rename_i hl
      obtain ⟨v, rfl, h1⟩ := lsR_one rs'
      have nd' := List.nodup_append.mp nd
      have n1 := (List.nodup_cons.mp nd'.1).1
      have n2 : p ∉ G := fun m => nd'.2.2 p List.mem_cons_self p m rfl
      have ra : OwnL X.K X.mg B H (F ++ G) (vs ++ [v]) (os ++ [o]) := by
        have := r.append (.cons (show Own X.K X.mg B H G v o from h1) .nil)
        rw [List.append_nil] at this
        exact this
      refine ⟨p, vs, v, rfl, rfl, hp, by rw [r.length]; exact Nat.lt_trans hl (by decide), MPost.upd q s hb (.fz .non) ra (by simp) (fun m => (List.mem_append.mp m).elim n1 n2) ⟨[], by simp⟩⟩
    · exact q.elim
  · exact q.elim
def mClear (os : List OD) (rs : List RV) : Option (OD × List OD) := match rs with
  | [] => some (.fz .non, [])
  | _ => none
theorem m_clear : MOk X "list.clear" mClear := by
  refine ⟨rClear, mt_clear, fun B H p F G vs os xs rs Q s hp hb r rs' nd q => ?_⟩
  dsimp only [mClear] at q
  split at q
  · cases rs'
    exact ⟨p, vs, rfl, rfl, hp, MPost.upd q s hb (.fz .non) .nil (by simp) (by simp) ⟨F, by simp⟩⟩
  · exact q.elim
/-- pop(), pop(i) of plain items -/
def mPop (os : List OD) (rs : List RV) : Option (OD × List OD) := match rs with
  | [] => match fzs os with
    | some ds => match ds[ds.length - 1]? with
      | some d => some (.fz d, ds.dropLast.map .fz)
      | none => none
    | none => match os[os.length - 1]? with
      | some o => some (o, os.dropLast)
      | none => none
  | [r] => match fzs os, r.od with
    | some ds, .fz (.int i) => match ixN ds.length i with
      | some k => if -4611686018427387904 ≤ i ∧ i < 4611686018427387904 then (ds[k]?).map fun d => (.fz d, (ds.eraseIdx k).map .fz) else none
      | none => none
    | _, _ => none
  | _ => none
theorem RepL.erase {K : PySem.W.Frag} {B : Hp} {vs : List V} {ds : List D} (h : RepL K B vs ds) : ∀ k, RepL K B (vs.eraseIdx k) (ds.eraseIdx k) := by
  induction vs generalizing ds with
  | nil => intro k; cases h; exact .nil
  | cons v vs ih =>
    intro k
    cases h with
    | cons r t =>
      cases k with
      | zero => exact t
      | succ k => exact .cons r (ih t k)
theorem RepL.dropLast {K : PySem.W.Frag} {B : Hp} {vs : List V} {ds : List D} (h : RepL K B vs ds) : RepL K B vs.dropLast ds.dropLast := by
  induction vs generalizing ds with
  | nil => cases h; exact .nil
  | cons v vs ih =>
    cases h with
    | cons r t =>
      cases vs with
      | nil => cases t; exact .nil
      | cons w vs => cases t with | cons r2 t2 => exact .cons r (ih (.cons r2 t2))
theorem OwnL.last {K : PySem.W.Frag} {mg : Str → Option Value} {B H : Hp} : ∀ {vs : List V} {os : List OD} {F : List Addr} {o : OD}, OwnL K mg B H F vs os → os[os.length - 1]? = some o →
    ∃ v G Fr, vs[vs.length - 1]? = some v ∧ Own K mg B H G v o ∧ OwnL K mg B H Fr vs.dropLast os.dropLast ∧ F.Perm (G ++ Fr)
  | [], _, _, _, .nil, e => by simp at e
  | [v], [o1], _, o, .cons (F := F1) (G := G1) r1 rt, e => by
    cases rt
    simp at e; subst e
    exact ⟨v, F1, [], rfl, r1, .nil, List.Perm.refl _⟩
  | v :: w :: vs, o1 :: o2 :: os, _, o, .cons (F := F1) (G := G1) r1 rt, e => by
    obtain ⟨x, G, Fr, a1, a2, a3, a4⟩ := OwnL.last (o := o) rt (by simpa using e)
    refine ⟨x, G, F1 ++ Fr, by simpa using a1, a2, .cons r1 a3, List.perm_iff_count.mpr fun z => ?_⟩
    have e1 := a4.count_eq z
    simp only [List.count_append] at e1 ⊢
    omega
theorem m_pop : MOk X "list.pop" mPop := by
  refine ⟨_, MtR.or mt_pop mt_popAt, fun B H p F G vs os xs rs Q s hp hb r rs' nd q => ?_⟩
  dsimp only [mPop] at q
  split at q
  · cases rs'
    cases e : fzs os with
    | none =>
      rw [e] at q
      dsimp only at q
      cases e2 : os[os.length - 1]? with
      | none => rw [e2] at q; exact q.elim
      | some o =>
        rw [e2] at q
        obtain ⟨v, Gv, Fr, a1, a2, a3, a4⟩ := r.last e2
        have nF : F.Nodup := (List.nodup_cons.mp (List.nodup_append.mp nd).1).2
        have pF : p ∉ F := (List.nodup_cons.mp (List.nodup_append.mp nd).1).1
        exact .inl ⟨p, vs, v, rfl, rfl, hp, a1, MPost.upd q s hb a2 a3 (fun m => pF (a4.mem_iff.mpr (List.mem_append_left _ m))) (fun m => pF (a4.mem_iff.mpr (List.mem_append_right _ m))) ⟨[], by simpa using a4⟩⟩
    | some ds =>
      rw [e] at q
      obtain ⟨rfl, rr⟩ := r.rep e
      dsimp only at q
      cases e2 : ds[ds.length - 1]? with
      | none => rw [e2] at q; exact q.elim
      | some d =>
        rw [e2] at q
        obtain ⟨v, e3, r3⟩ := rr.get e2
        exact .inl ⟨p, vs, v, rfl, rfl, hp, by rw [rr.length]; exact e3, MPost.upd q s hb (.fz r3) rr.dropLast.ownL (by simp) (by simp) ⟨[], by simp⟩⟩
  · rename_i ra
    split at q
    · rename_i ds i e er
      obtain ⟨rfl, rr⟩ := r.rep e
      obtain ⟨va, rfl, h1⟩ := lsR_one rs'
      have zi := rv_fz h1 er
      cases zi
      cases ek : ixN ds.length i with
      | none => rw [ek] at q; exact q.elim
      | some k =>
        rw [ek] at q
        dsimp only at q
        split at q
        · rename_i hb2
          cases e2 : ds[k]? with
          | none => rw [e2] at q; exact q.elim
          | some d =>
            rw [e2] at q
            obtain ⟨v, e3, r3⟩ := rr.get e2
            refine .inr ⟨p, vs, i, k, v, rfl, rfl, hp, by omega, by omega, by rw [rr.length]; exact (ixN_seq ek).1, e3, MPost.upd q s hb (.fz r3) (rr.erase k).ownL (by simp) (by simp) ⟨G, by simp⟩⟩
        · exact q.elim
    · exact q.elim
  · exact q.elim
def mReverse (os : List OD) (rs : List RV) : Option (OD × List OD) := match rs with
  | [] => match fzs os with
    | some ds => some (.fz .non, ds.reverse.map .fz)
    | none => none
  | _ => none
theorem RepL.reverse {K : PySem.W.Frag} {B : Hp} {vs : List V} {ds : List D} (h : RepL K B vs ds) : RepL K B vs.reverse ds.reverse := by
  induction vs generalizing ds with
  | nil => cases h; exact .nil
  | cons v vs ih =>
    cases h with
    | cons r t => rw [List.reverse_cons, List.reverse_cons]; exact (ih t).append (.cons r .nil)
theorem m_reverse : MOk X "list.reverse" mReverse := by
  refine ⟨rReverse, mt_reverse, fun B H p F G vs os xs rs Q s hp hb r rs' nd q => ?_⟩
  dsimp only [mReverse] at q
  split at q
  · cases rs'
    cases e : fzs os with
    | none => rw [e] at q; exact q.elim
    | some ds =>
      rw [e] at q
      obtain ⟨rfl, rr⟩ := r.rep e
      exact ⟨p, vs, rfl, rfl, hp, MPost.upd q s hb (.fz .non) rr.reverse.ownL (by simp) (by simp) ⟨[], by simp⟩⟩
  · exact q.elim
def mExtend (os : List OD) (rs : List RV) : Option (OD × List OD) := match rs with
  | [r] => match fzs os, r.od.litems with
    | some ds, some es => if ds.length + es.length ≤ 10000000 then some (.fz .non, (ds ++ es).map .fz) else none
    | _, _ => none
  | _ => none
theorem m_extend : MOk X "list.extend" mExtend := by
  refine ⟨rExtend, mt_extend, fun B H p F G vs os xs rs Q s hp hb r rs' nd q => ?_⟩
  dsimp only [mExtend] at q
  split at q
  · rename_i r1
    obtain ⟨v, rfl, h1⟩ := lsR_one rs'
    split at q
    · rename_i ds es e1 e2
      obtain ⟨rfl, rr⟩ := r.rep e1
      obtain ⟨b, us, rfl, k1, k2⟩ := rv_litems s h1 e2
      split at q
      · rename_i hl
        exact ⟨p, b, vs, us, rfl, rfl, hp, k1, by rw [rr.length, k2.length]; exact Nat.le_trans hl (by decide), MPost.upd q s hb (.fz .non) (rr.append k2).ownL (by simp) (by simp) ⟨G, by simp⟩⟩
      · exact q.elim
    · exact q.elim
  · exact q.elim

/-- a method of the list that stands at a name; its arguments first -/
def eMethV (i : Nat) (g : List OD → List RV → Option (OD × List OD)) (fr : Env → O (List RV)) : Env → O RV := fun env =>
  match vGet i env with
  | some (.lst _) =>
    let fin := fun rs e => match vGet i e with
      | some (.lst os) => match g os rs with
        | some (o, os') => O.eff (RV.own o) (e.set i (.lst os'))
        | none => .bad
      | _ => .bad
    match fr env with
    | .ok rs => fin rs env
    | .eff rs e => fin rs e
    | .exc c e => .exc c e
    | .bad => .bad
  | _ => .bad
/-- .. at any place -/
def eMethP (get : Env → Option OD) (put : Env → OD → Env) (g : List OD → List RV → Option (OD × List OD)) (fr : Env → O (List RV)) : Env → O RV := fun env =>
  match get env with
  | some (.lst os) => match fr env with
    | .ok rs => match g os rs with
      | some (o, os') => O.eff (RV.own o) (put env (.lst os'))
      | none => .bad
    | _ => .bad
  | _ => .bad
theorem sublist_perm_nodup {α : Type} {l a b : List α} (h : l.Perm (a ++ b)) (n : l.Nodup) : a.Nodup ∧ b.Nodup ∧ ∀ x ∈ a, x ∉ b := by
  have := List.nodup_append.mp (h.nodup_iff.mp n)
  exact ⟨this.1, this.2.1, fun x m z => this.2.2 x m x z rfl⟩
/-- the changed list put back -/
theorem meth_back {X : Cx} {B1 H1 : Hp} {F1 G Fo Fr : List Addr} {σ : St} {put : OD → Env} {v : V} {os : List OD} {rs : List RV} {xs : List V} {id : String} {g : List OD → List RV → Option (OD × List OD)} {r : V → List V → Hp → VK → Prop} {Q : VK}
    (hm : ∀ B H p F G vs os xs rs Q, Same B H → H p = some (.lst vs) → B p = none → OwnL X.K X.mg B H F vs os → lsR (rvR X.K X.mg) B H G xs rs → (p :: F ++ G).Nodup → MPost X B H p F G Q (g os rs) → r (.ref p) xs H Q)
    (s : Same B1 H1) (pm : F1.Perm (Fo ++ Fr)) (nd : (G ++ F1).Nodup) (ho : Own X.K X.mg B1 H1 Fo v (.lst os)) (pl : Plug X.K X.mg B1 H1 Fr σ put v) (th : ∀ a ∈ Fr, B1 a = none ∧ ∃ u, H1 a = some u) (ra : lsR (rvR X.K X.mg) B1 H1 G xs rs) {o : OD} {os' : List OD} (eg : g os rs = some (o, os'))
    (q : ∀ w B' H' Gr F', Own X.K X.mg B' H' Gr w o → Slots X.K X.mg B' H' F' σ (put (.lst os')) → Same B' H' → (Gr ++ F').Nodup → Frm B1 H1 (G ++ F1) B' H' (Gr ++ F') → Q w H') : r v xs H1 Q := by
  cases ho with
  | @lst p vs Fi _ hp hb hr =>
    have n2 : (G ++ (p :: Fi ++ Fr)).Nodup := (pm.append_left G).nodup_iff.mp nd
    have n3 := List.nodup_append.mp n2
    have n4 := List.nodup_append.mp n3.2.1
    have n5 : (p :: Fi ++ G).Nodup := List.nodup_append.mpr ⟨n4.1, n3.1, fun a ha b hb e => n3.2.2 b hb a (List.mem_append_left _ ha) e.symm⟩
    refine hm B1 H1 p Fi G vs os xs rs Q s hp hb hr ra n5 ?_
    rw [eg]
    rintro w vs' Fw F' B' H' ow ol hp' sb kp fg s' ⟨L, pL⟩
    have nfg : (Fi ++ G).Nodup := (List.nodup_cons.mp n5).2
    have npfg : p ∉ Fi ++ G := (List.nodup_cons.mp n5).1
    have n6 := pL.nodup_iff.mp nfg
    rw [List.append_assoc] at n6
    have n7 := List.nodup_append.mp n6
    have n8 := List.nodup_append.mp n7.2.1
    have mem : ∀ a, a ∈ Fw ∨ a ∈ F' → a ∈ Fi ++ G := fun a m => pL.mem_iff.mpr (List.mem_append_left _ (List.mem_append.mpr m))
    have frk : ∀ a ∈ Fr, (∀ u, H1 a = some u → H' a = some u) ∧ B' a = none := fun a m => by
      obtain ⟨b, u, e⟩ := th a m
      refine ⟨fun u e => kp a u (fun z => ?_) e, fg a u e b⟩
      exact n4.2.2 p List.mem_cons_self a m z.symm
    obtain ⟨F2, sl, p2⟩ := pl B' H' (p :: F') (.lst os') sb frk (.lst hp' (fg p _ hp hb) ol)
    have fr2 : ∀ a ∈ Fr, a ∉ Fi ++ G := fun a m z => by
      rcases List.mem_append.mp z with z | z
      · exact n4.2.2 a (List.mem_cons_of_mem _ z) a m rfl
      · exact n3.2.2 a z a (List.mem_append_right _ m) rfl
    have nF2 : F2.Nodup := p2.nodup_iff.mpr (List.nodup_append.mpr ⟨List.nodup_cons.mpr ⟨fun m => npfg (mem p (.inr m)), n8.1⟩, n4.2.1, fun a ha b hb e => by
      subst e
      rcases List.mem_cons.mp ha with z | z
      · exact n4.2.2 p List.mem_cons_self a hb z.symm
      · exact fr2 a hb (mem a (.inr z))⟩)
    refine q w B' H' Fw F2 ow sl s' (List.nodup_append.mpr ⟨n7.1, nF2, fun a ha b hb e => ?_⟩) ⟨sb, fun a u e m => kp a u (fun z => ?_) e, fun a u e _ b => fg a u e b, fun a m => ?_⟩
    · subst e
      rcases List.mem_append.mp (p2.mem_iff.mp hb) with z | z
      · rcases List.mem_cons.mp z with z | z
        · exact npfg (z ▸ mem a (.inl ha))
        · exact n7.2.2 a ha a (List.mem_append_left _ z) rfl
      · exact fr2 a z (mem a (.inl ha))
    · subst z
      exact m (List.mem_append_right _ (pm.mem_iff.mpr (List.mem_append_left _ List.mem_cons_self)))
    · left
      have inFG : ∀ a, a ∈ Fi ++ G → a ∈ G ++ F1 := fun a z => by
        rcases List.mem_append.mp z with z | z
        · exact List.mem_append_right _ (pm.mem_iff.mpr (List.mem_append_left _ (List.mem_cons_of_mem _ z)))
        · exact List.mem_append_left _ z
      rcases List.mem_append.mp m with m | m
      · exact inFG a (mem a (.inl m))
      · rcases List.mem_append.mp (p2.mem_iff.mp m) with z | z
        · rcases List.mem_cons.mp z with z | z
          · subst z; exact List.mem_append_right _ (pm.mem_iff.mpr (List.mem_append_left _ List.mem_cons_self))
          · exact inFG a (mem a (.inr z))
        · exact List.mem_append_right _ (pm.mem_iff.mpr (List.mem_append_right _ z))
theorem EOk.methV {id : String} {g : List OD → List RV → Option (OD × List OD)} {r : V → List V → Hp → VK → Prop} {i : Nat} {t : TA} {fr : Env → O (List RV)}
    (hm : ∀ B H p F G vs os xs rs Q, Same B H → H p = some (.lst vs) → B p = none → OwnL X.K X.mg B H F vs os → lsR (rvR X.K X.mg) B H G xs rs → (p :: F ++ G).Nodup → MPost X B H p F G Q (g os rs) → r (.ref p) xs H Q)
    (ka : EOk X W (lsR (rvR X.K X.mg)) t fr) : EOk X W (rvR X.K X.mg) (fun σ H Q => ∃ v, σ[i]? = some (some v) ∧ (tyV X.K "list" v H ∧ t σ H fun xs H2 => r v xs H2 Q)) (eMethV i g fr) := by
  intro B H F σ env Q S q
  dsimp only [eMethV] at q
  cases e0 : vGet i env with
  | none => rw [e0] at q; exact q.elim
  | some o0 =>
    rw [e0] at q
    cases o0 with
    | lst os0 =>
      dsimp only at q
      obtain ⟨v, Fo0, Fr0, h1, h2, h3, h4⟩ := slots_plug S.sl e0
      have ty : tyV X.K "list" v H := by
        cases h3 with
        | lst hp _ _ => exact .inl ⟨rfl, _, .inl (.inl hp)⟩
      refine ⟨v, h1, ty, ka B H F σ env _ S ?_⟩
      have fin : ∀ {B1 H1 : Hp} {F1 G : List Addr} {env1 : Env} {xs : List V} {rs : List RV}, Slots X.K X.mg B1 H1 F1 σ env1 → Same B1 H1 → (G ++ F1).Nodup → Frm B H F B1 H1 (G ++ F1) → lsR (rvR X.K X.mg) B1 H1 G xs rs →
          EPost X W (rvR X.K X.mg) B H F σ Q (match vGet i env1 with
            | some (.lst os) => match g os rs with
              | some (o, os') => O.eff (RV.own o) (env1.set i (.lst os'))
              | none => .bad
            | _ => .bad) → r v xs H1 Q := by
        intro B1 H1 F1 G env1 xs rs sl s nd f ra q
        cases e1 : vGet i env1 with
        | none => rw [e1] at q; exact q.elim
        | some o1 =>
          rw [e1] at q
          cases o1 with
          | lst os =>
            dsimp only at q
            obtain ⟨v', Fo, Fr, k1, k2, k3, k4⟩ := slots_plug sl e1
            rw [h1] at k1; cases k1
            cases eg : g os rs with
            | none => rw [eg] at q; exact q.elim
            | some z =>
              obtain ⟨o, os'⟩ := z
              rw [eg] at q
              exact meth_back (id := id) hm s k2 nd k3 k4 (fun a m => sl.there a (k2.mem_iff.mpr (List.mem_append_right _ m))) ra eg fun w B' H' Gr F' a b c d e => q w B' H' Gr F' a b c d (f.trans e)
          | _ => exact q.elim
      cases e2 : fr env with
      | bad => rw [e2] at q; exact q
      | exc c e => rw [e2] at q; exact q
      | ok rs => rw [e2] at q; exact fun xs B1 H1 G ra s n f => fin (S.pure s f).sl s (nodup_new (fun a m => (S.sl.there a m).2) S.nd n f) f.wide0 ra (by rw [e0]; exact q)
      | eff rs e => rw [e2] at q; exact fun xs B1 H1 G F1 ra sl s n f => fin sl s n f ra q
    | _ => exact q.elim
/-- x.m(..), x a name that holds a list -/
theorem r_methV {id : String} {name x : Str} {g : List OD → List RV → Option (OD × List OD)} {apos cpos p : Pos} {fr : Env → O (List RV)} (i : Nat) (pa : PlainAttrs "list") (slot : Slot "list" name id) (hty : typeOf (.builtin id) = pure (.type "method_descriptor")) (hm : MOk X id g) (ha : PAr X W (e :: es) fr)
    (hN : X.N[i]? = some x := by rfl) (hv : Vis X.env.scope x := by first | exact Or.inl rfl | exact Or.inr (Or.inl rfl) | exact Or.inr (Or.inr rfl)) (hd : (x == ("__debug__" : Str)) = false := by decide) (hcd : (x == ("__classdict__" : Str)) = false := by decide)
    (hbase : attributeBase (.Name x p) name X.env (eval (.Name x p) X.env) = eval (.Name x p) X.env := by rfl)
    (hfew : ((backTo cpos (starEach (e :: es) X.env)).all (fun x => !x.1) && (backToKw cpos (keywordEach [] X.env)).all (fun x => x.1.isSome)
      && decide ((e :: es).length + ([] : List Keyword).length + (if ([] : List Keyword).isEmpty then 0 else 1) < 30)) = true := by rfl)
    (hline : (apos.endLine == cpos.line) = true := by rfl) (hs : starEach (e :: es) X.env = (false, eval e X.env) :: starEach es X.env := by rfl) (hplain : (backTo cpos (starEach es X.env)).any (·.1) = false := by rfl) :
    PEr X W (.Call (.Attribute (.Name x p) name apos) (e :: es) [] cpos) (eMethV i g fr) := by
  obtain ⟨r, hr, hm⟩ := hm
  obtain ⟨t, h, k⟩ := ha
  exact ⟨_, pe_bm pa slot hty hr (pe_var hN hv hd hcd) h hbase hfew hline hs hplain, EOk.methV (id := id) hm k⟩
theorem r_methV0 {id : String} {name x : Str} {g : List OD → List RV → Option (OD × List OD)} {apos cpos p : Pos} (i : Nat) (pa : PlainAttrs "list") (slot : Slot "list" name id) (hty : typeOf (.builtin id) = pure (.type "method_descriptor")) (hm : MOk X id g)
    (hN : X.N[i]? = some x := by rfl) (hv : Vis X.env.scope x := by first | exact Or.inl rfl | exact Or.inr (Or.inl rfl) | exact Or.inr (Or.inr rfl)) (hd : (x == ("__debug__" : Str)) = false := by decide) (hcd : (x == ("__classdict__" : Str)) = false := by decide)
    (hbase : attributeBase (.Name x p) name X.env (eval (.Name x p) X.env) = eval (.Name x p) X.env := by rfl) (hline : (apos.endLine == cpos.line) = true := by rfl) :
    PEr X W (.Call (.Attribute (.Name x p) name apos) [] [] cpos) (eMethV i g aNil) := by
  obtain ⟨r, hr, hm⟩ := hm
  have k : EOk X W (lsR (rvR X.K X.mg)) tNil aNil := fun B H F σ env Q S q => q [] B H [] .nil S.sub List.nodup_nil Frm.none
  exact ⟨_, pe_bm0 pa slot hty hr (pe_var hN hv hd hcd) hbase hline, EOk.methV (id := id) hm k⟩
end
end Tl
namespace Tl
open PySem PySem.Spec L2

section
variable {X : Cx} {W : WX} {io : List Nat} {a b c e : Expr} {es rest : List Expr} {f fa fb fc : Env → O RV} {pos : Pos}
/-! ### place[k] = .. -/
def gSub (get : Env → Option OD) (put : Env → OD → Env) (fk : Env → O RV) : OD → Env → Option Env := fun o env =>
  match get env with
  | some (.lst os) => match fk env with
    | .ok r => match r.od with
      | .fz (.int k) => (ixN os.length k).map fun j => put env (.lst (os.set j o))
      | _ => none
    | _ => none
  | _ => none
theorem set_back {K : PySem.W.Frag} {mg : Str → Option Value} {B H : Hp} {F G Fo Fr : List Addr} {σ : St} {put : OD → Env} {p : Addr} {vs : List V} {os : List OD} {v : V} {o : OD} {j : Nat} (s : Same B H) (pm : F.Perm (Fo ++ Fr)) (nd : (G ++ F).Nodup) (ho : Own K mg B H Fo (.ref p) (.lst os)) (hp : H p = some (.lst vs))
    (pl : Plug K mg B H Fr σ put (.ref p)) (th : ∀ a ∈ F, B a = none ∧ ∃ u, H a = some u) (r : Own K mg B H G v o) (hj : j < os.length) : ∃ F2, Sta K mg B (upd H p (.lst (vs.set j v))) F2 σ (put (.lst (os.set j o))) ∧ Frm B H (G ++ F) B (upd H p (.lst (vs.set j v))) F2 := by
  cases ho with
  | @lst _ vs' Fi _ hp' hb hr =>
    rw [hp] at hp'; cases hp'
    have n2 : (G ++ (p :: Fi ++ Fr)).Nodup := (pm.append_left G).nodup_iff.mp nd
    have n3 := List.nodup_append.mp n2
    have n4 := List.nodup_append.mp n3.2.1
    have npG : p ∉ G := fun m => n3.2.2 p m p (List.mem_append_left _ List.mem_cons_self) rfl
    have npFi := (List.nodup_cons.mp n4.1).1
    obtain ⟨F', Fs, h1, h2, h3⟩ := hr.set hj r
    have inF' : ∀ a, a ∈ F' → a ∈ G ∨ a ∈ Fi := fun a m => (List.mem_append.mp (h2.mem_iff.mp m)).imp id fun z => h3.subset z
    have npF' : p ∉ F' := fun m => (inF' p m).elim npG npFi
    have nF' : F'.Nodup := h2.nodup_iff.mpr (List.nodup_append.mpr ⟨n3.1, (List.nodup_cons.mp n4.1).2.sublist h3, fun a ha b hb e => by
      subst e
      exact n3.2.2 a ha a (List.mem_append_left _ (List.mem_cons_of_mem _ (h3.subset hb))) rfl⟩)
    have frk : ∀ a ∈ Fr, (∀ u, H a = some u → upd H p (.lst (vs.set j v)) a = some u) ∧ B a = none := fun a m => by
      have ne : a ≠ p := fun z => n4.2.2 p List.mem_cons_self a m z.symm
      exact ⟨fun u e => by rw [upd_ne ne]; exact e, (th a (pm.mem_iff.mpr (List.mem_append_right _ m))).1⟩
    obtain ⟨F2, sl, p2⟩ := pl B _ (p :: F') (.lst (os.set j o)) (Same.refl _) frk (.lst upd_same hb (ownL_upd h1 npF'))
    have inF : ∀ a, a ∈ p :: Fi ∨ a ∈ Fr → a ∈ F := fun a m => pm.mem_iff.mpr (List.mem_append.mpr m)
    refine ⟨F2, ⟨same_upd s hb, sl, p2.nodup_iff.mpr (List.nodup_append.mpr ⟨List.nodup_cons.mpr ⟨npF', nF'⟩, n4.2.1, fun a ha b hb e => ?_⟩)⟩, ⟨Same.refl _, fun a u e m => ?_, fun _ _ _ _ b => b, fun a m => .inl ?_⟩⟩
    · subst e
      rcases List.mem_cons.mp ha with z | z
      · exact n4.2.2 p List.mem_cons_self a hb z.symm
      · rcases inF' a z with y | y
        · exact n3.2.2 a y a (List.mem_append_right _ hb) rfl
        · exact n4.2.2 a (List.mem_cons_of_mem _ y) a hb rfl
    · have ne : a ≠ p := fun z => m (List.mem_append_right _ (inF a (.inl (by rw [z]; exact List.mem_cons_self))))
      rw [upd_ne ne]; exact e
    · rcases List.mem_append.mp (p2.mem_iff.mp m) with z | z
      · rcases List.mem_cons.mp z with z | z
        · subst z; exact List.mem_append_right _ (inF a (.inl List.mem_cons_self))
        · rcases inF' a z with y | y
          · exact List.mem_append_left _ y
          · exact List.mem_append_right _ (inF a (.inl (List.mem_cons_of_mem _ y)))
      · exact List.mem_append_right _ (inF a (.inr z))
theorem ixN_lt {n : Nat} {k : Int} {j : Nat} (h : ixN n k = some j) : j < n := (ixN_seq h).2.1
theorem g_sub {get : Env → Option OD} {put : Env → OD → Env} {fk : Env → O RV} (hp : PLr X a get put) (hk : PEr X W b fk) (hst : ∀ v, assign (.Subscript a b pos) X.env v = (do
      let ov ← holding [v] (eval a X.env)
      let iv ← holding [v, ov] (eval b X.env)
      standAt pos
      holding [v, ov, iv] (setItem ov iv v)
      release [v, ov, iv] []) := by intro _; rfl) : PGr X io (.Subscript a b pos) (gSub get put fk) := by
  obtain ⟨ta, ha, ka⟩ := hp
  obtain ⟨tb, hb, kb⟩ := hk
  refine ⟨_, pg_sub ha hb set_list hst, fun B H F G σ env v o Q sl s r nd q => ?_⟩
  have nF := (List.nodup_append.mp nd).2.1
  dsimp only [gSub] at q
  cases e0 : get env with
  | none => rw [e0] at q; exact q.elim
  | some w =>
    rw [e0] at q
    cases w with
    | lst os =>
      dsimp only at q
      refine ka B H F σ env _ _ ⟨s, sl, nF⟩ e0 fun vb B1 H1 Fo Fr f1 s1 pm ho pl => ?_
      have S1 : Sta X.K X.mg B1 H1 F σ env := Sta.pure ⟨s, sl, nF⟩ s1 f1
      refine kb B1 H1 F σ env _ S1 ?_
      cases e1 : fk env with
      | ok r1 =>
        rw [e1] at q
        intro vk B2 H2 G2 rk s2 n2 f2
        dsimp only at q
        split at q
        · rename_i k ek
          have zk := rv_fz rk ek
          cases zk
          cases e2 : ixN os.length k with
          | none => rw [e2] at q; exact q.elim
          | some j =>
            rw [e2] at q
            have f12 : Frm B H [] B2 H2 G2 := f1.trans (f2.wide (fun _ z => nomatch z) fun c m => .inl m)
            have ho2 := f2.own ho fun _ _ z => nomatch z
            have r2 := f12.own r fun _ _ z => nomatch z
            have th : ∀ a ∈ F, B2 a = none ∧ ∃ u, H2 a = some u := fun a m => (f2.slots S1.sl fun _ _ z => nomatch z).there a m
            have pl2 : Plug X.K X.mg B2 H2 Fr σ (put env) vb := fun B' H' Fo' o' sb k r => pl B' H' Fo' o' (f2.sB.trans sb) (fun a m => ⟨fun u e => (k a m).1 u (f2.keep a u e (by simp)), (k a m).2⟩) r
            cases ho2 with
            | @lst p vs Fi _ hp hb hr =>
              obtain ⟨F2, S', f'⟩ := set_back s2 pm nd (.lst hp hb hr) hp pl2 th r2 (ixN_lt e2)
              refine ⟨p, vs, k, j, rfl, rfl, hp, by rw [hr.length]; exact e2, q B2 _ F2 σ S' ((Frm.wide f12 (fun _ z => nomatch z) fun c m => .inr m : Frm B H (G ++ F) B2 H2 (G ++ F)).trans f') Agree.refl⟩
        · exact q.elim
      | _ => rw [e1] at q; exact q.elim
    | _ => exact q.elim

/-! ### x op= e -/
/-- what op= does to two ints -/
def IOk (X : Cx) (op : Operator) (g : Int → Int → Option Int) : Prop := ∃ r, PIp X op r ∧ ∀ i j k H (Q : VK), g i j = some k → Q (.int k) H → r (.int i) (.int j) H Q
theorem io_add : IOk X .Add (fun i j => some (i + j)) := ⟨_, ip_add, fun i j k H Q e q => by cases e; exact ⟨i, j, rfl, rfl, q⟩⟩
theorem io_sub : IOk X .Sub (fun i j => some (i - j)) := ⟨_, ip_sub, fun i j k H Q e q => by cases e; exact ⟨i, j, rfl, rfl, q⟩⟩
def sAug (i : Nat) (g : Int → Int → Option Int) (fe : Env → O RV) : Env → SO := fun env => match env[i]? with
  | some (.fz (.int x)) => sE fe (fun r e => match r.od with
    | .fz (.int y) => match g x y with
      | some z => if i < e.length then .nx (e.set i (.fz (.int z))) else .bad
      | none => .bad
    | _ => .bad) env
  | _ => .bad
theorem s_aug (i : Nat) {x : Str} {op : Operator} {g : Int → Int → Option Int} {pos' : Pos} (hN : X.N.Nodup) (ho : IOk X op g) (he : PEr X W e f) (hi : X.N[i]? = some x := by rfl) (hx : Loc X.env.scope x := by first | exact Or.inl rfl | exact Or.inr rfl) (hio : io.contains i = false := by rfl)
    (hf : X.fn x = true ∨ X.env.scope.names.lookup x = some .local := by first | exact .inl rfl | exact .inr rfl) : PSr X W io (.AugAssign (.Name x pos') op e pos) (sAug i g f) := by
  obtain ⟨r, hr, hg⟩ := ho
  obtain ⟨t, h, k⟩ := he
  refine ⟨_, ps_aug hN hi hx h hr hf, fun B H F σ env D S q => ?_⟩
  dsimp only [sAug] at q
  cases e0 : env[i]? with
  | none => rw [e0] at q; exact q.elim
  | some o =>
    rw [e0] at q
    cases o with
    | fz d =>
      cases d with
      | int x0 =>
        obtain ⟨v, G, h1, h2, h3⟩ := S.sl.get e0 (by intro z; cases z)
        cases h2 with
        | fz h2 =>
          cases h2
          refine ⟨_, h1, k B H F σ env _ S ?_⟩
          dsimp only [sE] at q
          have fin : ∀ {B' H' : Hp} {F' G : List Addr} {e1 : Env} {r1 : RV} {w : V}, Slots X.K X.mg B' H' F' σ e1 → Same B' H' → (G ++ F').Nodup → Frm B H F B' H' (G ++ F') → rvR X.K X.mg B' H' G w r1 → SPost X W io B H F σ D (match r1.od with
              | .fz (.int y) => match g x0 y with
                | some z => if i < e1.length then .nx (e1.set i (.fz (.int z))) else .bad
                | none => .bad
              | _ => .bad) → r (.int x0) w H' fun z H2 => D.nx (σ.set i (some z)) H2 := by
            intro B' H' F' G e1 r1 w sl s nd f rw' q
            split at q
            · rename_i y ey
              have zy := rv_fz rw' ey
              cases zy
              cases eg : g x0 y with
              | none => rw [eg] at q; exact q.elim
              | some z =>
                rw [eg] at q
                dsimp only at q
                split at q
                · rename_i hl
                  refine hg _ _ z _ _ eg ?_
                  obtain ⟨F2, c1, c2, c3⟩ := store_ok (X := X) (io := io) (G := []) (v := .int z) (o := .fz (.int z)) sl s (.fz .int) (List.nodup_append.mp nd).2.1 hl hio
                  exact q B' H' F2 _ c1 ((f.wide (fun c m => m) fun c m => .inl (List.mem_append_right _ m)).trans c2) c3
                · exact q.elim
            · exact q.elim
          cases e2 : f env with
          | bad => rw [e2] at q; exact q
          | exc c e => rw [e2] at q; exact fun B' H' F' S' f' => q B' H' F' σ S' f' Agree.refl
          | ok r1 => rw [e2] at q; exact fun w B' H' G ra s n f => fin (S.pure s f).sl s (nodup_new (fun a m => (S.sl.there a m).2) S.nd n f) f.wide0 ra q
          | eff r1 e => rw [e2] at q; exact fun w B' H' G F' ra l s n f => fin l s n f ra q
      | _ => exact q.elim
    | _ => exact q.elim
/-! place[k] op= e, of ints, nothing else changed meanwhile -/
theorem pget_list : PGet X (rIxL X.K) := by
  intro pn s₁ σ₁ H₁ xa ya va ua Qw Iw rxa rya hw
  obtain ⟨pa, xa', ia, za, rfl, rfl, hqa, hea, qa⟩ := hw
  cases rxa
  obtain ⟨ta, rfl⟩ := rya
  obtain ⟨as, ra, pla, hza⟩ := Iw.list hqa
  obtain ⟨ja, u1, u2, u3, u4, u5⟩ := atI_get hea
  obtain ⟨wa, ewa, rwa'⟩ := ra.get u2
  have hla := ra.length
  have hna := line63
  have endI : EP X pn σ₁ Qw wa s₁ := ⟨za, H₁, Iw, rwa', qa⟩
  by_cases n0 : 0 ≤ ia
  · have ej : ia.toNat = ja := by
      rw [PySem.seqIndex_of n0 u5] at u1
      exact Option.some.inj u1
    exact wpAny_getItem_list pla.isList n0 (by omega) (by rw [ej]; simpa using ewa) endI
  · have ej : (ia + (as.toArray.size : Int)).toNat = ja := by
      rw [PySem.seqIndex_neg (by omega) u4] at u1
      rw [List.size_toArray, ← hla]
      exact Option.some.inj u1
    exact wpAny_getItem_list_neg pla.isList (by omega) (by rw [List.size_toArray] <;> omega) (by omega) (by rw [ej]; simpa using ewa) endI
def sAugS (get : Env → Option OD) (put : Env → OD → Env) (fk : Env → O RV) (g : Int → Int → Option Int) (fe : Env → O RV) : Env → SO := fun env =>
  match get env with
  | some (.lst os) => match fk env with
    | .ok r => match r.od with
      | .fz (.int k) => match ixN os.length k with
        | some j => match os[j]? with
          | some (.fz (.int x)) => match fe env with
            | .ok r2 => match r2.od with
              | .fz (.int y) => match g x y with
                | some z => .nx (put env (.lst (os.set j (.fz (.int z)))))
                | none => .bad
              | _ => .bad
            | _ => .bad
          | _ => .bad
        | none => .bad
      | _ => .bad
    | _ => .bad
  | _ => .bad
theorem s_augS {op : Operator} {g : Int → Int → Option Int} {get : Env → Option OD} {put : Env → OD → Env} {fk fe : Env → O RV} {tpos : Pos} (ho : IOk X op g) (hp : PLr X a get put) (hk : PEr X W b fk) (he : PEr X W e fe)
    (hst : ∀ ov iv new, augStore b ov iv new = (do holding [new, ov, iv] (setItem ov iv new); release [new, ov, iv] []; pure .next) := by intros; rfl) : PSr X W io (.AugAssign (.Subscript a b tpos) op e pos) (sAugS get put fk g fe) := by
  obtain ⟨ri, hr, hg⟩ := ho
  obtain ⟨ta, ha, ka⟩ := hp
  obtain ⟨tb, hb, kb⟩ := hk
  obtain ⟨te, hte, ke⟩ := he
  refine ⟨_, ps_augS ha hb pget_list hte hr set_list hst, fun B H F σ env D S q => ?_⟩
  dsimp only [sAugS] at q
  cases e0 : get env with
  | none => rw [e0] at q; exact q.elim
  | some w =>
    rw [e0] at q
    cases w with
    | lst os =>
      dsimp only at q
      refine ka B H F σ env _ _ S e0 fun vb B1 H1 Fo Fr f1 s1 pm ho pl => ?_
      have S1 : Sta X.K X.mg B1 H1 F σ env := S.pure s1 f1
      refine kb B1 H1 F σ env _ S1 ?_
      cases e1 : fk env with
      | ok r1 =>
        rw [e1] at q
        intro vk B2 H2 G2 rk s2 n2 f2
        have S2 := S1.pure s2 f2
        dsimp only at q
        split at q
        · rename_i k ek
          have zk := rv_fz rk ek
          cases zk
          cases e2 : ixN os.length k with
          | none => rw [e2] at q; exact q.elim
          | some j =>
            rw [e2] at q
            dsimp only at q
            have f12 : Frm B H [] B2 H2 [] := f1.trans (f2.wide (fun _ z => nomatch z) fun c m => by cases m)
            have ho2 := f2.own ho fun _ _ z => nomatch z
            cases ho2 with
            | @lst p vs Fi _ hp hb hr2 =>
              cases e3 : os[j]? with
              | none => rw [e3] at q; exact q.elim
              | some oj =>
                rw [e3] at q
                cases oj with
                | fz dj =>
                  cases dj with
                  | int x0 =>
                    dsimp only at q
                    obtain ⟨vj, Gj, c1, c2, _⟩ := hr2.get e3
                    cases c2 with
                    | fz c2 =>
                      cases c2
                      refine ⟨p, vs, k, .int x0, rfl, rfl, SqL.of hp, by unfold atI; rw [hr2.length, e2]; exact c1, ?_⟩
                      refine ke B2 H2 F σ env _ S2 ?_
                      cases e4 : fe env with
                      | ok r2 =>
                        rw [e4] at q
                        intro ve B3 H3 G3 re s3 n3 f3
                        have S3 := S2.pure s3 f3
                        dsimp only at q
                        split at q
                        · rename_i y ey
                          have zy := rv_fz re ey
                          cases zy
                          cases eg : g x0 y with
                          | none => rw [eg] at q; exact q.elim
                          | some z =>
                            rw [eg] at q
                            refine hg _ _ z _ _ eg ?_
                            have ho3 := f3.own (Own.lst hp hb hr2) fun _ _ z => nomatch z
                            have hp3 := f3.keep p _ hp (by simp)
                            have f13 : Frm B1 H1 [] B3 H3 [] := (f2.wide (F2 := []) (fun _ z => nomatch z) fun c m => by cases m).trans (f3.wide (fun _ z => nomatch z) fun c m => by cases m)
                            have pl3 : Plug X.K X.mg B3 H3 Fr σ (put env) (.ref p) := fun B' H' Fo' o' sb k r => pl B' H' Fo' o' (f13.sB.trans sb) (fun a m => ⟨fun u e => (k a m).1 u (f13.keep a u e (by simp)), (k a m).2⟩) r
                            obtain ⟨F2, S', f'⟩ := set_back (G := []) (v := .int z) (o := .fz (.int z)) (j := j) s3 pm S.nd ho3 hp3 pl3 (fun a m => S3.sl.there a m) (.fz .int) (ixN_lt e2)
                            refine ⟨p, vs, k, j, rfl, rfl, hp3, by rw [hr2.length]; exact e2, q B3 _ F2 σ S' ?_ Agree.refl⟩
                            have f03 : Frm B H [] B3 H3 [] := f1.trans f13
                            exact (Frm.wide f03 (fun _ z => nomatch z) fun c m => .inr m : Frm B H F B3 H3 F).trans f'
                        · exact q.elim
                      | _ => rw [e4] at q; exact q.elim
                  | _ => exact q.elim
                | _ => exact q.elim
        · exact q.elim
      | _ => rw [e1] at q; exact q.elim
    | _ => exact q.elim
end
end Tl
namespace Tl
open PySem PySem.Spec L2

/-! ### slots hidden and shown again -/
def wipeE (env : Env) : List Nat → Env
  | [] => env
  | v :: vs => (wipeE env vs).set v .un
/-- e with what env has at vs -/
def showE (env e : Env) : List Nat → Env
  | [] => e
  | v :: vs => match env[v]? with
    | some o => (showE env e vs).set v o
    | none => showE env e vs
section
variable {K : PySem.W.Frag} {mg : Str → Option Value} {B B' H H' : Hp}
theorem Slots.any {F : List Addr} {σ : St} {env : Env} (x : Slots K mg B H F σ env) {i : Nat} (e : env[i]? = some .un) (v : Option V) : Slots K mg B H F (σ.set i v) env := by
  induction x generalizing i with
  | nil => simp at e
  | un h ih =>
    cases i with
    | zero => exact .un h
    | succ i => exact .un (ih (by simpa using e))
  | cons r h ih =>
    cases i with
    | zero => simp at e; subst e; cases r; exact .un h
    | succ i => exact .cons r (ih (by simpa using e))
theorem Slots.fill {F : List Addr} {σ : St} {env : Env} (x : Slots K mg B H F σ env) {i : Nat} (e : env[i]? = some .un) {v : V} {d : D} (r : Rep K B v d) : Slots K mg B H F (σ.set i (some v)) (env.set i (.fz d)) := by
  induction x generalizing i with
  | nil => simp at e
  | @un F x σ env h ih =>
    cases i with
    | zero => exact .cons (F := []) (.fz r) h
    | succ i => exact .un (ih (by simpa using e))
  | cons r' h ih =>
    cases i with
    | zero => simp at e; subst e; cases r'; exact .cons (F := []) (.fz r) h
    | succ i => exact .cons r' (ih (by simpa using e))
theorem Slots.drop1 {F : List Addr} {σ : St} {env : Env} (x : Slots K mg B H F σ env) (i : Nat) (v : Option V) : ∃ F', Slots K mg B H F' (σ.set i v) (env.set i .un) ∧ F'.Sublist F := by
  induction x generalizing i with
  | nil => exact ⟨[], .nil, List.Sublist.refl _⟩
  | @un F x σ env h ih =>
    cases i with
    | zero => exact ⟨F, .un h, List.Sublist.refl _⟩
    | succ i => obtain ⟨F', h1, h2⟩ := ih i; exact ⟨F', .un h1, h2⟩
  | @cons F G w o σ env r h ih =>
    cases i with
    | zero => exact ⟨G, .un h, List.sublist_append_right _ _⟩
    | succ i => obtain ⟨F', h1, h2⟩ := ih i; exact ⟨F ++ F', .cons r h1, (List.Sublist.refl _).append h2⟩
theorem Slots.wipe {F : List Addr} {σ : St} {env : Env} (x : Slots K mg B H F σ env) : ∀ vs : List Nat, ∃ F', Slots K mg B H F' (L2.wipe σ vs) (wipeE env vs) ∧ F'.Sublist F
  | [] => ⟨F, x, List.Sublist.refl _⟩
  | v :: vs => by
    obtain ⟨F', h1, h2⟩ := Slots.wipe x vs
    obtain ⟨F2, h3, h4⟩ := h1.drop1 v none
    exact ⟨F2, h3, h4.trans h2⟩
theorem wipeE_len {env : Env} : ∀ {vs : List Nat}, (wipeE env vs).length = env.length
  | [] => rfl
  | v :: vs => by unfold wipeE; rw [List.length_set, wipeE_len]
theorem wipeE_at {env : Env} : ∀ {vs : List Nat} {i : Nat}, i ∈ vs → i < env.length → (wipeE env vs)[i]? = some .un
  | v :: vs, i, h, hl => by
    unfold wipeE
    by_cases e : v = i
    · subst e; rw [List.getElem?_set_self (by rw [wipeE_len]; exact hl)]
    · rw [List.getElem?_set_ne e]
      rcases List.mem_cons.mp h with z | z
      · exact absurd z.symm e
      · exact wipeE_at z hl
theorem wipeE_out {env : Env} : ∀ {vs : List Nat} {i : Nat}, i ∉ vs → (wipeE env vs)[i]? = env[i]?
  | [], _, _ => rfl
  | v :: vs, i, h => by
    unfold wipeE
    rw [List.getElem?_set_ne (fun e => h (by rw [e]; exact List.mem_cons_self))]
    exact wipeE_out fun z => h (List.mem_cons_of_mem _ z)
theorem wipeE_set {env : Env} {o : OD} : ∀ {vs : List Nat} {i : Nat}, i ∈ vs → wipeE (env.set i o) vs = wipeE env vs := by
  intro vs i h
  apply List.ext_getElem?
  intro j
  by_cases hj : j ∈ vs
  · by_cases hl : j < env.length
    · rw [wipeE_at hj (by rw [List.length_set]; exact hl), wipeE_at hj hl]
    · rw [List.getElem?_eq_none (by rw [wipeE_len, List.length_set]; omega), List.getElem?_eq_none (by rw [wipeE_len]; omega)]
  · rw [wipeE_out hj, wipeE_out hj, List.getElem?_set_ne (fun e => by subst e; exact hj h)]
theorem wipe_out {σ : St} : ∀ {vs : List Nat} {i : Nat}, i ∉ vs → (L2.wipe σ vs)[i]? = σ[i]?
  | [], _, _ => rfl
  | v :: vs, i, h => by
    unfold L2.wipe
    rw [List.getElem?_set_ne (fun e => h (by rw [e]; exact List.mem_cons_self))]
    exact wipe_out fun z => h (List.mem_cons_of_mem _ z)
theorem wipe_at {σ : St} : ∀ {vs : List Nat} {i : Nat}, i ∈ vs → i < σ.length → (L2.wipe σ vs)[i]? = some none
  | v :: vs, i, h, hl => by
    unfold L2.wipe
    by_cases e : v = i
    · subst e; rw [List.getElem?_set_self (by rw [wipe_length]; exact hl)]
    · rw [List.getElem?_set_ne e]
      rcases List.mem_cons.mp h with z | z
      · exact absurd z.symm e
      · exact wipe_at z hl
theorem wipe_set {σ : St} {x : Option V} : ∀ {vs : List Nat} {i : Nat}, i ∈ vs → L2.wipe (σ.set i x) vs = L2.wipe σ vs := by
  intro vs i h
  apply List.ext_getElem?
  intro j
  by_cases hj : j ∈ vs
  · by_cases hl : j < σ.length
    · rw [wipe_at hj (by rw [List.length_set]; exact hl), wipe_at hj hl]
    · rw [List.getElem?_eq_none (by rw [wipe_length, List.length_set]; omega), List.getElem?_eq_none (by rw [wipe_length]; omega)]
  · rw [wipe_out hj, wipe_out hj, List.getElem?_set_ne (fun e => by subst e; exact hj h)]
theorem showE_len {env e : Env} : ∀ {vs : List Nat}, (showE env e vs).length = e.length
  | [] => rfl
  | v :: vs => by unfold showE; split <;> simp [showE_len]
/-- what is hidden is kept, and shown again -/
theorem Slots.hide {σ : St} {env : Env} : ∀ (vs : List Nat) {F : List Addr}, Slots K mg B H F σ env → ∃ Fh Fv, Slots K mg B H Fv (L2.wipe σ vs) (wipeE env vs) ∧ F.Perm (Fh ++ Fv) ∧
    ∀ B' H' F2 e, Same B B' → (∀ a ∈ Fh, (∀ u, H a = some u → H' a = some u) ∧ B' a = none) → Slots K mg B' H' F2 (L2.wipe σ vs) e → (∀ v ∈ vs, v < e.length → e[v]? = some .un) → e.length = env.length →
      ∃ F', Slots K mg B' H' F' σ (showE env e vs) ∧ F'.Perm (Fh ++ F2) := by
  -- one after another, the later ones first; on the way the slots hidden last are put back first
  intro vs
  induction vs with
  | nil => intro F x; exact ⟨[], F, x, List.Perm.refl _, fun B' H' F2 e _ _ y _ _ => ⟨F2, y, List.Perm.refl _⟩⟩
  | cons v vs ih =>
    intro F x
    obtain ⟨Fh, Fv, h1, h2, h3⟩ := ih x
    have hl := x.len
    by_cases hv : v < env.length
    · by_cases hu : (wipeE env vs)[v]? = some .un
      · -- nothing stood there
        have e1 : (wipeE env vs).set v .un = wipeE env vs := by
          apply List.ext_getElem?
          intro j
          by_cases e : v = j
          · subst e; rw [List.getElem?_set_self (by rw [wipeE_len]; exact hv), hu]
          · rw [List.getElem?_set_ne e]
        refine ⟨Fh, Fv, ?_, h2, fun B' H' F2 e sb k y eu el => ?_⟩
        · show Slots K mg B H Fv ((L2.wipe σ vs).set v none) ((wipeE env vs).set v .un)
          rw [e1]; exact h1.any hu none
        · have eu' : e[v]? = some .un := eu v List.mem_cons_self (by omega)
          have y' : Slots K mg B' H' F2 (L2.wipe σ vs) e := by
            have z := y.any eu' ((L2.wipe σ vs)[v]'(by rw [wipe_length]; omega))
            have ee : ((L2.wipe σ (v :: vs)).set v ((L2.wipe σ vs)[v]'(by rw [wipe_length]; omega))) = L2.wipe σ vs := by
              show (((L2.wipe σ vs).set v none).set v _) = _
              rw [List.set_set]
              apply List.ext_getElem?
              intro j
              by_cases e : v = j
              · subst e; rw [List.getElem?_set_self (by rw [wipe_length]; omega)]; simp [List.getElem?_eq_getElem, wipe_length, show v < σ.length by omega]
              · rw [List.getElem?_set_ne e]
            rw [ee] at z; exact z
          obtain ⟨F', c1, c2⟩ := h3 B' H' F2 e sb k y' (fun w m hw => eu w (List.mem_cons_of_mem _ m) hw) el
          refine ⟨F', ?_, c2⟩
          unfold showE
          cases e0 : env[v]? with
          | none => exact c1
          | some o =>
            -- o is what stands there anyhow
            have : (showE env e vs)[v]? = some o := by
              by_cases m : v ∈ vs
              · clear c1 c2 eu' y' y eu h3 h1 h2 e1 hu ih
                induction vs with
                | nil => cases m
                | cons w vs ih2 =>
                  unfold showE
                  by_cases ew : w = v
                  · subst ew; rw [e0]; dsimp only; rw [List.getElem?_set_self (by rw [showE_len]; omega)]
                  · have m' := (List.mem_cons.mp m).resolve_left (fun z => ew z.symm)
                    split
                    · rw [List.getElem?_set_ne ew]; exact ih2 m'
                    · exact ih2 m'
              · rw [wipeE_out m, e0] at hu
                cases hu
                clear c1 c2 y' y h3 h1 h2 e1 ih
                have key : ∀ vs : List Nat, v ∉ vs → (showE env e vs)[v]? = e[v]? := by
                  intro vs
                  induction vs with
                  | nil => intro _; rfl
                  | cons w vs ih2 =>
                    intro m
                    unfold showE
                    have ew : w ≠ v := fun z => m (by rw [z]; exact List.mem_cons_self)
                    split
                    · rw [List.getElem?_set_ne ew]; exact ih2 fun z => m (List.mem_cons_of_mem _ z)
                    · exact ih2 fun z => m (List.mem_cons_of_mem _ z)
                rw [key vs m]; exact eu'
            have es : (showE env e vs).set v o = showE env e vs := by
              apply List.ext_getElem?
              intro j
              by_cases e : v = j
              · subst e; rw [List.getElem?_set_self (by rw [showE_len]; omega), this]
              · rw [List.getElem?_set_ne e]
            dsimp only
            rw [es]; exact c1
      · -- something stood there
        have m : v ∉ vs := fun m => hu (wipeE_at m hv)
        obtain ⟨o, e0⟩ : ∃ o, (wipeE env vs)[v]? = some o := ⟨_, List.getElem?_eq_getElem (by rw [wipeE_len]; exact hv)⟩
        have hne : o ≠ .un := fun z => hu (by rw [e0, z])
        obtain ⟨w, Fi, Fr, b1, b2, b3, b4⟩ := h1.take e0 hne
        have b3' : Slots K mg B H Fr (L2.wipe σ (v :: vs)) (wipeE env (v :: vs)) := b3.any (by rw [List.getElem?_set_self]; rw [wipeE_len]; exact hv) none
        have e00 : env[v]? = some o := by rw [← wipeE_out m]; exact e0
        refine ⟨Fh ++ Fi, Fr, b3', ?_, fun B' H' F2 e sb k y eu el => ?_⟩
        · rw [List.append_assoc]; exact h2.trans (b4.append_left Fh)
        · have eu' : e[v]? = some .un := eu v List.mem_cons_self (by omega)
          have y' : Slots K mg B' H' F2 (L2.wipe σ vs) e := by
            have z := y.any eu' ((L2.wipe σ vs)[v]'(by rw [wipe_length]; omega))
            have ee : ((L2.wipe σ (v :: vs)).set v ((L2.wipe σ vs)[v]'(by rw [wipe_length]; omega))) = L2.wipe σ vs := by
              show (((L2.wipe σ vs).set v none).set v _) = _
              rw [List.set_set]
              apply List.ext_getElem?
              intro j
              by_cases e : v = j
              · subst e; rw [List.getElem?_set_self (by rw [wipe_length]; omega)]; simp [List.getElem?_eq_getElem, wipe_length, show v < σ.length by omega]
              · rw [List.getElem?_set_ne e]
            rw [ee] at z; exact z
          obtain ⟨F', c1, c2⟩ := h3 B' H' F2 e sb (fun a q => k a (List.mem_append_left _ q)) y' (fun w m hw => eu w (List.mem_cons_of_mem _ m) hw) el
          have ow : Own K mg B' H' Fi w o := b2.mono sb fun a q => k a (List.mem_append_right _ q)
          have hu2 : (showE env e vs)[v]? = some .un := by
            have key : ∀ vs : List Nat, v ∉ vs → (showE env e vs)[v]? = e[v]? := by
              intro vs
              induction vs with
              | nil => intro _; rfl
              | cons w vs ih2 =>
                intro m
                unfold showE
                have ew : w ≠ v := fun z => m (by rw [z]; exact List.mem_cons_self)
                split
                · rw [List.getElem?_set_ne ew]; exact ih2 fun z => m (List.mem_cons_of_mem _ z)
                · exact ih2 fun z => m (List.mem_cons_of_mem _ z)
            rw [key vs m]; exact eu'
          rw [wipe_out m] at b1
          obtain ⟨F3, d1, d2⟩ := c1.put hu2 b1 ow
          refine ⟨F3, ?_, ?_⟩
          · unfold showE; rw [e00]; exact d1
          · refine d2.trans ((c2.append_left Fi).trans ?_)
            rw [← List.append_assoc]
            exact (List.perm_append_comm).append_right F2
    · -- beyond
      have e1 : (wipeE env vs).set v .un = wipeE env vs := List.set_eq_of_length_le (by rw [wipeE_len]; omega)
      have e2 : (L2.wipe σ vs).set v none = L2.wipe σ vs := List.set_eq_of_length_le (by rw [wipe_length]; omega)
      refine ⟨Fh, Fv, ?_, h2, fun B' H' F2 e sb k y eu el => ?_⟩
      · show Slots K mg B H Fv ((L2.wipe σ vs).set v none) ((wipeE env vs).set v .un)
        rw [e1, e2]; exact h1
      · have y' : Slots K mg B' H' F2 (L2.wipe σ vs) e := by
          have : L2.wipe σ (v :: vs) = L2.wipe σ vs := e2
          rw [this] at y; exact y
        obtain ⟨F', c1, c2⟩ := h3 B' H' F2 e sb k y' (fun w m hw => eu w (List.mem_cons_of_mem _ m) hw) el
        refine ⟨F', ?_, c2⟩
        unfold showE
        rw [List.getElem?_eq_none (by omega)]
        exact c1
end

/-! ### a comprehension's targets -/
def PCt (X : Cx) (todo : List Nat) (tg : Expr) (g : D → Env → Option Env) : Prop := ∃ t, PG X tg t ∧ ∀ B H F σ env v d (Q : St → Hp → Prop) (vs : List Nat), Slots X.K X.mg B H F σ env → Same B H → (∀ i ∈ todo, env[i]? = some .un) → (∀ i ∈ todo, i ∈ vs) → Rep X.K B v d →
  (match g d env with
   | some env' => ∀ σ', Slots X.K X.mg B H F σ' env' → L2.wipe σ' vs = L2.wipe σ vs → wipeE env' vs = wipeE env vs → env'.length = env.length → (∀ j, j ∉ todo → env'[j]? = env[j]?) → Q σ' H
   | none => False) → t v σ H Q
def PCts (X : Cx) (todo : List Nat) (tgs : List Expr) (g : List D → Env → Option Env) : Prop := ∃ t, PGs X tgs t ∧ ∀ B H F σ env vs ds (Q : St → Hp → Prop) (ws : List Nat), Slots X.K X.mg B H F σ env → Same B H → (∀ i ∈ todo, env[i]? = some .un) → (∀ i ∈ todo, i ∈ ws) → RepL X.K B vs ds →
  (match g ds env with
   | some env' => ∀ σ', Slots X.K X.mg B H F σ' env' → L2.wipe σ' ws = L2.wipe σ ws → wipeE env' ws = wipeE env ws → env'.length = env.length → (∀ j, j ∉ todo → env'[j]? = env[j]?) → Q σ' H
   | none => False) → t vs σ H Q
def cSet (i : Nat) : D → Env → Option Env := fun d env => some (env.set i (.fz d))
def csNil : List D → Env → Option Env := fun ds env => match ds with
  | [] => some env
  | _ :: _ => none
def csCons (g : D → Env → Option Env) (gs : List D → Env → Option Env) : List D → Env → Option Env := fun ds env => match ds with
  | [] => none
  | d :: r => match g d env with
    | some e => gs r e
    | none => none
def cTup (n : Nat) (gs : List D → Env → Option Env) : D → Env → Option Env := fun d env => match d with
  | .tup ds => if ds.length = n then gs ds env else none
  | _ => none
section
variable {X : Cx} {pos : Pos}
theorem ct_name (i : Nat) {x : Str} (hN : X.N.Nodup) (hi : X.N[i]? = some x := by rfl) (hx : Loc X.env.scope x := by first | exact Or.inl rfl | exact Or.inr rfl)
    (hf : X.fn x = true ∨ X.env.scope.names.lookup x = some .local := by first | exact .inl rfl | exact .inr rfl) : PCt X [i] (.Name x pos) (cSet i) := by
  refine ⟨_, pg_name hN hi hx hf, fun B H F σ env v d Q vs sl s hu hv r q => ?_⟩
  have e := hu i List.mem_cons_self
  exact q _ (sl.fill e r) (wipe_set (hv i List.mem_cons_self)) (wipeE_set (hv i List.mem_cons_self)) (by rw [List.length_set]) fun j hj => by rw [List.getElem?_set_ne (fun z => hj (by rw [z]; exact List.mem_cons_self))]
theorem cts_nil : PCts X [] [] csNil := by
  refine ⟨_, pgs_nil, fun B H F σ env vs ds Q ws sl s hu hv r q => ?_⟩
  cases r with
  | nil => exact ⟨rfl, q σ sl rfl rfl rfl fun _ _ => rfl⟩
  | cons _ _ => exact q.elim
theorem cts_cons {t1 t2 : List Nat} {tg : Expr} {tgs : List Expr} {g : D → Env → Option Env} {gs : List D → Env → Option Env} (h : PCt X t1 tg g) (k : PCts X t2 tgs gs) (dj : (t2.all fun j => !t1.contains j) = true := by rfl)
    (h2 : (assignEach (tg :: tgs) X.env).map (·.2) = assign tg X.env :: (assignEach tgs X.env).map (·.2) := by rfl) : PCts X (t1 ++ t2) (tg :: tgs) (csCons g gs) := by
  obtain ⟨t, h1, h3⟩ := h
  obtain ⟨u, k1, k3⟩ := k
  refine ⟨_, pgs_cons h1 k1 h2, fun B H F σ env vs ds Q ws sl s hu hv r q => ?_⟩
  cases r with
  | nil => exact q.elim
  | @cons v vs d ds r1 r2 =>
    refine ⟨v, vs, rfl, h3 B H F σ env v d _ ws sl s (fun i m => hu i (List.mem_append_left _ m)) (fun i m => hv i (List.mem_append_left _ m)) r1 ?_⟩
    dsimp only [csCons] at q
    cases e : g d env with
    | none => rw [e] at q; exact q
    | some e1 =>
      rw [e] at q
      intro σ1 sl1 w1 w2 l1 o1
      refine k3 B H F σ1 e1 vs ds Q ws sl1 s (fun i m => ?_) (fun i m => hv i (List.mem_append_right _ m)) r2 ?_
      · rw [o1 i (fun z => ?_)]
        · exact hu i (List.mem_append_right _ m)
        · have := List.all_eq_true.mp dj i m
          simp [z] at this
      · dsimp only at q
        cases e2 : gs ds e1 with
        | none => rw [e2] at q; exact q
        | some e' =>
          rw [e2] at q
          exact fun σ2 sl2 w3 w4 l2 o2 => q σ2 sl2 (w3.trans w1) (w4.trans w2) (l2.trans l1) fun j hj => (o2 j fun z => hj (List.mem_append_right _ z)).trans (o1 j fun z => hj (List.mem_append_left _ z))
theorem ct_tup {todo : List Nat} {es : List Expr} {k n : Nat} {gs : List D → Env → Option Env} (hc : X.calm = true) (h : PCts X todo es gs) (hn : (assignEach es X.env).length = n := by rfl) (hst : (assignEach es X.env).findIdx? (·.1) = none := by rfl) : PCt X todo (.Tuple es k pos) (cTup n gs) := by
  obtain ⟨t, h1, h3⟩ := h
  refine ⟨_, pg_tup hc h1 hn hst, fun B H F σ env v d Q vs sl s hu hv r q => ?_⟩
  dsimp only [cTup] at q
  cases r with
  | @tup p us ds k1 k2 =>
    dsimp only at q
    by_cases hl : ds.length = n
    · rw [if_pos hl] at q
      exact ⟨p, us, rfl, Same.seqT s k1, k2.length.trans hl, h3 B H F σ env us ds Q vs sl s hu hv k2 q⟩
    · rw [if_neg hl] at q; exact q.elim
  | _ => exact q.elim
end
end Tl
namespace Tl
open PySem PySem.Spec L2

/-! ### comprehensions -/
def PTsr (X : Cx) (W : WX) (ifs : List Expr) (f : Env → O Bool) : Prop := ∃ t, PTs X ifs t ∧ EOk X W boR t f
def W0 : WX := fun _ _ _ _ => False
def bYes : Env → O Bool := fun _ => .ok true
def lcElt (fe : Env → O RV) (vs : List Nat) (e0 e : Env) (t b : Bool) : Option (Option OD × Env × Bool) :=
  if b = true then match fe e with
    | .ok (.own o) => some (some o, if t = true then wipeE e vs else e0, t)
    | .eff (.own o) e5 => some (some o, wipeE e5 vs, true)
    | _ => none
  else some (none, if t = true then wipeE e vs else e0, t)
/-- one turn: the item, if there is one; the frame's data; whether they were changed -/
def lcStep (g : D → Env → Option Env) (tt : Env → O Bool) (fe : Env → O RV) (vs : List Nat) (d : D) (e : Env) : Option (Option OD × Env × Bool) :=
  match g d e with
  | none => none
  | some e1 => match tt e1 with
    | .ok b => lcElt fe vs e e1 false b
    | .eff b e2 => lcElt fe vs e e2 true b
    | _ => none
def lcGo (g : D → Env → Option Env) (tt : Env → O Bool) (fe : Env → O RV) (vs : List Nat) : List D → List OD → Env → Bool → Option (List OD × Env × Bool)
  | [], acc, e, t => some (acc, e, t)
  | d :: ds, acc, e, t => match lcStep g tt fe vs d e with
    | none => none
    | some (none, e2, t2) => lcGo g tt fe vs ds acc e2 (t || t2)
    | some (some o, e2, t2) => if acc.length < 10000000 then lcGo g tt fe vs ds (acc ++ [o]) e2 (t || t2) else none
def lcFin (env : Env) (t0 : Bool) (vs : List Nat) : Option (List OD × Env × Bool) → O RV
  | none => .bad
  | some (acc, e, t) => if (t || t0) = true then .eff (.own (.lst acc)) (showE env e vs) else .ok (.own (.lst acc))
def eLc (f : Env → O (List D)) (g : D → Env → Option Env) (tt : Env → O Bool) (fe : Env → O RV) (vs : List Nat) : Env → O RV := fun env =>
  if vs.all (fun i => decide (i < env.length)) = true then match f env with
  | .ok ds => lcFin env false vs (lcGo g tt fe vs ds [] (wipeE env vs) false)
  | .eff ds e => lcFin e true vs (lcGo g tt fe vs ds [] (wipeE e vs) false)
  | .exc c e => .exc c e
  | .bad => .bad
  else .bad
section
variable {X : Cx} {W : WX} {io : List Nat} {elt tg iter : Expr} {ifs : List Expr} {pos : Pos}
theorem ts_nil : PTsr X W [] bYes := ⟨_, pts_nil, fun B H F σ env Q S q => q true B H [] ⟨rfl, rfl⟩ S.sub List.nodup_nil Frm.none⟩
theorem ts_one {c : Expr} {f : Env → O Bool} (h : PTr X W c f) : PTsr X W [c] f := by
  obtain ⟨t, h, k⟩ := h
  exact ⟨_, pts_one h, k⟩
/-- the turn's work on the new list: what is wanted of where it ends -/
structure LcI (X : Cx) (B1 H1 : Hp) (Fv : List Addr) (σw : St) (env0 : Env) (vs : List Nat) (D : Addr) (H2 : Hp) (e2 : Env) (acc : List OD) (t : Bool) (B2 : Hp) (F2 Fa : List Addr) (us : List V) : Prop where
  sta : Sta X.K X.mg B2 H2 F2 σw e2
  un : ∀ v ∈ vs, v < e2.length → e2[v]? = some .un
  len : e2.length = env0.length
  at' : H2 D = some (.lst us)
  bD : B2 D = none
  own : OwnL X.K X.mg B2 H2 Fa us acc
  nd : (D :: Fa ++ F2).Nodup
  frm : Frm B1 H1 Fv B2 H2 (D :: Fa ++ F2)
  pure : t = false → e2 = wipeE env0 vs ∧ F2 = Fv ∧ Frm B1 H1 [] B2 H2 (D :: Fa)
theorem lc_turn {tb : TG} {tt' : TT} {te : TE} {g : D → Env → Option Env} {tt : Env → O Bool} {fe : Env → O RV} {todo vs : List Nat}
    (kg : ∀ B H F σ env v d (Q : St → Hp → Prop) (vs : List Nat), Slots X.K X.mg B H F σ env → Same B H → (∀ i ∈ todo, env[i]? = some .un) → (∀ i ∈ todo, i ∈ vs) → Rep X.K B v d →
      (match g d env with
       | some env' => ∀ σ', Slots X.K X.mg B H F σ' env' → L2.wipe σ' vs = L2.wipe σ vs → wipeE env' vs = wipeE env vs → env'.length = env.length → (∀ j, j ∉ todo → env'[j]? = env[j]?) → Q σ' H
       | none => False) → tb v σ H Q)
    (kt : EOk X W0 boR tt' tt) (ke : EOk X W0 (rvR X.K X.mg) te fe) (htv : ∀ i ∈ todo, i ∈ vs) {B1 H1 : Hp} {Fv : List Addr} {σ : St} {env0 : Env} (hvl : ∀ i ∈ todo, i < env0.length)
    {D : Addr} {H2 : Hp} {e2 : Env} {acc : List OD} {t : Bool} {B2 : Hp} {F2 Fa : List Addr} {us : List V} (L : LcI X B1 H1 Fv (L2.wipe σ vs) env0 vs D H2 e2 acc t B2 F2 Fa us) {x : V} {d : Tl.D} (r : Rep X.K B2 x d) {Nx : Hp → Prop}
    {o : Option OD} {e3 : Env} {t3 : Bool} (es : lcStep g tt fe vs d e2 = some (o, e3, t3)) (ha : o ≠ none → acc.length < 10000000)
    (q : ∀ H3 B3 F3 Fa3 us3, LcI X B1 H1 Fv (L2.wipe σ vs) env0 vs D H3 e3 (match o with | some o => acc ++ [o] | none => acc) (t || t3) B3 F3 Fa3 us3 → Nx H3) :
    tb x (L2.wipe σ vs) H2 fun σ2 H2 => L2.wipe σ2 vs = L2.wipe σ vs ∧ tt' σ2 H2 fun b H3 => if b = true then te σ2 H3 fun y H4 => ∃ acc, H4 D = some (.lst acc) ∧ acc.length < sizeLine ∧ Nx (upd H4 D (.lst (acc ++ [y]))) else Nx H3 := by
  have S2 := L.sta
  refine kg B2 H2 F2 (L2.wipe σ vs) e2 x d _ vs S2.sl S2.sub (fun i m => L.un i (htv i m) (by rw [L.len]; exact hvl i m)) htv r ?_
  unfold lcStep at es
  cases e0 : g d e2 with
  | none => rw [e0] at es; cases es
  | some e4 =>
    rw [e0] at es
    intro σ4 sl4 w1 w2 l1 _
    have ww : L2.wipe σ4 vs = L2.wipe σ vs := by
      rw [w1]
      -- wiped twice
      apply List.ext_getElem?
      intro j
      by_cases hj : j ∈ vs
      · by_cases hl : j < σ.length
        · rw [wipe_at hj (by rw [wipe_length]; exact hl), wipe_at hj hl]
        · rw [List.getElem?_eq_none (by rw [wipe_length, wipe_length]; omega), List.getElem?_eq_none (by rw [wipe_length]; omega)]
      · rw [wipe_out hj]
    refine ⟨ww, ?_⟩
    have S4 : Sta X.K X.mg B2 H2 F2 σ4 e4 := ⟨S2.sub, sl4, S2.nd⟩
    have nd := List.nodup_append.mp L.nd
    have ndD := List.nodup_cons.mp nd.1
    have frn : ∀ c ∈ D :: Fa, c ∉ F2 := fun c m z => nd.2.2 c m c z rfl
    have thr : ∀ c ∈ D :: Fa, B2 c = none ∧ ∃ u, H2 c = some u := fun c m => by
      rcases List.mem_cons.mp m with z | z
      · subst z; exact ⟨L.bD, _, L.at'⟩
      · exact L.own.there c z
    -- from a later state of the block, nothing made yet
    have fin0 : ∀ {B5 H5 : Hp} {F5 : List Addr} {e5 e6 : Env} {t5 : Bool}, Sta X.K X.mg B5 H5 F5 σ4 e5 → Frm B2 H2 F2 B5 H5 F5 → e5.length = e4.length → (e6 = if t5 = true then wipeE e5 vs else e2) → (t5 = false → Frm B2 H2 [] B5 H5 []) →
        ∃ F6, LcI X B1 H1 Fv (L2.wipe σ vs) env0 vs D H5 e6 acc (t || t5) B5 F6 Fa us := by
      intro B5 H5 F5 e5 e6 t5 S5 f5 le he pu
      have own5 := f5.ownL L.own fun c m => frn c (List.mem_cons_of_mem _ m)
      have at5 := f5.keep D _ L.at' (frn D List.mem_cons_self)
      have bD5 := f5.forg D _ L.at' (frn D List.mem_cons_self) L.bD
      have f5' : Frm B2 H2 (D :: Fa ++ F2) B5 H5 (D :: Fa ++ F5) := f5.wide (fun c m => List.mem_append_right _ m) fun c m => (List.mem_append.mp m).elim (fun z => .inr (List.mem_append_left _ z)) .inl
      have dj5 : ∀ c ∈ D :: Fa, c ∉ F5 := fun c m z => by
        rcases f5.fr c z with y | y
        · exact frn c m y
        · obtain ⟨_, u, e⟩ := thr c m
          rw [e] at y; cases y
      cases t5 with
      | true =>
        rw [if_pos rfl] at he
        obtain ⟨F6, c1, c2⟩ := S5.sl.wipe vs
        rw [ww] at c1
        subst he
        have n6 := S5.nd.sublist c2
        refine ⟨F6, ⟨S5.sub, c1, n6⟩, fun v m hl => wipeE_at m (by rw [wipeE_len] at hl; exact hl), by rw [wipeE_len, le, l1, L.len], at5, bD5, own5, List.nodup_append.mpr ⟨nd.1, n6, fun a ha b hb e => by subst e; exact dj5 a ha (c2.subset hb)⟩, ?_, fun z => by rw [Bool.or_true] at z; cases z⟩
        exact L.frm.trans (f5'.wide (F2 := D :: Fa ++ F6) (fun _ m => m) fun c m => .inl ((List.mem_append.mp m).elim (List.mem_append_left _) fun z => List.mem_append_right _ (c2.subset z)))
      | false =>
        have fp := pu rfl
        rw [if_neg Bool.false_ne_true] at he
        subst he
        have sl2 := fp.slots S2.sl fun _ _ z => nomatch z
        refine ⟨F2, ⟨S5.sub, sl2, S2.nd⟩, L.un, L.len, at5, bD5, own5, L.nd, ?_, fun z => ?_⟩
        · exact L.frm.trans (fp.wide (F2 := D :: Fa ++ F2) (fun _ z => nomatch z) fun c m => .inr m)
        · rw [Bool.or_false] at z
          obtain ⟨p1, p2, p3⟩ := L.pure z
          exact ⟨p1, p2, p3.trans (fp.wide (F2 := D :: Fa) (fun _ z => nomatch z) fun c m => .inr m)⟩
    -- an item made
    have fin1 : ∀ {B5 H5 : Hp} {F5 Fr : List Addr} {e5 e6 : Env} {t5 : Bool} {y : V} {oo : OD}, Slots X.K X.mg B5 H5 F5 σ4 e5 → Same B5 H5 → (Fr ++ F5).Nodup → Own X.K X.mg B5 H5 Fr y oo → Frm B2 H2 F2 B5 H5 (Fr ++ F5) → e5.length = e4.length → (e6 = if t5 = true then wipeE e5 vs else e2) → (t5 = false → Frm B2 H2 [] B5 H5 Fr) → acc.length < 10000000 →
        (∀ H3 B3 F3 Fa3 us3, LcI X B1 H1 Fv (L2.wipe σ vs) env0 vs D H3 e6 (acc ++ [oo]) (t || t5) B3 F3 Fa3 us3 → Nx H3) → ∃ acc, H5 D = some (.lst acc) ∧ acc.length < sizeLine ∧ Nx (upd H5 D (.lst (acc ++ [y]))) := by
      intro B5 H5 F5 Fr e5 e6 t5 y oo sl5 s5 n5 ro f5 le he pu ha q
      have n5' := List.nodup_append.mp n5
      have own5 := f5.ownL L.own fun c m => frn c (List.mem_cons_of_mem _ m)
      have at5 := f5.keep D _ L.at' (frn D List.mem_cons_self)
      have bD5 := f5.forg D _ L.at' (frn D List.mem_cons_self) L.bD
      have djr : ∀ c ∈ D :: Fa, c ∉ Fr ++ F5 := fun c m z => by
        rcases f5.fr c z with y | y
        · exact frn c m y
        · obtain ⟨_, u, e⟩ := thr c m
          rw [e] at y; cases y
      have nDr : D ∉ Fr := fun z => djr D List.mem_cons_self (List.mem_append_left _ z)
      have nDF5 : D ∉ F5 := fun z => djr D List.mem_cons_self (List.mem_append_right _ z)
      have sl5' : ∀ {F6 : List Addr} {σ6 : St} {e7 : Env}, Slots X.K X.mg B5 H5 F6 σ6 e7 → D ∉ F6 → Slots X.K X.mg B5 (upd H5 D (.lst (us ++ [y]))) F6 σ6 e7 := fun {F6 σ6 e7} x n => x.mono (Same.refl _) fun a m => ⟨fun u e => by rw [upd_ne (fun z => by subst z; exact n m)]; exact e, (x.there a m).1⟩
      have acc5 : OwnL X.K X.mg B5 (upd H5 D (.lst (us ++ [y]))) (Fa ++ Fr) (us ++ [y]) (acc ++ [oo]) := by
        have z := own5.append (.cons ro .nil)
        rw [List.append_nil] at z
        exact ownL_upd z fun m => (List.mem_append.mp m).elim ndD.1 nDr
      have ndA : (D :: (Fa ++ Fr)).Nodup := List.nodup_cons.mpr ⟨fun m => (List.mem_append.mp m).elim ndD.1 nDr, List.nodup_append.mpr ⟨ndD.2, n5'.1, fun a ha b hb e => by subst e; exact djr a (List.mem_cons_of_mem _ ha) (List.mem_append_left _ hb)⟩⟩
      have fU : ∀ {G : List Addr}, Frm B5 H5 (D :: G) B5 (upd H5 D (.lst (us ++ [y]))) (D :: G) := fun {G} => ⟨Same.refl _, fun a u e n => by rw [upd_ne (fun z => by subst z; exact n List.mem_cons_self)]; exact e, fun _ _ _ _ b => b, fun a m => .inl m⟩
      refine ⟨us, at5, by rw [own5.length]; exact Nat.lt_trans ha (by decide), ?_⟩
      cases t5 with
      | true =>
        rw [if_pos rfl] at he
        obtain ⟨F6, c1, c2⟩ := sl5.wipe vs
        rw [ww] at c1
        subst he
        have n6 := n5'.2.1.sublist c2
        refine q _ B5 F6 (Fa ++ Fr) (us ++ [y]) ⟨⟨same_upd s5 bD5, sl5' c1 (fun z => nDF5 (c2.subset z)), n6⟩, fun v m hl => wipeE_at m (by rw [wipeE_len] at hl; exact hl), by rw [wipeE_len, le, l1, L.len], upd_same, bD5, acc5, ?_, ?_, fun z => by rw [Bool.or_true] at z; cases z⟩
        · refine List.nodup_append.mpr ⟨ndA, n6, fun a ha b hb e => ?_⟩
          subst e
          rcases List.mem_cons.mp ha with z | z
          · subst z; exact nDF5 (c2.subset hb)
          · rcases List.mem_append.mp z with z | z
            · exact djr a (List.mem_cons_of_mem _ z) (List.mem_append_right _ (c2.subset hb))
            · exact n5'.2.2 a z a (c2.subset hb) rfl
        · have f6 : Frm B2 H2 (D :: Fa ++ F2) B5 H5 (D :: (Fa ++ Fr ++ F6)) := f5.wide (fun c m => List.mem_append_right _ m) fun c m => by
            rcases List.mem_cons.mp m with z | z
            · subst z; exact .inr (List.mem_append_left _ List.mem_cons_self)
            · rcases List.mem_append.mp z with z | z
              · rcases List.mem_append.mp z with z | z
                · exact .inr (List.mem_append_left _ (List.mem_cons_of_mem _ z))
                · exact .inl (List.mem_append_left _ z)
              · exact .inl (List.mem_append_right _ (c2.subset z))
          exact L.frm.trans (f6.trans fU)
      | false =>
        have fp := pu rfl
        rw [if_neg Bool.false_ne_true] at he
        subst he
        have sl2 := fp.slots S2.sl fun _ _ z => nomatch z
        have nD2 : D ∉ F2 := frn D List.mem_cons_self
        have f6 : Frm B2 H2 (D :: Fa) B5 H5 (D :: (Fa ++ Fr)) := fp.wide (fun _ z => nomatch z) fun c m => by
            rcases List.mem_cons.mp m with z | z
            · subst z; exact .inr List.mem_cons_self
            · rcases List.mem_append.mp z with z | z
              · exact .inr (List.mem_cons_of_mem _ z)
              · exact .inl z
        refine q _ B5 F2 (Fa ++ Fr) (us ++ [y]) ⟨⟨same_upd s5 bD5, sl5' sl2 nD2, S2.nd⟩, L.un, L.len, upd_same, bD5, acc5, ?_, ?_, fun z => ?_⟩
        · refine List.nodup_append.mpr ⟨ndA, S2.nd, fun a ha b hb e => ?_⟩
          subst e
          rcases List.mem_cons.mp ha with z | z
          · subst z; exact nD2 hb
          · rcases List.mem_append.mp z with z | z
            · exact frn a (List.mem_cons_of_mem _ z) hb
            · obtain ⟨_, u, e⟩ := S2.sl.there a hb
              rcases fp.fr a z with y | y
              · cases y
              · rw [e] at y; cases y
        · have z := (f6.trans fU).wide (G := D :: Fa ++ F2) (F2 := D :: (Fa ++ Fr) ++ F2) (fun c m => List.mem_append_left _ m) fun c m => (List.mem_append.mp m).imp id fun z => List.mem_append_right _ z
          exact L.frm.trans z
        · rw [Bool.or_false] at z
          obtain ⟨p1, p2, p3⟩ := L.pure z
          exact ⟨p1, p2, p3.trans (f6.trans fU)⟩
    -- the tests, then the item
    have elt : ∀ {b : Bool} {B5 H5 : Hp} {F5 : List Addr} {e5 : Env} {t5 : Bool}, Sta X.K X.mg B5 H5 F5 σ4 e5 → Frm B2 H2 F2 B5 H5 F5 → e5.length = e4.length → (t5 = false → e5 = e4 ∧ F5 = F2 ∧ Frm B2 H2 [] B5 H5 []) → lcElt fe vs e2 e5 t5 b = some (o, e3, t3) →
        if b = true then te σ4 H5 fun y H4 => ∃ acc, H4 D = some (.lst acc) ∧ acc.length < sizeLine ∧ Nx (upd H4 D (.lst (acc ++ [y]))) else Nx H5 := by
      intro b B5 H5 F5 e5 t5 S5 f5 le pu el
      unfold lcElt at el
      cases b with
      | false =>
        rw [if_neg Bool.false_ne_true] at el ⊢
        cases el
        obtain ⟨F6, LL⟩ := fin0 S5 f5 le rfl fun z => (pu z).2.2
        exact q H5 B5 F6 Fa us LL
      | true =>
        rw [if_pos rfl] at el ⊢
        refine ke B5 H5 F5 σ4 e5 _ S5 ?_
        cases e8 : fe e5 with
        | bad => rw [e8] at el; cases el
        | exc c e => rw [e8] at el; cases el
        | ok r1 =>
          rw [e8] at el
          cases r1 with
          | view _ => cases el
          | own oo =>
            cases el
            intro y B6 H6 Fr ro s6 n6 f6
            have sl6 := f6.slots S5.sl fun _ _ z => nomatch z
            refine fin1 (e5 := e5) (t5 := t3) sl6 s6 (nodup_new (fun a m => (S5.sl.there a m).2) S5.nd n6 f6) ro (f5.trans f6.wide0) le rfl (fun z => ?_) (ha (by simp)) (fun H3 B3 F3 Fa3 us3 LL => q H3 B3 F3 Fa3 us3 LL)
            exact ((pu z).2.2).trans f6
        | eff r1 e9 =>
          rw [e8] at el
          cases r1 with
          | view _ => cases el
          | own oo =>
            cases el
            intro y B6 H6 Fr F6 ro sl6 s6 n6 f6
            have le9 : e9.length = e4.length := by rw [← sl6.len, S5.sl.len, le]
            exact fin1 (e5 := e9) (t5 := true) sl6 s6 n6 ro (f5.trans f6) le9 rfl (fun z => nomatch z) (ha (by simp)) fun H3 B3 F3 Fa3 us3 LL => q H3 B3 F3 Fa3 us3 LL
    refine kt B2 H2 F2 σ4 e4 _ S4 ?_
    dsimp only at es
    cases e5 : tt e4 with
    | bad => rw [e5] at es; cases es
    | exc c e => rw [e5] at es; cases es
    | ok b =>
      rw [e5] at es
      intro b' B5 H5 G5 rb s5 n5 f5
      obtain ⟨rfl, rfl⟩ := rb
      exact elt (S4.pure s5 f5) (f5.wide (fun _ z => nomatch z) fun c m => .inr m) rfl (fun _ => ⟨rfl, rfl, f5⟩) es
    | eff b e6 =>
      rw [e5] at es
      intro b' B5 H5 G5 F5 rb l5 s5 n5 f5
      obtain ⟨rfl, rfl⟩ := rb
      exact elt (t5 := true) ⟨s5, l5, n5⟩ f5 (by rw [← l5.len, sl4.len]) (fun z => nomatch z) es
theorem EOk.lc {wi : TI} {tb : TG} {tt' : TT} {te : TE} {f : Env → O (List D)} {g : D → Env → Option Env} {tt : Env → O Bool} {fe : Env → O RV} {todo vs : List Nat} (htv : ∀ i ∈ todo, i ∈ vs)
    (ki : EOk X W (itR X.K) wi f)
    (kg : ∀ B H F σ env v d (Q : St → Hp → Prop) (vs : List Nat), Slots X.K X.mg B H F σ env → Same B H → (∀ i ∈ todo, env[i]? = some .un) → (∀ i ∈ todo, i ∈ vs) → Rep X.K B v d →
      (match g d env with
       | some env' => ∀ σ', Slots X.K X.mg B H F σ' env' → L2.wipe σ' vs = L2.wipe σ vs → wipeE env' vs = wipeE env vs → env'.length = env.length → (∀ j, j ∉ todo → env'[j]? = env[j]?) → Q σ' H
       | none => False) → tb v σ H Q)
    (kt : EOk X W0 boR tt' tt) (ke : EOk X W0 (rvR X.K X.mg) te fe) : EOk X W (rvR X.K X.mg) (tLc wi tb tt' te vs) (eLc f g tt fe vs) := by
  intro B H F σ env Q S q
  refine ki B H F σ env _ S ?_
  dsimp only [eLc] at q
  split at q
  case isFalse => exact q.elim
  rename_i hall
  have hlen : ∀ i ∈ todo, i < env.length := fun i m => by
    have := List.all_eq_true.mp hall i (htv i m)
    simpa using this
  have core : ∀ {J : It} {B1 H1 : Hp} {F1 : List Addr} {env1 : Env} {ds : List Tl.D} {t0 : Bool}, Spec X.K B1 J ds → Sta X.K X.mg B1 H1 F1 σ env1 → Frm B H F B1 H1 F1 → (t0 = false → env1 = env ∧ F1 = F ∧ Frm B H [] B1 H1 []) → EPost X W (rvR X.K X.mg) B H F σ Q (lcFin env1 t0 vs (lcGo g tt fe vs ds [] (wipeE env1 vs) false)) →
      ∀ D, H1 D = none → ∃ W' : Nat → Nat → Hp → Prop, (∃ m, W' 0 m (upd H1 D (.lst []))) ∧ ∀ i m H, W' i m H →
        (J.stop i H ∧ Q (.ref D) H) ∨ (J.go i H ∧ ∃ Nx : Hp → Prop, (∀ H', Nx H' → ∃ m', m' < m ∧ W' (i + 1) m' H') ∧ ∀ x H', J.yld i H x H' → tb x (L2.wipe σ vs) H' fun σ2 H2 => L2.wipe σ2 vs = L2.wipe σ vs ∧ tt' σ2 H2 fun b H3 =>
          if b = true then te σ2 H3 fun y H4 => ∃ acc, H4 D = some (.lst acc) ∧ acc.length < sizeLine ∧ Nx (upd H4 D (.lst (acc ++ [y]))) else Nx H3) := by
    intro J B1 H1 F1 env1 ds t0 sp S1 f1 pu q D hD
    obtain ⟨Fh, Fv, sl1, pm, back⟩ := S1.sl.hide vs
    have ndp := List.nodup_append.mp (pm.nodup_iff.mp S1.nd)
    have hB : B1 D = none := S1.sub.free hD
    have inF : ∀ a, a ∈ Fh ∨ a ∈ Fv → a ∈ F1 := fun a m => pm.mem_iff.mpr (List.mem_append.mpr m)
    have nDv : D ∉ Fv := fun m => by
      obtain ⟨_, u, e⟩ := S1.sl.there D (inF D (.inr m))
      rw [hD] at e; cases e
    refine ⟨fun i m H => m = ds.length - i ∧ i ≤ ds.length ∧ ∃ e2 acc t B2 F2 Fa us, LcI X B1 H1 Fv (L2.wipe σ vs) env1 vs D H e2 acc t B2 F2 Fa us ∧ EPost X W (rvR X.K X.mg) B _ F σ Q (lcFin env1 t0 vs (lcGo g tt fe vs (ds.drop i) acc e2 t)),
      ⟨ds.length, by simp, Nat.zero_le _, wipeE env1 vs, [], false, B1, Fv, [], [], ⟨⟨same_upd S1.sub hB, sl1.mono (Same.refl _) fun a m => ⟨fun u e => by rw [upd_ne (fun z => by subst z; exact nDv m)]; exact e, (sl1.there a m).1⟩, ndp.2.1⟩, fun v m hl => wipeE_at m (by rw [wipeE_len] at hl; exact hl), wipeE_len, upd_same, hB, .nil, ?_, ?_, fun _ => ⟨rfl, rfl, ?_⟩⟩, by rw [List.drop_zero]; exact q⟩, ?_⟩
    · exact List.nodup_cons.mpr ⟨nDv, ndp.2.1⟩
    · refine ⟨Same.refl _, fun a u e _ => by rw [upd_ne (ne_of_none e hD)]; exact e, fun _ _ _ _ b => b, fun a m => ?_⟩
      rcases List.mem_cons.mp m with z | z
      · subst z; exact .inr hD
      · exact .inl z
    · refine ⟨Same.refl _, fun a u e _ => by rw [upd_ne (ne_of_none e hD)]; exact e, fun _ _ _ _ b => b, fun a m => ?_⟩
      have : a = D := by simpa using m
      subst this; exact .inr hD
    · rintro i m H2 ⟨rfl, hi, e2, acc, t, B2, F2, Fa, us, L, q2⟩
      have s12 : Same B1 B2 := L.frm.sB
      obtain ⟨sp1, sp2⟩ := sp B2 H2 s12 L.sta.sub
      by_cases hlt : i < ds.length
      · have e0 : ds[i]? = some ds[i] := by simp [hlt]
        obtain ⟨go, yl⟩ := sp1 i ds[i] e0
        refine .inr ⟨go, fun H => (ds.length - (i + 1)) = ds.length - (i + 1) ∧ i + 1 ≤ ds.length ∧ ∃ e2 acc t B2 F2 Fa us, LcI X B1 H1 Fv (L2.wipe σ vs) env1 vs D H e2 acc t B2 F2 Fa us ∧ EPost X W (rvR X.K X.mg) B _ F σ Q (lcFin env1 t0 vs (lcGo g tt fe vs (ds.drop (i + 1)) acc e2 t)), fun H' h => ⟨ds.length - (i + 1), by omega, h⟩, fun x H3 y => ?_⟩
        obtain ⟨B3, f3, s3, r3⟩ := yl x H3 y
        -- the state behind the item's coming
        have L3 : LcI X B1 H1 Fv (L2.wipe σ vs) env1 vs D H3 e2 acc t B3 F2 Fa us := by
          refine ⟨L.sta.pure s3 f3, L.un, L.len, f3.keep D _ L.at' (by simp), f3.forg D _ L.at' (by simp) L.bD, f3.ownL L.own (fun _ _ z => nomatch z), L.nd, L.frm.trans (f3.wide (fun _ z => nomatch z) fun c m => .inr m), fun z => ?_⟩
          obtain ⟨p1, p2, p3⟩ := L.pure z
          exact ⟨p1, p2, p3.trans (f3.wide (fun _ z => nomatch z) fun c m => .inr m)⟩
        rw [List.drop_eq_getElem_cons hlt] at q2
        unfold lcGo at q2
        have hvl : ∀ i ∈ todo, i < env1.length := fun i m => by rw [← S1.sl.len, S.sl.len]; exact hlen i m
        cases es : lcStep g tt fe vs ds[i] e2 with
        | none => rw [es] at q2; exact q2.elim
        | some z =>
          obtain ⟨o, e3, t3⟩ := z
          rw [es] at q2
          cases o with
          | none =>
            exact lc_turn kg kt ke htv hvl L3 r3 es (fun z => absurd rfl z) fun H4 B4 F4 Fa4 us4 LL => ⟨rfl, hlt, e3, acc, t || t3, B4, F4, Fa4, us4, LL, q2⟩
          | some oo =>
            dsimp only at q2
            by_cases hac : acc.length < 10000000
            · rw [if_pos hac] at q2
              exact lc_turn kg kt ke htv hvl L3 r3 es (fun _ => hac) fun H4 B4 F4 Fa4 us4 LL => ⟨rfl, hlt, e3, acc ++ [oo], t || t3, B4, F4, Fa4, us4, LL, q2⟩
            · rw [if_neg hac] at q2; exact q2.elim
      · have e0 : i = ds.length := by omega
        subst e0
        rw [List.drop_length] at q2
        refine .inl ⟨sp2, ?_⟩
        unfold lcGo lcFin at q2
        dsimp only at q2
        have oD : Own X.K X.mg B2 H2 (D :: Fa) (.ref D) (.lst acc) := .lst L.at' L.bD L.own
        have ndL := List.nodup_append.mp L.nd
        by_cases ht : (t || t0) = true
        · rw [if_pos ht] at q2
          have fh : ∀ a ∈ Fh, (∀ u, H1 a = some u → H2 a = some u) ∧ B2 a = none := fun a m => by
            obtain ⟨b, u, e⟩ := S1.sl.there a (inF a (.inl m))
            have nv : a ∉ Fv := fun z => ndp.2.2 a m a z rfl
            exact ⟨fun u e => L.frm.keep a u e nv, L.frm.forg a u e nv b⟩
          obtain ⟨F3, c1, c2⟩ := back B2 H2 F2 e2 s12 fh L.sta.sl L.un L.len
          have djh : ∀ a ∈ Fh, a ∉ D :: Fa ++ F2 := fun a m z => by
            obtain ⟨_, u, e⟩ := S1.sl.there a (inF a (.inl m))
            rcases L.frm.fr a z with y | y
            · exact ndp.2.2 a m a y rfl
            · rw [e] at y; cases y
          have n3 : F3.Nodup := c2.nodup_iff.mpr (List.nodup_append.mpr ⟨ndp.1, L.sta.nd, fun a ha b hb e => by subst e; exact djh a ha (List.mem_append_right _ hb)⟩)
          refine q2 (.ref D) B2 H2 (D :: Fa) F3 oD c1 L.sta.sub (List.nodup_append.mpr ⟨ndL.1, n3, fun a ha b hb e => ?_⟩) (f1.trans (L.frm.wide (fun c m => inF c (.inr m)) fun c m => ?_))
          · subst e
            rcases List.mem_append.mp (c2.mem_iff.mp hb) with z | z
            · exact djh a z (List.mem_append_left _ ha)
            · exact ndL.2.2 a ha a z rfl
          · rcases List.mem_append.mp m with z | z
            · exact .inl (List.mem_append_left _ z)
            · rcases List.mem_append.mp (c2.mem_iff.mp z) with z | z
              · exact .inr (inF c (.inl z))
              · exact .inl (List.mem_append_right _ z)
        · rw [if_neg ht] at q2
          have ht' : t = false ∧ t0 = false := by simpa using ht
          obtain ⟨p1, p2, p3⟩ := L.pure ht'.1
          obtain ⟨_, _, fp⟩ := pu ht'.2
          exact q2 (.ref D) B2 H2 (D :: Fa) oD L.sta.sub ndL.1 (fp.trans p3)
  cases e2 : f env with
  | bad => rw [e2] at q; exact q
  | exc c e => rw [e2] at q; exact q
  | ok ds =>
    rw [e2] at q
    intro J B' H' G r s n f'
    obtain ⟨rfl, sp⟩ := r
    exact core (t0 := false) sp (S.pure s f') (f'.wide (fun _ z => nomatch z) fun c m => .inr m) (fun _ => ⟨rfl, rfl, f'⟩) q
  | eff ds e =>
    rw [e2] at q
    intro J B' H' G F' r l s n f'
    obtain ⟨rfl, sp⟩ := r
    exact core (t0 := true) sp ⟨s, l, n⟩ f' (fun z => nomatch z) q
abbrev Blk (X : Cx) (scope : Scope) (i : Shared × Hp × Addr × List (Str × Addr) × List Addr) : Cx := X.blk i.1 i.2.1 scope (PySem.compEnvC scope i.2.2.2.1 i.2.2.1 X.env) i.2.2.2.2
theorem all_PE {ι : Type} {Y : ι → Cx} {e : Expr} {Z : TE → Prop} (h : ∀ i, ∃ t, PE (Y i) e t ∧ Z t) (hz : ∀ T : ι → TE, (∀ i, Z (T i)) → Z fun σ H Q => ∀ i, T i σ H Q) : ∃ t, (∀ i, PE (Y i) e t) ∧ Z t :=
  ⟨fun σ H Q => ∀ i, (h i).choose σ H Q, fun i => ⟨fun pins s σ H Q I q => (h i).choose_spec.1.run pins s σ H Q I (q i)⟩, hz _ fun i => (h i).choose_spec.2⟩
theorem all_PTs {ι : Type} {Y : ι → Cx} {e : List Expr} {Z : TT → Prop} (h : ∀ i, ∃ t, PTs (Y i) e t ∧ Z t) (hz : ∀ T : ι → TT, (∀ i, Z (T i)) → Z fun σ H Q => ∀ i, T i σ H Q) : ∃ t, (∀ i, PTs (Y i) e t) ∧ Z t :=
  ⟨fun σ H Q => ∀ i, (h i).choose σ H Q, fun i => ⟨fun pins s σ H Q I q => (h i).choose_spec.1.run pins s σ H Q I (q i)⟩, hz _ fun i => (h i).choose_spec.2⟩
theorem all_PG {ι : Type} {Y : ι → Cx} {e : Expr} {Z : TG → Prop} (h : ∀ i, ∃ t, PG (Y i) e t ∧ Z t) (hz : ∀ T : ι → TG, (∀ i, Z (T i)) → Z fun v σ H Q => ∀ i, T i v σ H Q) : ∃ t, (∀ i, PG (Y i) e t) ∧ Z t :=
  ⟨fun v σ H Q => ∀ i, (h i).choose v σ H Q, fun i => ⟨fun pins s σ H v u Q I r q => (h i).choose_spec.1.run pins s σ H v u Q I r (q i)⟩, hz _ fun i => (h i).choose_spec.2⟩
theorem lc_parts {scope : Scope} {g : D → Env → Option Env} {tt : Env → O Bool} {fe : Env → O RV} {todo : List Nat} (hg : ∀ i, PCt (Blk X scope i) todo tg g) (ht : ∀ i, PTsr (Blk X scope i) W0 ifs tt) (he : ∀ i, PEr (Blk X scope i) W0 elt fe) :
    ∃ (tb : TG) (tt' : TT) (te : TE), (∀ i, PG (Blk X scope i) tg tb) ∧ (∀ i, PTs (Blk X scope i) ifs tt') ∧ (∀ i, PE (Blk X scope i) elt te) ∧
      (∀ B H F σ env v d (Q : St → Hp → Prop) (vs : List Nat), Slots X.K X.mg B H F σ env → Same B H → (∀ i ∈ todo, env[i]? = some .un) → (∀ i ∈ todo, i ∈ vs) → Rep X.K B v d →
        (match g d env with
         | some env' => ∀ σ', Slots X.K X.mg B H F σ' env' → L2.wipe σ' vs = L2.wipe σ vs → wipeE env' vs = wipeE env vs → env'.length = env.length → (∀ j, j ∉ todo → env'[j]? = env[j]?) → Q σ' H
         | none => False) → tb v σ H Q) ∧ EOk X W0 boR tt' tt ∧ EOk X W0 (rvR X.K X.mg) te fe := by
  obtain ⟨tb, h1, h2⟩ := all_PG (Z := fun tb => ∀ B H F σ env v d (Q : St → Hp → Prop) (vs : List Nat), Slots X.K X.mg B H F σ env → Same B H → (∀ i ∈ todo, env[i]? = some .un) → (∀ i ∈ todo, i ∈ vs) → Rep X.K B v d →
        (match g d env with
         | some env' => ∀ σ', Slots X.K X.mg B H F σ' env' → L2.wipe σ' vs = L2.wipe σ vs → wipeE env' vs = wipeE env vs → env'.length = env.length → (∀ j, j ∉ todo → env'[j]? = env[j]?) → Q σ' H
         | none => False) → tb v σ H Q) hg (fun T hT B H F σ env v d Q vs a b c e f q i => hT i B H F σ env v d Q vs a b c e f q)
  obtain ⟨tt', h3, h4⟩ := all_PTs (Z := fun t => EOk X W0 boR t tt) ht (fun T hT B H F σ env Q S q i => hT i B H F σ env Q S q)
  obtain ⟨te, h5, h6⟩ := all_PE (Z := fun t => EOk X W0 (rvR X.K X.mg) t fe) he (fun T hT B H F σ env Q S q i => hT i B H F σ env Q S q)
  exact ⟨tb, tt', te, h1, h3, h5, h2, h4, h6⟩
/-- [elt for tg in iter if ..] as a value -/
theorem r_lc {scope : Scope} {own : List (Str × Nat)} {f : Env → O (List D)} {g : D → Env → Option Env} {tt : Env → O Bool} {fe : Env → O RV} {todo : List Nat} (hc : X.calm = true) (hN : X.N.Nodup) (hi : PIr X W tg iter f) (ok : blkC X.N X.env.scope scope own = true) (htv : (todo.all fun i => (own.map (·.2)).contains i) = true)
    (hg : ∀ i, PCt (Blk X scope i) todo tg g) (ht : ∀ i, PTsr (Blk X scope i) W0 ifs tt) (he : ∀ i, PEr (Blk X scope i) W0 elt fe) (hs : ∀ x, foldedSetIterable iter X.env x = pure x := by intro _; rfl) :
    PEr X W (.ListComp elt [⟨tg, iter, ifs, 0⟩] scope pos) (eLc f g tt fe (own.map (·.2))) := by
  obtain ⟨wi, hi, ki⟩ := hi
  obtain ⟨tb, tt', te, h1, h2, h3, k1, k2, k3⟩ := lc_parts hg ht he
  exact ⟨_, pe_lc hc hN hi (blkOk_by ok) (fun s H C cl fp => h1 (s, H, C, cl, fp)) (fun s H C cl fp => h2 (s, H, C, cl, fp)) (fun s H C cl fp => h3 (s, H, C, cl, fp)) hs, EOk.lc (fun i m => by have := List.all_eq_true.mp htv i m; simpa using this) ki k1 k2 k3⟩
/-- name = [..] -/
theorem s_setLc (i : Nat) {y : Str} {py spos : Pos} {scope : Scope} {own : List (Str × Nat)} {f : Env → O (List D)} {g : D → Env → Option Env} {tt : Env → O Bool} {fe : Env → O RV} {todo : List Nat} (hc : X.calm = true) (hN : X.N.Nodup) (hi : PIr X W tg iter f) (ok : blkC X.N X.env.scope scope own = true) (htv : (todo.all fun i => (own.map (·.2)).contains i) = true)
    (hg : ∀ i, PCt (Blk X scope i) todo tg g) (ht : ∀ i, PTsr (Blk X scope i) W0 ifs tt) (he : ∀ i, PEr (Blk X scope i) W0 elt fe)
    (hsw : swapsWith (.ListComp elt [⟨tg, iter, ifs, 0⟩] scope pos) (some (.Name y py)) spos.line X.env = pure true)
    (hy : X.N[i]? = some y := by rfl) (hyl : X.env.scope.names.lookup y = some .local := by rfl) (hio : io.contains i = false := by rfl) (hs : ∀ x, foldedSetIterable iter X.env x = pure x := by intro _; rfl) :
    PSr X W io (.Assign [.Name y py] (.ListComp elt [⟨tg, iter, ifs, 0⟩] scope pos) spos) (sAsg (eLc f g tt fe (own.map (·.2))) (gSet i)) := by
  obtain ⟨wi, hi, ki⟩ := hi
  obtain ⟨tb, tt', te, h1, h2, h3, k1, k2, k3⟩ := lc_parts hg ht he
  have k : EOk X W (rvR X.K X.mg) (tLc wi tb tt' te (own.map (·.2))) (eLc f g tt fe (own.map (·.2))) := EOk.lc (fun i m => by have := List.all_eq_true.mp htv i m; simpa using this) ki k1 k2 k3
  refine ⟨_, ps_setLc hc hN hy hyl hsw hi (blkOk_by ok) (fun s H C cl fp => h1 (s, H, C, cl, fp)) (fun s H C cl fp => h2 (s, H, C, cl, fp)) (fun s H C cl fp => h3 (s, H, C, cl, fp)) hs, fun B H F σ env D S q => k B H F σ env _ S ?_⟩
  dsimp only [sAsg, sE] at q
  generalize eLc f g tt fe (own.map (·.2)) env = z at q
  cases z with
  | bad => exact q
  | exc c e => exact fun B' H' F' S' f' => q B' H' F' σ S' f' Agree.refl
  | ok r =>
    cases r with
    | view o => exact q.elim
    | own o =>
      intro v B' H' G r s n f
      dsimp only [kAsg, gSet] at q
      split at q
      · rename_i e3
        split at e3
        · rename_i hl
          cases e3
          obtain ⟨F2, h1, h2, h3⟩ := store_ok (io := io) (S.pure s f).sl s r (nodup_new (fun a m => (S.sl.there a m).2) S.nd n f) hl hio
          exact q B' H' F2 _ h1 (f.wide0.trans h2) h3
        · cases e3
      · exact q.elim
  | eff r e =>
    cases r with
    | view o => exact q.elim
    | own o =>
      intro v B' H' G F' r l s n f
      dsimp only [kAsg, gSet] at q
      split at q
      · rename_i e3
        split at e3
        · rename_i hl
          cases e3
          obtain ⟨F2, h1, h2, h3⟩ := store_ok (io := io) l s r n hl hio
          exact q B' H' F2 _ h1 (f.trans h2) h3
        · cases e3
      · exact q.elim
end
end Tl
namespace Tl
open PySem PySem.Spec L2

/-! ### slices -/
def cutD (xs : List D) (lo hi : Option Int) : List D := (xs.drop (HT.sIx xs.length 0 lo)).take (HT.sIx xs.length xs.length hi - HT.sIx xs.length 0 lo)
section
variable {K : PySem.W.Frag} {B : Hp}
theorem RepL.drop {vs : List V} {ds : List D} (h : RepL K B vs ds) (n : Nat) : RepL K B (vs.drop n) (ds.drop n) := by
  induction n generalizing vs ds with
  | zero => exact h
  | succ n ih => cases h with | nil => exact .nil | cons _ t => exact ih t
theorem RepL.take {vs : List V} {ds : List D} (h : RepL K B vs ds) (n : Nat) : RepL K B (vs.take n) (ds.take n) := by
  induction n generalizing vs ds with
  | zero => exact .nil
  | succ n ih => cases h with | nil => exact .nil | cons r t => exact .cons r (ih t)
theorem RepL.cut {vs : List V} {ds : List D} (h : RepL K B vs ds) (lo hi : Option Int) : RepL K B (cutV vs lo hi) (cutD ds lo hi) := by
  unfold cutV cutD
  rw [h.length]
  exact (h.drop _).take _
theorem cutD_whole {ds : List D} {lo hi : Option Int} (h : HT.sIx ds.length 0 lo = 0 ∧ HT.sIx ds.length ds.length hi = ds.length) : cutD ds lo hi = ds := by
  unfold cutD
  rw [h.1, h.2]
  simp
end
def poR : Rl (Option Int) (Option Int) := fun _ _ G a b => G = [] ∧ a = b
theorem stb_po : Stb poR (fun _ => true) where
  there := fun B H G x a h => by obtain ⟨rfl, _⟩ := h; exact fun _ z => nomatch z
  keep := fun _ _ _ _ _ _ _ _ _ h _ _ _ => h
def POr (X : Cx) (W : WX) (e : Option Expr) (f : Env → O (Option Int)) : Prop := ∃ t, PO X e t ∧ EOk X W poR t f
def pNo : Env → O (Option Int) := fun _ => .ok none
def RV.int? (r : RV) : Option Int := match r.od with
  | .fz (.int i) => some i
  | _ => none
def pSo (f : Env → O RV) : Env → O (Option Int) := fun env => (f env).mapP fun r => r.int?.map some
def gSl (p : (RV × Option Int) × Option Int) : Option RV :=
  match p.1.1.od with
  | .fz (.str z) => if z.length ≤ sizeLine then some (.own (.fz (.str (cutS z p.1.2 p.2)))) else none
  | o => match o.items with
    | some ds => some (.own (.lst ((cutD ds p.1.2 p.2).map .fz)))
    | none => match o.titems with
      | some ds => some (.own (.fz (.tup (cutD ds p.1.2 p.2))))
      | none => none
def eSl (f : Env → O RV) (g h : Env → O (Option Int)) : Env → O RV := fun env =>
  (((f env).andThen RV.safe env (fun _ e => g e) Prod.mk).andThen (fun p => p.1.safe) env (fun _ e => h e) Prod.mk).mapP gSl
/-- two in a row, the second one where the first one left the frame -/
def eSl3 (f : Env → O RV) (g h : Env → O (Option Int)) : Env → O RV := fun env =>
  ((f env).andThen RV.safe env (fun _ e => (g e).andThen (fun _ => true) e (fun _ e => h e) Prod.mk) (fun a b => ((a, b.1), b.2))).mapP gSl
section
variable {X : Cx} {W : WX} {e : Expr} {lo hi : Option Expr} {f : Env → O RV} {g h : Env → O (Option Int)} {pos p2 : Pos}
theorem po_no : POr X W none pNo := ⟨_, po_none, EOk.konst fun _ _ => ⟨rfl, rfl⟩⟩
theorem po_so {e : Expr} (k : PEr X W e f) : POr X W (some e) (pSo f) := by
  obtain ⟨t, k, z⟩ := k
  refine ⟨_, po_some k, z.map (r := fun (x : V) (H : Hp) (Q : Option Int → Hp → Prop) => ∃ i, x = .int i ∧ Q (some i) H) fun B H G v r Q s hr n q => ?_⟩
  unfold RV.int? at q
  split at q
  · rename_i i e
    have z := rv_fz hr e
    cases z
    exact ⟨i, rfl, q (some i) B H [] ⟨rfl, rfl⟩ s List.nodup_nil Frm.none⟩
  · exact q.elim
theorem sl_any : SlR X (fun x lo hi H Q => (rSlL X.K x lo hi H Q ∨ rSlA X.K x lo hi H Q) ∨ rSlS x lo hi H Q) := (sl_list.or sl_tupA).or sl_str
theorem r_slice (ha : PEr X W e f) (hl : POr X W lo g) (hh : POr X W hi h) : PEr X W (.Subscript e (.Slice lo hi none p2) pos) (eSl3 f g h) := by
  obtain ⟨ta, ha, ka⟩ := ha
  obtain ⟨tl, hl, kl⟩ := hl
  obtain ⟨th, hh, kh⟩ := hh
  have k1 : EOk X W (prR poR poR) (fun σ H Q => tl σ H fun l H2 => th σ H2 fun u H3 => Q (l, u) H3) (fun env => (g env).andThen (fun _ => true) env (fun _ e => h e) Prod.mk) :=
    EOk.andThen (jx := Prod.mk) (jb := Prod.mk) (R'' := prR poR poR) (u := fun _ => th) stb_po stb_po (fun _ _ G1 G2 _ _ _ _ a b => ⟨G1, G2, rfl, a, b⟩) kl fun _ _ _ => kh
  have k2 : EOk X W (prR (prR (rvR X.K X.mg) poR) poR) (fun σ H Q => ta σ H fun x H1 => tl σ H1 fun l H2 => th σ H2 fun u H3 => Q ((x, l), u) H3) (fun env => (f env).andThen RV.safe env (fun _ e => (g e).andThen (fun _ => true) e (fun _ e => h e) Prod.mk) (fun a b => ((a, b.1), b.2))) :=
    EOk.andThen (R' := prR poR poR) (jx := fun x p => ((x, p.1), p.2)) (jb := fun a b => ((a, b.1), b.2)) (R'' := prR (prR (rvR X.K X.mg) poR) poR) (u := fun _ σ H Q => tl σ H fun l H2 => th σ H2 fun u H3 => Q (l, u) H3) stb_rv (stb_pr stb_po stb_po) (fun _ _ G1 G2 _ _ _ _ a ⟨G3, G4, e, b, c⟩ => ⟨G1 ++ G3, G4, by rw [e, List.append_assoc], ⟨G1, G3, rfl, a, b⟩, c⟩) ka fun _ _ _ => k1
  refine ⟨_, pe_slice sl_any ha hl hh, k2.map (r := fun (p : (V × Option Int) × Option Int) (H : Hp) (Q : VK) => (rSlL X.K p.1.1 p.1.2 p.2 H Q ∨ rSlA X.K p.1.1 p.1.2 p.2 H Q) ∨ rSlS p.1.1 p.1.2 p.2 H Q) fun B H G p a Q s hr n q => ?_⟩
  obtain ⟨⟨x, l⟩, u⟩ := p
  obtain ⟨⟨r, l'⟩, u'⟩ := a
  obtain ⟨_, G4, _, ⟨_, G3, _, hx, _, rfl⟩, _, rfl⟩ := hr
  dsimp only [gSl] at q ⊢
  split at q
  · rename_i z ez
    have zz := rv_fz hx ez
    cases zz
    split at q
    · rename_i hz
      exact .inr ⟨z, rfl, hz, VPost.fz q s .str⟩
    · exact q.elim
  · split at q
    · rename_i ds e1
      obtain ⟨p, vs, rfl, a1, a2⟩ := rv_items s hx e1
      exact .inl (.inl ⟨p, vs, rfl, a1, fun l hl => VPost.lst q s (a2.cut _ _) hl⟩)
    · split at q
      · rename_i ds e1
        have zt := rv_tfz hx e1
        obtain ⟨p, vs, rfl, a1, a2⟩ := rv_titems s hx e1
        refine .inl (.inr ⟨p, vs, rfl, a1, fun hw => ?_, fun _ l hl => VPost.tup q s (a2.cut _ _) hl⟩)
        rw [a2.length] at hw
        rw [cutD_whole hw] at q
        exact VPost.fz q s zt
      · exact q.elim
/-- xs[::-1] -/
def gRev (r : RV) : Option RV := match r.od.items with
  | some ds => some (.own (.lst (ds.reverse.map .fz)))
  | none => none
theorem r_rev {k : Nat} {p1 p2 p3 : Pos} (ha : PEr X W e f) : PEr X W (.Subscript e (.Slice none none (some (.UnaryOp .USub (.Constant (.int 1) k p1) p2)) p3) pos) (e1 gRev f) := by
  obtain ⟨ta, ha, ka⟩ := ha
  refine ⟨_, pe_revL ha, ka.map (r := fun (x : V) (H1 : Hp) (Q : VK) => ∃ a xs, x = .ref a ∧ SqL X.K H1 a xs ∧ ∀ p, H1 p = none → Q (.ref p) (upd H1 p (.lst xs.reverse))) fun B H G v r Q s hr n q => ?_⟩
  dsimp only [gRev] at q
  split at q
  · rename_i ds e1
    obtain ⟨p, vs, rfl, a1, a2⟩ := rv_items s hr e1
    exact ⟨p, vs, rfl, a1, fun l hl => VPost.lst q s a2.reverse hl⟩
  · exact q.elim
/-! ### a name's things handed on: for good (eMove), or as plain data from now on (eFrz) -/
def eMove (i : Nat) : Env → O RV := fun env => match env[i]? with
  | some .un => .bad
  | some o => .eff (.own o) (env.set i .un)
  | none => .bad
def eFrz (i : Nat) : Env → O RV := fun env => match env[i]? with
  | some (.fz d) => .ok (.own (.fz d))
  | some o => match frz o with
    | some d => .eff (.own (.fz d)) (env.set i (.fz d))
    | none => .bad
  | none => .bad
theorem r_move (i : Nat) {x : Str} {pos : Pos} (hN : X.N[i]? = some x := by rfl) (hv : Vis X.env.scope x := by first | exact Or.inl rfl | exact Or.inr (Or.inl rfl) | exact Or.inr (Or.inr rfl))
    (hd : (x == ("__debug__" : Str)) = false := by decide) (hcd : (x == ("__classdict__" : Str)) = false := by decide) : PEr X W (.Name x pos) (eMove i) := by
  refine ⟨_, pe_var hN hv hd hcd, fun B H F σ env Q S q => ?_⟩
  dsimp only [eMove] at q
  cases e : env[i]? with
  | none => rw [e] at q; exact q.elim
  | some o =>
    rw [e] at q
    by_cases n : o = .un
    · subst n; exact q.elim
    · obtain ⟨v, Fi, Fr, h1, h2, h3, h4⟩ := S.sl.take e n
      have nd := h4.nodup_iff.mp S.nd
      have q' : EPost X W (rvR X.K X.mg) B H F σ Q (.eff (.own o) (env.set i .un)) := by cases o <;> first | exact q | exact absurd rfl n
      exact ⟨v, h1, q' v B H Fi Fr h2 h3 S.sub nd ⟨Same.refl _, fun _ _ e _ => e, fun _ _ _ _ b => b, fun a m => .inl (h4.mem_iff.mpr m)⟩⟩
theorem r_frz (i : Nat) {x : Str} {pos : Pos} (hN : X.N[i]? = some x := by rfl) (hv : Vis X.env.scope x := by first | exact Or.inl rfl | exact Or.inr (Or.inl rfl) | exact Or.inr (Or.inr rfl))
    (hd : (x == ("__debug__" : Str)) = false := by decide) (hcd : (x == ("__classdict__" : Str)) = false := by decide) : PEr X W (.Name x pos) (eFrz i) := by
  refine ⟨_, pe_var hN hv hd hcd, fun B H F σ env Q S q => ?_⟩
  dsimp only [eFrz] at q
  split at q
  · rename_i d e
    obtain ⟨v, G, h1, h2, h3⟩ := S.sl.get e (by intro z; cases z)
    cases h2 with
    | fz r => exact ⟨v, h1, q v B H [] (.fz r) S.sub List.nodup_nil Frm.none⟩
  · rename_i o hn e
    cases ef : frz o with
    | none => rw [ef] at q; exact q.elim
    | some d =>
      rw [ef] at q
      obtain ⟨v, Fi, Fr, h1, h2, h3, h4⟩ := S.sl.take e (fun z => by subst z; unfold frz at ef; cases ef)
      obtain ⟨s1, s2, f⟩ := frm_more (K := X.K) (mg := X.mg) (G := Fi) S.sub h2.there
      have rp : Rep X.K (more B H Fi) v d := h2.frz s1 ef fun a m u z => by rw [more_in m]; exact z
      have nd := List.nodup_append.mp (h4.nodup_iff.mp S.nd)
      have sl := f.slots h3 fun a m z => nd.2.2 a z a m rfl
      obtain ⟨F', c1, c2⟩ := sl.put (by rw [List.getElem?_set_self]; exact (List.getElem?_eq_some_iff.mp e).1) h1 (.fz rp)
      rw [List.set_set] at c1
      refine ⟨v, h1, q v (more B H Fi) H [] F' (.fz rp) c1 s2 ?_ (f.wide (fun a m => h4.mem_iff.mpr (List.mem_append_left _ m)) fun a m => .inr ?_)⟩
      · exact c2.nodup_iff.mpr nd.2.1
      · exact h4.mem_iff.mpr (List.mem_append_right _ (c2.mem_iff.mp m))
  · exact q.elim
end

/-! ### the law -/
/-- a list of ints as it is handed in -/
def scr (ns : List Int) : OD := .fz (.scr (ns.map .int))
theorem repL_ints {K : PySem.W.Frag} {B : Hp} (ns : List Int) : RepL K B (ns.map V.int) (ns.map D.int) := by
  induction ns with
  | nil => exact .nil
  | cons n ns ih => exact .cons .int ih
/-- the law's promise, from what its function of plain data comes to -/
theorem law_sp {K : PySem.W.Frag} {mg : Str → Option Value} {Fm : List OD → FO} {H : Hp} {a : Addr} {ns : List Int} {Q : VK} {E : XK} (hS : SqL K H a (ns.map V.int)) (h : ∃ r, Fm [scr ns] = .ret (.fz (.bl true)) r) (hQ : ∀ H', Q (.bl true) H') : spOf K mg 1 Fm [.ref a] H Q E := by
  refine ⟨rfl, H, [], [scr ns], Same.refl _, .cons (F := []) (.fz (.scr hS (repL_ints ns))) .nil, List.nodup_nil, ?_⟩
  obtain ⟨r, e⟩ := h
  rw [e]
  intro v B' H' Fr G' ro _ _ _ _
  cases ro with
  | fz ro => cases ro; exact hQ H'
end Tl
namespace Tl
open PySem PySem.Spec L2

/-! ### defs by name -/
/-- the def x of the text, as it stands behind the top -/
def FunAt (K : PySem.W.Frag) (mg : Str → Option Value) (x : Str) (st : Stmt) (ps : List Str) : Prop := ∃ f fd, Fun K x x st f fd ∧ mg x = some (.ref f) ∧ Binds K fd ps []
/-- a def that may be called: it keeps its promise -/
def Cal (P : Program) (w : World) (K : PySem.W.Frag) (mg : Str → Option Value) (base : Heap) (x : Str) (ps : List Str) (k n : Nat) (Fm : List OD → FO) : Prop :=
  ∃ fn fd, mg x = some (.ref fn) ∧ FnOk P w K mg base (L2.CX P w) k fn fd ps (spOf K mg n Fm) ∧ PySem.W.keepIn K (.ref fn) = true ∧ Binds K fd ps []
/-- a module's constant -/
def Const (mg : Str → Option Value) (x : Str) (v : V) : Prop := ∃ u, mg x = some u ∧ RelV v u
section
variable {P : Program} {w : World} {K : PySem.W.Frag} {mg : Str → Option Value} {base : Heap}
theorem cal_of {x : Str} {st : Stmt} {N ps : List Str} {k n m : Nat} {io : List Nat} {body : Env → SO} (A : FunAt K mg x st ps) (S : FnScope N ps (defScope st)) (hn : ps.length = n) (hm : N.length = n + m) (hio : io.all (fun i => decide (i < n)) = true)
    (hb : ∀ (f : Addr) (cdv : Value) (A : Around) (outer : List PySem.Env) (s : Shared) (H : Hp) (E : XK), Room k (A.deeper (PyProof.Rows.envOfC x (defScope st) s.heap.objs.size f cdv)) →
      Takes (cxOf (L2.CX P w) P w K mg base N x (defScope st) f cdv A outer s H E) (fun cls d _ H => E cls d H) → PassesOwn (model P w) (cxOf (L2.CX P w) P w K mg base N x (defScope st) f cdv A outer s H E).A (cxOf (L2.CX P w) P w K mg base N x (defScope st) f cdv A outer s H E).env (cxOf (L2.CX P w) P w K mg base N x (defScope st) f cdv A outer s H E).xe →
      PSsr (cxOf (L2.CX P w) P w K mg base N x (defScope st) f cdv A outer s H E) (fun cls d _ H => E cls d H) io (defBody st) body) : Cal P w K mg base x ps (k + 1) n (runB m io body) := by
  obtain ⟨f, fd, F, hx, bd⟩ := A
  exact ⟨f, fd, hx, fn_ok F S hn hm hio fun cdv A outer s H E hr => hb f cdv A outer s H E hr (takes_of rfl rfl rfl rfl) (passes_of rfl), F.kp, bd⟩
theorem ok_of {x : Str} {st : Stmt} {N ps : List Str} {k n m : Nat} {io : List Nat} {body : Env → SO} {f : Addr} {fd : FuncData} (F : Fun K x x st f fd) (S : FnScope N ps (defScope st)) (hn : ps.length = n) (hm : N.length = n + m) (hio : io.all (fun i => decide (i < n)) = true)
    (hb : ∀ (f : Addr) (cdv : Value) (A : Around) (outer : List PySem.Env) (s : Shared) (H : Hp) (E : XK), Room k (A.deeper (PyProof.Rows.envOfC x (defScope st) s.heap.objs.size f cdv)) →
      Takes (cxOf (L2.CX P w) P w K mg base N x (defScope st) f cdv A outer s H E) (fun cls d _ H => E cls d H) → PassesOwn (model P w) (cxOf (L2.CX P w) P w K mg base N x (defScope st) f cdv A outer s H E).A (cxOf (L2.CX P w) P w K mg base N x (defScope st) f cdv A outer s H E).env (cxOf (L2.CX P w) P w K mg base N x (defScope st) f cdv A outer s H E).xe →
      PSsr (cxOf (L2.CX P w) P w K mg base N x (defScope st) f cdv A outer s H E) (fun cls d _ H => E cls d H) io (defBody st) body) : FnOk P w K mg base (L2.CX P w) (k + 1) f fd ps (spOf K mg n (runB m io body)) :=
  fn_ok F S hn hm hio fun cdv A outer s H E hr => hb f cdv A outer s H E hr (takes_of rfl rfl rfl rfl) (passes_of rfl)
/-- the law's own def as it stands behind the top -/
def LawAt (K : PySem.W.Frag) (mg : Str → Option Value) (x : Str) (st : Stmt) (p : Str) : Prop := ∃ f fd, Fun K x x st f fd ∧ mg x = some (.ref f) ∧ ∀ (s : Shared) (u : Value), BindsTo s fd ⟨[u], []⟩ [(p, u)]
theorem law_end {fa : Addr} {x p : Str} {st : Stmt} {R : Heap → Addr → FuncData → Prop} (hfa : mg x = some (.ref fa)) (L : LawAt K mg x st p) (h : ∀ base f fd, Fun K x x st f fd → R base f fd) : ∃ fd : FuncData, (∀ (s : Shared) (u : Value), BindsTo s fd ⟨[u], []⟩ [(p, u)]) ∧ ∀ base : Heap, K.In base → base.Ns mainGlobals mg → R base fa fd := by
  obtain ⟨f, fd, F, hx, hb⟩ := L
  cases hfa.symm.trans hx
  exact ⟨fd, hb, fun base _ _ => h base fa fd F⟩
theorem law_at {h : Heap} (X : K.In h) (G : h.Ns mainGlobals mg) {x p : Str} {st : Stmt} {f : Addr} {oc : Value} {od an : Option Addr} {osl : Array (Option Value)} {kV doc pm cdv ct : Value}
    (a : PySem.W.nsIn K mainGlobals x = some (some (.ref f))) (l : K.lookup f = some ⟨oc, od, .func (PySem.W.fnOf x x (defArgs st) (defBody st) (defScope st) .none kV doc pm an cdv ct), osl⟩) (c : PySem.W.codeIn K cdv x = true) (k : PySem.W.keepIn K (.ref f) = true)
    (hb : ∀ (s : Shared) (u : Value), BindsTo s (PySem.W.fnOf x x (defArgs st) (defBody st) (defScope st) .none kV doc pm an cdv ct) ⟨[u], []⟩ [(p, u)]) : LawAt K mg x st p :=
  ⟨f, _, fun_mk l c k, PySem.W.mg_of X G a, hb⟩
theorem fun_at {h : Heap} (X : K.In h) (G : h.Ns mainGlobals mg) {x : Str} {st : Stmt} {ps : List Str} {f : Addr} {oc : Value} {od an : Option Addr} {osl : Array (Option Value)} {kV doc pm cdv ct : Value}
    (a : PySem.W.nsIn K mainGlobals x = some (some (.ref f))) (l : K.lookup f = some ⟨oc, od, .func (PySem.W.fnOf x x (defArgs st) (defBody st) (defScope st) .none kV doc pm an cdv ct), osl⟩) (c : PySem.W.codeIn K cdv x = true) (k : PySem.W.keepIn K (.ref f) = true)
    (hb : ∀ (kV doc pm : Value) (an : Option Addr) (cdv ct : Value) (us : List Value), us.length = ps.length → bindArgs (PySem.W.fnOf x x (defArgs st) (defBody st) (defScope st) .none kV doc pm an cdv ct) ⟨us, []⟩ = pure (ps.zip us)) : FunAt K mg x st ps :=
  ⟨f, _, fun_mk l c k, PySem.W.mg_of X G a, (fun_mk (st := st) l c k).binds hb⟩
theorem const_int {h : Heap} (X : K.In h) (G : h.Ns mainGlobals mg) {x : Str} {n : Int} {t : Tok} (a : PySem.W.nsIn K mainGlobals x = some (some (.int n t))) : Const mg x (.int n) := ⟨_, PySem.W.mg_of X G a, _, rfl⟩
theorem const_str {h : Heap} (X : K.In h) (G : h.Ns mainGlobals mg) {x y : Str} {t : Tok} (a : PySem.W.nsIn K mainGlobals x = some (some (.str y t))) : Const mg x (.str y) := ⟨_, PySem.W.mg_of X G a, _, rfl⟩
theorem exc_at {h : Heap} (X : K.In h) (G : h.Ns mainGlobals mg) {x : Str} {C : Addr} (a : PySem.W.nsIn K mainGlobals x = some (some (.ref C))) (e : PySem.W.excIn K C [.type "ValueError", .type "Exception", .type "BaseException", .type "object"] "ValueError.__new__" = true) (k : PySem.W.keepIn K (.ref C) = true)
    (b : PySem.W.subIn K (.ref C) (.type "BaseException") = some true) (t : PySem.W.typeIn K (.ref C) = some (.type "type")) : ExcT K mg x := ⟨C, PySem.W.mg_of X G a, e, k, b, t⟩
end
section
variable {X : Cx} {W : WX} {e : Expr} {es : List Expr} {pos : Pos}
theorem r_fn {j k n : Nat} {ps : List Str} {x : Str} {p : Pos} {Fm : List OD → FO} {fr : Env → O (List AR)} (c : Cal X.prog X.w X.K X.mg X.base x ps k n Fm) (tk : Takes X W) (hr : Room j X.A) (hk : k ≤ j) (ha : PCr X W (e :: es) fr) (hl : ∀ env ars, (fr env = .ok ars ∨ ∃ e, fr env = .eff ars e) → ars.length = n) (hg : Gl X x := by rfl) (hdb : (x == ("__debug__" : Str)) = false := by decide)
    (he : starEach (e :: es) X.env = (false, eval e X.env) :: starEach es X.env := by rfl) (hpl : (backTo pos (starEach es X.env)).any (·.1) = false := by rfl) : PEr X W (.Call (.Name x p) (e :: es) [] pos) (eCall Fm fr) := by
  obtain ⟨fn, fd, hm, F, hkp, hb⟩ := c
  exact r_call tk F (hr.mono hk) hm hkp hb ha hl hg hdb he hpl
def vD : V → D
  | .int i => .int i
  | .bl b => .bl b
  | .str x => .str x
  | _ => .non
theorem r_const_int {x : Str} {n : Int} {p : Pos} (c : Const X.mg x (.int n)) (hg : Gl X x := by rfl) (hd : (x == ("__debug__" : Str)) = false := by decide) : PEr X W (.Name x p) (eC (.int n)) := by
  obtain ⟨u, h1, h2⟩ := c
  exact r_glob hg h1 h2 (fun _ => .int) hd
theorem r_const_str {x y : Str} {p : Pos} (c : Const X.mg x (.str y)) (hg : Gl X x := by rfl) (hd : (x == ("__debug__" : Str)) = false := by decide) : PEr X W (.Name x p) (eC (.str y)) := by
  obtain ⟨u, h1, h2⟩ := c
  exact r_glob hg h1 h2 (fun _ => .str) hd
theorem hu65 {j : Nat} {A : Around} (hr : Room j A) : A.units + 65 < cLine := by have := hr.un; omega
end
/-- the end of a law -/
theorem walk_law {l : PySem.W.OpenLaw} {n k : Nat} {q : Program} {loose : List Str} {XP : (Str → Option Value) → Heap → Prop} {YP : World → Heap → Prop} {d : DefRec} {K : Params → PySem.W.Frag} {x : Str} {Fm : List OD → FO}
    (hn : l.most = some n) (hn2 : n ≤ sizeLine) (hdf : d.params.defaults = []) (hr : Room k PySem.callerA)
    (hY : ∀ (w : World) (h : Heap), YP w h → (K w.params).In h)
    (F : ∀ (w : World) (mg : Str → Option Value) (fa : Addr) (h : Heap), (K w.params).In h → h.Ns mainGlobals mg → mg d.name = some (.ref fa) →
      ∃ fd : FuncData, (∀ (s : Shared) (u : Value), BindsTo s fd ⟨[u], []⟩ [(x, u)]) ∧
        ∀ base : Heap, (K w.params).In base → base.Ns mainGlobals mg → FnOk l.prog w (K w.params) mg base (L2.CX l.prog w) k fa fd [x] (spOf (K w.params) mg 1 Fm))
    (hlaw : ∀ ns : List Int, ns.length ≤ n → ∃ r, Fm [scr ns] = .ret (.fz (.bl true)) r) :
    PySem.W.WalkO q loose XP YP l.row.toRowW d [] (fun f vs => PySem.call f vs) := by
  refine Att.attach_call hn hdf fun w s₀ s₁ mg mb fa o pm cd doc a vs ns G Y ho hd hcd hmg hobj hints hlen hg => ?_
  have KX := hY w _ Y
  obtain ⟨fd, hb, hF⟩ := F w mg fa _ KX G.T.g hmg
  exact law_call KX G.T.g G.T.b G.T.builtins G.T.nolimit hg hobj hints (Nat.le_trans hlen hn2) hr hF hb (fun H hO hS => law_sp hS (hlaw ns hlen) fun _ => rfl) fun H e s' z => by
    obtain ⟨_, _, _, _, _, _, _, _, _, _, _, _, z⟩ := z
    exact z
end Tl
namespace Tl
open PySem PySem.Spec L2

/-! ### sorted: ints; tuples of ints -/
def lexLe : List Int → List Int → Bool
  | [], _ => true
  | _ :: _, [] => false
  | a :: r, b :: q => decide (a < b) || (decide (a = b) && lexLe r q)
theorem lexLe_total : ∀ a b : List Int, (lexLe a b || lexLe b a) = true
  | [], _ => by simp [lexLe]
  | _ :: _, [] => by simp [lexLe]
  | a :: r, b :: q => by
    have := lexLe_total r q
    simp only [lexLe, Bool.or_eq_true, Bool.and_eq_true, decide_eq_true_eq] at this ⊢
    rcases Int.lt_trichotomy a b with h | h | h
    · exact .inl (.inl h)
    · subst h
      rcases this with k | k
      · exact .inl (.inr ⟨rfl, k⟩)
      · exact .inr (.inr ⟨rfl, k⟩)
    · exact .inr (.inl h)
theorem lexLe_trans : ∀ a b c : List Int, lexLe a b = true → lexLe b c = true → lexLe a c = true
  | [], _, _, _, _ => by simp [lexLe]
  | _ :: _, [], _, h, _ => by simp [lexLe] at h
  | _ :: _, _ :: _, [], _, h => by simp [lexLe] at h
  | a :: r, b :: q, c :: t, h, k => by
    simp only [lexLe, Bool.or_eq_true, Bool.and_eq_true, decide_eq_true_eq] at h k ⊢
    rcases h with h | ⟨h, h'⟩ <;> rcases k with k | ⟨k, k'⟩
    · exact .inl (by omega)
    · exact .inl (by omega)
    · exact .inl (by omega)
    · exact .inr ⟨by omega, lexLe_trans r q t h' k'⟩
theorem lexLe_anti : ∀ a b : List Int, lexLe a b = true → lexLe b a = true → a = b
  | [], [], _, _ => rfl
  | [], _ :: _, _, h => by simp [lexLe] at h
  | _ :: _, [], h, _ => by simp [lexLe] at h
  | a :: r, b :: q, h, k => by
    simp only [lexLe, Bool.or_eq_true, Bool.and_eq_true, decide_eq_true_eq] at h k
    rcases h with h | ⟨h, h'⟩ <;> rcases k with k | ⟨k, k'⟩
    · omega
    · omega
    · omega
    · rw [h, lexLe_anti r q h' k']
theorem lexLe_code {B : Int} : ∀ a b : List Int, a.length = b.length → TS.Bd B a → TS.Bd B b → TS.code B a ≤ TS.code B b → lexLe a b = true
  | [], _, _, _, _, _ => by simp [lexLe]
  | _ :: _, [], h, _, _, _ => by simp at h
  | a :: r, b :: q, hl, ha, hb, h => by
    have hl' : r.length = q.length := by simpa using hl
    simp only [lexLe, Bool.or_eq_true, Bool.and_eq_true, decide_eq_true_eq]
    rcases Int.lt_trichotomy a b with k | k | k
    · exact .inl k
    · subst k
      refine .inr ⟨rfl, lexLe_code r q hl' ha.tail hb.tail ?_⟩
      have := TS.code_same (B := B) (d := a) hl'.symm
      omega
    · have := TS.code_lt (B := B) hl'.symm hb.tail ha.tail k
      omega
def sortI (ns : List Int) : List Int := ns.mergeSort fun a b => decide (a ≤ b)
def sortT (nss : List (List Int)) : List (List Int) := nss.mergeSort lexLe
theorem sortI_eq {ns ms : List Int} (h : ms.Perm ns) (k : ms.Pairwise (· ≤ ·)) : ms = sortI ns := by
  refine List.Perm.eq_of_pairwise (le := fun a b => a ≤ b) (fun a b _ _ h k => by omega) k ?_ (h.trans (List.mergeSort_perm _ _).symm)
  exact (List.pairwise_mergeSort (fun a b c h k => by simp at *; omega) (fun a b => by simp; omega) ns).imp fun h => by simpa using h
theorem sortT_eq {ns ms : List (List Int)} (h : ms.Perm ns) (k : ms.Pairwise fun a b => lexLe a b = true) : ms = sortT ns :=
  List.Perm.eq_of_pairwise (le := fun a b => lexLe a b = true) (fun a b _ _ => lexLe_anti a b) k (List.pairwise_mergeSort lexLe_trans lexLe_total ns) (h.trans (List.mergeSort_perm _ _).symm)
def dTups : List D → Option (List (List Int))
  | [] => some []
  | .tup d :: ds => match dInts d, dTups ds with
    | some n, some ns => some (n :: ns)
    | _, _ => none
  | _ :: _ => none
def tupD (ns : List Int) : D := .tup (ns.map .int)
@[simp] theorem dTups_nil : dTups [] = some [] := by simp [dTups]
theorem dInts_id {ns : List Int} : dInts (ns.map D.int) = some ns := by
  have := dInts_map (xs := ns) (f := id)
  simpa using this
@[simp] theorem dTups_c {ns : List Int} {ds : List D} : dTups (.tup (ns.map .int) :: ds) = (dTups ds).map (ns :: ·) := by
  cases h : dTups ds <;> simp [dTups, dInts_id, h]
@[simp] theorem dTups_map {nss : List (List Int)} : dTups (nss.map tupD) = some nss := by
  induction nss with
  | nil => simp
  | cons n ns ih =>
    show dTups (.tup (n.map .int) :: ns.map tupD) = _
    rw [dTups_c, ih]; rfl
theorem dInts_of {ds : List D} {ns : List Int} (h : dInts ds = some ns) : ds = ns.map .int := by
  induction ds generalizing ns with
  | nil => simp at h; subst h; rfl
  | cons d ds ih =>
    cases d <;> first
      | (simp [dInts] at h; done)
      | (rw [dInts_cons] at h
         cases e : dInts ds with
         | none => rw [e] at h; cases h
         | some ms => rw [e] at h; cases h; rw [List.map_cons, ih e])
theorem dTups_of {ds : List D} {ns : List (List Int)} (h : dTups ds = some ns) : ds = ns.map tupD := by
  induction ds generalizing ns with
  | nil => simp at h; subst h; rfl
  | cons d ds ih =>
    cases d with
    | tup xs =>
      simp only [dTups] at h
      cases e : dInts xs with
      | none => rw [e] at h; cases h
      | some n =>
        cases e2 : dTups ds with
        | none => rw [e, e2] at h; cases h
        | some ms => rw [e, e2] at h; cases h; rw [List.map_cons, ih e2, dInts_of e]; rfl
    | _ => simp [dTups] at h
def bdAll (d : Nat) (nss : List (List Int)) : Bool := nss.all fun ns => ns.length == d && ns.all fun n => decide (0 ≤ n) && decide (n < 2 ^ 64)
def gSorted (rs : List RV) : Option RV := match rs with
  | [r] => match r.od.items with
    | some ds => match dInts ds with
      | some ns => some (.own (.lst (((sortI ns).map .int).map .fz)))
      | none => match dTups ds with
        | some nss => if nss.length < 64 ∧ 1 ≤ (nss.headD []).length ∧ bdAll (nss.headD []).length nss = true then some (.own (.lst (((sortT nss).map tupD).map .fz))) else none
        | none => none
    | none => none
  | _ => none
theorem RepL.perm {K : PySem.W.Frag} {B : Hp} {vs us : List V} (h : us.Perm vs) : ∀ {ds : List D}, RepL K B vs ds → ∃ es, RepL K B us es ∧ es.Perm ds := by
  induction h with
  | nil => intro ds h; cases h; exact ⟨[], .nil, .nil⟩
  | cons x _ ih => intro ds h; cases h with | cons r t => obtain ⟨es, a, b⟩ := ih t; exact ⟨_, .cons r a, b.cons _⟩
  | swap x y l => intro ds h; cases h with | cons r t => cases t with | cons r2 t => exact ⟨_, .cons r2 (.cons r t), .swap _ _ _⟩
  | trans _ _ ih1 ih2 => intro ds h; obtain ⟨es, a, b⟩ := ih2 h; obtain ⟨fs, c, d⟩ := ih1 a; exact ⟨fs, c, d.trans b⟩
theorem RepL.mem {K : PySem.W.Frag} {B : Hp} {vs : List V} {ds : List D} (h : RepL K B vs ds) {v : V} (m : v ∈ vs) : ∃ d ∈ ds, Rep K B v d := by
  induction vs generalizing ds with
  | nil => cases m
  | cons u vs ih =>
    cases h with
    | cons r t =>
      rcases List.mem_cons.mp m with e | m
      · subst e; exact ⟨_, by simp, r⟩
      · obtain ⟨d, a, b⟩ := ih t m; exact ⟨d, by simp [a], b⟩
theorem rep_tup {K : PySem.W.Frag} {B : Hp} {v : V} {ns : List Int} (h : Rep K B v (tupD ns)) : TupI K B v ns := by
  unfold tupD at h
  cases h with
  | tup k1 k2 => rw [RepL.dInts k2 dInts_id] at k1; exact ⟨_, rfl, k1⟩
theorem repL_int {K : PySem.W.Frag} {B : Hp} : ∀ ns : List Int, RepL K B (ns.map V.int) (ns.map D.int)
  | [] => .nil
  | n :: ns => .cons .int (repL_int ns)
theorem TupI.same {K : PySem.W.Frag} {B H : Hp} {v : V} {ns : List Int} (s : Same B H) (h : TupI K B v ns) : TupI K H v ns := by
  obtain ⟨t, rfl, h⟩ := h
  exact ⟨t, rfl, Same.seqT s h⟩
theorem repL_pw {K : PySem.W.Frag} {B : Hp} {R : V → V → Prop} {S : List Int → List Int → Prop} (hRS : ∀ u v n m, TupI K B u n → TupI K B v m → R u v → S n m) : ∀ {vs : List V} {nss : List (List Int)}, RepL K B vs (nss.map tupD) → vs.Pairwise R → nss.Pairwise S
  | [], [], _, _ => .nil
  | _ :: _, [], h, _ => nomatch h
  | [], _ :: _, h, _ => nomatch h
  | v :: vs, n :: nss, h, p => by
    cases h with
    | cons r t =>
      refine .cons (fun m hm => ?_) (repL_pw hRS t p.of_cons)
      have : ∃ u ∈ vs, TupI K B u m := by
        clear p
        induction vs generalizing nss with
        | nil => cases nss with | nil => cases hm | cons _ _ => nomatch t
        | cons u vs ih => cases nss with
          | nil => cases hm
          | cons k nss => cases t with | cons r2 t2 => rcases List.mem_cons.mp hm with e | hm
                                                       · subst e; exact ⟨u, by simp, rep_tup r2⟩
                                                       · obtain ⟨w, a, b⟩ := ih nss t2 hm; exact ⟨w, by simp [a], b⟩
      obtain ⟨u, hu, hm2⟩ := this
      exact hRS v u n m (rep_tup r) hm2 (List.rel_of_pairwise_cons p hu)
theorem callR_or {X : Cx} {f : Value} {r r' : List V → Hp → VK → Prop} (h : CallR X f r) (h' : CallR X f r') : CallR X f (fun vs H Q => r vs H Q ∨ r' vs H Q) := fun pins s σ H vs us Q I rv q => q.elim (h pins s σ H vs us Q I rv) (h' pins s σ H vs us Q I rv)
theorem b_sorted {X : Cx} : CallOk X (.builtin "sorted") gSorted := by
  refine ⟨fun vs H Q => rSortedI X.K vs H Q ∨ ∃ d B, 1 ≤ d ∧ rSortU X.K d B vs H Q, callR_or cr_sortedI (fun pins s σ H vs us Q I rv ⟨d, B, hd, q⟩ => cr_sortT hd pins s σ H vs us Q I rv q), fun B H G vs rs Q s h n q => ?_⟩
  dsimp only [gSorted] at q
  split at q
  · rename_i r
    obtain ⟨v, rfl, h2⟩ := lsR_one h
    split at q
    · rename_i ds e
      obtain ⟨p, vs, rfl, a1, a2⟩ := rv_items s h2 e
      split at q
      · rename_i ns e2
        have := RepL.dInts a2 e2
        subst this
        refine .inl ⟨p, ns, rfl, a1, fun ns' l h1 h2 hl => ?_⟩
        have e3 := sortI_eq h1 h2
        subst e3
        exact VPost.lst q s (repL_int _) hl
      · split at q
        · rename_i nss e2
          split at q
          · rename_i hc
            obtain ⟨h1, h2', h3⟩ := hc
            have e3 := dTups_of e2
            subst e3
            have hb : ∀ ns ∈ nss, ns.length = (nss.headD []).length ∧ TS.Bd (2 ^ 64) ns := fun ns m => by
              have := List.all_eq_true.mp h3 ns m
              simp only [Bool.and_eq_true, beq_iff_eq, List.all_eq_true, decide_eq_true_eq] at this
              exact ⟨this.1, fun m hm => this.2 m hm⟩
            refine .inr ⟨_, 2 ^ 64, h2', p, vs, rfl, a1, by rw [a2.length, List.length_map]; exact h1, fun x hx => ?_, fun ys l hp hw hl => ?_⟩
            · obtain ⟨d, hd, r⟩ := a2.mem hx
              obtain ⟨ns, hn, rfl⟩ := List.mem_map.mp hd
              exact ⟨ns, TupI.same s (rep_tup r), hb ns hn⟩
            · obtain ⟨es, r1, r2⟩ := a2.perm hp
              obtain ⟨mss, rfl, hm⟩ : ∃ mss : List (List Int), es = mss.map tupD ∧ mss.Perm nss := by
                have key : ∀ {as bs : List D}, as.Perm bs → ∀ ns : List (List Int), bs = ns.map tupD → ∃ ms : List (List Int), as = ms.map tupD ∧ ms.Perm ns := fun {as bs} h => by
                  induction h with
                  | nil => intro ns h; cases ns with | nil => exact ⟨[], rfl, .nil⟩ | cons _ _ => simp at h
                  | cons x _ ih => intro ns h; cases ns with
                    | nil => simp at h
                    | cons n ns => simp at h; obtain ⟨ms, a, b⟩ := ih ns h.2; exact ⟨n :: ms, by simp [h.1, a], b.cons _⟩
                  | swap x y l => intro ns h; match ns, h with
                    | n :: m :: ns, h => simp at h; exact ⟨m :: n :: ns, by simp [h.1, h.2.1, h.2.2], .swap _ _ _⟩
                  | trans _ _ ih1 ih2 => intro ns h; obtain ⟨ms, a, b⟩ := ih2 ns h; obtain ⟨ks, c, d⟩ := ih1 ms a; exact ⟨ks, c, d.trans b⟩
                exact key r2 nss rfl
              have pw : mss.Pairwise (fun a b => TS.code (2 ^ 64) a ≤ TS.code (2 ^ 64) b) := repL_pw (fun u v n m hu hv h => h n m (TupI.same s hu) (TupI.same s hv)) r1 hw
              have pw2 : mss.Pairwise (fun a b => lexLe a b = true) := pw.imp_of_mem fun {a b} ha hb' h => by
                obtain ⟨k1, k2⟩ := hb a (hm.mem_iff.mp ha)
                obtain ⟨k3, k4⟩ := hb b (hm.mem_iff.mp hb')
                exact lexLe_code a b (k1.trans k3.symm) k2 k4 h
              have e4 := sortT_eq hm pw2
              subst e4
              exact VPost.lst q s r1 hl
          · exact q.elim
        · exact q.elim
    · exact q.elim
  · exact q.elim
end Tl
namespace Tl
open PySem PySem.Spec L2

/-! ### working out mirrors -/
def D.ty : D → Ty
  | .non => .non
  | .bl _ => .bool
  | .int _ => .int
  | .str _ => .str
  | .tup _ => .tuple
  | .lst _ => .list
  | .scr _ => .list
  | .dK _ => .dict
  | .dT _ => .dict
section
variable {env e' : Env} {d : D} {i n : Nat} {o : OD} {β γ δ : Type}
@[simp] theorem eC_e : eC d env = .ok (.own (.fz d)) := id rfl
theorem eVar_e : eVar i env = match env[i]? with
  | some (.fz d) => .ok (.own (.fz d))
  | some .un => .bad
  | some o => .ok (.view o)
  | none => .bad := id rfl
@[simp] theorem eVar_fz (h : env[i]? = some (.fz d)) : eVar i env = .ok (.own (.fz d)) := by rw [eVar_e, h]
@[simp] theorem eVar_lst {os : List OD} (h : env[i]? = some (.lst os)) : eVar i env = .ok (.view (.lst os)) := by rw [eVar_e, h]
@[simp] theorem eVar_tup {os : List OD} (h : env[i]? = some (.tup os)) : eVar i env = .ok (.view (.tup os)) := by rw [eVar_e, h]
@[simp] theorem eVar_dK {os : List (Key × OD)} (h : env[i]? = some (.dK os)) : eVar i env = .ok (.view (.dK os)) := by rw [eVar_e, h]
@[simp] theorem eVar_dT {os : List (List Key × OD)} (h : env[i]? = some (.dT os)) : eVar i env = .ok (.view (.dT os)) := by rw [eVar_e, h]
@[simp] theorem eFrz_fz (h : env[i]? = some (.fz d)) : eFrz i env = .ok (.own (.fz d)) := by simp [eFrz, h]
theorem eFrz_o (h : env[i]? = some o) (hd : frz o = some d) (hn : ∀ d, o ≠ .fz d) : eFrz i env = .eff (.own (.fz d)) (env.set i (.fz d)) := by
  cases o <;> first | exact absurd rfl (hn _) | simp [eFrz, h, hd]
@[simp] theorem eFrz_lst {os : List OD} (h : env[i]? = some (.lst os)) : eFrz i env = match frz (.lst os) with
    | some d => .eff (.own (.fz d)) (env.set i (.fz d))
    | none => .bad := by first | (unfold eFrz; rw [h]; done) | (unfold eFrz; rw [h]; rfl)
@[simp] theorem eMove_fz (h : env[i]? = some (.fz d)) : eMove i env = .eff (.own (.fz d)) (env.set i .un) := by simp [eMove, h]
@[simp] theorem eMove_lst {os : List OD} (h : env[i]? = some (.lst os)) : eMove i env = .eff (.own (.lst os)) (env.set i .un) := by simp [eMove, h]
@[simp] theorem eMove_tup {os : List OD} (h : env[i]? = some (.tup os)) : eMove i env = .eff (.own (.tup os)) (env.set i .un) := by simp [eMove, h]
@[simp] theorem at_ok {safe : β → Bool} {a : β} {k : β → Env → O γ} {j : β → γ → δ} : O.andThen safe (.ok a) env k j = match k a env with
    | .ok b => .ok (j a b)
    | .eff b env2 => if safe a then .eff (j a b) env2 else .bad
    | .exc c e => .exc c e
    | .bad => .bad := id rfl
@[simp] theorem at_eff {safe : β → Bool} {a : β} {k : β → Env → O γ} {j : β → γ → δ} : O.andThen safe (.eff a e') env k j = match k a e' with
    | .ok b => .eff (j a b) e'
    | .eff b env2 => if safe a then .eff (j a b) env2 else .bad
    | .exc c e => .exc c e
    | .bad => .bad := id rfl
@[simp] theorem at_exc {safe : β → Bool} {c : Str} {k : β → Env → O γ} {j : β → γ → δ} : O.andThen safe (.exc c e') env k j = .exc c e' := id rfl
@[simp] theorem mp_ok {g : β → Option γ} {a : β} : O.mapP g (.ok a) = match g a with
    | some b => .ok b
    | none => .bad := id rfl
@[simp] theorem mp_eff {g : β → Option γ} {a : β} : O.mapP g (.eff a e') = match g a with
    | some b => .eff b e'
    | none => .bad := id rfl
@[simp] theorem mp_exc {g : β → Option γ} {c : Str} : O.mapP g (.exc c e') = .exc c e' := id rfl
@[simp] theorem e1_e {g : RV → Option RV} {f : Env → O RV} : e1 g f env = (f env).mapP g := id rfl
@[simp] theorem e2_e {g : RV × RV → Option RV} {f f2 : Env → O RV} : e2 g f f2 env = ((f env).andThen RV.safe env (fun _ e => f2 e) Prod.mk).mapP g := id rfl
@[simp] theorem e3c_e {g g' : RV × RV → Option RV} {fa fb fc : Env → O RV} : e3c g g' fa fb fc env = (((fa env).andThen RV.safe env (fun _ e => fb e) Prod.mk).mapP (ch1 g)).andThen (fun _ => true) env (fun p e => if p.1 = true then (fc e).mapP fun r => g' (.own (.fz (.int p.2)), r) else .ok (.own (.fz (.bl false)))) (fun _ c => c) := id rfl
@[simp] theorem aNil_e : aNil env = .ok [] := id rfl
@[simp] theorem aCons_e {f : Env → O RV} {r : Env → O (List RV)} : aCons f r env = (f env).andThen RV.safe env (fun _ e => r e) List.cons := id rfl
@[simp] theorem eL_e {g : List RV → Option RV} {f : Env → O (List RV)} : eL g f env = (f env).mapP g := id rfl
@[simp] theorem tV_e {g : RV → Option Bool} {f : Env → O RV} : tV g f env = (f env).mapP g := id rfl
@[simp] theorem bNot_e {f : Env → O Bool} : bNot f env = (f env).mapP fun b => some (!b) := id rfl
@[simp] theorem bAnd_e {f g : Env → O Bool} : bAnd f g env = (f env).andThen (fun _ => true) env (fun b e => if b = true then g e else .ok false) (fun _ c => c) := id rfl
@[simp] theorem bOr_e {f g : Env → O Bool} : bOr f g env = (f env).andThen (fun _ => true) env (fun b e => if b = true then .ok true else g e) (fun _ c => c) := id rfl
@[simp] theorem eB_e {f : Env → O Bool} : eB f env = (f env).mapP fun b => some (.own (.fz (.bl b))) := id rfl
@[simp] theorem eAnd_e {f g : Env → O RV} : eAnd f g env = ((f env).mapP RV.bool?).andThen (fun _ => true) env (fun b e => if b = true then g e else .ok (.own (.fz (.bl false)))) (fun _ c => c) := id rfl
@[simp] theorem eOr_e {f g : Env → O RV} : eOr f g env = ((f env).mapP RV.bool?).andThen (fun _ => true) env (fun b e => if b = true then .ok (.own (.fz (.bl true))) else g e) (fun _ c => c) := id rfl
@[simp] theorem bIf_e {c : Env → O Bool} {f g : Env → O β} : bIf c f g env = (c env).andThen (fun _ => true) env (fun b e => if b = true then f e else g e) (fun _ d => d) := id rfl
@[simp] theorem sE_e {f : Env → O β} {k : β → Env → SO} : sE f k env = match f env with
    | .ok r => k r env
    | .eff r e => k r e
    | .exc c e => .exc c e
    | .bad => .bad := id rfl
@[simp] theorem sSeq_e {f g : Env → SO} : sSeq f g env = match f env with
    | .nx e => g e
    | o => o := id rfl
@[simp] theorem sNx_e : sNx env = .nx env := id rfl
@[simp] theorem sBk_e : sBk env = .bk env := id rfl
@[simp] theorem sCt_e : sCt env = .ct env := id rfl
@[simp] theorem sRetN_e : sRetN env = .rt (.fz .non) env := id rfl
@[simp] theorem sRaise_e {c : Str} : sRaise c env = .exc c env := id rfl
@[simp] theorem sExpr_e {f : Env → O RV} : sExpr f env = sE f (fun _ e => .nx e) env := id rfl
@[simp] theorem kRet_own : kRet (.own o) env = .rt o env := id rfl
@[simp] theorem kRet_view : kRet (.view o) env = .bad := id rfl
@[simp] theorem sRet_e {f : Env → O RV} : sRet f env = sE f kRet env := id rfl
@[simp] theorem sIf_e {c : Env → O Bool} {f g : Env → SO} : sIf c f g env = sE c (fun b e => if b = true then f e else g e) env := id rfl
@[simp] theorem kAsg_own {g : OD → Env → Option Env} : kAsg g (.own o) env = match g o env with
    | some e' => .nx e'
    | none => .bad := id rfl
@[simp] theorem sAsg_e {f : Env → O RV} {g : OD → Env → Option Env} : sAsg f g env = sE f (kAsg g) env := id rfl
@[simp] theorem gSet_e (h : i < env.length) : gSet i o env = some (env.set i o) := by simp [gSet, h]
@[simp] theorem safe_fz : RV.safe (.own (.fz d)) = true := id rfl
@[simp] theorem bool_b {b : Bool} {r : RV} (h : r.od = .fz (.bl b)) : r.bool? = some b := by unfold RV.bool?; rw [h]
@[simp] theorem tru_bl {b : Bool} : OD.tru (.fz (.bl b)) = some b := id rfl
theorem g2i_e {op : Int → Int → Option D} {a b : Int} : g2i op (.own (.fz (.int a)), .own (.fz (.int b))) = (op a b).map fun d => .own (.fz d) := id rfl
@[simp] theorem gAdd_i {a b : Int} : gAdd (.own (.fz (.int a)), .own (.fz (.int b))) = some (.own (.fz (.int (a + b)))) := id rfl
@[simp] theorem gNeg_i {a : Int} : gNeg (.own (.fz (.int a))) = some (.own (.fz (.int (-a)))) := id rfl
@[simp] theorem gEq_e {x y : D} (h1 : dOk x = true) (h2 : dOk y = true) : gEq (.own (.fz x), .own (.fz y)) = some (.own (.fz (.bl (dEq x y)))) := by simp [gEq, OD.plain, h1, h2]
@[simp] theorem dOk_i {a : Int} : dOk (.int a) = true := by simp [dOk, SeqAt.shaped, pd, PyData.canLay0, PyData.depth]
@[simp] theorem dOk_b {a : Bool} : dOk (.bl a) = true := by simp [dOk, SeqAt.shaped, pd, PyData.canLay0, PyData.depth]
@[simp] theorem dOk_s {a : Str} (h : PyData.strOk a = true) : dOk (.str a) = true := by simp [dOk, SeqAt.shaped, pd, PyData.canLay0, h, PyData.depth]
@[simp] theorem dOk_n : dOk .non = true := by simp [dOk, SeqAt.shaped, pd, PyData.canLay0, PyData.depth]
@[simp] theorem dEq_i {a b : Int} : dEq (.int a) (.int b) = (a == b) := by simp [dEq, pd, PyData.eqv]
@[simp] theorem dEq_b {a b : Bool} : dEq (.bl a) (.bl b) = (a == b) := by simp [dEq, pd, PyData.eqv]
@[simp] theorem g2i_iDiv {a b : Int} : g2i iDiv (.own (.fz (.int a)), .own (.fz (.int b))) = (iDiv a b).map fun d => .own (.fz d) := id rfl
@[simp] theorem g2i_iMod {a b : Int} : g2i iMod (.own (.fz (.int a)), .own (.fz (.int b))) = (iMod a b).map fun d => .own (.fz d) := id rfl
@[simp] theorem g2i_iPow {a b : Int} : g2i iPow (.own (.fz (.int a)), .own (.fz (.int b))) = (iPow a b).map fun d => .own (.fz d) := id rfl
@[simp] theorem g2i_iShl {a b : Int} : g2i iShl (.own (.fz (.int a)), .own (.fz (.int b))) = (iShl a b).map fun d => .own (.fz d) := id rfl
@[simp] theorem g2i_iShr {a b : Int} : g2i iShr (.own (.fz (.int a)), .own (.fz (.int b))) = (iShr a b).map fun d => .own (.fz d) := id rfl
theorem log2_small {n : Nat} (h : n < 2 ^ 64) : n.log2 < 9000 := by
  by_cases e : n = 0
  · subst e; decide
  · have := (Nat.log2_lt e).mpr h; omega
@[simp] theorem iDiv_e {a b : Int} (h : 0 < b) (h2 : b < 2 ^ 64) : iDiv a b = some (.int (a / b)) := by
  have : b.natAbs.log2 < 9000 := log2_small (by omega)
  simp [iDiv, h, this]
@[simp] theorem iMod_e {a b : Int} (h : 0 < b) : iMod a b = some (.int (a % b)) := by simp [iMod, h]
@[simp] theorem iPow_e {a b : Int} (h : 0 ≤ b) (h2 : b ≤ 1000000) (h3 : a.natAbs < 2 ^ 64) : iPow a b = some (.int (a ^ b.toNat)) := by simp only [iPow, h, h2, h3, and_self, if_true]
@[simp] theorem gMul_i {a b : Int} (h : mulSafe a b) : gMul (.own (.fz (.int a)), .own (.fz (.int b))) = some (.own (.fz (.int (a * b)))) := by simp [gMul, h]
theorem mulSafe_l {a b : Int} (h : -(2 ^ 64) < a ∧ a < 2 ^ 64) : mulSafe a b := .inl h
theorem mulSafe_r {a b : Int} (h : -(2 ^ 64) < b ∧ b < 2 ^ 64) : mulSafe a b := .inr (.inl h)
@[simp] theorem mulSafe_e {a b : Int} (h : -(2 ^ 64) < a) (h' : a < 2 ^ 64) : mulSafe a b := .inl ⟨h, h'⟩
@[simp] theorem mulSafe_e' {a b : Int} (h : -(2 ^ 64) < b) (h' : b < 2 ^ 64) : mulSafe a b := .inr (.inl ⟨h, h'⟩)
@[simp] theorem iSub_e {a b : Int} : g2i (fun i j => some (iSub i j)) (.own (.fz (.int a)), .own (.fz (.int b))) = some (.own (.fz (.int (a - b)))) := id rfl
@[simp] theorem iLt_e {a b : Int} : g2i (fun i j => some (iLt i j)) (.own (.fz (.int a)), .own (.fz (.int b))) = some (.own (.fz (.bl (decide (a < b))))) := id rfl
@[simp] theorem iLe_e {a b : Int} : g2i (fun i j => some (iLe i j)) (.own (.fz (.int a)), .own (.fz (.int b))) = some (.own (.fz (.bl (decide (a ≤ b))))) := id rfl
@[simp] theorem iGt_e {a b : Int} : g2i (fun i j => some (iGt i j)) (.own (.fz (.int a)), .own (.fz (.int b))) = some (.own (.fz (.bl (decide (b < a))))) := id rfl
@[simp] theorem iGe_e {a b : Int} : g2i (fun i j => some (iGe i j)) (.own (.fz (.int a)), .own (.fz (.int b))) = some (.own (.fz (.bl (decide (b ≤ a))))) := id rfl
@[simp] theorem gath_nil : gath [] env = some ([], env) := by simp [gath]
@[simp] theorem gath_rv {as : List AR} : gath (.rv (.own (.fz d)) :: as) env = match gath as env with
      | some (ds, e) => some (.fz d :: ds, e)
      | none => none := by cases h : gath as env <;> simp [gath, RV.argO, RV.plainArg, h]
@[simp] theorem callAt_e {Fm : List OD → FO} {ars : List AR} {t : Bool} : callAt Fm ars env t = match gath ars env with
    | none => .bad
    | some (ds, envh) => if (looks ars && (hasIo ars || hasTmp ars)) = true then .bad else
      match Fm ds with
      | .ret o ds' => if (lends ars && !(nfo o && nfIo ars ds')) = true then .bad else if (hasIo ars || t) = true then .eff (.own o) (putB ars ds' envh) else .ok (.own o)
      | .exc c ds' => if (lends ars && !(nfIo ars ds')) = true then .bad else .exc c (putB ars ds' envh)
      | .bad => .bad := id rfl
@[simp] theorem gath_v {as : List AR} : gath (.rv (.view o) :: as) env = match (RV.view o).argO with
    | some d => match gath as env with
      | some (ds, e) => some (d :: ds, e)
      | none => none
    | none => none := by cases h : gath as env <;> cases h2 : (RV.view o).argO <;> simp [gath, h, h2]
@[simp] theorem plainArg_l {os : List OD} : (RV.view (.lst os)).argO = (frzL os).map fun ds => .fz (.lst ds) := by simp [RV.argO, RV.plainArg, frz, Function.comp_def]
@[simp] theorem plainArg_t {os : List OD} : (RV.view (.tup os)).argO = (frzL os).map fun ds => .fz (.tup ds) := by simp [RV.argO, RV.plainArg, frz, Function.comp_def]
@[simp] theorem frzL_n : frzL [] = some [] := by simp [frzL]
@[simp] theorem frzL_c {os : List OD} : frzL (.fz d :: os) = (frzL os).map (d :: ·) := by cases h : frzL os <;> simp [frzL, frz, h]
@[simp] theorem looks_v {as : List AR} (h : (RV.view o).lent = true) : looks (.rv (.view o) :: as) = true := by simp [looks, h]
@[simp] theorem lends_v {as : List AR} (h : (RV.view o).lent = true) : lends (.rv (.view o) :: as) = true := by simp [lends, h]
@[simp] theorem lent_l {os : List OD} : (RV.view (.lst os)).lent = true := by simp [RV.lent]
@[simp] theorem lent_t {os : List OD} : (RV.view (.tup os)).lent = true := by simp [RV.lent]
@[simp] theorem hasTmp_n : hasTmp [] = false := by simp [hasTmp]
@[simp] theorem hasTmp_c {as : List AR} {r : RV} : hasTmp (.rv r :: as) = hasTmp as := by simp [hasTmp]
@[simp] theorem nfo_b {b : Bool} : nfo (.fz (.bl b)) = true := by simp [nfo, nfl]
@[simp] theorem nfo_i {b : Int} : nfo (.fz (.int b)) = true := by simp [nfo, nfl]
@[simp] theorem nfo_s {b : Str} : nfo (.fz (.str b)) = true := by simp [nfo, nfl]
@[simp] theorem nfo_n : nfo (.fz .non) = true := by simp [nfo, nfl]
@[simp] theorem nfIo_n {ds : List OD} : nfIo [] ds = true := by simp [nfIo]
@[simp] theorem nfIo_c {as : List AR} {ds : List OD} {r : RV} : nfIo (.rv r :: as) (o :: ds) = nfIo as ds := by simp [nfIo]
@[simp] theorem gNe_e {x y : D} (h1 : dOk x = true) (h2 : dOk y = true) : gNe (.own (.fz x), .own (.fz y)) = some (.own (.fz (.bl (!dEq x y)))) := by simp [gNe, OD.plain, h1, h2]
@[simp] theorem looks_nil : looks [] = false := by simp [looks]
@[simp] theorem lends_nil : lends [] = false := by simp [lends]
@[simp] theorem hasIo_nil : hasIo [] = false := by simp [hasIo]
@[simp] theorem looks_fz {as : List AR} : looks (.rv (.own (.fz d)) :: as) = looks as := by simp [looks]
@[simp] theorem lends_fz {as : List AR} : lends (.rv (.own (.fz d)) :: as) = lends as := by simp [lends, RV.lent]
@[simp] theorem hasIo_rv {as : List AR} {r : RV} : hasIo (.rv r :: as) = hasIo as := by simp [hasIo]
@[simp] theorem ty_n : D.ty .non = .non := id rfl
@[simp] theorem ty_b {b : Bool} : D.ty (.bl b) = .bool := id rfl
@[simp] theorem ty_i {b : Int} : D.ty (.int b) = .int := id rfl
@[simp] theorem ty_s {b : Str} : D.ty (.str b) = .str := id rfl
@[simp] theorem ty_t {b : List D} : D.ty (.tup b) = .tuple := id rfl
@[simp] theorem ty_l {b : List D} : D.ty (.lst b) = .list := id rfl
@[simp] theorem ty_c {b : List D} : D.ty (.scr b) = .list := id rfl
@[simp] theorem isi_fz {T : Ty} : gIsi T (.own (.fz d)) = some (.own (.fz (.bl (d.ty.is T)))) := by cases d <;> rfl
@[simp] theorem isi_lst {T : Ty} {os : List OD} : gIsi T (.own (.lst os)) = some (.own (.fz (.bl (Ty.list.is T)))) := id rfl
@[simp] theorem isi_vlst {T : Ty} {os : List OD} : gIsi T (.view (.lst os)) = some (.own (.fz (.bl (Ty.list.is T)))) := id rfl
@[simp] theorem isi_vtup {T : Ty} {os : List OD} : gIsi T (.view (.tup os)) = some (.own (.fz (.bl (Ty.tuple.is T)))) := id rfl
@[simp] theorem gStr_e {a : Int} (h : a.natAbs < 2 ^ 64) : gStr [.own (.fz (.int a))] = some (.own (.fz (.str (toString a)))) := by
  have : a.natAbs.log2 < 1920 := by
    by_cases e : a.natAbs = 0
    · rw [e]; decide
    · have := (Nat.log2_lt e).mpr h; omega
  show (if a.natAbs.log2 < 1920 then _ else _) = _
  rw [if_pos this]
@[simp] theorem ow_n : owns [] = some [] := by simp [owns]
@[simp] theorem ow_c {rs : List RV} : owns (.own o :: rs) = (owns rs).map (o :: ·) := by cases h : owns rs <;> simp [owns, h]
@[simp] theorem gLst_e {rs : List RV} {os : List OD} (h : rs.length ≤ 1000) (h2 : owns rs = some os) : gLst rs = some (.own (.lst os)) := by simp [gLst, h, h2]
@[simp] theorem gTup_e {rs : List RV} {os : List OD} {ds : List D} (h : rs.length ≤ 1000) (h2 : owns rs = some os) (h3 : fzs os = some ds) : gTup rs = some (.own (.fz (.tup ds))) := by simp [gTup, h, h2, h3]
@[simp] theorem fz_n : fzs [] = some [] := by simp [fzs]
@[simp] theorem fzs_fz {os : List OD} : fzs (.fz d :: os) = (fzs os).map (d :: ·) := by cases h : fzs os <;> simp [fzs, h]
@[simp] theorem eSl3_e {f : Env → O RV} {g h : Env → O (Option Int)} : eSl3 f g h env = ((f env).andThen RV.safe env (fun _ e => (g e).andThen (fun _ => true) e (fun _ e => h e) Prod.mk) (fun a b => ((a, b.1), b.2))).mapP gSl := id rfl
@[simp] theorem pNo_e : pNo env = .ok none := id rfl
@[simp] theorem pSo_e {f : Env → O RV} : pSo f env = (f env).mapP fun r => r.int?.map some := id rfl
@[simp] theorem int_fz {a : Int} : RV.int? (.own (.fz (.int a))) = some a := id rfl
@[simp] theorem gSl_scr {ds : List D} {lo hi : Option Int} : gSl ((.own (.fz (.scr ds)), lo), hi) = some (.own (.lst ((cutD ds lo hi).map .fz))) := id rfl
@[simp] theorem gSl_lst {ds : List D} {lo hi : Option Int} : gSl ((.own (.fz (.lst ds)), lo), hi) = some (.own (.lst ((cutD ds lo hi).map .fz))) := id rfl
@[simp] theorem gSl_tup {ds : List D} {lo hi : Option Int} : gSl ((.own (.fz (.tup ds)), lo), hi) = some (.own (.fz (.tup (cutD ds lo hi)))) := id rfl
theorem gSl_o {os : List OD} {ds : List D} {lo hi : Option Int} (h : fzs os = some ds) : gSl ((.own (.lst os), lo), hi) = some (.own (.lst ((cutD ds lo hi).map .fz))) := by
  show (match fzs os with | some ds => some (RV.own (.lst ((cutD ds lo hi).map .fz))) | none => _) = _
  rw [h]
theorem gSl_v {os : List OD} {ds : List D} {lo hi : Option Int} (h : fzs os = some ds) : gSl ((.view (.lst os), lo), hi) = some (.own (.lst ((cutD ds lo hi).map .fz))) := by
  show (match fzs os with | some ds => some (RV.own (.lst ((cutD ds lo hi).map .fz))) | none => _) = _
  rw [h]
theorem gAdd_l {r u : RV} {os us : List OD} {xs ys : List D} (hr : r.od = .lst os) (hu : u.od = .lst us) (h1 : fzs os = some xs) (h2 : fzs us = some ys) (h3 : xs.length + ys.length ≤ sizeLine) : gAdd (r, u) = some (.own (.lst ((xs ++ ys).map .fz))) := by
  unfold gAdd
  rw [hr, hu]
  show (match fzs os, fzs us with
    | some xs, some ys => if xs.length + ys.length ≤ sizeLine then some (RV.own (.lst ((xs ++ ys).map .fz))) else none
    | _, _ => _) = _
  rw [h1, h2]
  exact if_pos h3
/-- a cut of any list -/
def cutL {α : Type} (xs : List α) (lo hi : Option Int) : List α := (xs.drop (HT.sIx xs.length 0 lo)).take (HT.sIx xs.length xs.length hi - HT.sIx xs.length 0 lo)
theorem cutD_map {α : Type} {xs : List α} {f : α → D} {lo hi : Option Int} : cutD (xs.map f) lo hi = (cutL xs lo hi).map f := by
  unfold cutD cutL
  rw [List.length_map, List.map_take, List.map_drop]
theorem cutL_len {α : Type} {xs : List α} {lo hi : Option Int} : (cutL xs lo hi).length ≤ xs.length := by
  unfold cutL
  rw [List.length_take, List.length_drop]
  omega
@[simp] theorem items_lst {ds : List D} : gItems (.own (.lst (ds.map .fz))) = some ds := (items_of (by simp [OD.sitems]))
@[simp] theorem items_flst {ds : List D} : gItems (.own (.fz (.lst ds))) = some ds := (items_of rfl)
@[simp] theorem items_scr {ds : List D} : gItems (.own (.fz (.scr ds))) = some ds := (items_of rfl)
@[simp] theorem items_tup {ds : List D} : gItems (.own (.fz (.tup ds))) = some ds := (items_of rfl)
@[simp] theorem sFor_e {f : Env → O (List D)} {g : OD → Env → Option Env} {body : Env → SO} : sFor f g body env = sE f (forGo g body) env := id rfl
/-- a loop that goes to its end, by what holds behind each turn -/
theorem for_all {P : Env → Prop} {g : OD → Env → Option Env} {body : Env → SO} {ds : List D} (h0 : P env) (h : ∀ d ∈ ds, ∀ env, P env → ∃ e1 e2, g (.fz d) env = some e1 ∧ (body e1 = .nx e2 ∨ body e1 = .ct e2) ∧ P e2) : ∃ e, forGo g body ds env = .nx e ∧ P e := by
  induction ds generalizing env with
  | nil => exact ⟨env, rfl, h0⟩
  | cons d ds ih =>
    obtain ⟨e1, e2, a, b, c⟩ := h d (by simp) env h0
    obtain ⟨e3, a3, b3⟩ := ih c fun d m => h d (by simp [m])
    refine ⟨e3, ?_, b3⟩
    dsimp only [forGo]
    rw [a]
    rcases b with b | b <;> (simp only [b]; exact a3)
@[simp] theorem cNil_e : cNil env = .ok [] := id rfl
@[simp] theorem cVal_e {f : Env → O RV} {r : Env → O (List AR)} : cVal f r env = (f env).andThen RV.safe env (fun _ e => r e) (fun a b => .rv a :: b) := id rfl
@[simp] theorem eCall_e {Fm : List OD → FO} {f : Env → O (List AR)} : eCall Fm f env = match f env with
    | .ok ars => callAt Fm ars env false
    | .eff ars env1 => callAt Fm ars env1 true
    | .exc c e => .exc c e
    | .bad => .bad := id rfl
end
end Tl
namespace EnT
open PySem
open PySem.Sem (wp)
open AutoSeq1 (wpAny_loadPart')
/-! ### enumerate of a tuple -/
abbrev eT1 (h : Heap) (t : Addr) : Heap := h.push { cls := .type "tuple_iterator", data := .fields #[.ref t, .int 0 0] }
abbrev eT2 (h : Heap) (t : Addr) : Heap := (eT1 h t).push { cls := .type "enumerate", data := .fields #[.none, .bool false, .ref h.objs.size, rawInt 0, .none, .none] }
theorem enumT_new (t : Addr) (xs : Array Value) :
    Meets (Builtin.«enumerate.__new__» ⟨[.type "enumerate", .ref t], []⟩) (fun _ R s => s.heap.IsTuple t xs ∧ R (.ok (.ret (.ref (eT1 s.heap t).objs.size))) { s with heap := eT2 s.heap t }) :=
  .of_wp fun prog w A R s h => by
    obtain ⟨hp, g, d, tk, os⟩ := s
    obtain ⟨hl, h⟩ := h
    obtain ⟨⟨c, dct, dt, sl⟩, hg, hc, n, hd⟩ := id hl
    replace hc : c = .type "tuple" := hc
    replace hd : dt = .seq xs n := hd
    subst hc hd
    have hsub := sub_enumerate
    have hT : Heap.IsTuple (Shared.heap ⟨hp, g, d, tk, os⟩) t xs := hl
    wp_walk using wpAny_loadPart' hg
    refine wpAny_stack_any fun st => wpAny_pure ?_
    split
    · rename_i c _ _ _ _ _
      cases (c == Value.type "enumerate")
      · wp_walk using wpAny_loadPart' hg, wpAny_pyIter_tuple hT
        exact ⟨_, rfl, h⟩
      · wp_walk using wpAny_loadPart' hg, wpAny_pyIter_tuple hT
        exact ⟨_, rfl, h⟩
    · wp_walk using wpAny_loadPart' hg, wpAny_pyIter_tuple hT
      exact ⟨_, rfl, h⟩
section
variable {prog : Program} {w : World} {A : Around} {E : Value → Shared → Prop} {s : Shared}
theorem call_enumT {t : Addr} {xs : Array Value} {Q : Value → Shared → Prop} (hl : s.heap.IsTuple t xs)
    (h : ∀ h', IsEnum h' (s.heap.objs.size + 1) s.heap.objs.size 0 .none → h'.IsTupleIter s.heap.objs.size t 0 → h'.objs.size = s.heap.objs.size + 2 →
      (∀ b o, s.heap.get? b = some o → h'.get? b = some o) → Q (.ref (s.heap.objs.size + 1)) { s with heap := h' }) :
    wpAny (model prog w) A (call (.type "enumerate") [.ref t]) Q E s := by
  refine callType_new F.called_enumerate (by decide) (F.typeCall_enumerate_1 _) (F.newCall_enumerate_1 _) (fun obj => F.args_object_init_2 obj _) F.entry_enumerate_new
    (enumT_new t xs) ⟨hl, ?_⟩
  have hz : (eT1 s.heap t).objs.size = s.heap.objs.size + 1 := Heap.size_push ..
  show _ ∧ _
  rw [hz]
  have he : IsEnum (eT2 s.heap t) (s.heap.objs.size + 1) s.heap.objs.size 0 .none := by
    have := Heap.get?_push_size (eT1 s.heap t) (o := { cls := .type "enumerate", data := .fields #[.none, .bool false, .ref s.heap.objs.size, rawInt 0, .none, .none] }) rfl
    rw [hz] at this; exact this
  refine ⟨⟨_, he, rfl⟩, h _ he ⟨_, Heap.get?_push_of_some _ (Heap.get?_push_size _ rfl), rfl, rfl⟩ (by rw [Heap.size_push, hz]) fun b o x => Heap.get?_push_of_some _ (Heap.get?_push_of_some _ x)⟩
theorem drawsT (hh : A.handled = none) (it t : Addr) (hne : t ≠ it) (items : Array Value) : Draws prog w A it [it, t] items.size (fun i v => items[i]? = some v) (fun i h => h.IsTupleIter it t i ∧ h.IsTuple t items) where
  live := fun i h st => let ⟨⟨o, ho, _⟩, _⟩ := st; ⟨o, ho⟩
  frame := fun i h h' st k => by
    obtain ⟨h1, o, ho, r⟩ := st
    exact ⟨h1.at fun o q => k it (by simp) o q, o, k t (by simp) o ho, r⟩
  item := fun i s Q E hi st hQ => by
    obtain ⟨h1, h2⟩ := st
    refine RZ.nextOf_tuple_item h1 h2 (x := items[i]) (by simp [hi]) fun h' h1' sb => ?_
    obtain ⟨o, ho, r⟩ := id h2
    exact hQ items[i] h' s.toks (by simp [hi]) ⟨h1', o, (sb.2 _ hne).trans ho, r⟩ sb
  done := fun s Q E st hE => RZ.nextOf_tuple_end hh st.1 st.2 (by simp) hE
end
end EnT
namespace Tl
open PySem PySem.Spec L2
/-- the tuple at a as it stands at each turn, each item in a new pair -/
def IteT (K : PySem.W.Frag) (a : Addr) : It :=
  ⟨fun i H => ∃ (xs : List V) (x : V), SqT K H a xs ∧ xs[i]? = some x, fun i H v H' => ∃ T x, v = .ref T ∧ H T = none ∧ H' = upd H T (.tup [.int (i : Nat), x]) ∧ ∀ xs, SqT K H a xs → xs[i]? = some x, fun i H => ∃ xs : List V, SqT K H a xs ∧ xs.length = i⟩
theorem turn_enumT {P : Program} {w : World} {K : PySem.W.Frag} {elts : List Expr} {kk : Nat} {tpos : Pos} (a e it : Addr) :
    Turn P w K (.Tuple elts kk tpos) (IteT K a) [e, it] e (fun i h => (∃ old, IsEnum h e it ((i : Nat) : Int) old) ∧ h.IsTupleIter it a i ∧ e ≠ it ∧ a ≠ it) where
  mem := by simp
  obj := fun i h st b hb => by
    obtain ⟨⟨old, he⟩, ⟨o, ho, hc, hd⟩, _⟩ := st
    have e' : b = e ∨ b = it := by simpa using hb
    rcases e' with z | z
    · rw [z]; exact ⟨_, he, fun v q => nomatch q⟩
    · rw [z]; exact ⟨o, ho, fun v q => by rw [hd] at q; cases q⟩
  keep := fun i h h' st k => let ⟨⟨old, he⟩, hi, hne⟩ := st; ⟨⟨old, k e (by simp) _ he⟩, hi.at fun o q => k it (by simp) o q, hne⟩
  item := by
    intro X hP hw hK hc i pins s σ H E I hf st hg
    subst hP hw hK
    obtain ⟨⟨old, he⟩, hit, hne, hae⟩ := st
    obtain ⟨xs, x, hq, hx⟩ := hg
    obtain ⟨its, rv, p, hz⟩ := I.tuple hq
    obtain ⟨u, hu, ru⟩ := rv.get hx
    have hel : e < s.heap.objs.size := Heap.lt_size he
    have hil : it < s.heap.objs.size := by obtain ⟨_, q, _⟩ := hit; exact Heap.lt_size q
    have hlt : i < its.toArray.size := by
      have := (List.getElem?_eq_some_iff.mp hu).1
      simpa using this
    have hea : e ≠ a := fun z => by
      obtain ⟨o, ho, r1, _⟩ := p
      rw [z] at he
      rw [show s.heap.get? a = _ from he] at ho
      cases ho
      exact nomatch (show Value.type "enumerate" = Value.type "tuple" from r1)
    refine wpAny_pyNext_enum_itemD (EnT.drawsT (A := X.A.in1) (I.ok.hd hc) it a hae its.toArray) he ⟨hit, p⟩ hlt hne (by simp [hne, hea]) fun x1 h' tk hP ho ⟨hit', _⟩ hT hsz hk => ?_
    have ex : x1 = u := by
      have : its.toArray[i]? = some u := by simpa using hu
      exact Option.some.inj (hP.symm.trans this)
    subst ex
    refine ⟨_, rfl, wpAny_letOwnedTupleGo_enum (s := { s with heap := h', toks := tk + 1 }) ho fun h'' he' sb => ?_⟩
    have hT2 : h''.get? s.heap.objs.size = some { cls := .type "tuple", data := .seq #[.int i tk, x1] } := (sb.2 _ (Nat.ne_of_gt hel)).trans hT
    have new : ObjOk X.prog X.w (upd H s.heap.objs.size (.tup [.int (i : Nat), x])) h'' s.heap.objs.size (.tup [.int (i : Nat), x]) :=
      ⟨by show 2 ≤ sizeLine; decide, [.int i tk, x1], .cons ⟨_, rfl⟩ (.cons ru .nil), ⟨_, hT2, rfl, _, rfl⟩⟩
    have I1 : Inv X pins σ (upd H s.heap.objs.size (.tup [.int (i : Nat), x])) { s with heap := h'', toks := tk + 1 } :=
      I.turnedNew (ch := [e, it]) (fun b ob hb q => (sb.2 b (fun z => hb (by simp [z]))).trans (hk b ob (fun z => hb (by simp [z])) (fun z => hb (by simp [z])) q)) hf (Nat.le_refl _) new
    refine ⟨.ref s.heap.objs.size, _, I1, rfl, ⟨_, x, rfl, I.hok.fresh (Nat.le_refl _), rfl, fun ys hy => by rw [I.tuple_inj hy hq]; exact hx⟩, ⟨⟨x1, ?_⟩, hit'.at fun o q => (sb.2 it (Ne.symm hne)).trans q, hne, hae⟩, fun b hb => ?_⟩
    · have e1 : ((i + 1 : Nat) : Int) = (i : Int) + 1 := by omega
      rw [e1]; exact he'
    · have hb' : b < s.heap.objs.size := by
        have e' : b = e ∨ b = it := by simpa using hb
        rcases e' with z | z
        · rw [z]; exact hel
        · rw [z]; exact hil
      rw [upd_ne (Nat.ne_of_lt hb')]
      exact (hf b hb).1
  done := by
    intro X hP hw hK hc i pins s σ H E I hf st hg
    subst hP hw hK
    obtain ⟨⟨old, he⟩, hit, hne, hae⟩ := st
    obtain ⟨xs, hq, hx⟩ := hg
    obtain ⟨its, rv, p, hz⟩ := I.tuple hq
    obtain ⟨f0, f1, f2, f3, f4, f5⟩ := hf it (by simp)
    have hl : its.toArray.size = i := by
      have := rv.length
      simp; omega
    subst hl
    exact wpAny_pyNext_enum_endD (EnT.drawsT (A := X.A.in1) (I.ok.hd hc) it a hae its.toArray) he ⟨hit, p⟩ fun h' eb => ⟨rfl, I.turned (t' := s.toks) (fun b o hb q => eb b o hb q) f0 f1 f3 f4 f5⟩
  self := fun A i s Q E st h => let ⟨⟨_, he⟩, _⟩ := st; wpAny_pyIter_enum he h
def iEnumA (K : PySem.W.Frag) (ta : TA) : TI := fun σ H R => ta σ H fun vs H1 => ∃ a xs, vs = [.ref a] ∧ ((SqL K H1 a xs ∧ R (Ite K a) H1) ∨ (SqT K H1 a xs ∧ R (IteT K a) H1))
theorem pi_enumA {X : Cx} {e : Expr} {ta : TA} {p pos tpos : Pos} {elts : List Expr} {kk : Nat} (hg : Gl X "enumerate") (hm : X.mg "enumerate" = none) (ha : PA X [e] ta) (hs : starEach [e] X.env = [(false, eval e X.env)]) :
    PI X (.Tuple elts kk tpos) (.Call (.Name "enumerate" p) [e] [] pos) (iEnumA X.K ta) := by
  refine ⟨fun pins s σ H R I h => ?_⟩
  refine PyProof.Rows.Call_ (ld_blt I hg hm PyProof.Rows.boot_enumerate (PyProof.Rows.callWith_type1 (thn (ha.run pos pins s σ H _ I h) fun us s1 ⟨vs, H1, I1, r1, q1⟩ => ?_) hs rfl))
  obtain ⟨a, xs, ex, q1⟩ := q1
  subst ex
  cases r1 with
  | cons r rr =>
    cases rr
    cases r
    have fr : ∀ b ∈ [s1.heap.objs.size + 1, s1.heap.objs.size], FpOk X pins H1 b := fun b hb => by
      have e' : b = s1.heap.objs.size + 1 ∨ b = s1.heap.objs.size := by simpa using hb
      have hle : s1.heap.objs.size ≤ b := by
        rcases e' with z | z
        · rw [z]; exact Nat.le_add_right _ _
        · rw [z]; exact Nat.le_refl _
      exact I1.fpOk hle (I1.hok.fresh hle)
    rcases q1 with ⟨hq, q⟩ | ⟨hq, q⟩
    · obtain ⟨its, rv, p', hz⟩ := I1.list hq
      refine call_enumerate_list p'.isList fun h' he hit hsz hk => wpAny_pyIter_enum he ?_
      have I2 : Inv X pins σ H1 { s1 with heap := h' } := I1.kept (t' := s1.toks) hk
      exact ⟨s1.heap.objs.size + 1, [s1.heap.objs.size + 1, s1.heap.objs.size], _, _, H1, rfl, I2, turn_enum a (s1.heap.objs.size + 1) s1.heap.objs.size, ⟨⟨.none, he⟩, hit, Nat.succ_ne_self _⟩, fr, q⟩
    · obtain ⟨its, rv, p', hz⟩ := I1.tuple hq
      obtain ⟨o, ho, _⟩ := id p'
      refine EnT.call_enumT (show s1.heap.IsTuple a its.toArray from p') fun h' he hit hsz hk => wpAny_pyIter_enum he ?_
      have I2 : Inv X pins σ H1 { s1 with heap := h' } := I1.kept (t' := s1.toks) hk
      exact ⟨s1.heap.objs.size + 1, [s1.heap.objs.size + 1, s1.heap.objs.size], _, _, H1, rfl, I2, turn_enumT a (s1.heap.objs.size + 1) s1.heap.objs.size, ⟨⟨.none, he⟩, hit, Nat.succ_ne_self _, Nat.ne_of_lt (Heap.lt_size ho)⟩, fr, q⟩
/-- with their places -/
def numD (ds : List D) : List D := ds.zipIdx.map fun p => .tup [.int (p.2 : Nat), p.1]
def gEnum (r : RV) : Option (List D) := (gItems r).map numD
theorem numD_len {ds : List D} : (numD ds).length = ds.length := by simp [numD]
theorem numD_get {ds : List D} {i : Nat} {d : D} (h : (numD ds)[i]? = some d) : ∃ c, ds[i]? = some c ∧ d = .tup [.int (i : Nat), c] := by
  unfold numD at h
  rw [List.getElem?_map, List.getElem?_zipIdx] at h
  cases e : ds[i]? with
  | none => rw [e] at h; cases h
  | some c => rw [e] at h; cases h; exact ⟨c, rfl, by simp⟩
/-- a new tuple of plain things -/
theorem tup_new {K : PySem.W.Frag} {B H : Hp} {T : Addr} {vs : List V} {ds : List D} (s : Same B H) (hT : H T = none) (r : RepL K B vs ds) : ∃ B3, Frm B H [] B3 (upd H T (.tup vs)) [] ∧ Same B3 (upd H T (.tup vs)) ∧ Rep K B3 (.ref T) (.tup ds) := by
  have hb : B T = none := s.free hT
  have sb : Same B (upd B T (.tup vs)) := fun a u e => by rw [upd_ne (ne_of_none e hb)]; exact e
  refine ⟨upd B T (.tup vs), ⟨sb, fun a u e _ => ?_, fun a u e _ b => ?_, fun _ z => nomatch z⟩, fun a u e => ?_, .tup (.inl (.inl upd_same)) (r.mono sb)⟩
  · rw [upd_ne (ne_of_none e hT)]; exact e
  · rw [upd_ne (ne_of_none e hT)]; exact b
  · by_cases h : a = T
    · subst h; rw [upd_same] at e ⊢; exact e
    · rw [upd_ne h] at e ⊢; exact s a u e
theorem spec_enumL {K : PySem.W.Frag} {B : Hp} {p : Addr} {vs : List V} {ds : List D} (h : SqL K B p vs) (r : RepL K B vs ds) : Spec K B (Ite K p) (numD ds) := fun B2 H2 s s2 => by
  have h2 := (s.trans s2).seq h
  refine ⟨fun i d e => ?_, vs, h2, by rw [r.length, numD_len]; exact Nat.le_refl _⟩
  obtain ⟨c, e0, rfl⟩ := numD_get e
  obtain ⟨v, e1, r1⟩ := r.get e0
  refine ⟨⟨vs, v, h2, e1⟩, fun x H3 y => ?_⟩
  obtain ⟨T, x', rfl, hT, rfl, y⟩ := y
  have := y vs h2
  rw [e1] at this; cases this
  exact tup_new s2 hT (.cons .int (.cons (r1.mono s) .nil))
theorem spec_enumT {K : PySem.W.Frag} {B : Hp} {p : Addr} {vs : List V} {ds : List D} (h : SqT K B p vs) (r : RepL K B vs ds) : Spec K B (IteT K p) (numD ds) := fun B2 H2 s s2 => by
  have h2 := Same.seqT (s.trans s2) h
  refine ⟨fun i d e => ?_, vs, h2, by rw [r.length, numD_len]⟩
  obtain ⟨c, e0, rfl⟩ := numD_get e
  obtain ⟨v, e1, r1⟩ := r.get e0
  refine ⟨⟨vs, v, h2, e1⟩, fun x H3 y => ?_⟩
  obtain ⟨T, x', rfl, hT, rfl, y⟩ := y
  have := y vs h2
  rw [e1] at this; cases this
  exact tup_new s2 hT (.cons .int (.cons (r1.mono s) .nil))
section
variable {X : Cx} {W : WX} {e : Expr} {f : Env → O RV} {pos : Pos}
theorem i_enum {p tpos : Pos} {elts : List Expr} {kk : Nat} (hm : X.mg "enumerate" = none) (h : PEr X W e f) (hg : Gl X "enumerate" := by rfl) (hs : starEach [e] X.env = (false, eval e X.env) :: starEach [] X.env := by rfl) (hs2 : starEach [e] X.env = [(false, eval e X.env)] := by rfl) : PIr X W (.Tuple elts kk tpos) (.Call (.Name "enumerate" p) [e] [] pos) (fun env => (f env).mapP gEnum) := by
  obtain ⟨t, h, k⟩ := h
  refine ⟨_, pi_enumA hg hm (pa_cons h pa_nil hs) hs2, EOk.map (r := fun (x : V) (H1 : Hp) (R : It → Hp → Prop) => ∃ a xs, [x] = [.ref a] ∧ ((SqL X.K H1 a xs ∧ R (Ite X.K a) H1) ∨ (SqT X.K H1 a xs ∧ R (IteT X.K a) H1))) k fun B H G v r R s h n q => ?_⟩
  cases e2 : gItems r with
  | none => simp only [gEnum, e2, Option.map] at q; exact q.elim
  | some ds =>
    simp only [gEnum, e2, Option.map] at q
    have th := stb_rv.there _ _ _ _ _ h
    obtain ⟨p, vs, rfl, a1, a2⟩ := rv_sit s h e2
    obtain ⟨s1, s2, f⟩ := frm_more (K := X.K) (mg := X.mg) (G := G) s th
    refine ⟨p, vs, rfl, ?_⟩
    rcases a1 with a1 | a1
    · exact .inl ⟨s2.seq a1, VPost.it (mg := X.mg) q s th (spec_enumL a1 a2)⟩
    · exact .inr ⟨Same.seqT s2 a1, VPost.it (mg := X.mg) q s th (spec_enumT a1 a2)⟩
end
end Tl
namespace Tl
open PySem PySem.Spec L2

/-! ### zip of two lists, of two tuples -/
def zipD (ds es : List D) : List D := (ds.zip es).map fun p => .tup [p.1, p.2]
theorem zipD_len {ds es : List D} : (zipD ds es).length = min ds.length es.length := by simp [zipD]
theorem zipD_get {ds es : List D} {i : Nat} {d : D} (h : (zipD ds es)[i]? = some d) : ∃ a b, ds[i]? = some a ∧ es[i]? = some b ∧ d = .tup [a, b] := by
  unfold zipD at h
  rw [List.getElem?_map] at h
  cases e : (ds.zip es)[i]? with
  | none => rw [e] at h; cases h
  | some p =>
    rw [e] at h; cases h
    rw [List.getElem?_zip_eq_some] at e
    exact ⟨p.1, p.2, e.1, e.2, rfl⟩
inductive SeqK where
  | l | t
/-- the two walked: both lists, or both tuples -/
def gSeqK : RV → Option (SeqK × List D)
  | .own (.fz (.lst ds)) => some (.l, ds)
  | .own (.fz (.scr ds)) => some (.l, ds)
  | .own (.lst os) => (fzs os).map fun ds => (.l, ds)
  | .own (.fz (.tup ds)) => some (.t, ds)
  | .own (.tup os) => (fzs os).map fun ds => (.t, ds)
  | _ => none
def gZip (p : RV × RV) : Option (List D) := match gSeqK p.1, gSeqK p.2 with
  | some (.l, ds), some (.l, es) => some (zipD ds es)
  | some (.t, ds), some (.t, es) => some (zipD ds es)
  | _, _ => none
theorem spec_zipL {K : PySem.W.Frag} {B : Hp} {p q : Addr} {vs us : List V} {ds es : List D} (h : SqL K B p vs) (r : RepL K B vs ds) (h' : SqL K B q us) (r' : RepL K B us es) : Spec K B (Itz K p q) (zipD ds es) := fun B2 H2 s s2 => by
  have h2 := (s.trans s2).seq h
  have h2' := (s.trans s2).seq h'
  refine ⟨fun i d e => ?_, vs, us, h2, h2', by rw [r.length, r'.length, zipD_len]; omega⟩
  obtain ⟨a, b, e0, e0', rfl⟩ := zipD_get e
  obtain ⟨v, e1, r1⟩ := r.get e0
  obtain ⟨v', e1', r1'⟩ := r'.get e0'
  refine ⟨⟨vs, us, v, v', h2, h2', e1, e1'⟩, fun x H3 y => ?_⟩
  obtain ⟨T, x', y', rfl, hT, rfl, y, y2⟩ := y
  have t1 := y vs h2
  rw [e1] at t1; cases t1
  have t2 := y2 us h2'
  rw [e1'] at t2; cases t2
  exact tup_new s2 hT (.cons (r1.mono s) (.cons (r1'.mono s) .nil))
theorem spec_zipT {K : PySem.W.Frag} {B : Hp} {p q : Addr} {vs us : List V} {ds es : List D} (h : SqT K B p vs) (r : RepL K B vs ds) (h' : SqT K B q us) (r' : RepL K B us es) : Spec K B (RZ.ItzT K p q) (zipD ds es) := fun B2 H2 s s2 => by
  have h2 := Same.seqT (s.trans s2) h
  have h2' := Same.seqT (s.trans s2) h'
  refine ⟨fun i d e => ?_, vs, us, h2, h2', by rw [r.length, r'.length, zipD_len]; omega⟩
  obtain ⟨a, b, e0, e0', rfl⟩ := zipD_get e
  obtain ⟨v, e1, r1⟩ := r.get e0
  obtain ⟨v', e1', r1'⟩ := r'.get e0'
  refine ⟨⟨vs, us, v, v', h2, h2', e1, e1'⟩, fun x H3 y => ?_⟩
  obtain ⟨T, x', y', rfl, hT, rfl, y, y2⟩ := y
  have t1 := y vs h2
  rw [e1] at t1; cases t1
  have t2 := y2 us h2'
  rw [e1'] at t2; cases t2
  exact tup_new s2 hT (.cons (r1.mono s) (.cons (r1'.mono s) .nil))
end Tl
namespace Tl
open PySem PySem.Spec L2

/-! ### working out mirrors, more -/
section
variable {env e' : Env} {d : D} {i n : Nat} {o : OD} {β γ δ : Type}
@[simp] theorem cIo_lst {r : Env → O (List AR)} {os : List OD} (h : env[i]? = some (.lst os)) : cIo i r env = match r env with
    | .ok b => .ok (.io i :: b)
    | .eff b e => .eff (.io i :: b) e
    | .exc c e => .exc c e
    | .bad => .bad := by simp only [cIo, h] <;> rfl
@[simp] theorem cTmp_e {f : Env → O RV} {r : Env → O (List AR)} : cTmp f r env = ((f env).mapP fun r => match r with
  | .own o => some o
  | .view _ => none).andThen (fun _ => true) env (fun _ e => r e) (fun a b => .tmp a :: b) := id rfl
@[simp] theorem gath_io {as : List AR} {os : List OD} (h : env[i]? = some (.lst os)) : gath (.io i :: as) env = match gath as (env.set i .un) with
      | some (ds, e) => some (.lst os :: ds, e)
      | none => none := by cases h2 : gath as (env.set i .un) <;> simp only [gath, h, h2]
@[simp] theorem gath_tmp {as : List AR} : gath (.tmp o :: as) env = match gath as env with
      | some (ds, e) => some (o :: ds, e)
      | none => none := by cases h : gath as env <;> simp only [gath, h]
@[simp] theorem looks_io {as : List AR} : looks (.io i :: as) = looks as := by simp [looks]
@[simp] theorem looks_tmp {as : List AR} : looks (.tmp o :: as) = looks as := by simp [looks]
@[simp] theorem lends_io {as : List AR} : lends (.io i :: as) = lends as := by simp [lends]
@[simp] theorem lends_tmp {as : List AR} : lends (.tmp o :: as) = lends as := by simp [lends]
@[simp] theorem hasIo_io {as : List AR} : hasIo (.io i :: as) = true := by simp [hasIo]
@[simp] theorem hasIo_tmp {as : List AR} : hasIo (.tmp o :: as) = hasIo as := by simp [hasIo]
@[simp] theorem hasTmp_io {as : List AR} : hasTmp (.io i :: as) = hasTmp as := by simp [hasTmp]
@[simp] theorem hasTmp_tmp {as : List AR} : hasTmp (.tmp o :: as) = true := by simp [hasTmp]
@[simp] theorem nfIo_io {as : List AR} {ds : List OD} : nfIo (.io i :: as) (o :: ds) = (nfo o && nfIo as ds) := by simp [nfIo]
@[simp] theorem nfIo_tmp {as : List AR} {ds : List OD} {u : OD} : nfIo (.tmp u :: as) (o :: ds) = nfIo as ds := by simp [nfIo]
@[simp] theorem putB_nil {ds : List OD} : putB [] ds env = env := by simp [putB]
@[simp] theorem putB_io {as : List AR} {ds : List OD} : putB (.io i :: as) (o :: ds) env = (putB as ds env).set i o := by simp [putB]
@[simp] theorem putB_rv {as : List AR} {ds : List OD} {r : RV} : putB (.rv r :: as) (o :: ds) env = putB as ds env := by simp [putB]
@[simp] theorem putB_tmp {as : List AR} {ds : List OD} {u : OD} : putB (.tmp u :: as) (o :: ds) env = putB as ds env := by simp [putB]
@[simp] theorem nfo_l {os : List OD} : nfo (.lst os) = nfoL os := by simp [nfo]
@[simp] theorem nfoL_n : nfoL [] = true := by simp [nfoL]
@[simp] theorem nfoL_c {os : List OD} : nfoL (o :: os) = (nfo o && nfoL os) := by simp [nfoL]
/-! subscripts -/
theorem ixN_nat {k n : Nat} (h : k < n) : ixN n (k : Int) = some k := by
  unfold ixN
  rw [if_pos (by omega), if_pos (by omega), Int.toNat_natCast]
theorem ixN_int {n : Nat} {k : Int} (h0 : 0 ≤ k) (h : k < n) : ixN n k = some k.toNat := by
  unfold ixN
  rw [if_pos h0, if_pos h]
theorem atI_int {α : Type} {xs : List α} {k : Int} (h0 : 0 ≤ k) (h : k < xs.length) : atI xs k = xs[k.toNat]? := by
  unfold atI
  rw [ixN_int h0 h] <;> rfl
@[simp] theorem atI_0 {α : Type} {x : α} {xs : List α} : atI (x :: xs) 0 = some x := by
  rw [atI_int (by decide) (by simp <;> omega)] <;> rfl
@[simp] theorem atI_1 {α : Type} {x y : α} {xs : List α} : atI (x :: y :: xs) 1 = some y := by
  rw [atI_int (by decide) (by simp <;> omega)] <;> rfl
@[simp] theorem atI_2 {α : Type} {x y z : α} {xs : List α} : atI (x :: y :: z :: xs) 2 = some z := by
  rw [atI_int (by decide) (by simp <;> omega)] <;> rfl
@[simp] theorem atI_3 {α : Type} {x y z u : α} {xs : List α} : atI (x :: y :: z :: u :: xs) 3 = some u := by
  rw [atI_int (by decide) (by simp <;> omega)] <;> rfl
@[simp] theorem ixN_0 {n : Nat} : ixN (n + 1) 0 = some 0 := ixN_nat (k := 0) (by omega)
@[simp] theorem ixN_1 {n : Nat} : ixN (n + 1 + 1) 1 = some 1 := ixN_nat (k := 1) (by omega)
@[simp] theorem ixN_2 {n : Nat} : ixN (n + 1 + 1 + 1) 2 = some 2 := ixN_nat (k := 2) (by omega)
@[simp] theorem gIx_lst {os : List OD} {k : Int} : gIx (.own (.lst os), .own (.fz (.int k))) = (atI os k).map (RV.part (.own (.lst os))) := id rfl
@[simp] theorem gIx_vlst {os : List OD} {k : Int} : gIx (.view (.lst os), .own (.fz (.int k))) = (atI os k).map (RV.part (.view (.lst os))) := id rfl
@[simp] theorem gIx_tup {os : List OD} {k : Int} : gIx (.own (.tup os), .own (.fz (.int k))) = (atI os k).map (RV.part (.own (.tup os))) := id rfl
@[simp] theorem gIx_vtup {os : List OD} {k : Int} : gIx (.view (.tup os), .own (.fz (.int k))) = (atI os k).map (RV.part (.view (.tup os))) := id rfl
@[simp] theorem gIx_flst {ds : List D} {k : Int} : gIx (.own (.fz (.lst ds)), .own (.fz (.int k))) = (atI ds k).map fun d => .own (.fz d) := id rfl
@[simp] theorem gIx_ftup {ds : List D} {k : Int} : gIx (.own (.fz (.tup ds)), .own (.fz (.int k))) = (atI ds k).map fun d => .own (.fz d) := id rfl
@[simp] theorem gIx_scr {ds : List D} {k : Int} : gIx (.own (.fz (.scr ds)), .own (.fz (.int k))) = (atI ds k).map fun d => .own (.fz d) := id rfl
@[simp] theorem part_fz {r : RV} : RV.part r (.fz d) = .own (.fz d) := id rfl
@[simp] theorem vGet_lst {os : List OD} (h : env[i]? = some (.lst os)) : vGet i env = some (.lst os) := by simp [vGet, h]
@[simp] theorem vPut_e : vPut i env o = env.set i o := id rfl
theorem gSub_e {put : Env → OD → Env} {get : Env → Option OD} {fk : Env → O RV} {os : List OD} (h : get env = some (.lst os)) : gSub get put fk o env = match fk env with
    | .ok r => match r.od with
      | .fz (.int k) => (ixN os.length k).map fun j => put env (.lst (os.set j o))
      | _ => none
    | _ => none := by simp only [gSub, h] <;> rfl
theorem sAugS_e {get : Env → Option OD} {put : Env → OD → Env} {fk : Env → O RV} {g : Int → Int → Option Int} {fe : Env → O RV} {os : List OD} (h : get env = some (.lst os)) : sAugS get put fk g fe env = match fk env with
    | .ok r => match r.od with
      | .fz (.int k) => match ixN os.length k with
        | some j => match os[j]? with
          | some (.fz (.int x)) => match fe env with
            | .ok r2 => match r2.od with
              | .fz (.int y) => match g x y with
                | some z => .nx (put env (.lst (os.set j (.fz (.int z)))))
                | none => .bad
              | _ => .bad
            | _ => .bad
          | _ => .bad
        | none => .bad
      | _ => .bad
    | _ => .bad := by simp only [sAugS, h] <;> rfl
@[simp] theorem gSub_v {j : Nat} {put : Env → OD → Env} {fk : Env → O RV} {os : List OD} (h : env[j]? = some (.lst os)) : gSub (vGet j) put fk o env = match fk env with
    | .ok r => match r.od with
      | .fz (.int k) => (ixN os.length k).map fun j => put env (.lst (os.set j o))
      | _ => none
    | _ => none := gSub_e (vGet_lst h)
@[simp] theorem sAugS_v {j : Nat} {put : Env → OD → Env} {fk : Env → O RV} {g : Int → Int → Option Int} {fe : Env → O RV} {os : List OD} (h : env[j]? = some (.lst os)) : sAugS (vGet j) put fk g fe env = match fk env with
    | .ok r => match r.od with
      | .fz (.int k) => match ixN os.length k with
        | some j => match os[j]? with
          | some (.fz (.int x)) => match fe env with
            | .ok r2 => match r2.od with
              | .fz (.int y) => match g x y with
                | some z => .nx (put env (.lst (os.set j (.fz (.int z)))))
                | none => .bad
              | _ => .bad
            | _ => .bad
          | _ => .bad
        | none => .bad
      | _ => .bad
    | _ => .bad := sAugS_e (vGet_lst h)
@[simp] theorem eMethV_e {g : List OD → List RV → Option (OD × List OD)} {fr : Env → O (List RV)} {os : List OD} (h : env[i]? = some (.lst os)) : eMethV i g fr env = match fr env with
    | .ok rs => (match g os rs with
        | some (o, os') => O.eff (RV.own o) (env.set i (.lst os'))
        | none => .bad)
    | .eff rs e => (match vGet i e with
      | some (.lst os) => match g os rs with
        | some (o, os') => O.eff (RV.own o) (e.set i (.lst os'))
        | none => .bad
      | _ => .bad)
    | .exc c e => .exc c e
    | .bad => .bad := by simp only [eMethV, vGet, h] <;> rfl
@[simp] theorem mAppend_e {os : List OD} (h : os.length < 10000000) : mAppend os [.own o] = some (.fz .non, os ++ [o]) := by simp [mAppend, h]
@[simp] theorem eR1 {a : Int} (h : -(2 ^ 62) ≤ a) (h' : a < 2 ^ 62) : gR1 [.own (.fz (.int a))] = some (rng 0 a.toNat) := by simp [gR1]; omega
@[simp] theorem eR2 {a b : Int} (h : -(2 ^ 62) ≤ a) (h' : a < 2 ^ 62) (k : -(2 ^ 62) ≤ b) (k' : b < 2 ^ 62) : gR2 [.own (.fz (.int a)), .own (.fz (.int b))] = some (rng a (b - a).toNat) := by simp [gR2]; omega
@[simp] theorem gLen_own {ds : List D} : gLen [.own (.fz (.lst ds))] = some (.own (.fz (.int ds.length))) := id rfl
@[simp] theorem gLen_tup {ds : List D} : gLen [.own (.fz (.tup ds))] = some (.own (.fz (.int ds.length))) := id rfl
@[simp] theorem gLen_scr {ds : List D} : gLen [.own (.fz (.scr ds))] = some (.own (.fz (.int ds.length))) := id rfl
@[simp] theorem gLen_lst {os : List OD} : gLen [.own (.lst os)] = some (.own (.fz (.int os.length))) := id rfl
@[simp] theorem gLen_vlst {os : List OD} : gLen [.view (.lst os)] = some (.own (.fz (.int os.length))) := id rfl
@[simp] theorem gLen_vtup {os : List OD} : gLen [.view (.tup os)] = some (.own (.fz (.int os.length))) := id rfl
@[simp] theorem gMin_e {a b : Int} : gMin [.own (.fz (.int a)), .own (.fz (.int b))] = some (.own (.fz (.int (if b < a then b else a)))) := id rfl
@[simp] theorem gMax_e {a b : Int} : gMax [.own (.fz (.int a)), .own (.fz (.int b))] = some (.own (.fz (.int (if b > a then b else a)))) := id rfl
@[simp] theorem gList_l {os : List OD} {ds : List D} (h : fzs os = some ds) : gList [.own (.lst os)] = some (.own (.lst (ds.map .fz))) := by simp [gList, OD.sitems, h]
@[simp] theorem gTuple_v {os : List OD} {ds : List D} (h : fzs os = some ds) : gTuple [.view (.lst os)] = some (.own (.fz (.tup ds))) := by simp [gTuple, OD.items, h]
@[simp] theorem gTuple_l {os : List OD} {ds : List D} (h : fzs os = some ds) : gTuple [.own (.lst os)] = some (.own (.fz (.tup ds))) := by simp [gTuple, OD.items, h]
end
/-! ### loops -/
/-- a loop that goes to its end, by what holds at each turn -/
theorem for_ix {P : Nat → Env → Prop} {g : OD → Env → Option Env} {body : Env → SO} : ∀ (ds : List D) (k : Nat) (env : Env), P k env → (∀ i d env, ds[i]? = some d → P (k + i) env → ∃ e1 e2, g (.fz d) env = some e1 ∧ (body e1 = .nx e2 ∨ body e1 = .ct e2) ∧ P (k + i + 1) e2) → ∃ e, forGo g body ds env = .nx e ∧ P (k + ds.length) e
  | [], k, env, h0, _ => ⟨env, rfl, h0⟩
  | d :: ds, k, env, h0, h => by
    obtain ⟨e1, e2, a, b, c⟩ := h 0 d env rfl h0
    obtain ⟨e3, a3, b3⟩ := for_ix (P := P) (g := g) (body := body) ds (k + 1) e2 c fun i d env hi hp => by
      have := h (i + 1) d env (by simpa using hi) (by rw [show k + (i + 1) = k + 1 + i by omega]; exact hp)
      rw [show k + (i + 1) + 1 = k + 1 + i + 1 by omega] at this
      exact this
    refine ⟨e3, ?_, by rw [show k + (d :: ds).length = k + 1 + ds.length by simp; omega]; exact b3⟩
    dsimp only [forGo]
    rw [a]
    rcases b with b | b <;> (simp only [b]; exact a3)
/-- a comprehension over plain things that changes nothing -/
theorem lcGo_pure {g : D → Env → Option Env} {tt : Env → O Bool} {fe : Env → O RV} {vs : List Nat} {C : D → Bool} {F : D → OD} {e : Env} : ∀ (ds : List D) (acc : List OD), acc.length + ds.length < 10000000 →
    (∀ d ∈ ds, ∃ e1, g d e = some e1 ∧ tt e1 = .ok (C d) ∧ (C d = true → fe e1 = .ok (.own (F d)))) → lcGo g tt fe vs ds acc e false = some (acc ++ (ds.filter C).map F, e, false)
  | [], acc, _, _ => by simp [lcGo]
  | d :: ds, acc, hl, h => by
    obtain ⟨e1, a, b, c⟩ := h d (by simp)
    have hl' : acc.length + ds.length + 1 < 10000000 := by simp at hl; omega
    cases hc : C d with
    | false =>
      simp only [lcGo, lcStep, a, b, lcElt, hc]
      simp [lcGo_pure ds acc (by omega) fun d m => h d (by simp [m]), hc]
    | true =>
      simp only [lcGo, lcStep, a, b, lcElt, hc, c hc]
      have : acc.length < 10000000 := by omega
      simp [this, lcGo_pure ds (acc ++ [F d]) (by simp; omega) fun d m => h d (by simp [m]), hc]
theorem lc_pure {f : Env → O (List D)} {g : D → Env → Option Env} {tt : Env → O Bool} {fe : Env → O RV} {vs : List Nat} {env : Env} {ds : List D} (C : D → Bool) (F : D → OD) (hv : vs.all (fun i => decide (i < env.length)) = true) (hf : f env = .ok ds) (hl : ds.length < 10000000)
    (h : ∀ d ∈ ds, ∃ e1, g d (wipeE env vs) = some e1 ∧ tt e1 = .ok (C d) ∧ (C d = true → fe e1 = .ok (.own (F d)))) : eLc f g tt fe vs env = .ok (.own (.lst ((ds.filter C).map F))) := by
  unfold eLc
  rw [if_pos hv, hf]
  simp only [lcGo_pure ds [] (by simpa using hl) h]
  simp [lcFin]
end Tl
namespace Tl
open PySem PySem.Spec L2

/-! ### data that may be compared -/
def shp (n : Nat) (d : D) : Prop := (pd d).canLay0 = true ∧ (pd d).depth ≤ n
theorem shp.ok {d : D} {n : Nat} (h : shp n d) (hn : n ≤ 64) : dOk d = true := by
  unfold dOk SeqAt.shaped
  rw [h.1]
  simp
  exact Nat.le_trans h.2 hn
theorem shp.mono {d : D} {n m : Nat} (h : shp n d) (hn : n ≤ m) : shp m d := ⟨h.1, Nat.le_trans h.2 hn⟩
theorem shp_int {i : Int} {n : Nat} : shp n (.int i) := ⟨by simp [pd, PyData.canLay0], by simp [pd, PyData.depth]⟩
theorem shp_bl {i : Bool} {n : Nat} : shp n (.bl i) := ⟨by simp [pd, PyData.canLay0], by simp [pd, PyData.depth]⟩
theorem shp_non {n : Nat} : shp n .non := ⟨by simp [pd, PyData.canLay0], by simp [pd, PyData.depth]⟩
theorem shp_str {x : Str} {n : Nat} (h : PyData.strOk x = true) : shp n (.str x) := ⟨by simp [pd, PyData.canLay0, h], by simp [pd, PyData.depth]⟩
theorem shpL {n : Nat} : ∀ {ds : List D}, (∀ d ∈ ds, shp n d) → PyData.canLayAll0 (pdL ds) = true ∧ PyData.depthAll (pdL ds) ≤ n
  | [], _ => by simp [pdL, PyData.canLayAll0, PyData.depthAll]
  | d :: ds, h => by
    obtain ⟨a, b⟩ := shpL (ds := ds) fun d m => h d (by simp [m])
    obtain ⟨c, e⟩ := h d (by simp)
    simp [pdL, PyData.canLayAll0, PyData.depthAll, a, b, c, e]
    omega
theorem shp_lst {n : Nat} {ds : List D} (h : ∀ d ∈ ds, shp n d) : shp (n + 1) (.lst ds) := by
  obtain ⟨a, b⟩ := shpL h
  exact ⟨by simpa [pd, PyData.canLay0] using a, by simpa [pd, PyData.depth] using b⟩
theorem shp_tup {n : Nat} {ds : List D} (h : ∀ d ∈ ds, shp n d) : shp (n + 1) (.tup ds) := by
  obtain ⟨a, b⟩ := shpL h
  exact ⟨by simpa [pd, PyData.canLay0] using a, by simpa [pd, PyData.depth] using b⟩
theorem shp_ints {ns : List Int} {n : Nat} : ∀ d ∈ ns.map D.int, shp n d := fun d m => by
  obtain ⟨i, _, rfl⟩ := List.mem_map.mp m
  exact shp_int
theorem shp_tupD {ns : List Int} {n : Nat} : shp (n + 1) (tupD ns) := shp_tup shp_ints
@[simp] theorem dOk_ints {ns : List Int} : dOk (.lst (ns.map .int)) = true := (shp_lst (n := 0) shp_ints).ok (by decide)
@[simp] theorem dOk_tints {ns : List Int} : dOk (.tup (ns.map .int)) = true := (shp_tup (n := 0) shp_ints).ok (by decide)
@[simp] theorem dOk_tupD {ns : List Int} : dOk (tupD ns) = true := (shp_tupD (n := 0)).ok (by decide)
@[simp] theorem dOk_nilL : dOk (.lst []) = true := (shp_lst (n := 0) (by simp)).ok (by decide)
@[simp] theorem dOk_nilT : dOk (.tup []) = true := (shp_tup (n := 0) (by simp)).ok (by decide)
@[simp] theorem dOk_tups {nss : List (List Int)} : dOk (.lst (nss.map tupD)) = true := (shp_lst (n := 1) fun d m => by
  obtain ⟨i, _, rfl⟩ := List.mem_map.mp m
  exact shp_tupD).ok (by decide)
@[simp] theorem dOk_ttups {nss : List (List Int)} : dOk (.tup (nss.map tupD)) = true := (shp_tup (n := 1) fun d m => by
  obtain ⟨i, _, rfl⟩ := List.mem_map.mp m
  exact shp_tupD).ok (by decide)
/-! equal just where alike: no truths, no dicts -/
mutual
def D.nb : D → Bool
  | .non => true
  | .int _ => true
  | .str _ => true
  | .tup ds => D.nbL ds
  | .lst ds => D.nbL ds
  | _ => false
def D.nbL : List D → Bool
  | [] => true
  | d :: ds => d.nb && D.nbL ds
end
mutual
theorem dEq_iff : ∀ d e : D, d.nb = true → e.nb = true → (dEq d e = true ↔ d = e)
  | .non, e, _, h => by cases e <;> simp_all [dEq, pd, PyData.eqv, D.nb]
  | .int i, e, _, h => by cases e <;> simp_all [dEq, pd, PyData.eqv, D.nb]
  | .str i, e, _, h => by cases e <;> simp_all [dEq, pd, PyData.eqv, D.nb]
  | .tup ds, e, hd, h => by
    cases e with
    | tup es =>
      have := dEqL_iff ds es (by simpa [D.nb] using hd) (by simpa [D.nb] using h)
      simp only [dEq, pd, PyData.eqv, this, D.tup.injEq]
    | _ => simp_all [dEq, pd, PyData.eqv, D.nb]
  | .lst ds, e, hd, h => by
    cases e with
    | lst es =>
      have := dEqL_iff ds es (by simpa [D.nb] using hd) (by simpa [D.nb] using h)
      simp only [dEq, pd, PyData.eqv, this, D.lst.injEq]
    | _ => simp_all [dEq, pd, PyData.eqv, D.nb]
  | .bl _, _, h, _ => by simp [D.nb] at h
  | .scr _, _, h, _ => by simp [D.nb] at h
  | .dK _, _, h, _ => by simp [D.nb] at h
  | .dT _, _, h, _ => by simp [D.nb] at h
theorem dEqL_iff : ∀ ds es : List D, D.nbL ds = true → D.nbL es = true → (PyData.eqvAll (pdL ds) (pdL es) = true ↔ ds = es)
  | [], [], _, _ => by simp [pdL, PyData.eqvAll]
  | [], _ :: _, _, _ => by simp [pdL, PyData.eqvAll]
  | _ :: _, [], _, _ => by simp [pdL, PyData.eqvAll]
  | d :: ds, e :: es, h, k => by
    simp only [D.nbL, Bool.and_eq_true] at h k
    have a := dEq_iff d e h.1 k.1
    have b := dEqL_iff ds es h.2 k.2
    simp only [dEq] at a
    simp only [pdL, PyData.eqvAll, Bool.and_eq_true, a, b, List.cons.injEq]
end
theorem nbL_all {ds : List D} (h : ∀ d ∈ ds, d.nb = true) : D.nbL ds = true := by
  induction ds with
  | nil => simp [D.nbL]
  | cons d ds ih => simp [D.nbL, h d (by simp), ih fun d m => h d (by simp [m])]
theorem nb_ints {ns : List Int} : D.nbL (ns.map .int) = true := nbL_all fun d m => by
  obtain ⟨i, _, rfl⟩ := List.mem_map.mp m
  simp [D.nb]
theorem nb_tupD {ns : List Int} : (tupD ns).nb = true := by simp [tupD, D.nb, nb_ints]
theorem nb_tups {nss : List (List Int)} : D.nbL (nss.map tupD) = true := nbL_all fun d m => by
  obtain ⟨i, _, rfl⟩ := List.mem_map.mp m
  exact nb_tupD
theorem map_inj {α β : Type} {f : α → β} (h : ∀ a b, f a = f b → a = b) {as bs : List α} : as.map f = bs.map f ↔ as = bs :=
  ⟨fun e => List.map_inj_right (fun a b => h a b) |>.mp e, fun e => by rw [e]⟩
theorem int_inj {ns ms : List Int} : ns.map D.int = ms.map D.int ↔ ns = ms := map_inj fun a b e => by cases e; rfl
theorem tupD_inj {ns ms : List Int} : tupD ns = tupD ms ↔ ns = ms := by
  unfold tupD
  rw [D.tup.injEq, int_inj]
@[simp] theorem dEq_ints {ns ms : List Int} : dEq (.lst (ns.map .int)) (.lst (ms.map .int)) = decide (ns = ms) := by
  have := dEq_iff (.lst (ns.map .int)) (.lst (ms.map .int)) (by simp [D.nb, nb_ints]) (by simp [D.nb, nb_ints])
  rw [D.lst.injEq, int_inj] at this
  by_cases h : ns = ms
  · rw [this.mpr h, decide_eq_true h]
  · rw [decide_eq_false h]; exact Bool.eq_false_iff.mpr fun z => h (this.mp z)
/-! in a list of ints -/
theorem any_ints {a : Int} {bs : List Int} : ((bs.map D.int).any fun z => dEq z (.int a)) = decide (a ∈ bs) := by
  by_cases h : a ∈ bs
  · rw [decide_eq_true h]
    exact List.any_eq_true.mpr ⟨.int a, List.mem_map.mpr ⟨a, h, rfl⟩, by simp⟩
  · rw [decide_eq_false h]
    refine List.any_eq_false.mpr fun x hx => ?_
    obtain ⟨b, hb, rfl⟩ := List.mem_map.mp hx
    simp only [dEq_i, beq_iff_eq]
    intro e
    subst e
    exact h hb
theorem gIn_lst {a : Int} {bs : List Int} {o : OD} (h : o.items = some (bs.map .int)) : gIn (.own (.fz (.int a)), .view o) = some (.own (.fz (.bl (decide (a ∈ bs))))) := by
  cases o with
  | fz d => cases d with
    | lst ds =>
      have h' : ds = bs.map .int := by simpa [OD.items] using h
      subst h'
      show (if dOk (.int a) = true ∧ dOk (.lst (bs.map .int)) = true then _ else _) = _
      rw [if_pos ⟨dOk_i, dOk_ints⟩, any_ints]
    | scr ds =>
      have h' : ds = bs.map .int := by simpa [OD.items] using h
      subst h'
      show (if dOk (.int a) = true ∧ dOk (.lst (bs.map .int)) = true then _ else _) = _
      rw [if_pos ⟨dOk_i, dOk_ints⟩, any_ints]
    | _ => simp [OD.items] at h
  | lst os =>
    have h' : fzs os = some (bs.map .int) := by simpa [OD.items] using h
    show (match fzs os with
      | some ds => if dOk (.int a) = true ∧ dOk (.lst ds) = true then some (RV.own (.fz (.bl (ds.any fun z => dEq z (.int a))))) else none
      | none => _) = _
    rw [h']
    show (if dOk (.int a) = true ∧ dOk (.lst (bs.map .int)) = true then _ else _) = _
    rw [if_pos ⟨dOk_i, dOk_ints⟩, any_ints]
  | _ => simp [OD.items] at h
end Tl
namespace Tl
open PySem PySem.Spec L2

/-! ### a list at a name, taken as plain for one expression alone -/
def lendE {β : Type} (i : Nat) (nf : β → Bool) (f : Env → O β) : Env → O β := fun env => match env[i]? with
  | some (.lst os) => match frzL os with
    | some ds => match f (env.set i (.fz (.lst ds))) with
      | .ok r => if nf r = true then .ok r else f env
      | _ => f env
    | none => f env
  | _ => f env
def RV.nf : RV → Bool
  | .own o => nfo o
  | .view _ => false
section
variable {X : Cx} {W : WX} {e : Expr}
theorem EOk.lend {α β : Type} {R : Rl α β} {t : TX α} {f : Env → O β} {nf : β → Bool} (i : Nat) (hR : ∀ B H G x r (L : List Addr), R B H G x r → nf r = true → (∀ a ∈ L, ∀ u, B a = some u → noTup u = true) → R (less B L) H G x r)
    (k : EOk X W R t f) : EOk X W R t (lendE i nf f) := by
  intro B H F σ env Q S q
  have plain : EPost X W R B H F σ Q (f env) → t σ H Q := k B H F σ env Q S
  unfold lendE at q
  split at q
  · rename_i os e
    split at q
    · rename_i ds e2
      split at q
      · rename_i r e3
        split at q
        · rename_i hn
          obtain ⟨v, Fi, Fr, h1, h2, h3, h4⟩ := S.sl.take e (fun z => by cases z)
          obtain ⟨s1, s2, f0⟩ := frm_more (K := X.K) (mg := X.mg) (G := Fi) S.sub h2.there
          have ef : frz (.lst os) = some (.lst ds) := by rw [frz_lst, e2]; rfl
          have rp : Rep X.K (more B H Fi) v (.lst ds) := h2.frz s1 ef fun a m u z => by rw [more_in m]; exact z
          have nd := List.nodup_append.mp (h4.nodup_iff.mp S.nd)
          have sl := f0.slots h3 fun a m z => nd.2.2 a z a m rfl
          obtain ⟨F', c1, c2⟩ := sl.put (by rw [List.getElem?_set_self]; exact (List.getElem?_eq_some_iff.mp e).1) h1 (.fz rp)
          rw [List.set_set] at c1
          refine k (more B H Fi) H F' σ _ Q ⟨s2, c1, c2.nodup_iff.mpr nd.2.1⟩ ?_
          rw [e3]
          intro x B' H' G r' s' n fr
          have inL : ∀ a ∈ Fi, ∀ u, B' a = some u → noTup u = true := fun a m u z => by
            obtain ⟨w, e5, e6⟩ := Own.kind h2 a m
            rw [fr.sB a w (by rw [more_in m]; exact e5)] at z
            cases z; exact e6
          refine q x (less B' Fi) H' G (hR _ _ _ _ _ _ r' hn inL) (fun a u z => ?_) n ⟨fun a u z => ?_, fun a u z m => fr.keep a u z m, fun a u z m b => ?_, fr.fr⟩
          · by_cases m : a ∈ Fi
            · rw [less_in m] at z; cases z
            · rw [less_out m] at z; exact s' a u z
          · have m : a ∉ Fi := fun m => by rw [(h2.there a m).1] at z; cases z
            rw [less_out m]
            exact fr.sB a u (s1 a u z)
          · by_cases ml : a ∈ Fi
            · exact less_in ml
            · rw [less_out ml]
              exact fr.forg a u z m (by rw [more_out ml]; exact b)
        · exact plain q
      · exact plain q
    · exact plain q
  · exact plain q
theorem r_lend (i : Nat) {f : Env → O RV} (h : PEr X W e f) : PEr X W e (lendE i RV.nf f) := by
  obtain ⟨t, h, k⟩ := h
  refine ⟨t, h, EOk.lend i (fun B H G x r L r1 n hk => ?_) k⟩
  cases r with
  | view o => cases n
  | own o => exact Own.less hk (show Own X.K X.mg B H G x o from r1) n
end
section
variable {env : Env} {i : Nat} {β : Type} {nf : β → Bool} {f : Env → O β}
theorem lend_ok {os : List OD} {ds : List D} {r : β} (h : env[i]? = some (.lst os)) (h2 : frzL os = some ds) (h3 : f (env.set i (.fz (.lst ds))) = .ok r) (h4 : nf r = true) : lendE i nf f env = .ok r := by
  simp only [lendE, h, h2, h3, h4, if_true]
/-! one statement behind the other -/
section
variable {f g : Env → SO} {e e1 e2 : Env} {o : OD} {h : OD → Env → Option Env} {x : Env → O RV} {c : Env → O Bool} {it : Env → O (List D)} {ds : List D}
theorem seq_nx (a : f e = .nx e1) : sSeq f g e = g e1 := by simp only [sSeq, a]
theorem seq_rt (a : f e = .rt o e1) : sSeq f g e = .rt o e1 := by simp only [sSeq, a]
theorem seq_exc {c : Str} (a : f e = .exc c e1) : sSeq f g e = .exc c e1 := by simp only [sSeq, a]
theorem asg_ok (a : x e = .ok (.own o)) (b : h o e = some e1) : sAsg x h e = .nx e1 := by simp only [sAsg, sE, a, kAsg, b]
theorem asg_eff (a : x e = .eff (.own o) e1) (b : h o e1 = some e2) : sAsg x h e = .nx e2 := by simp only [sAsg, sE, a, kAsg, b]
theorem forS_ok {body : Env → SO} (a : it e = .ok ds) : sFor it h body e = forGo h body ds e := by simp only [sFor, sE, a]
theorem forS_eff {body : Env → SO} (a : it e = .eff ds e1) : sFor it h body e = forGo h body ds e1 := by simp only [sFor, sE, a]
theorem if_t (a : c e = .ok true) : sIf c f g e = f e := by simp only [sIf, sE, a, if_true]
theorem if_f (a : c e = .ok false) : sIf c f g e = g e := by simp only [sIf, sE, a, Bool.false_eq_true, if_false]
theorem ret_ok (a : x e = .ok (.own o)) : sRet x e = .rt o e := by simp only [sRet, sE, a, kRet]
theorem ret_eff (a : x e = .eff (.own o) e1) : sRet x e = .rt o e1 := by simp only [sRet, sE, a, kRet]
theorem expr_ok {r : RV} (a : x e = .ok r) : sExpr x e = .nx e := by simp only [sExpr, sE, a]
theorem expr_eff {r : RV} (a : x e = .eff r e1) : sExpr x e = .nx e1 := by simp only [sExpr, sE, a]
theorem run_rt {m : Nat} {io : List Nat} {os r : List OD} (a : f (os ++ List.replicate m .un) = .rt o e) (b : outs io e 0 os = some r) : runB m io f os = .ret o r := by simp only [runB, a, b]
theorem run_nx {m : Nat} {io : List Nat} {os r : List OD} (a : f (os ++ List.replicate m .un) = .nx e) (b : outs io e 0 os = some r) : runB m io f os = .ret (.fz .non) r := by simp only [runB, a, b]
theorem run_exc {m : Nat} {io : List Nat} {os r : List OD} {c : Str} (a : f (os ++ List.replicate m .un) = .exc c e) (b : outs io e 0 os = some r) : runB m io f os = .exc c r := by simp only [runB, a, b]
end
theorem for_step {g : OD → Env → Option Env} {body : Env → SO} {d : D} {ds : List D} {e0 e1 e2 : Env} (h1 : g (.fz d) e0 = some e1) (h2 : body e1 = .nx e2) : forGo g body (d :: ds) e0 = forGo g body ds e2 := by
  simp only [forGo, h1, h2]
theorem for_ct {g : OD → Env → Option Env} {body : Env → SO} {d : D} {ds : List D} {e0 e1 e2 : Env} (h1 : g (.fz d) e0 = some e1) (h2 : body e1 = .ct e2) : forGo g body (d :: ds) e0 = forGo g body ds e2 := by
  simp only [forGo, h1, h2]
theorem lend_fz {d : D} (h : env[i]? = some (.fz d)) : lendE i nf f env = f env := by
  simp only [lendE, h]
end
end Tl
namespace Tl
open PySem PySem.Spec L2

@[simp] theorem plain_fz {d : D} : (OD.fz d).plain = some d := frz_fz
@[simp] theorem plain_lst {os : List OD} : (OD.lst os).plain = (frzL os).map .lst := frz_lst
@[simp] theorem plain_tup {os : List OD} : (OD.tup os).plain = (frzL os).map .tup := frz_tup
/-! ### list(range(n)) -/
def gRgL (r : RV) : Option RV := match r.od with
  | .fz (.int j) => if -(2 ^ 24) ≤ j ∧ j ≤ 2 ^ 24 then some (.own (.lst ((rng 0 j.toNat).map .fz))) else none
  | _ => none
theorem rgV_rng {K : PySem.W.Frag} {B : Hp} (j : Int) : RepL K B (rgV 0 j) (rng 0 j.toNat) := by
  have e1 : rgV 0 j = ((List.range j.toNat).map fun k : Nat => (0 + (k : Int))).map V.int := by
    unfold rgV
    rw [List.map_map, Int.sub_zero]; rfl
  have e2 : rng 0 j.toNat = ((List.range j.toNat).map fun k : Nat => (0 + (k : Int))).map D.int := by
    unfold rng
    rw [List.map_map]; rfl
  rw [e1, e2]
  exact repL_int _
section
variable {X : Cx} {W : WX} {a : Expr} {f : Env → O RV} {p p2 pos pos2 : Pos}
theorem r_listRg (hm : X.mg "list" = none) (hm2 : X.mg "range" = none) (h : PEr X W a f) (hc : X.calm = true := by rfl) (hg : Gl X "list" := by rfl) (hg2 : Gl X "range" := by rfl)
    (na : starEach [a] X.env = (false, eval a X.env) :: starEach [] X.env := by rfl) (nb : starEach [.Call (.Name "range" p2) [a] [] pos2] X.env = (false, eval (.Call (.Name "range" p2) [a] [] pos2) X.env) :: starEach [] X.env := by rfl) :
    PEr X W (.Call (.Name "list" p) [.Call (.Name "range" p2) [a] [] pos2] [] pos) (e1 gRgL f) := by
  obtain ⟨t, h, k⟩ := h
  refine ⟨_, pe_listRg hc hg hm (prg_1 hg2 hm2 h na) nb, k.map (r := fun (x : V) (H : Hp) (Q : VK) => ∃ n, x = .int n ∧ RgOk 0 n ∧ ∀ q, H q = none → Q (.ref q) (upd H q (.lst (rgV 0 n)))) fun B H G v r Q s hr n q => ?_⟩
  unfold gRgL at q
  split at q
  · rename_i j e
    have z := rv_fz hr e
    cases z
    split at q
    · rename_i hj
      exact ⟨j, rfl, ⟨by decide, by decide, by omega, by omega, by omega⟩, fun p hp => VPost.lst q s (rgV_rng j) hp⟩
    · exact q.elim
  · exact q.elim
end
@[simp] theorem gRgL_e {j : Int} (h : -(2 ^ 24) ≤ j) (h' : j ≤ 2 ^ 24) : gRgL (.own (.fz (.int j))) = some (.own (.lst ((rng 0 j.toNat).map .fz))) := by
  show (if -(2 ^ 24) ≤ j ∧ j ≤ 2 ^ 24 then _ else _) = _
  rw [if_pos ⟨h, h'⟩]
end Tl
/-! The typed layer: from mirrors to plain typed functions. Ctx: what is known of a frame's slots. -/
namespace Tl
open PySem PySem.Spec L2

abbrev Ctx := List (Option OD)
inductive Fits : Ctx → Env → Prop where
  | nil : Fits [] []
  | un {Γ e o} : Fits Γ e → Fits (none :: Γ) (o :: e)
  | cons {Γ e o} : Fits Γ e → Fits (some o :: Γ) (o :: e)
section
variable {Γ Γ' Γ1 Γ2 Γh : Ctx} {env env' : Env} {i j n : Nat} {o : OD} {y : Option OD}
theorem Fits.get (h : Fits Γ env) (e : Γ[i]? = some (some o)) : env[i]? = some o := by
  induction h generalizing i with
  | nil => simp at e
  | un _ ih => cases i with
    | zero => simp at e
    | succ i => simpa using ih (by simpa using e)
  | cons _ ih => cases i with
    | zero => simpa using e
    | succ i => simpa using ih (by simpa using e)
theorem Fits.len (h : Fits Γ env) : env.length = Γ.length := by
  induction h <;> simp_all
theorem Fits.lt (h : Fits Γ env) (e : Γ[i]? = some y) : i < env.length := by
  rw [h.len]; exact (List.getElem?_eq_some_iff.mp e).1
theorem Fits.set (h : Fits Γ env) : Fits (Γ.set i (some o)) (env.set i o) := by
  induction h generalizing i with
  | nil => exact .nil
  | un h ih => cases i with
    | zero => exact .cons h
    | succ i => exact .un ih
  | cons h ih => cases i with
    | zero => exact .cons h
    | succ i => exact .cons ih
def keep : List Bool → Ctx → Ctx
  | _, [] => []
  | [], _ :: Γ => none :: keep [] Γ
  | true :: m, x :: Γ => x :: keep m Γ
  | false :: m, _ :: Γ => none :: keep m Γ
theorem Fits.keep (h : Fits Γ env) : ∀ m, Fits (keep m Γ) env := by
  induction h with
  | nil => intro m; cases m <;> exact .nil
  | un h ih => intro m; match m with
    | [] => exact .un (ih [])
    | true :: m => exact .un (ih m)
    | false :: m => exact .un (ih m)
  | cons h ih => intro m; match m with
    | [] => exact .un (ih [])
    | true :: m => exact .cons (ih m)
    | false :: m => exact .un (ih m)
theorem Fits.all : ∀ env : Env, Fits (env.map some) env
  | [] => .nil
  | _ :: e => .cons (Fits.all e)
def notUn : OD → Bool
  | .un => false
  | _ => true
theorem notUn_ne (h : notUn o = true) : o ≠ .un := fun e => by subst e; cases h
end

/-- f, where the frame fits Γ, gives r; then it fits Γ'. p: the frame may have been changed -/
def Ev {β : Type} (p : Bool) (f : Env → O β) (Γ : Ctx) (r : β) (Γ' : Ctx) : Prop :=
  ∀ env, Fits Γ env → (f env = .ok r ∧ Fits Γ' env) ∨ (p = true ∧ ∃ env', f env = .eff r env' ∧ Fits Γ' env')
section
variable {Γ Γ' Γ1 Γ2 Γh : Ctx} {i j n : Nat} {o : OD} {y : Option OD} {β γ δ α : Type} {p p1 p2 p3 : Bool} {f g : Env → O β} {fa fb fc : Env → O RV} {a b c r r' : RV} {b1 b2 : Bool} {ca cb : Env → O Bool} {d : D}
theorem ev_map {x : β} {z : γ} {g : β → Option γ} (h : Ev p f Γ x Γ') (e : g x = some z) : Ev p (fun env => (f env).mapP g) Γ z Γ' := by
  intro env q
  rcases h env q with ⟨h1, h2⟩ | ⟨h0, env', h1, h2⟩
  · exact .inl ⟨by simp only [h1, O.mapP, e], h2⟩
  · exact .inr ⟨h0, env', by simp only [h1, O.mapP, e], h2⟩
theorem ev_then {x : β} {z : γ} {k : β → Env → O γ} {jn : β → γ → δ} {safe : β → Bool} (h : Ev p1 f Γ x Γ1) (h' : Ev p2 (k x) Γ1 z Γ2) (hs : (p2 && !safe x) = false) :
    Ev (p1 || p2) (fun env => (f env).andThen safe env k jn) Γ (jn x z) Γ2 := by
  intro env q
  rcases h env q with ⟨h1, h2⟩ | ⟨h0, env', h1, h2⟩
  · rcases h' env h2 with ⟨k1, k2⟩ | ⟨k0, env2, k1, k2⟩
    · exact .inl ⟨by simp only [h1, O.andThen, k1], k2⟩
    · have : safe x = true := by rw [k0] at hs; simpa using hs
      exact .inr ⟨by simp [k0], env2, by simp only [h1, O.andThen, k1, this, if_true], k2⟩
  · rcases h' env' h2 with ⟨k1, k2⟩ | ⟨k0, env2, k1, k2⟩
    · exact .inr ⟨by simp [h0], env', by simp only [h1, O.andThen, k1], k2⟩
    · have : safe x = true := by rw [k0] at hs; simpa using hs
      exact .inr ⟨by simp [h0], env2, by simp only [h1, O.andThen, k1, this, if_true], k2⟩
theorem Ev.up {x : β} (h : Ev p f Γ x Γ') : Ev true f Γ x Γ' := fun env q => (h env q).imp id fun ⟨_, z⟩ => ⟨rfl, z⟩
theorem Ev.kp {x : β} (m : List Bool) (h : Ev p f Γ x Γ') (e : keep m Γ' = Γ2) : Ev p f Γ x Γ2 := by
  subst e
  exact fun env q => (h env q).imp (fun ⟨a, b⟩ => ⟨a, b.keep m⟩) fun ⟨a, e, b, c⟩ => ⟨a, e, b, c.keep m⟩
theorem ev_ok {x : β} : Ev false (fun _ => O.ok x) Γ x Γ := fun env q => .inl ⟨rfl, q⟩
theorem ev_varF (i : Nat) (h : Γ[i]? = some (some (.fz d))) : Ev false (eVar i) Γ (.own (.fz d)) Γ := fun env q => .inl ⟨by simp only [eVar, q.get h], q⟩
theorem ev_varL (i : Nat) {os : List OD} (h : Γ[i]? = some (some (.lst os))) : Ev false (eVar i) Γ (.view (.lst os)) Γ := fun env q => .inl ⟨by simp only [eVar, q.get h], q⟩
theorem ev_varT (i : Nat) {os : List OD} (h : Γ[i]? = some (some (.tup os))) : Ev false (eVar i) Γ (.view (.tup os)) Γ := fun env q => .inl ⟨by simp only [eVar, q.get h], q⟩
theorem ev_varO (i : Nat) (h : Γ[i]? = some (some o)) (hn : (match o with | .un => false | .fz _ => false | _ => true) = true) : Ev false (eVar i) Γ (.view o) Γ := fun env q => .inl ⟨(by
  have g := q.get h
  cases o with
  | un => cases hn
  | fz _ => cases hn
  | _ => simp only [eVar, g]), q⟩
theorem ev_c : Ev false (eC d) Γ (.own (.fz d)) Γ := ev_ok
theorem ev_e1 {g : RV → Option RV} (h : Ev p fa Γ a Γ') (e : g a = some r) : Ev p (e1 g fa) Γ r Γ' := ev_map h e
theorem ev_e2 {g : RV × RV → Option RV} (h : Ev p1 fa Γ a Γ1) (h' : Ev p2 fb Γ1 b Γ2) (hs : (p2 && !a.safe) = false) (e : g (a, b) = some r) : Ev (p1 || p2) (e2 g fa fb) Γ r Γ2 := ev_map (ev_then h h' hs) e
theorem ev_nil : Ev false aNil Γ [] Γ := ev_ok
theorem ev_cons {fr : Env → O (List RV)} {rs : List RV} (h : Ev p1 fa Γ a Γ1) (h' : Ev p2 fr Γ1 rs Γ2) (hs : (p2 && !a.safe) = false) : Ev (p1 || p2) (aCons fa fr) Γ (a :: rs) Γ2 := ev_then h h' hs
theorem ev_eL {g : List RV → Option RV} {fr : Env → O (List RV)} {rs : List RV} (h : Ev p fr Γ rs Γ') (e : g rs = some r) : Ev p (eL g fr) Γ r Γ' := ev_map h e
theorem ev_tV {g : RV → Option Bool} (h : Ev p fa Γ a Γ') (e : g a = some b1) : Ev p (tV g fa) Γ b1 Γ' := ev_map h e
theorem ev_bool (h : Ev p fa Γ (.own (.fz (.bl b1))) Γ') : Ev p (tV RV.bool? fa) Γ b1 Γ' := ev_map h rfl
theorem ev_tru (h : Ev p fa Γ a Γ') (e : a.od.tru = some b1) : Ev p (tV (fun r => r.od.tru) fa) Γ b1 Γ' := ev_map h e
theorem ev_not (h : Ev p ca Γ b1 Γ') : Ev p (bNot ca) Γ (!b1) Γ' := ev_map h rfl
theorem ev_eB (h : Ev p ca Γ b1 Γ') : Ev p (eB ca) Γ (.own (.fz (.bl b1))) Γ' := ev_map h rfl
theorem ev_and (h : Ev p ca Γ b1 Γ1) (h' : b1 = true → Ev false cb Γ1 b2 Γ1) : Ev p (bAnd ca cb) Γ (b1 && b2) Γ1 := by
  have : Ev false (fun e => if b1 = true then cb e else .ok false) Γ1 (b1 && b2) Γ1 := by
    cases b1 with
    | true => exact h' rfl
    | false => exact ev_ok
  have z := ev_then (k := fun b e => if b = true then cb e else .ok false) (jn := fun _ c => c) (safe := fun _ => true) h this rfl
  rw [Bool.or_false] at z
  exact z
theorem ev_or (h : Ev p ca Γ b1 Γ1) (h' : b1 = false → Ev false cb Γ1 b2 Γ1) : Ev p (bOr ca cb) Γ (b1 || b2) Γ1 := by
  have : Ev false (fun e => if b1 = true then .ok true else cb e) Γ1 (b1 || b2) Γ1 := by
    cases b1 with
    | true => exact ev_ok
    | false => exact h' rfl
  have z := ev_then (k := fun b e => if b = true then .ok true else cb e) (jn := fun _ c => c) (safe := fun _ => true) h this rfl
  rw [Bool.or_false] at z
  exact z
theorem ev_eand (h : Ev p fa Γ (.own (.fz (.bl b1))) Γ1) (h' : b1 = true → Ev false fb Γ1 (.own (.fz (.bl b2))) Γ1) : Ev p (eAnd fa fb) Γ (.own (.fz (.bl (b1 && b2)))) Γ1 := by
  have : Ev false (fun e => if b1 = true then fb e else .ok (.own (.fz (.bl false)))) Γ1 (.own (.fz (.bl (b1 && b2)))) Γ1 := by
    cases b1 with
    | true => exact h' rfl
    | false => exact ev_ok
  have z := ev_then (k := fun b e => if b = true then fb e else .ok (.own (.fz (.bl false)))) (jn := fun _ c => c) (safe := fun _ => true) (ev_map (g := RV.bool?) h rfl) this rfl
  rw [Bool.or_false] at z
  exact z
theorem ev_eor (h : Ev p fa Γ (.own (.fz (.bl b1))) Γ1) (h' : b1 = false → Ev false fb Γ1 (.own (.fz (.bl b2))) Γ1) : Ev p (eOr fa fb) Γ (.own (.fz (.bl (b1 || b2)))) Γ1 := by
  have : Ev false (fun e => if b1 = true then .ok (.own (.fz (.bl true))) else fb e) Γ1 (.own (.fz (.bl (b1 || b2)))) Γ1 := by
    cases b1 with
    | true => exact ev_ok
    | false => exact h' rfl
  have z := ev_then (k := fun b e => if b = true then .ok (.own (.fz (.bl true))) else fb e) (jn := fun _ c => c) (safe := fun _ => true) (ev_map (g := RV.bool?) h rfl) this rfl
  rw [Bool.or_false] at z
  exact z
/-! where an operand is partial -/
def Wm {α β : Type} (p : Bool) (f : Env → O β) (Γ : Ctx) (t : Option α) (e : α → β) (Γ' : α → Ctx) : Prop := ∀ v, t = some v → Ev p f Γ (e v) (Γ' v)
theorem wm_ret {e : α → β} {G : α → Ctx} {v : α} (h : Ev p f Γ (e v) (G v)) : Wm p f Γ (some v) e G := fun w q => by cases q; exact h
theorem wm_bind {e : α → β} {G : α → Ctx} {t : Option δ} {k : δ → Option α} (h : ∀ v, t = some v → Wm p f Γ (k v) e G) : Wm p f Γ (t.bind k) e G := by
  intro w q
  cases ht : t with
  | none => rw [ht] at q; cases q
  | some v => rw [ht] at q; exact h v ht w q
theorem wm_kp (m : List Bool) {e : α → β} {G G2 : α → Ctx} {t : Option α} (h : Wm p f Γ t e G) (k : ∀ v, keep m (G v) = G2 v) : Wm p f Γ t e G2 := fun v q => (h v q).kp m (k v)
theorem wm_up {e : α → β} {G : α → Ctx} {t : Option α} (h : Wm p f Γ t e G) : Wm true f Γ t e G := fun v q => (h v q).up
theorem wm_and {e : α → Bool} {G : α → Ctx} {t : Option α} {v0 : α} (h : Ev p1 ca Γ b1 Γ1) (h' : b1 = true → Wm p2 cb Γ1 t e G) (he : e v0 = false) (m : List Bool) (hk : keep m Γ1 = G v0) : Wm (p1 || p2) (bAnd ca cb) Γ (if b1 = true then t else some v0) e G := by
  intro v q
  have : Ev p2 (fun e => if b1 = true then cb e else .ok false) Γ1 (e v) (G v) := by
    cases b1 with
    | true => exact h' rfl v (by simpa using q)
    | false =>
      have : v0 = v := by simpa using q
      subst this
      rw [he]
      exact fun env z => .inl ⟨rfl, hk ▸ z.keep m⟩
  exact ev_then (k := fun b e => if b = true then cb e else .ok false) (jn := fun _ c => c) (safe := fun _ => true) h this (by simp)
theorem wm_or {e : α → Bool} {G : α → Ctx} {t : Option α} {v0 : α} (h : Ev p1 ca Γ b1 Γ1) (h' : b1 = false → Wm p2 cb Γ1 t e G) (he : e v0 = true) (m : List Bool) (hk : keep m Γ1 = G v0) : Wm (p1 || p2) (bOr ca cb) Γ (if b1 = true then some v0 else t) e G := by
  intro v q
  have : Ev p2 (fun e => if b1 = true then .ok true else cb e) Γ1 (e v) (G v) := by
    cases b1 with
    | false => exact h' rfl v (by simpa using q)
    | true =>
      have : v0 = v := by simpa using q
      subst this
      rw [he]
      exact fun env z => .inl ⟨rfl, hk ▸ z.keep m⟩
  exact ev_then (k := fun b e => if b = true then .ok true else cb e) (jn := fun _ c => c) (safe := fun _ => true) h this (by simp)
theorem wm_eand {e : α → RV} {G : α → Ctx} {t : Option α} {v0 : α} (h : Ev p1 fa Γ (.own (.fz (.bl b1))) Γ1) (h' : b1 = true → Wm p2 fb Γ1 t e G) (he : e v0 = .own (.fz (.bl false))) (m : List Bool) (hk : keep m Γ1 = G v0) : Wm (p1 || p2) (eAnd fa fb) Γ (if b1 = true then t else some v0) e G := by
  intro v q
  have : Ev p2 (fun e => if b1 = true then fb e else .ok (.own (.fz (.bl false)))) Γ1 (e v) (G v) := by
    cases b1 with
    | true => exact h' rfl v (by simpa using q)
    | false =>
      have : v0 = v := by simpa using q
      subst this
      rw [he]
      exact fun env z => .inl ⟨rfl, hk ▸ z.keep m⟩
  exact ev_then (k := fun b e => if b = true then fb e else .ok (.own (.fz (.bl false)))) (jn := fun _ c => c) (safe := fun _ => true) (ev_map (g := RV.bool?) h rfl) this (by simp)
theorem wm_eor {e : α → RV} {G : α → Ctx} {t : Option α} {v0 : α} (h : Ev p1 fa Γ (.own (.fz (.bl b1))) Γ1) (h' : b1 = false → Wm p2 fb Γ1 t e G) (he : e v0 = .own (.fz (.bl true))) (m : List Bool) (hk : keep m Γ1 = G v0) : Wm (p1 || p2) (eOr fa fb) Γ (if b1 = true then some v0 else t) e G := by
  intro v q
  have : Ev p2 (fun e => if b1 = true then .ok (.own (.fz (.bl true))) else fb e) Γ1 (e v) (G v) := by
    cases b1 with
    | false => exact h' rfl v (by simpa using q)
    | true =>
      have : v0 = v := by simpa using q
      subst this
      rw [he]
      exact fun env z => .inl ⟨rfl, hk ▸ z.keep m⟩
  exact ev_then (k := fun b e => if b = true then .ok (.own (.fz (.bl true))) else fb e) (jn := fun _ c => c) (safe := fun _ => true) (ev_map (g := RV.bool?) h rfl) this (by simp)
theorem wm_ifx {e : α → β} {G : α → Ctx} {t1 t2 : Option α} (h : Ev p1 ca Γ b1 Γ1) (h1 : b1 = true → Wm p2 f Γ1 t1 e G) (h2 : b1 = false → Wm p3 g Γ1 t2 e G) : Wm (p1 || (p2 || p3)) (bIf ca f g) Γ (if b1 = true then t1 else t2) e G := by
  intro v q
  have : Ev (p2 || p3) (fun e => if b1 = true then f e else g e) Γ1 (e v) (G v) := by
    cases b1 with
    | true => exact fun env z => (h1 rfl v (by simpa using q) env z).imp id fun ⟨a, b⟩ => ⟨by simp [a], b⟩
    | false => exact fun env z => (h2 rfl v (by simpa using q) env z).imp id fun ⟨a, b⟩ => ⟨by simp [a], b⟩
  exact ev_then (k := fun b e => if b = true then f e else g e) (jn := fun _ c => c) (safe := fun _ => true) h this (by simp)
theorem ev_ifx {e : α → β} {x z : α} (h : Ev p1 ca Γ b1 Γ1) (h1 : b1 = true → Ev false f Γ1 (e x) Γ1) (h2 : b1 = false → Ev false g Γ1 (e z) Γ1) : Ev p1 (bIf ca f g) Γ (e (if b1 = true then x else z)) Γ1 := by
  have w := wm_ifx (t1 := some x) (t2 := some z) (e := e) (G := fun _ => Γ1) h (fun q => wm_ret (h1 q)) (fun q => wm_ret (h2 q)) (if b1 = true then x else z) (by cases b1 <;> rfl)
  simpa using w
end

/-! ### calls -/
inductive Gath : List AR → Ctx → List OD → Ctx → Prop where
  | nil {Γ} : Gath [] Γ [] Γ
  | rv {r : RV} {d as Γ ds Γh} (h : r.argO = some d) : Gath as Γ ds Γh → Gath (.rv r :: as) Γ (d :: ds) Γh
  | tmp {o as Γ ds Γh} : Gath as Γ ds Γh → Gath (.tmp o :: as) Γ (o :: ds) Γh
  | io {i o as Γ ds Γh} (h : Γ[i]? = some (some o)) (hn : notUn o = true) : Gath as (Γ.set i (some .un)) ds Γh → Gath (.io i :: as) Γ (o :: ds) Γh
def putC : List AR → List OD → Ctx → Ctx
  | .tmp _ :: as, _ :: ds, Γ => putC as ds Γ
  | .io i :: as, o :: ds, Γ => (putC as ds Γ).set i (some o)
  | .rv _ :: as, _ :: ds, Γ => putC as ds Γ
  | _, _, Γ => Γ
theorem Gath.gath {ars : List AR} {Γ Γh : Ctx} {ds : List OD} (h : Gath ars Γ ds Γh) : ∀ {env : Env}, Fits Γ env → ∃ envh, Tl.gath ars env = some (ds, envh) ∧ Fits Γh envh := by
  induction h with
  | nil => exact fun {env} q => ⟨env, rfl, q⟩
  | rv h _ ih =>
      intro env q
      obtain ⟨e, a, b⟩ := ih q
      exact ⟨e, by simp only [Tl.gath, h, a], b⟩
  | tmp _ ih =>
      intro env q
      obtain ⟨e, a, b⟩ := ih q
      exact ⟨e, by simp only [Tl.gath, a], b⟩
  | @io i o as Γ ds Γh h hn _ ih =>
      intro env q
      obtain ⟨e, a, b⟩ := ih (q.set (i := i) (o := .un))
      refine ⟨e, ?_, b⟩
      have := q.get h
      cases o with
      | un => cases hn
      | _ => simp only [Tl.gath, this, a]
theorem putB_fits : ∀ {ars : List AR} {ds : List OD} {Γ : Ctx} {env : Env}, Fits Γ env → Fits (putC ars ds Γ) (putB ars ds env)
  | [], _, _, _, h => by simpa [putC, putB] using h
  | .tmp _ :: as, [], _, _, h => by simpa [putC, putB] using h
  | .io _ :: as, [], _, _, h => by simpa [putC, putB] using h
  | .rv _ :: as, [], _, _, h => by simpa [putC, putB] using h
  | .tmp _ :: as, _ :: ds, _, _, h => by simpa [putC, putB] using putB_fits (ars := as) h
  | .io i :: as, o :: ds, _, _, h => by simpa [putC, putB] using (putB_fits (ars := as) h).set
  | .rv _ :: as, _ :: ds, _, _, h => by simpa [putC, putB] using putB_fits (ars := as) h
section
variable {Γ Γ' Γ1 Γ2 Γh : Ctx} {i j n : Nat} {o : OD} {y : Option OD} {p p1 p2 : Bool} {fa : Env → O RV} {a r : RV} {fr : Env → O (List AR)} {ars : List AR} {ds ds' : List OD} {Fm : List OD → FO}
theorem ev_cnil : Ev false cNil Γ [] Γ := ev_ok
theorem ev_cval (h : Ev p1 fa Γ a Γ1) (h' : Ev p2 fr Γ1 ars Γ2) (hs : (p2 && !a.safe) = false) : Ev (p1 || p2) (cVal fa fr) Γ (.rv a :: ars) Γ2 := ev_then h h' hs
theorem ev_ctmp (h : Ev p1 fa Γ (.own o) Γ1) (h' : Ev p2 fr Γ1 ars Γ2) : Ev (p1 || p2) (cTmp fa fr) Γ (.tmp o :: ars) Γ2 := ev_then (ev_map h rfl) h' (by simp)
theorem ev_cio (i : Nat) (h : Γ[i]? = some (some o)) (hn : notUn o = true) (h' : Ev p fr Γ ars Γ2) : Ev p (cIo i fr) Γ (.io i :: ars) Γ2 := by
  intro env q
  have g := q.get h
  have hc : cIo i fr env = match fr env with
      | .ok b => .ok (.io i :: b)
      | .eff b e => .eff (.io i :: b) e
      | .exc c e => .exc c e
      | .bad => .bad := by
    cases o with
    | un => cases hn
    | _ => simp only [cIo, g] <;> cases fr env <;> rfl
  rcases h' env q with ⟨h1, h2⟩ | ⟨h0, env', h1, h2⟩
  · exact .inl ⟨by rw [hc, h1], h2⟩
  · exact .inr ⟨h0, env', by rw [hc, h1], h2⟩
theorem ev_call (ha : Ev p fr Γ ars Γ1) (hg : Gath ars Γ1 ds Γh) (hm : Fm ds = .ret o ds') (hl : (lends ars && !(nfo o && nfIo ars ds')) = false) (hk : (looks ars && (hasIo ars || hasTmp ars)) = false) :
    Ev (hasIo ars || p) (eCall Fm fr) Γ (.own o) (putC ars ds' Γh) := by
  intro env q
  have key : ∀ (t : Bool) (e : Env), Fits Γ1 e → ∃ e2, Fits (putC ars ds' Γh) e2 ∧ callAt Fm ars e t = if (hasIo ars || t) = true then .eff (.own o) e2 else .ok (.own o) := fun t e z => by
    obtain ⟨eh, h1, h2⟩ := hg.gath z
    refine ⟨_, putB_fits (ars := ars) (ds := ds') h2, ?_⟩
    simp only [callAt, h1, hm, hl, hk, Bool.false_eq_true, if_false]
  have back : hasIo ars = false → ∀ e, Fits Γ1 e → Fits (putC ars ds' Γh) e := fun hh e z => by
    obtain ⟨eh, h1, h2⟩ := hg.gath z
    have : ∀ (as : List AR) (dd : List OD) (x xh : Env), hasIo as = false → gath as x = some (dd, xh) → xh = x := by
      intro as
      induction as with
      | nil => intro dd x xh _ e; simp [gath] at e; exact e.2.symm
      | cons a as ih => intro dd x xh hh e; cases a with
        | io i => simp [hasIo] at hh
        | rv r =>
          simp only [gath] at e
          split at e
          · split at e
            · cases e; rename_i k; exact ih _ _ _ (by simpa [hasIo] using hh) k
            · cases e
          · cases e
        | tmp o =>
          simp only [gath] at e
          split at e
          · cases e; rename_i k; exact ih _ _ _ (by simpa [hasIo] using hh) k
          · cases e
    have e1 := this ars ds e eh hh h1
    subst e1
    have pb : ∀ (as : List AR) (dd : List OD) (x : Env), hasIo as = false → putB as dd x = x := by
      intro as
      induction as with
      | nil => intro dd x _; simp [putB]
      | cons a as ih => intro dd x hh; cases dd with
        | nil => cases a <;> simp [putB]
        | cons d dd => cases a with
          | io i => simp [hasIo] at hh
          | rv r => simpa [putB] using ih dd x (by simpa [hasIo] using hh)
          | tmp o => simpa [putB] using ih dd x (by simpa [hasIo] using hh)
    have := putB_fits (ars := ars) (ds := ds') h2
    rwa [pb ars ds' eh hh] at this
  rcases ha env q with ⟨h1, h2⟩ | ⟨h0, env', h1, h2⟩
  · obtain ⟨e2, z1, z2⟩ := key false env h2
    have e : eCall Fm fr env = callAt Fm ars env false := by simp only [eCall, h1]
    cases hi : hasIo ars with
    | true => exact .inr ⟨by simp, e2, by rw [e, z2, hi]; simp, z1⟩
    | false => exact .inl ⟨by rw [e, z2, hi]; simp, back hi env h2⟩
  · obtain ⟨e2, z1, z2⟩ := key true env' h2
    have e : eCall Fm fr env = callAt Fm ars env' true := by simp only [eCall, h1]
    exact .inr ⟨by simp [h0], e2, by rw [e, z2]; simp, z1⟩
end

/-! ### statements -/
def Sk {T : Type} (P : T → SO → Prop) (m : Env → SO) (Γ : Ctx) (t : Option T) : Prop := ∀ x, t = some x → ∀ env, Fits Γ env → P x (m env)
def Tg (g : OD → Env → Option Env) (o : OD) (Γ Γ' : Ctx) : Prop := ∀ env, Fits Γ env → ∃ env', g o env = some env' ∧ Fits Γ' env'
def Tgs (g : List OD → Env → Option Env) (os : List OD) (Γ Γ' : Ctx) : Prop := ∀ env, Fits Γ env → ∃ env', g os env = some env' ∧ Fits Γ' env'
/-- what a block that comes to its end leaves -/
def PJ {σ : Type} (G : σ → Ctx) : σ → SO → Prop := fun s so => ∃ env, so = .nx env ∧ Fits (G s) env
/-- a loop's body that neither breaks nor returns -/
def PL {σ : Type} (G : σ → Ctx) : σ → SO → Prop := fun s so => ∃ env, (so = .nx env ∨ so = .ct env) ∧ Fits (G s) env
/-- a loop's body -/
inductive LS (σ R : Type) where
  | go (s : σ) | stop (s : σ) | ret (r : R)
inductive LO (σ R : Type) where
  | fin (s : σ) | ret (r : R)
def PX {σ R : Type} (G : σ → Ctx) (PR : R → SO → Prop) : LS σ R → SO → Prop
  | .go s, so => ∃ env, (so = .nx env ∨ so = .ct env) ∧ Fits (G s) env
  | .stop s, so => ∃ env, so = .bk env ∧ Fits (G s) env
  | .ret r, so => PR r so ∧ ((∃ o e, so = .rt o e) ∨ (∃ c e, so = .exc c e))
/-- a def's end -/
def PF {T : Type} (eR : T → OD) (G : T → Ctx) : T → SO → Prop := fun x so => ∃ env, (so = .rt (eR x) env ∨ (so = .nx env ∧ eR x = .fz .non)) ∧ Fits (G x) env
inductive Ex (R : Type) where
  | val (r : R) | exc (c : Str)
def PE' {T : Type} (eR : T → OD) (G : T → Ctx) (Gx : Ctx) : Ex T → SO → Prop
  | .val x, so => PF eR G x so
  | .exc c, so => ∃ env, so = .exc c env ∧ Fits Gx env
@[simp] def LO.elim {σ R T : Type} (y : LO σ R) (k : σ → Option T) (q : R → Option T) : Option T := match y with
  | .fin s => k s
  | .ret r => q r
@[simp] def Ex.elim {R T : Type} (y : Ex R) (k : R → Option T) (q : Str → Option T) : Option T := match y with
  | .val s => k s
  | .exc r => q r
def forO {α σ : Type} : List α → σ → (α → σ → Option σ) → Option σ
  | [], s, _ => some s
  | x :: xs, s, f => (f x s).bind fun s' => forO xs s' f
def forX {α σ R : Type} : List α → σ → (α → σ → Option (LS σ R)) → Option (LO σ R)
  | [], s, _ => some (.fin s)
  | x :: xs, s, f => (f x s).bind fun y => match y with
    | .go s' => forX xs s' f
    | .stop s' => some (.fin s')
    | .ret r => some (.ret r)
def whO {σ : Type} (c : σ → Option Bool) (f : σ → Option σ) : Nat → σ → Option σ
  | 0, _ => none
  | n + 1, s => (c s).bind fun b => if b = true then (f s).bind fun s' => whO c f n s' else some s
def whX {σ R : Type} (c : σ → Option Bool) (f : σ → Option (LS σ R)) : Nat → σ → Option (LO σ R)
  | 0, _ => none
  | n + 1, s => (c s).bind fun b => if b = true then (f s).bind fun y => match y with
    | .go s' => whX c f n s'
    | .stop s' => some (.fin s')
    | .ret r => some (.ret r) else some (.fin s)
section
variable {T S σ R α β γ : Type} {P : T → SO → Prop} {m rest a b c A B body : Env → SO} {Γ Γ' Γ1 Γ2 : Ctx} {t : Option T} {x : T} {f : Env → O RV} {i j : Nat} {o : OD} {r : RV} {p p1 p2 : Bool} {tg : OD → Env → Option Env} {y : Option OD}
theorem sk_bind {t1 : Option α} {k : α → Option T} (h : ∀ v, t1 = some v → Sk P m Γ (k v)) : Sk P m Γ (t1.bind k) := by
  intro x q
  cases ht : t1 with
  | none => rw [ht] at q; cases q
  | some v => rw [ht] at q; exact h v ht x q
theorem sk_ex {R' : Type} {x : Ex R'} {kv : R' → Option T} {kx : Str → Option T} (h : ∀ v, x = .val v → Sk P m Γ (kv v)) (h' : ∀ c, x = .exc c → Sk P m Γ (kx c)) : Sk P m Γ (x.elim kv kx) := by
  cases x with
  | val v => exact h v rfl
  | exc c => exact h' c rfl
theorem seq_last : sSeq m sNx = m := by
  funext env; simp only [sSeq, sNx]; cases m env <;> rfl
theorem seq_assoc : sSeq (sSeq a b) c = sSeq a (sSeq b c) := by
  funext env; simp only [sSeq]; cases a env <;> rfl
theorem sk_last (h : Sk P (sSeq m sNx) Γ t) : Sk P m Γ t := by rwa [seq_last] at h
theorem sk_assoc (h : Sk P (sSeq a (sSeq b c)) Γ t) : Sk P (sSeq (sSeq a b) c) Γ t := by rwa [seq_assoc]
theorem sk_nx (h : Sk P rest Γ t) : Sk P (sSeq sNx rest) Γ t := h
theorem sk_end (h : ∀ env, Fits Γ env → P x (.nx env)) : Sk P sNx Γ (some x) := fun z q env w => by cases q; exact h env w
theorem sk_E {f : Env → O β} {κ : β → Env → SO} {r : β} (h : Ev p f Γ r Γ') (k : Sk P (sSeq (κ r) rest) Γ' t) : Sk P (sSeq (sE f κ) rest) Γ t := by
  intro x q env w
  rcases h env w with ⟨h1, h2⟩ | ⟨h0, env', h1, h2⟩
  · have := k x q env h2
    simpa only [sSeq, sE, h1] using this
  · have := k x q env' h2
    simpa only [sSeq, sE, h1] using this
theorem sk_asg (h : Ev p f Γ (.own o) Γ1) (g : Tg tg o Γ1 Γ2) (k : Sk P rest Γ2 t) : Sk P (sSeq (sAsg f tg) rest) Γ t := by
  refine sk_E h fun x q env w => ?_
  obtain ⟨env', h1, h2⟩ := g env w
  have := k x q env' h2
  simpa only [sSeq, kAsg, h1] using this
theorem sk_expr (h : Ev p f Γ r Γ1) (k : Sk P rest Γ1 t) : Sk P (sSeq (sExpr f) rest) Γ t := sk_E h k
theorem sk_ret (h : Ev p f Γ (.own o) Γ1) (q : ∀ env, Fits Γ1 env → P x (.rt o env)) : Sk P (sSeq (sRet f) rest) Γ (some x) :=
  sk_E h fun z e env w => by cases e; exact q env w
theorem sk_retN (q : ∀ env, Fits Γ env → P x (.rt (.fz .non) env)) : Sk P (sSeq sRetN rest) Γ (some x) := fun z e env w => by cases e; exact q env w
theorem sk_raise {c : Str} (q : ∀ env, Fits Γ env → P x (.exc c env)) : Sk P (sSeq (sRaise c) rest) Γ (some x) := fun z e env w => by cases e; exact q env w
theorem sk_break (q : ∀ env, Fits Γ env → P x (.bk env)) : Sk P (sSeq sBk rest) Γ (some x) := fun z e env w => by cases e; exact q env w
theorem sk_cont (q : ∀ env, Fits Γ env → P x (.ct env)) : Sk P (sSeq sCt rest) Γ (some x) := fun z e env w => by cases e; exact q env w
theorem sk_if {cc : Env → O Bool} {b : Bool} {tA tB : Option T} (h : Ev p cc Γ b Γ1) (hA : b = true → Sk P (sSeq A rest) Γ1 tA) (hB : b = false → Sk P (sSeq B rest) Γ1 tB) : Sk P (sSeq (sIf cc A B) rest) Γ (if b = true then tA else tB) := by
  refine sk_E h ?_
  cases b with
  | true => exact hA rfl
  | false => exact hB rfl
theorem sk_join {G : S → Ctx} {t1 : Option S} {k : S → Option T} (h : Sk (PJ G) m Γ t1) (h' : ∀ s, Sk P rest (G s) (k s)) : Sk P (sSeq m rest) Γ (t1.bind k) := by
  intro x q env w
  cases ht : t1 with
  | none => rw [ht] at q; cases q
  | some s =>
    rw [ht] at q
    obtain ⟨e, h1, h2⟩ := h s ht env w
    have := h' s x q e h2
    simpa only [sSeq, h1] using this
theorem sk_for {f : Env → O (List D)} {eX : α → D} {xs : List α} {G : σ → Ctx} {Gb : α → σ → Ctx} {tb : α → σ → Option σ} {s0 : σ} {k : σ → Option T} (msk : List Bool) (h : Ev p f Γ (xs.map eX) Γ1) (h0 : keep msk Γ1 = G s0) (ht : ∀ x s, Tg tg (.fz (eX x)) (G s) (Gb x s)) (hb : ∀ x s, Sk (PL G) body (Gb x s) (tb x s)) (hk : ∀ s, Sk P rest (G s) (k s)) :
    Sk P (sSeq (sFor f tg body) rest) Γ ((forO xs s0 tb).bind k) := by
  refine sk_E h ?_
  have key : ∀ (xs : List α) (s0 s : σ) (env : Env), forO xs s0 tb = some s → Fits (G s0) env → ∃ env', forGo tg body (xs.map eX) env = .nx env' ∧ Fits (G s) env' := by
    intro xs
    induction xs with
    | nil => intro s0 s env q w; cases q; exact ⟨env, rfl, w⟩
    | cons x xs ih =>
      intro s0 s env q w
      simp only [forO] at q
      cases hs : tb x s0 with
      | none => rw [hs] at q; cases q
      | some s1 =>
        rw [hs] at q
        obtain ⟨e1, h1, h2⟩ := ht x s0 env w
        obtain ⟨e2, h3, h4⟩ := hb x s0 s1 hs e1 h2
        obtain ⟨e3, h5, h6⟩ := ih s1 s e2 q h4
        refine ⟨e3, ?_, h6⟩
        simp only [List.map_cons, forGo, h1]
        rcases h3 with h3 | h3 <;> simp only [h3] <;> exact h5
  intro x q env w
  cases hs : forO xs s0 tb with
  | none => rw [hs] at q; cases q
  | some s =>
    rw [hs] at q
    obtain ⟨e, h1, h2⟩ := key xs s0 s env hs (h0 ▸ w.keep msk)
    have := hk s x q e h2
    simpa only [sSeq, h1] using this
theorem sk_forX {f : Env → O (List D)} {eX : α → D} {xs : List α} {G : σ → Ctx} {PR : R → SO → Prop} {Gb : α → σ → Ctx} {tb : α → σ → Option (LS σ R)} {s0 : σ} {k : σ → Option T} {inj : R → T} (msk : List Bool) (h : Ev p f Γ (xs.map eX) Γ1) (h0 : keep msk Γ1 = G s0) (ht : ∀ x s, Tg tg (.fz (eX x)) (G s) (Gb x s)) (hb : ∀ x s, Sk (PX G PR) body (Gb x s) (tb x s)) (hi : ∀ r so, PR r so → ((∃ o e, so = .rt o e) ∨ (∃ c e, so = .exc c e)) → P (inj r) so) (hk : ∀ s, Sk P rest (G s) (k s)) :
    Sk P (sSeq (sFor f tg body) rest) Γ ((forX xs s0 tb).bind fun y => y.elim k fun r => some (inj r)) := by
  refine sk_E h ?_
  have key : ∀ (xs : List α) (s0 : σ) (y : LO σ R) (env : Env), forX xs s0 tb = some y → Fits (G s0) env → match y with
      | .fin s => ∃ env', forGo tg body (xs.map eX) env = .nx env' ∧ Fits (G s) env'
      | .ret r => ∃ so, forGo tg body (xs.map eX) env = so ∧ PR r so ∧ ((∃ o e, so = .rt o e) ∨ (∃ c e, so = .exc c e)) := by
    intro xs
    induction xs with
    | nil => intro s0 y env q w; cases q; exact ⟨env, rfl, w⟩
    | cons x xs ih =>
      intro s0 y env q w
      simp only [forX] at q
      cases hs : tb x s0 with
      | none => rw [hs] at q; cases q
      | some z =>
        rw [hs] at q
        obtain ⟨e1, h1, h2⟩ := ht x s0 env w
        have hb' := hb x s0 z hs e1 h2
        cases z with
        | go s1 =>
          obtain ⟨e2, h3, h4⟩ := hb'
          have e : forGo tg body ((x :: xs).map eX) env = forGo tg body (xs.map eX) e2 := by
            simp only [List.map_cons, forGo, h1]
            rcases h3 with h3 | h3 <;> simp only [h3]
          rw [e]
          exact ih s1 y e2 q h4
        | stop s1 =>
          obtain ⟨e2, h3, h4⟩ := hb'
          cases q
          exact ⟨e2, by simp only [List.map_cons, forGo, h1, h3], h4⟩
        | ret r =>
          cases q
          obtain ⟨h3, h4⟩ := hb'
          refine ⟨body e1, ?_, h3, h4⟩
          simp only [List.map_cons, forGo, h1]
          rcases h4 with ⟨o, e, h4⟩ | ⟨c, e, h4⟩ <;> simp only [h4]
  intro x q env w
  cases hs : forX xs s0 tb with
  | none => rw [hs] at q; cases q
  | some y =>
    rw [hs] at q
    have kk := key xs s0 y env hs (h0 ▸ w.keep msk)
    cases y with
    | fin s =>
      obtain ⟨e, h1, h2⟩ := kk
      have := hk s x q e h2
      simpa only [sSeq, h1] using this
    | ret r =>
      obtain ⟨so, h1, h2, h3⟩ := kk
      cases q
      have := hi r so h2 h3
      simp only [sSeq, h1]
      rcases h3 with ⟨o, e, h4⟩ | ⟨c, e, h4⟩ <;> subst h4 <;> exact this
theorem sk_wh {cc : Env → O Bool} {G : σ → Ctx} {tc : σ → Option Bool} {tb : σ → Option σ} {s0 : σ} {k : σ → Option T} {n : Nat} (msk : List Bool) (h0 : keep msk Γ = G s0) (hc : ∀ s, Wm false cc (G s) (tc s) (fun b => b) (fun _ => G s)) (hb : ∀ s, Sk (PL G) body (G s) (tb s)) (hk : ∀ s, Sk P rest (G s) (k s)) :
    Sk P (sSeq (whileGo cc body n) rest) Γ ((whO tc tb n s0).bind k) := by
  have key : ∀ (n : Nat) (s0 s : σ) (env : Env), whO tc tb n s0 = some s → Fits (G s0) env → ∃ env', whileGo cc body n env = .nx env' ∧ Fits (G s) env' := by
    intro n
    induction n with
    | zero => intro s0 s env q w; cases q
    | succ n ih =>
      intro s0 s env q w
      simp only [whO] at q
      cases hs : tc s0 with
      | none => rw [hs] at q; cases q
      | some b =>
        rw [hs] at q
        rcases hc s0 b hs env w with ⟨h1, h2⟩ | ⟨h0, _⟩
        · cases b with
          | false => cases q; exact ⟨env, by simp [whileGo, sE, h1], w⟩
          | true =>
            simp only [if_true, Option.bind] at q
            cases hs1 : tb s0 with
            | none => rw [hs1] at q; cases q
            | some s1 =>
              rw [hs1] at q
              obtain ⟨e2, h3, h4⟩ := hb s0 s1 hs1 env w
              obtain ⟨e3, h5, h6⟩ := ih s1 s e2 q h4
              refine ⟨e3, ?_, h6⟩
              rcases h3 with h3 | h3 <;> simp [whileGo, sE, h1, h3, h5]
        · cases h0
  intro x q env w
  cases hs : whO tc tb n s0 with
  | none => rw [hs] at q; cases q
  | some s =>
    rw [hs] at q
    obtain ⟨e, h1, h2⟩ := key n s0 s env hs (h0 ▸ w.keep msk)
    have := hk s x q e h2
    simpa only [sSeq, h1] using this
theorem sk_whX {cc : Env → O Bool} {G : σ → Ctx} {PR : R → SO → Prop} {tc : σ → Option Bool} {tb : σ → Option (LS σ R)} {s0 : σ} {k : σ → Option T} {n : Nat} {inj : R → T} (msk : List Bool) (h0 : keep msk Γ = G s0) (hc : ∀ s, Wm false cc (G s) (tc s) (fun b => b) (fun _ => G s)) (hb : ∀ s, Sk (PX G PR) body (G s) (tb s)) (hi : ∀ r so, PR r so → ((∃ o e, so = .rt o e) ∨ (∃ c e, so = .exc c e)) → P (inj r) so) (hk : ∀ s, Sk P rest (G s) (k s)) :
    Sk P (sSeq (whileGo cc body n) rest) Γ ((whX tc tb n s0).bind fun y => y.elim k fun r => some (inj r)) := by
  have key : ∀ (n : Nat) (s0 : σ) (y : LO σ R) (env : Env), whX tc tb n s0 = some y → Fits (G s0) env → match y with
      | .fin s => ∃ env', whileGo cc body n env = .nx env' ∧ Fits (G s) env'
      | .ret r => ∃ so, whileGo cc body n env = so ∧ PR r so ∧ ((∃ o e, so = .rt o e) ∨ (∃ c e, so = .exc c e)) := by
    intro n
    induction n with
    | zero => intro s0 s env q w; cases q
    | succ n ih =>
      intro s0 y env q w
      simp only [whX] at q
      cases hs : tc s0 with
      | none => rw [hs] at q; cases q
      | some b =>
        rw [hs] at q
        rcases hc s0 b hs env w with ⟨h1, h2⟩ | ⟨h0, _⟩
        · cases b with
          | false => cases q; exact ⟨env, by simp [whileGo, sE, h1], w⟩
          | true =>
            simp only [if_true, Option.bind] at q
            cases hs1 : tb s0 with
            | none => rw [hs1] at q; cases q
            | some z =>
              rw [hs1] at q
              have hb' := hb s0 z hs1 env w
              cases z with
              | go s1 =>
                obtain ⟨e2, h3, h4⟩ := hb'
                have e : whileGo cc body (n + 1) env = whileGo cc body n e2 := by
                  rcases h3 with h3 | h3 <;> simp [whileGo, sE, h1, h3]
                rw [e]
                exact ih s1 y e2 q h4
              | stop s1 =>
                obtain ⟨e2, h3, h4⟩ := hb'
                cases q
                exact ⟨e2, by simp [whileGo, sE, h1, h3], h4⟩
              | ret r =>
                cases q
                obtain ⟨h3, h4⟩ := hb'
                refine ⟨body env, ?_, h3, h4⟩
                rcases h4 with ⟨o, e, h4⟩ | ⟨c, e, h4⟩ <;> simp [whileGo, sE, h1, h4]
        · cases h0
  intro x q env w
  cases hs : whX tc tb n s0 with
  | none => rw [hs] at q; cases q
  | some y =>
    rw [hs] at q
    have kk := key n s0 y env hs (h0 ▸ w.keep msk)
    cases y with
    | fin s =>
      obtain ⟨e, h1, h2⟩ := kk
      have := hk s x q e h2
      simpa only [sSeq, h1] using this
    | ret r =>
      obtain ⟨so, h1, h2, h3⟩ := kk
      cases q
      have := hi r so h2 h3
      simp only [sSeq, h1]
      rcases h3 with ⟨o, e, h4⟩ | ⟨c, e, h4⟩ <;> subst h4 <;> exact this
/-! targets -/
theorem tg_set (i : Nat) (hi : Γ[i]? = some y) : Tg (gSet i) o Γ (Γ.set i (some o)) := fun env w => ⟨_, by simp only [gSet, w.lt hi, if_true], w.set⟩
theorem tgs_nil : Tgs gsNil [] Γ Γ := fun env w => ⟨env, rfl, w⟩
theorem tgs_cons {g : OD → Env → Option Env} {gs : List OD → Env → Option Env} {os : List OD} (h : Tg g o Γ Γ1) (h' : Tgs gs os Γ1 Γ2) : Tgs (gsCons g gs) (o :: os) Γ Γ2 := fun env w => by
  obtain ⟨e1, a, b⟩ := h env w
  obtain ⟨e2, c, d⟩ := h' e1 b
  exact ⟨e2, by simp only [gsCons, a, c], d⟩
theorem tg_tup {n : Nat} {gs : List OD → Env → Option Env} {ds : List D} (hl : ds.length = n) (h : Tgs gs (ds.map .fz) Γ Γ1) : Tg (gTupT n gs) (.fz (.tup ds)) Γ Γ1 := fun env w => by
  obtain ⟨e, a, b⟩ := h env w
  exact ⟨e, by simp only [gTupT, hl, if_true, a], b⟩
theorem tg_otup {n : Nat} {gs : List OD → Env → Option Env} {os : List OD} (hl : os.length = n) (h : Tgs gs os Γ Γ1) : Tg (gTupT n gs) (.tup os) Γ Γ1 := fun env w => by
  obtain ⟨e, a, b⟩ := h env w
  exact ⟨e, by simp only [gTupT, hl, if_true, a], b⟩
/-- ways to end -/
theorem pj_nx {G : σ → Ctx} {s : σ} (msk : List Bool) (h : keep msk Γ = G s) : ∀ env, Fits Γ env → PJ G s (.nx env) := fun env w => ⟨env, rfl, h ▸ w.keep msk⟩
theorem pl_nx {G : σ → Ctx} {s : σ} (msk : List Bool) (h : keep msk Γ = G s) : ∀ env, Fits Γ env → PL G s (.nx env) := fun env w => ⟨env, .inl rfl, h ▸ w.keep msk⟩
theorem pl_ct {G : σ → Ctx} {s : σ} (msk : List Bool) (h : keep msk Γ = G s) : ∀ env, Fits Γ env → PL G s (.ct env) := fun env w => ⟨env, .inr rfl, h ▸ w.keep msk⟩
theorem px_nx {G : σ → Ctx} {PR : R → SO → Prop} {s : σ} (msk : List Bool) (h : keep msk Γ = G s) : ∀ env, Fits Γ env → PX G PR (.go s) (.nx env) := fun env w => ⟨env, .inl rfl, h ▸ w.keep msk⟩
theorem px_ct {G : σ → Ctx} {PR : R → SO → Prop} {s : σ} (msk : List Bool) (h : keep msk Γ = G s) : ∀ env, Fits Γ env → PX G PR (.go s) (.ct env) := fun env w => ⟨env, .inr rfl, h ▸ w.keep msk⟩
theorem px_bk {G : σ → Ctx} {PR : R → SO → Prop} {s : σ} (msk : List Bool) (h : keep msk Γ = G s) : ∀ env, Fits Γ env → PX G PR (.stop s) (.bk env) := fun env w => ⟨env, rfl, h ▸ w.keep msk⟩
theorem px_rt {G : σ → Ctx} {PR : R → SO → Prop} {r : R} (h : ∀ env, Fits Γ env → PR r (.rt o env)) : ∀ env, Fits Γ env → PX G PR (.ret r) (.rt o env) := fun env w => ⟨h env w, .inl ⟨_, _, rfl⟩⟩
theorem px_exc {c : Str} {G : σ → Ctx} {PR : R → SO → Prop} {r : R} (h : ∀ env, Fits Γ env → PR r (.exc c env)) : ∀ env, Fits Γ env → PX G PR (.ret r) (.exc c env) := fun env w => ⟨h env w, .inr ⟨_, _, rfl⟩⟩
theorem pf_rt {eR : T → OD} {G : T → Ctx} (msk : List Bool) (e : o = eR x) (h : keep msk Γ = G x) : ∀ env, Fits Γ env → PF eR G x (.rt o env) := fun env w => ⟨env, .inl (by rw [e]), h ▸ w.keep msk⟩
theorem pf_nx {eR : T → OD} {G : T → Ctx} (msk : List Bool) (e : eR x = .fz .non) (h : keep msk Γ = G x) : ∀ env, Fits Γ env → PF eR G x (.nx env) := fun env w => ⟨env, .inr ⟨rfl, e⟩, h ▸ w.keep msk⟩
theorem pe_rt {eR : T → OD} {G : T → Ctx} {Gx : Ctx} (msk : List Bool) (e : o = eR x) (h : keep msk Γ = G x) : ∀ env, Fits Γ env → PE' eR G Gx (.val x) (.rt o env) := pf_rt msk e h
theorem pe_nx {eR : T → OD} {G : T → Ctx} {Gx : Ctx} (msk : List Bool) (e : eR x = .fz .non) (h : keep msk Γ = G x) : ∀ env, Fits Γ env → PE' eR G Gx (.val x) (.nx env) := pf_nx msk e h
theorem pe_exc {eR : T → OD} {G : T → Ctx} {Gx : Ctx} {c : Str} (msk : List Bool) (h : keep msk Γ = Gx) : ∀ env, Fits Γ env → PE' eR G Gx (.exc c) (.exc c env) := fun env w => ⟨env, rfl, h ▸ w.keep msk⟩
/-! a def -/
def outsC (io : List Nat) (Γ : Ctx) : Nat → List OD → Option (List OD)
  | _, [] => some []
  | k, d :: ds => if io.contains k = true then match Γ[k]? with
      | some (some .un) => none
      | some (some o) => match outsC io (Γ.set k (some .un)) (k + 1) ds with
        | some r => some (o :: r)
        | none => none
      | _ => none
    else if isFz d = true then match outsC io Γ (k + 1) ds with
      | some r => some (d :: r)
      | none => none
    else none
theorem outsC_ok {io : List Nat} : ∀ {ds : List OD} {k : Nat} {Γ : Ctx} {env : Env} {r : List OD}, Fits Γ env → outsC io Γ k ds = some r → outs io env k ds = some r
  | [], _, _, _, _, _, h => by simpa [outs, outsC] using h
  | d :: ds, k, Γ, env, r, w, h => by
    unfold outsC at h
    unfold outs
    split at h
    · rename_i hc
      rw [if_pos hc]
      split at h
      · cases h
      · rename_i o hn e
        rw [w.get e]
        cases e2 : outsC io (Γ.set k (some .un)) (k + 1) ds with
        | none => rw [e2] at h; cases h
        | some r' =>
          rw [e2] at h; cases h
          have := outsC_ok (w.set (i := k) (o := .un)) e2
          cases o with
          | un => exact absurd rfl hn
          | _ => simp only [this]
      · cases h
    · rename_i hc
      rw [if_neg hc]
      split at h
      · rename_i hf
        rw [if_pos hf]
        cases e2 : outsC io Γ (k + 1) ds with
        | none => rw [e2] at h; cases h
        | some r' => rw [e2] at h; cases h; simp only [outsC_ok w e2]
      · cases h
theorem run_tp {eR : T → OD} {G : T → Ctx} {n : Nat} {io : List Nat} {ds out : List OD} (h : Sk (PF eR G) body ((ds ++ List.replicate n OD.un).map some) t) (e : t = some x) (ho : outsC io (G x) 0 ds = some out) : runB n io body ds = .ret (eR x) out := by
  obtain ⟨env, h1, h2⟩ := h x e _ (Fits.all _)
  have := outsC_ok h2 ho
  rcases h1 with h1 | ⟨h1, h3⟩
  · simp only [runB, h1, this]
  · simp only [runB, h1, this, h3]
theorem run_tv {eR : T → OD} {G : T → Ctx} {Gx : Ctx} {n : Nat} {io : List Nat} {ds out : List OD} {t : Option (Ex T)} (h : Sk (PE' eR G Gx) body ((ds ++ List.replicate n OD.un).map some) t) (e : t = some (.val x)) (ho : outsC io (G x) 0 ds = some out) : runB n io body ds = .ret (eR x) out := by
  obtain ⟨env, h1, h2⟩ := h _ e _ (Fits.all _)
  have := outsC_ok h2 ho
  rcases h1 with h1 | ⟨h1, h3⟩
  · simp only [runB, h1, this]
  · simp only [runB, h1, this, h3]
theorem run_tx {eR : T → OD} {G : T → Ctx} {Gx : Ctx} {n : Nat} {io : List Nat} {ds out : List OD} {t : Option (Ex T)} {c : Str} (h : Sk (PE' eR G Gx) body ((ds ++ List.replicate n OD.un).map some) t) (e : t = some (.exc c)) (ho : outsC io Gx 0 ds = some out) : runB n io body ds = .exc c out := by
  obtain ⟨env, h1, h2⟩ := h _ e _ (Fits.all _)
  have := outsC_ok h2 ho
  simp only [runB, h1, this]
end
end Tl
/-! typed data as trees; typed operations -/
namespace Tl
open PySem PySem.Spec L2
section
variable {α β γ δ ε ζ η θ ι : Type}
abbrev eN : Unit → D := fun _ => .non
@[reducible] def eOp (e : α → D) : Option α → D
  | none => .non
  | some x => e x
abbrev eV (e : α → D) (xs : List α) : D := .tup (xs.map e)
abbrev eLs (e : α → D) (xs : List α) : D := .lst (xs.map e)
abbrev eSc (xs : List Int) : D := .scr (xs.map .int)
abbrev eA : D → D := fun d => d
abbrev oF (e : α → D) (x : α) : OD := .fz (e x)
abbrev oL (o : α → OD) (xs : List α) : OD := .lst (xs.map o)
abbrev eT0 (x : Unit) : D := .tup []
abbrev eT1 (e : α → D) (x : α) : D := .tup [e x]

abbrev eT2 (e0 : α → D) (e1 : β → D) (x : α × β) : D := .tup [e0 (x.1), e1 (x.2)]
abbrev oT2 (e0 : α → OD) (e1 : β → OD) (x : α × β) : OD := .tup [e0 (x.1), e1 (x.2)]
abbrev eT3 (e0 : α → D) (e1 : β → D) (e2 : γ → D) (x : α × β × γ) : D := .tup [e0 (x.1), e1 (x.2.1), e2 (x.2.2)]
abbrev oT3 (e0 : α → OD) (e1 : β → OD) (e2 : γ → OD) (x : α × β × γ) : OD := .tup [e0 (x.1), e1 (x.2.1), e2 (x.2.2)]
abbrev eT4 (e0 : α → D) (e1 : β → D) (e2 : γ → D) (e3 : δ → D) (x : α × β × γ × δ) : D := .tup [e0 (x.1), e1 (x.2.1), e2 (x.2.2.1), e3 (x.2.2.2)]
abbrev oT4 (e0 : α → OD) (e1 : β → OD) (e2 : γ → OD) (e3 : δ → OD) (x : α × β × γ × δ) : OD := .tup [e0 (x.1), e1 (x.2.1), e2 (x.2.2.1), e3 (x.2.2.2)]
abbrev eT5 (e0 : α → D) (e1 : β → D) (e2 : γ → D) (e3 : δ → D) (e4 : ε → D) (x : α × β × γ × δ × ε) : D := .tup [e0 (x.1), e1 (x.2.1), e2 (x.2.2.1), e3 (x.2.2.2.1), e4 (x.2.2.2.2)]
abbrev oT5 (e0 : α → OD) (e1 : β → OD) (e2 : γ → OD) (e3 : δ → OD) (e4 : ε → OD) (x : α × β × γ × δ × ε) : OD := .tup [e0 (x.1), e1 (x.2.1), e2 (x.2.2.1), e3 (x.2.2.2.1), e4 (x.2.2.2.2)]
abbrev eT6 (e0 : α → D) (e1 : β → D) (e2 : γ → D) (e3 : δ → D) (e4 : ε → D) (e5 : ζ → D) (x : α × β × γ × δ × ε × ζ) : D := .tup [e0 (x.1), e1 (x.2.1), e2 (x.2.2.1), e3 (x.2.2.2.1), e4 (x.2.2.2.2.1), e5 (x.2.2.2.2.2)]
abbrev oT6 (e0 : α → OD) (e1 : β → OD) (e2 : γ → OD) (e3 : δ → OD) (e4 : ε → OD) (e5 : ζ → OD) (x : α × β × γ × δ × ε × ζ) : OD := .tup [e0 (x.1), e1 (x.2.1), e2 (x.2.2.1), e3 (x.2.2.2.1), e4 (x.2.2.2.2.1), e5 (x.2.2.2.2.2)]
abbrev eT7 (e0 : α → D) (e1 : β → D) (e2 : γ → D) (e3 : δ → D) (e4 : ε → D) (e5 : ζ → D) (e6 : η → D) (x : α × β × γ × δ × ε × ζ × η) : D := .tup [e0 (x.1), e1 (x.2.1), e2 (x.2.2.1), e3 (x.2.2.2.1), e4 (x.2.2.2.2.1), e5 (x.2.2.2.2.2.1), e6 (x.2.2.2.2.2.2)]
abbrev oT7 (e0 : α → OD) (e1 : β → OD) (e2 : γ → OD) (e3 : δ → OD) (e4 : ε → OD) (e5 : ζ → OD) (e6 : η → OD) (x : α × β × γ × δ × ε × ζ × η) : OD := .tup [e0 (x.1), e1 (x.2.1), e2 (x.2.2.1), e3 (x.2.2.2.1), e4 (x.2.2.2.2.1), e5 (x.2.2.2.2.2.1), e6 (x.2.2.2.2.2.2)]
abbrev eT8 (e0 : α → D) (e1 : β → D) (e2 : γ → D) (e3 : δ → D) (e4 : ε → D) (e5 : ζ → D) (e6 : η → D) (e7 : θ → D) (x : α × β × γ × δ × ε × ζ × η × θ) : D := .tup [e0 (x.1), e1 (x.2.1), e2 (x.2.2.1), e3 (x.2.2.2.1), e4 (x.2.2.2.2.1), e5 (x.2.2.2.2.2.1), e6 (x.2.2.2.2.2.2.1), e7 (x.2.2.2.2.2.2.2)]
abbrev oT8 (e0 : α → OD) (e1 : β → OD) (e2 : γ → OD) (e3 : δ → OD) (e4 : ε → OD) (e5 : ζ → OD) (e6 : η → OD) (e7 : θ → OD) (x : α × β × γ × δ × ε × ζ × η × θ) : OD := .tup [e0 (x.1), e1 (x.2.1), e2 (x.2.2.1), e3 (x.2.2.2.1), e4 (x.2.2.2.2.1), e5 (x.2.2.2.2.2.1), e6 (x.2.2.2.2.2.2.1), e7 (x.2.2.2.2.2.2.2)]
theorem g_t1_0 {d0 : D} : gIx (.own (.fz (.tup [d0])), .own (.fz (.int 0))) = some (.own (.fz d0)) := by simp [gIx, atI, ixN]
theorem g_oto1_0 {o0 : OD} : gIx (.own (.tup [o0]), .own (.fz (.int 0))) = some (.own o0) := by simp [gIx, atI, ixN, RV.part]; split <;> rfl
theorem g_otf1_0 {o0 : OD} {d : D} : gIx (.view (.tup [(.fz d)]), .own (.fz (.int 0))) = some (.own (.fz d)) := by simp [gIx, atI, ixN]
theorem g_otw1_0 {o0 : OD} {us : List OD} : gIx (.view (.tup [(.lst us)]), .own (.fz (.int 0))) = some (.view (.lst us)) := by simp [gIx, atI, ixN, RV.part]
theorem g_t1_m1 {d0 : D} : gIx (.own (.fz (.tup [d0])), .own (.fz (.int (-1)))) = some (.own (.fz d0)) := by simp [gIx, atI, ixN]
theorem g_oto1_m1 {o0 : OD} : gIx (.own (.tup [o0]), .own (.fz (.int (-1)))) = some (.own o0) := by simp [gIx, atI, ixN, RV.part]; split <;> rfl
theorem g_otf1_m1 {o0 : OD} {d : D} : gIx (.view (.tup [(.fz d)]), .own (.fz (.int (-1)))) = some (.own (.fz d)) := by simp [gIx, atI, ixN]
theorem g_otw1_m1 {o0 : OD} {us : List OD} : gIx (.view (.tup [(.lst us)]), .own (.fz (.int (-1)))) = some (.view (.lst us)) := by simp [gIx, atI, ixN, RV.part]
theorem g_t2_0 {d0 d1 : D} : gIx (.own (.fz (.tup [d0, d1])), .own (.fz (.int 0))) = some (.own (.fz d0)) := by simp [gIx, atI, ixN]
theorem g_oto2_0 {o0 o1 : OD} : gIx (.own (.tup [o0, o1]), .own (.fz (.int 0))) = some (.own o0) := by simp [gIx, atI, ixN, RV.part]; split <;> rfl
theorem g_otf2_0 {o0 o1 : OD} {d : D} : gIx (.view (.tup [(.fz d), o1]), .own (.fz (.int 0))) = some (.own (.fz d)) := by simp [gIx, atI, ixN]
theorem g_otw2_0 {o0 o1 : OD} {us : List OD} : gIx (.view (.tup [(.lst us), o1]), .own (.fz (.int 0))) = some (.view (.lst us)) := by simp [gIx, atI, ixN, RV.part]
theorem g_t2_1 {d0 d1 : D} : gIx (.own (.fz (.tup [d0, d1])), .own (.fz (.int 1))) = some (.own (.fz d1)) := by simp [gIx, atI, ixN]
theorem g_oto2_1 {o0 o1 : OD} : gIx (.own (.tup [o0, o1]), .own (.fz (.int 1))) = some (.own o1) := by simp [gIx, atI, ixN, RV.part]; split <;> rfl
theorem g_otf2_1 {o0 o1 : OD} {d : D} : gIx (.view (.tup [o0, (.fz d)]), .own (.fz (.int 1))) = some (.own (.fz d)) := by simp [gIx, atI, ixN]
theorem g_otw2_1 {o0 o1 : OD} {us : List OD} : gIx (.view (.tup [o0, (.lst us)]), .own (.fz (.int 1))) = some (.view (.lst us)) := by simp [gIx, atI, ixN, RV.part]
theorem g_t2_m1 {d0 d1 : D} : gIx (.own (.fz (.tup [d0, d1])), .own (.fz (.int (-1)))) = some (.own (.fz d1)) := by simp [gIx, atI, ixN]
theorem g_oto2_m1 {o0 o1 : OD} : gIx (.own (.tup [o0, o1]), .own (.fz (.int (-1)))) = some (.own o1) := by simp [gIx, atI, ixN, RV.part]; split <;> rfl
theorem g_otf2_m1 {o0 o1 : OD} {d : D} : gIx (.view (.tup [o0, (.fz d)]), .own (.fz (.int (-1)))) = some (.own (.fz d)) := by simp [gIx, atI, ixN]
theorem g_otw2_m1 {o0 o1 : OD} {us : List OD} : gIx (.view (.tup [o0, (.lst us)]), .own (.fz (.int (-1)))) = some (.view (.lst us)) := by simp [gIx, atI, ixN, RV.part]
theorem g_t3_0 {d0 d1 d2 : D} : gIx (.own (.fz (.tup [d0, d1, d2])), .own (.fz (.int 0))) = some (.own (.fz d0)) := by simp [gIx, atI, ixN]
theorem g_oto3_0 {o0 o1 o2 : OD} : gIx (.own (.tup [o0, o1, o2]), .own (.fz (.int 0))) = some (.own o0) := by simp [gIx, atI, ixN, RV.part]; split <;> rfl
theorem g_otf3_0 {o0 o1 o2 : OD} {d : D} : gIx (.view (.tup [(.fz d), o1, o2]), .own (.fz (.int 0))) = some (.own (.fz d)) := by simp [gIx, atI, ixN]
theorem g_otw3_0 {o0 o1 o2 : OD} {us : List OD} : gIx (.view (.tup [(.lst us), o1, o2]), .own (.fz (.int 0))) = some (.view (.lst us)) := by simp [gIx, atI, ixN, RV.part]
theorem g_t3_1 {d0 d1 d2 : D} : gIx (.own (.fz (.tup [d0, d1, d2])), .own (.fz (.int 1))) = some (.own (.fz d1)) := by simp [gIx, atI, ixN]
theorem g_oto3_1 {o0 o1 o2 : OD} : gIx (.own (.tup [o0, o1, o2]), .own (.fz (.int 1))) = some (.own o1) := by simp [gIx, atI, ixN, RV.part]; split <;> rfl
theorem g_otf3_1 {o0 o1 o2 : OD} {d : D} : gIx (.view (.tup [o0, (.fz d), o2]), .own (.fz (.int 1))) = some (.own (.fz d)) := by simp [gIx, atI, ixN]
theorem g_otw3_1 {o0 o1 o2 : OD} {us : List OD} : gIx (.view (.tup [o0, (.lst us), o2]), .own (.fz (.int 1))) = some (.view (.lst us)) := by simp [gIx, atI, ixN, RV.part]
theorem g_t3_2 {d0 d1 d2 : D} : gIx (.own (.fz (.tup [d0, d1, d2])), .own (.fz (.int 2))) = some (.own (.fz d2)) := by simp [gIx, atI, ixN]
theorem g_oto3_2 {o0 o1 o2 : OD} : gIx (.own (.tup [o0, o1, o2]), .own (.fz (.int 2))) = some (.own o2) := by simp [gIx, atI, ixN, RV.part]; split <;> rfl
theorem g_otf3_2 {o0 o1 o2 : OD} {d : D} : gIx (.view (.tup [o0, o1, (.fz d)]), .own (.fz (.int 2))) = some (.own (.fz d)) := by simp [gIx, atI, ixN]
theorem g_otw3_2 {o0 o1 o2 : OD} {us : List OD} : gIx (.view (.tup [o0, o1, (.lst us)]), .own (.fz (.int 2))) = some (.view (.lst us)) := by simp [gIx, atI, ixN, RV.part]
theorem g_t3_m1 {d0 d1 d2 : D} : gIx (.own (.fz (.tup [d0, d1, d2])), .own (.fz (.int (-1)))) = some (.own (.fz d2)) := by simp [gIx, atI, ixN]
theorem g_oto3_m1 {o0 o1 o2 : OD} : gIx (.own (.tup [o0, o1, o2]), .own (.fz (.int (-1)))) = some (.own o2) := by simp [gIx, atI, ixN, RV.part]; split <;> rfl
theorem g_otf3_m1 {o0 o1 o2 : OD} {d : D} : gIx (.view (.tup [o0, o1, (.fz d)]), .own (.fz (.int (-1)))) = some (.own (.fz d)) := by simp [gIx, atI, ixN]
theorem g_otw3_m1 {o0 o1 o2 : OD} {us : List OD} : gIx (.view (.tup [o0, o1, (.lst us)]), .own (.fz (.int (-1)))) = some (.view (.lst us)) := by simp [gIx, atI, ixN, RV.part]
theorem g_t4_0 {d0 d1 d2 d3 : D} : gIx (.own (.fz (.tup [d0, d1, d2, d3])), .own (.fz (.int 0))) = some (.own (.fz d0)) := by simp [gIx, atI, ixN]
theorem g_oto4_0 {o0 o1 o2 o3 : OD} : gIx (.own (.tup [o0, o1, o2, o3]), .own (.fz (.int 0))) = some (.own o0) := by simp [gIx, atI, ixN, RV.part]; split <;> rfl
theorem g_otf4_0 {o0 o1 o2 o3 : OD} {d : D} : gIx (.view (.tup [(.fz d), o1, o2, o3]), .own (.fz (.int 0))) = some (.own (.fz d)) := by simp [gIx, atI, ixN]
theorem g_otw4_0 {o0 o1 o2 o3 : OD} {us : List OD} : gIx (.view (.tup [(.lst us), o1, o2, o3]), .own (.fz (.int 0))) = some (.view (.lst us)) := by simp [gIx, atI, ixN, RV.part]
theorem g_t4_1 {d0 d1 d2 d3 : D} : gIx (.own (.fz (.tup [d0, d1, d2, d3])), .own (.fz (.int 1))) = some (.own (.fz d1)) := by simp [gIx, atI, ixN]
theorem g_oto4_1 {o0 o1 o2 o3 : OD} : gIx (.own (.tup [o0, o1, o2, o3]), .own (.fz (.int 1))) = some (.own o1) := by simp [gIx, atI, ixN, RV.part]; split <;> rfl
theorem g_otf4_1 {o0 o1 o2 o3 : OD} {d : D} : gIx (.view (.tup [o0, (.fz d), o2, o3]), .own (.fz (.int 1))) = some (.own (.fz d)) := by simp [gIx, atI, ixN]
theorem g_otw4_1 {o0 o1 o2 o3 : OD} {us : List OD} : gIx (.view (.tup [o0, (.lst us), o2, o3]), .own (.fz (.int 1))) = some (.view (.lst us)) := by simp [gIx, atI, ixN, RV.part]
theorem g_t4_2 {d0 d1 d2 d3 : D} : gIx (.own (.fz (.tup [d0, d1, d2, d3])), .own (.fz (.int 2))) = some (.own (.fz d2)) := by simp [gIx, atI, ixN]
theorem g_oto4_2 {o0 o1 o2 o3 : OD} : gIx (.own (.tup [o0, o1, o2, o3]), .own (.fz (.int 2))) = some (.own o2) := by simp [gIx, atI, ixN, RV.part]; split <;> rfl
theorem g_otf4_2 {o0 o1 o2 o3 : OD} {d : D} : gIx (.view (.tup [o0, o1, (.fz d), o3]), .own (.fz (.int 2))) = some (.own (.fz d)) := by simp [gIx, atI, ixN]
theorem g_otw4_2 {o0 o1 o2 o3 : OD} {us : List OD} : gIx (.view (.tup [o0, o1, (.lst us), o3]), .own (.fz (.int 2))) = some (.view (.lst us)) := by simp [gIx, atI, ixN, RV.part]
theorem g_t4_3 {d0 d1 d2 d3 : D} : gIx (.own (.fz (.tup [d0, d1, d2, d3])), .own (.fz (.int 3))) = some (.own (.fz d3)) := by simp [gIx, atI, ixN]
theorem g_oto4_3 {o0 o1 o2 o3 : OD} : gIx (.own (.tup [o0, o1, o2, o3]), .own (.fz (.int 3))) = some (.own o3) := by simp [gIx, atI, ixN, RV.part]; split <;> rfl
theorem g_otf4_3 {o0 o1 o2 o3 : OD} {d : D} : gIx (.view (.tup [o0, o1, o2, (.fz d)]), .own (.fz (.int 3))) = some (.own (.fz d)) := by simp [gIx, atI, ixN]
theorem g_otw4_3 {o0 o1 o2 o3 : OD} {us : List OD} : gIx (.view (.tup [o0, o1, o2, (.lst us)]), .own (.fz (.int 3))) = some (.view (.lst us)) := by simp [gIx, atI, ixN, RV.part]
theorem g_t4_m1 {d0 d1 d2 d3 : D} : gIx (.own (.fz (.tup [d0, d1, d2, d3])), .own (.fz (.int (-1)))) = some (.own (.fz d3)) := by simp [gIx, atI, ixN]
theorem g_oto4_m1 {o0 o1 o2 o3 : OD} : gIx (.own (.tup [o0, o1, o2, o3]), .own (.fz (.int (-1)))) = some (.own o3) := by simp [gIx, atI, ixN, RV.part]; split <;> rfl
theorem g_otf4_m1 {o0 o1 o2 o3 : OD} {d : D} : gIx (.view (.tup [o0, o1, o2, (.fz d)]), .own (.fz (.int (-1)))) = some (.own (.fz d)) := by simp [gIx, atI, ixN]
theorem g_otw4_m1 {o0 o1 o2 o3 : OD} {us : List OD} : gIx (.view (.tup [o0, o1, o2, (.lst us)]), .own (.fz (.int (-1)))) = some (.view (.lst us)) := by simp [gIx, atI, ixN, RV.part]
theorem g_t5_0 {d0 d1 d2 d3 d4 : D} : gIx (.own (.fz (.tup [d0, d1, d2, d3, d4])), .own (.fz (.int 0))) = some (.own (.fz d0)) := by simp [gIx, atI, ixN]
theorem g_oto5_0 {o0 o1 o2 o3 o4 : OD} : gIx (.own (.tup [o0, o1, o2, o3, o4]), .own (.fz (.int 0))) = some (.own o0) := by simp [gIx, atI, ixN, RV.part]; split <;> rfl
theorem g_otf5_0 {o0 o1 o2 o3 o4 : OD} {d : D} : gIx (.view (.tup [(.fz d), o1, o2, o3, o4]), .own (.fz (.int 0))) = some (.own (.fz d)) := by simp [gIx, atI, ixN]
theorem g_otw5_0 {o0 o1 o2 o3 o4 : OD} {us : List OD} : gIx (.view (.tup [(.lst us), o1, o2, o3, o4]), .own (.fz (.int 0))) = some (.view (.lst us)) := by simp [gIx, atI, ixN, RV.part]
theorem g_t5_1 {d0 d1 d2 d3 d4 : D} : gIx (.own (.fz (.tup [d0, d1, d2, d3, d4])), .own (.fz (.int 1))) = some (.own (.fz d1)) := by simp [gIx, atI, ixN]
theorem g_oto5_1 {o0 o1 o2 o3 o4 : OD} : gIx (.own (.tup [o0, o1, o2, o3, o4]), .own (.fz (.int 1))) = some (.own o1) := by simp [gIx, atI, ixN, RV.part]; split <;> rfl
theorem g_otf5_1 {o0 o1 o2 o3 o4 : OD} {d : D} : gIx (.view (.tup [o0, (.fz d), o2, o3, o4]), .own (.fz (.int 1))) = some (.own (.fz d)) := by simp [gIx, atI, ixN]
theorem g_otw5_1 {o0 o1 o2 o3 o4 : OD} {us : List OD} : gIx (.view (.tup [o0, (.lst us), o2, o3, o4]), .own (.fz (.int 1))) = some (.view (.lst us)) := by simp [gIx, atI, ixN, RV.part]
theorem g_t5_2 {d0 d1 d2 d3 d4 : D} : gIx (.own (.fz (.tup [d0, d1, d2, d3, d4])), .own (.fz (.int 2))) = some (.own (.fz d2)) := by simp [gIx, atI, ixN]
theorem g_oto5_2 {o0 o1 o2 o3 o4 : OD} : gIx (.own (.tup [o0, o1, o2, o3, o4]), .own (.fz (.int 2))) = some (.own o2) := by simp [gIx, atI, ixN, RV.part]; split <;> rfl
theorem g_otf5_2 {o0 o1 o2 o3 o4 : OD} {d : D} : gIx (.view (.tup [o0, o1, (.fz d), o3, o4]), .own (.fz (.int 2))) = some (.own (.fz d)) := by simp [gIx, atI, ixN]
theorem g_otw5_2 {o0 o1 o2 o3 o4 : OD} {us : List OD} : gIx (.view (.tup [o0, o1, (.lst us), o3, o4]), .own (.fz (.int 2))) = some (.view (.lst us)) := by simp [gIx, atI, ixN, RV.part]
theorem g_t5_3 {d0 d1 d2 d3 d4 : D} : gIx (.own (.fz (.tup [d0, d1, d2, d3, d4])), .own (.fz (.int 3))) = some (.own (.fz d3)) := by simp [gIx, atI, ixN]
theorem g_oto5_3 {o0 o1 o2 o3 o4 : OD} : gIx (.own (.tup [o0, o1, o2, o3, o4]), .own (.fz (.int 3))) = some (.own o3) := by simp [gIx, atI, ixN, RV.part]; split <;> rfl
theorem g_otf5_3 {o0 o1 o2 o3 o4 : OD} {d : D} : gIx (.view (.tup [o0, o1, o2, (.fz d), o4]), .own (.fz (.int 3))) = some (.own (.fz d)) := by simp [gIx, atI, ixN]
theorem g_otw5_3 {o0 o1 o2 o3 o4 : OD} {us : List OD} : gIx (.view (.tup [o0, o1, o2, (.lst us), o4]), .own (.fz (.int 3))) = some (.view (.lst us)) := by simp [gIx, atI, ixN, RV.part]
theorem g_t5_4 {d0 d1 d2 d3 d4 : D} : gIx (.own (.fz (.tup [d0, d1, d2, d3, d4])), .own (.fz (.int 4))) = some (.own (.fz d4)) := by simp [gIx, atI, ixN]
theorem g_oto5_4 {o0 o1 o2 o3 o4 : OD} : gIx (.own (.tup [o0, o1, o2, o3, o4]), .own (.fz (.int 4))) = some (.own o4) := by simp [gIx, atI, ixN, RV.part]; split <;> rfl
theorem g_otf5_4 {o0 o1 o2 o3 o4 : OD} {d : D} : gIx (.view (.tup [o0, o1, o2, o3, (.fz d)]), .own (.fz (.int 4))) = some (.own (.fz d)) := by simp [gIx, atI, ixN]
theorem g_otw5_4 {o0 o1 o2 o3 o4 : OD} {us : List OD} : gIx (.view (.tup [o0, o1, o2, o3, (.lst us)]), .own (.fz (.int 4))) = some (.view (.lst us)) := by simp [gIx, atI, ixN, RV.part]
theorem g_t5_m1 {d0 d1 d2 d3 d4 : D} : gIx (.own (.fz (.tup [d0, d1, d2, d3, d4])), .own (.fz (.int (-1)))) = some (.own (.fz d4)) := by simp [gIx, atI, ixN]
theorem g_oto5_m1 {o0 o1 o2 o3 o4 : OD} : gIx (.own (.tup [o0, o1, o2, o3, o4]), .own (.fz (.int (-1)))) = some (.own o4) := by simp [gIx, atI, ixN, RV.part]; split <;> rfl
theorem g_otf5_m1 {o0 o1 o2 o3 o4 : OD} {d : D} : gIx (.view (.tup [o0, o1, o2, o3, (.fz d)]), .own (.fz (.int (-1)))) = some (.own (.fz d)) := by simp [gIx, atI, ixN]
theorem g_otw5_m1 {o0 o1 o2 o3 o4 : OD} {us : List OD} : gIx (.view (.tup [o0, o1, o2, o3, (.lst us)]), .own (.fz (.int (-1)))) = some (.view (.lst us)) := by simp [gIx, atI, ixN, RV.part]
theorem g_t6_0 {d0 d1 d2 d3 d4 d5 : D} : gIx (.own (.fz (.tup [d0, d1, d2, d3, d4, d5])), .own (.fz (.int 0))) = some (.own (.fz d0)) := by simp [gIx, atI, ixN]
theorem g_oto6_0 {o0 o1 o2 o3 o4 o5 : OD} : gIx (.own (.tup [o0, o1, o2, o3, o4, o5]), .own (.fz (.int 0))) = some (.own o0) := by simp [gIx, atI, ixN, RV.part]; split <;> rfl
theorem g_otf6_0 {o0 o1 o2 o3 o4 o5 : OD} {d : D} : gIx (.view (.tup [(.fz d), o1, o2, o3, o4, o5]), .own (.fz (.int 0))) = some (.own (.fz d)) := by simp [gIx, atI, ixN]
theorem g_otw6_0 {o0 o1 o2 o3 o4 o5 : OD} {us : List OD} : gIx (.view (.tup [(.lst us), o1, o2, o3, o4, o5]), .own (.fz (.int 0))) = some (.view (.lst us)) := by simp [gIx, atI, ixN, RV.part]
theorem g_t6_1 {d0 d1 d2 d3 d4 d5 : D} : gIx (.own (.fz (.tup [d0, d1, d2, d3, d4, d5])), .own (.fz (.int 1))) = some (.own (.fz d1)) := by simp [gIx, atI, ixN]
theorem g_oto6_1 {o0 o1 o2 o3 o4 o5 : OD} : gIx (.own (.tup [o0, o1, o2, o3, o4, o5]), .own (.fz (.int 1))) = some (.own o1) := by simp [gIx, atI, ixN, RV.part]; split <;> rfl
theorem g_otf6_1 {o0 o1 o2 o3 o4 o5 : OD} {d : D} : gIx (.view (.tup [o0, (.fz d), o2, o3, o4, o5]), .own (.fz (.int 1))) = some (.own (.fz d)) := by simp [gIx, atI, ixN]
theorem g_otw6_1 {o0 o1 o2 o3 o4 o5 : OD} {us : List OD} : gIx (.view (.tup [o0, (.lst us), o2, o3, o4, o5]), .own (.fz (.int 1))) = some (.view (.lst us)) := by simp [gIx, atI, ixN, RV.part]
theorem g_t6_2 {d0 d1 d2 d3 d4 d5 : D} : gIx (.own (.fz (.tup [d0, d1, d2, d3, d4, d5])), .own (.fz (.int 2))) = some (.own (.fz d2)) := by simp [gIx, atI, ixN]
theorem g_oto6_2 {o0 o1 o2 o3 o4 o5 : OD} : gIx (.own (.tup [o0, o1, o2, o3, o4, o5]), .own (.fz (.int 2))) = some (.own o2) := by simp [gIx, atI, ixN, RV.part]; split <;> rfl
theorem g_otf6_2 {o0 o1 o2 o3 o4 o5 : OD} {d : D} : gIx (.view (.tup [o0, o1, (.fz d), o3, o4, o5]), .own (.fz (.int 2))) = some (.own (.fz d)) := by simp [gIx, atI, ixN]
theorem g_otw6_2 {o0 o1 o2 o3 o4 o5 : OD} {us : List OD} : gIx (.view (.tup [o0, o1, (.lst us), o3, o4, o5]), .own (.fz (.int 2))) = some (.view (.lst us)) := by simp [gIx, atI, ixN, RV.part]
theorem g_t6_3 {d0 d1 d2 d3 d4 d5 : D} : gIx (.own (.fz (.tup [d0, d1, d2, d3, d4, d5])), .own (.fz (.int 3))) = some (.own (.fz d3)) := by simp [gIx, atI, ixN]
theorem g_oto6_3 {o0 o1 o2 o3 o4 o5 : OD} : gIx (.own (.tup [o0, o1, o2, o3, o4, o5]), .own (.fz (.int 3))) = some (.own o3) := by simp [gIx, atI, ixN, RV.part]; split <;> rfl
theorem g_otf6_3 {o0 o1 o2 o3 o4 o5 : OD} {d : D} : gIx (.view (.tup [o0, o1, o2, (.fz d), o4, o5]), .own (.fz (.int 3))) = some (.own (.fz d)) := by simp [gIx, atI, ixN]
theorem g_otw6_3 {o0 o1 o2 o3 o4 o5 : OD} {us : List OD} : gIx (.view (.tup [o0, o1, o2, (.lst us), o4, o5]), .own (.fz (.int 3))) = some (.view (.lst us)) := by simp [gIx, atI, ixN, RV.part]
theorem g_t6_4 {d0 d1 d2 d3 d4 d5 : D} : gIx (.own (.fz (.tup [d0, d1, d2, d3, d4, d5])), .own (.fz (.int 4))) = some (.own (.fz d4)) := by simp [gIx, atI, ixN]
theorem g_oto6_4 {o0 o1 o2 o3 o4 o5 : OD} : gIx (.own (.tup [o0, o1, o2, o3, o4, o5]), .own (.fz (.int 4))) = some (.own o4) := by simp [gIx, atI, ixN, RV.part]; split <;> rfl
theorem g_otf6_4 {o0 o1 o2 o3 o4 o5 : OD} {d : D} : gIx (.view (.tup [o0, o1, o2, o3, (.fz d), o5]), .own (.fz (.int 4))) = some (.own (.fz d)) := by simp [gIx, atI, ixN]
theorem g_otw6_4 {o0 o1 o2 o3 o4 o5 : OD} {us : List OD} : gIx (.view (.tup [o0, o1, o2, o3, (.lst us), o5]), .own (.fz (.int 4))) = some (.view (.lst us)) := by simp [gIx, atI, ixN, RV.part]
theorem g_t6_5 {d0 d1 d2 d3 d4 d5 : D} : gIx (.own (.fz (.tup [d0, d1, d2, d3, d4, d5])), .own (.fz (.int 5))) = some (.own (.fz d5)) := by simp [gIx, atI, ixN]
theorem g_oto6_5 {o0 o1 o2 o3 o4 o5 : OD} : gIx (.own (.tup [o0, o1, o2, o3, o4, o5]), .own (.fz (.int 5))) = some (.own o5) := by simp [gIx, atI, ixN, RV.part]; split <;> rfl
theorem g_otf6_5 {o0 o1 o2 o3 o4 o5 : OD} {d : D} : gIx (.view (.tup [o0, o1, o2, o3, o4, (.fz d)]), .own (.fz (.int 5))) = some (.own (.fz d)) := by simp [gIx, atI, ixN]
theorem g_otw6_5 {o0 o1 o2 o3 o4 o5 : OD} {us : List OD} : gIx (.view (.tup [o0, o1, o2, o3, o4, (.lst us)]), .own (.fz (.int 5))) = some (.view (.lst us)) := by simp [gIx, atI, ixN, RV.part]
theorem g_t6_m1 {d0 d1 d2 d3 d4 d5 : D} : gIx (.own (.fz (.tup [d0, d1, d2, d3, d4, d5])), .own (.fz (.int (-1)))) = some (.own (.fz d5)) := by simp [gIx, atI, ixN]
theorem g_oto6_m1 {o0 o1 o2 o3 o4 o5 : OD} : gIx (.own (.tup [o0, o1, o2, o3, o4, o5]), .own (.fz (.int (-1)))) = some (.own o5) := by simp [gIx, atI, ixN, RV.part]; split <;> rfl
theorem g_otf6_m1 {o0 o1 o2 o3 o4 o5 : OD} {d : D} : gIx (.view (.tup [o0, o1, o2, o3, o4, (.fz d)]), .own (.fz (.int (-1)))) = some (.own (.fz d)) := by simp [gIx, atI, ixN]
theorem g_otw6_m1 {o0 o1 o2 o3 o4 o5 : OD} {us : List OD} : gIx (.view (.tup [o0, o1, o2, o3, o4, (.lst us)]), .own (.fz (.int (-1)))) = some (.view (.lst us)) := by simp [gIx, atI, ixN, RV.part]
theorem g_t7_0 {d0 d1 d2 d3 d4 d5 d6 : D} : gIx (.own (.fz (.tup [d0, d1, d2, d3, d4, d5, d6])), .own (.fz (.int 0))) = some (.own (.fz d0)) := by simp [gIx, atI, ixN]
theorem g_oto7_0 {o0 o1 o2 o3 o4 o5 o6 : OD} : gIx (.own (.tup [o0, o1, o2, o3, o4, o5, o6]), .own (.fz (.int 0))) = some (.own o0) := by simp [gIx, atI, ixN, RV.part]; split <;> rfl
theorem g_otf7_0 {o0 o1 o2 o3 o4 o5 o6 : OD} {d : D} : gIx (.view (.tup [(.fz d), o1, o2, o3, o4, o5, o6]), .own (.fz (.int 0))) = some (.own (.fz d)) := by simp [gIx, atI, ixN]
theorem g_otw7_0 {o0 o1 o2 o3 o4 o5 o6 : OD} {us : List OD} : gIx (.view (.tup [(.lst us), o1, o2, o3, o4, o5, o6]), .own (.fz (.int 0))) = some (.view (.lst us)) := by simp [gIx, atI, ixN, RV.part]
theorem g_t7_1 {d0 d1 d2 d3 d4 d5 d6 : D} : gIx (.own (.fz (.tup [d0, d1, d2, d3, d4, d5, d6])), .own (.fz (.int 1))) = some (.own (.fz d1)) := by simp [gIx, atI, ixN]
theorem g_oto7_1 {o0 o1 o2 o3 o4 o5 o6 : OD} : gIx (.own (.tup [o0, o1, o2, o3, o4, o5, o6]), .own (.fz (.int 1))) = some (.own o1) := by simp [gIx, atI, ixN, RV.part]; split <;> rfl
theorem g_otf7_1 {o0 o1 o2 o3 o4 o5 o6 : OD} {d : D} : gIx (.view (.tup [o0, (.fz d), o2, o3, o4, o5, o6]), .own (.fz (.int 1))) = some (.own (.fz d)) := by simp [gIx, atI, ixN]
theorem g_otw7_1 {o0 o1 o2 o3 o4 o5 o6 : OD} {us : List OD} : gIx (.view (.tup [o0, (.lst us), o2, o3, o4, o5, o6]), .own (.fz (.int 1))) = some (.view (.lst us)) := by simp [gIx, atI, ixN, RV.part]
theorem g_t7_2 {d0 d1 d2 d3 d4 d5 d6 : D} : gIx (.own (.fz (.tup [d0, d1, d2, d3, d4, d5, d6])), .own (.fz (.int 2))) = some (.own (.fz d2)) := by simp [gIx, atI, ixN]
theorem g_oto7_2 {o0 o1 o2 o3 o4 o5 o6 : OD} : gIx (.own (.tup [o0, o1, o2, o3, o4, o5, o6]), .own (.fz (.int 2))) = some (.own o2) := by simp [gIx, atI, ixN, RV.part]; split <;> rfl
theorem g_otf7_2 {o0 o1 o2 o3 o4 o5 o6 : OD} {d : D} : gIx (.view (.tup [o0, o1, (.fz d), o3, o4, o5, o6]), .own (.fz (.int 2))) = some (.own (.fz d)) := by simp [gIx, atI, ixN]
theorem g_otw7_2 {o0 o1 o2 o3 o4 o5 o6 : OD} {us : List OD} : gIx (.view (.tup [o0, o1, (.lst us), o3, o4, o5, o6]), .own (.fz (.int 2))) = some (.view (.lst us)) := by simp [gIx, atI, ixN, RV.part]
theorem g_t7_3 {d0 d1 d2 d3 d4 d5 d6 : D} : gIx (.own (.fz (.tup [d0, d1, d2, d3, d4, d5, d6])), .own (.fz (.int 3))) = some (.own (.fz d3)) := by simp [gIx, atI, ixN]
theorem g_oto7_3 {o0 o1 o2 o3 o4 o5 o6 : OD} : gIx (.own (.tup [o0, o1, o2, o3, o4, o5, o6]), .own (.fz (.int 3))) = some (.own o3) := by simp [gIx, atI, ixN, RV.part]; split <;> rfl
theorem g_otf7_3 {o0 o1 o2 o3 o4 o5 o6 : OD} {d : D} : gIx (.view (.tup [o0, o1, o2, (.fz d), o4, o5, o6]), .own (.fz (.int 3))) = some (.own (.fz d)) := by simp [gIx, atI, ixN]
theorem g_otw7_3 {o0 o1 o2 o3 o4 o5 o6 : OD} {us : List OD} : gIx (.view (.tup [o0, o1, o2, (.lst us), o4, o5, o6]), .own (.fz (.int 3))) = some (.view (.lst us)) := by simp [gIx, atI, ixN, RV.part]
theorem g_t7_4 {d0 d1 d2 d3 d4 d5 d6 : D} : gIx (.own (.fz (.tup [d0, d1, d2, d3, d4, d5, d6])), .own (.fz (.int 4))) = some (.own (.fz d4)) := by simp [gIx, atI, ixN]
theorem g_oto7_4 {o0 o1 o2 o3 o4 o5 o6 : OD} : gIx (.own (.tup [o0, o1, o2, o3, o4, o5, o6]), .own (.fz (.int 4))) = some (.own o4) := by simp [gIx, atI, ixN, RV.part]; split <;> rfl
theorem g_otf7_4 {o0 o1 o2 o3 o4 o5 o6 : OD} {d : D} : gIx (.view (.tup [o0, o1, o2, o3, (.fz d), o5, o6]), .own (.fz (.int 4))) = some (.own (.fz d)) := by simp [gIx, atI, ixN]
theorem g_otw7_4 {o0 o1 o2 o3 o4 o5 o6 : OD} {us : List OD} : gIx (.view (.tup [o0, o1, o2, o3, (.lst us), o5, o6]), .own (.fz (.int 4))) = some (.view (.lst us)) := by simp [gIx, atI, ixN, RV.part]
theorem g_t7_5 {d0 d1 d2 d3 d4 d5 d6 : D} : gIx (.own (.fz (.tup [d0, d1, d2, d3, d4, d5, d6])), .own (.fz (.int 5))) = some (.own (.fz d5)) := by simp [gIx, atI, ixN]
theorem g_oto7_5 {o0 o1 o2 o3 o4 o5 o6 : OD} : gIx (.own (.tup [o0, o1, o2, o3, o4, o5, o6]), .own (.fz (.int 5))) = some (.own o5) := by simp [gIx, atI, ixN, RV.part]; split <;> rfl
theorem g_otf7_5 {o0 o1 o2 o3 o4 o5 o6 : OD} {d : D} : gIx (.view (.tup [o0, o1, o2, o3, o4, (.fz d), o6]), .own (.fz (.int 5))) = some (.own (.fz d)) := by simp [gIx, atI, ixN]
theorem g_otw7_5 {o0 o1 o2 o3 o4 o5 o6 : OD} {us : List OD} : gIx (.view (.tup [o0, o1, o2, o3, o4, (.lst us), o6]), .own (.fz (.int 5))) = some (.view (.lst us)) := by simp [gIx, atI, ixN, RV.part]
theorem g_t7_6 {d0 d1 d2 d3 d4 d5 d6 : D} : gIx (.own (.fz (.tup [d0, d1, d2, d3, d4, d5, d6])), .own (.fz (.int 6))) = some (.own (.fz d6)) := by simp [gIx, atI, ixN]
theorem g_oto7_6 {o0 o1 o2 o3 o4 o5 o6 : OD} : gIx (.own (.tup [o0, o1, o2, o3, o4, o5, o6]), .own (.fz (.int 6))) = some (.own o6) := by simp [gIx, atI, ixN, RV.part]; split <;> rfl
theorem g_otf7_6 {o0 o1 o2 o3 o4 o5 o6 : OD} {d : D} : gIx (.view (.tup [o0, o1, o2, o3, o4, o5, (.fz d)]), .own (.fz (.int 6))) = some (.own (.fz d)) := by simp [gIx, atI, ixN]
theorem g_otw7_6 {o0 o1 o2 o3 o4 o5 o6 : OD} {us : List OD} : gIx (.view (.tup [o0, o1, o2, o3, o4, o5, (.lst us)]), .own (.fz (.int 6))) = some (.view (.lst us)) := by simp [gIx, atI, ixN, RV.part]
theorem g_t7_m1 {d0 d1 d2 d3 d4 d5 d6 : D} : gIx (.own (.fz (.tup [d0, d1, d2, d3, d4, d5, d6])), .own (.fz (.int (-1)))) = some (.own (.fz d6)) := by simp [gIx, atI, ixN]
theorem g_oto7_m1 {o0 o1 o2 o3 o4 o5 o6 : OD} : gIx (.own (.tup [o0, o1, o2, o3, o4, o5, o6]), .own (.fz (.int (-1)))) = some (.own o6) := by simp [gIx, atI, ixN, RV.part]; split <;> rfl
theorem g_otf7_m1 {o0 o1 o2 o3 o4 o5 o6 : OD} {d : D} : gIx (.view (.tup [o0, o1, o2, o3, o4, o5, (.fz d)]), .own (.fz (.int (-1)))) = some (.own (.fz d)) := by simp [gIx, atI, ixN]
theorem g_otw7_m1 {o0 o1 o2 o3 o4 o5 o6 : OD} {us : List OD} : gIx (.view (.tup [o0, o1, o2, o3, o4, o5, (.lst us)]), .own (.fz (.int (-1)))) = some (.view (.lst us)) := by simp [gIx, atI, ixN, RV.part]
theorem g_t8_0 {d0 d1 d2 d3 d4 d5 d6 d7 : D} : gIx (.own (.fz (.tup [d0, d1, d2, d3, d4, d5, d6, d7])), .own (.fz (.int 0))) = some (.own (.fz d0)) := by simp [gIx, atI, ixN]
theorem g_oto8_0 {o0 o1 o2 o3 o4 o5 o6 o7 : OD} : gIx (.own (.tup [o0, o1, o2, o3, o4, o5, o6, o7]), .own (.fz (.int 0))) = some (.own o0) := by simp [gIx, atI, ixN, RV.part]; split <;> rfl
theorem g_otf8_0 {o0 o1 o2 o3 o4 o5 o6 o7 : OD} {d : D} : gIx (.view (.tup [(.fz d), o1, o2, o3, o4, o5, o6, o7]), .own (.fz (.int 0))) = some (.own (.fz d)) := by simp [gIx, atI, ixN]
theorem g_otw8_0 {o0 o1 o2 o3 o4 o5 o6 o7 : OD} {us : List OD} : gIx (.view (.tup [(.lst us), o1, o2, o3, o4, o5, o6, o7]), .own (.fz (.int 0))) = some (.view (.lst us)) := by simp [gIx, atI, ixN, RV.part]
theorem g_t8_1 {d0 d1 d2 d3 d4 d5 d6 d7 : D} : gIx (.own (.fz (.tup [d0, d1, d2, d3, d4, d5, d6, d7])), .own (.fz (.int 1))) = some (.own (.fz d1)) := by simp [gIx, atI, ixN]
theorem g_oto8_1 {o0 o1 o2 o3 o4 o5 o6 o7 : OD} : gIx (.own (.tup [o0, o1, o2, o3, o4, o5, o6, o7]), .own (.fz (.int 1))) = some (.own o1) := by simp [gIx, atI, ixN, RV.part]; split <;> rfl
theorem g_otf8_1 {o0 o1 o2 o3 o4 o5 o6 o7 : OD} {d : D} : gIx (.view (.tup [o0, (.fz d), o2, o3, o4, o5, o6, o7]), .own (.fz (.int 1))) = some (.own (.fz d)) := by simp [gIx, atI, ixN]
theorem g_otw8_1 {o0 o1 o2 o3 o4 o5 o6 o7 : OD} {us : List OD} : gIx (.view (.tup [o0, (.lst us), o2, o3, o4, o5, o6, o7]), .own (.fz (.int 1))) = some (.view (.lst us)) := by simp [gIx, atI, ixN, RV.part]
theorem g_t8_2 {d0 d1 d2 d3 d4 d5 d6 d7 : D} : gIx (.own (.fz (.tup [d0, d1, d2, d3, d4, d5, d6, d7])), .own (.fz (.int 2))) = some (.own (.fz d2)) := by simp [gIx, atI, ixN]
theorem g_oto8_2 {o0 o1 o2 o3 o4 o5 o6 o7 : OD} : gIx (.own (.tup [o0, o1, o2, o3, o4, o5, o6, o7]), .own (.fz (.int 2))) = some (.own o2) := by simp [gIx, atI, ixN, RV.part]; split <;> rfl
theorem g_otf8_2 {o0 o1 o2 o3 o4 o5 o6 o7 : OD} {d : D} : gIx (.view (.tup [o0, o1, (.fz d), o3, o4, o5, o6, o7]), .own (.fz (.int 2))) = some (.own (.fz d)) := by simp [gIx, atI, ixN]
theorem g_otw8_2 {o0 o1 o2 o3 o4 o5 o6 o7 : OD} {us : List OD} : gIx (.view (.tup [o0, o1, (.lst us), o3, o4, o5, o6, o7]), .own (.fz (.int 2))) = some (.view (.lst us)) := by simp [gIx, atI, ixN, RV.part]
theorem g_t8_3 {d0 d1 d2 d3 d4 d5 d6 d7 : D} : gIx (.own (.fz (.tup [d0, d1, d2, d3, d4, d5, d6, d7])), .own (.fz (.int 3))) = some (.own (.fz d3)) := by simp [gIx, atI, ixN]
theorem g_oto8_3 {o0 o1 o2 o3 o4 o5 o6 o7 : OD} : gIx (.own (.tup [o0, o1, o2, o3, o4, o5, o6, o7]), .own (.fz (.int 3))) = some (.own o3) := by simp [gIx, atI, ixN, RV.part]; split <;> rfl
theorem g_otf8_3 {o0 o1 o2 o3 o4 o5 o6 o7 : OD} {d : D} : gIx (.view (.tup [o0, o1, o2, (.fz d), o4, o5, o6, o7]), .own (.fz (.int 3))) = some (.own (.fz d)) := by simp [gIx, atI, ixN]
theorem g_otw8_3 {o0 o1 o2 o3 o4 o5 o6 o7 : OD} {us : List OD} : gIx (.view (.tup [o0, o1, o2, (.lst us), o4, o5, o6, o7]), .own (.fz (.int 3))) = some (.view (.lst us)) := by simp [gIx, atI, ixN, RV.part]
theorem g_t8_4 {d0 d1 d2 d3 d4 d5 d6 d7 : D} : gIx (.own (.fz (.tup [d0, d1, d2, d3, d4, d5, d6, d7])), .own (.fz (.int 4))) = some (.own (.fz d4)) := by simp [gIx, atI, ixN]
theorem g_oto8_4 {o0 o1 o2 o3 o4 o5 o6 o7 : OD} : gIx (.own (.tup [o0, o1, o2, o3, o4, o5, o6, o7]), .own (.fz (.int 4))) = some (.own o4) := by simp [gIx, atI, ixN, RV.part]; split <;> rfl
theorem g_otf8_4 {o0 o1 o2 o3 o4 o5 o6 o7 : OD} {d : D} : gIx (.view (.tup [o0, o1, o2, o3, (.fz d), o5, o6, o7]), .own (.fz (.int 4))) = some (.own (.fz d)) := by simp [gIx, atI, ixN]
theorem g_otw8_4 {o0 o1 o2 o3 o4 o5 o6 o7 : OD} {us : List OD} : gIx (.view (.tup [o0, o1, o2, o3, (.lst us), o5, o6, o7]), .own (.fz (.int 4))) = some (.view (.lst us)) := by simp [gIx, atI, ixN, RV.part]
theorem g_t8_5 {d0 d1 d2 d3 d4 d5 d6 d7 : D} : gIx (.own (.fz (.tup [d0, d1, d2, d3, d4, d5, d6, d7])), .own (.fz (.int 5))) = some (.own (.fz d5)) := by simp [gIx, atI, ixN]
theorem g_oto8_5 {o0 o1 o2 o3 o4 o5 o6 o7 : OD} : gIx (.own (.tup [o0, o1, o2, o3, o4, o5, o6, o7]), .own (.fz (.int 5))) = some (.own o5) := by simp [gIx, atI, ixN, RV.part]; split <;> rfl
theorem g_otf8_5 {o0 o1 o2 o3 o4 o5 o6 o7 : OD} {d : D} : gIx (.view (.tup [o0, o1, o2, o3, o4, (.fz d), o6, o7]), .own (.fz (.int 5))) = some (.own (.fz d)) := by simp [gIx, atI, ixN]
theorem g_otw8_5 {o0 o1 o2 o3 o4 o5 o6 o7 : OD} {us : List OD} : gIx (.view (.tup [o0, o1, o2, o3, o4, (.lst us), o6, o7]), .own (.fz (.int 5))) = some (.view (.lst us)) := by simp [gIx, atI, ixN, RV.part]
theorem g_t8_6 {d0 d1 d2 d3 d4 d5 d6 d7 : D} : gIx (.own (.fz (.tup [d0, d1, d2, d3, d4, d5, d6, d7])), .own (.fz (.int 6))) = some (.own (.fz d6)) := by simp [gIx, atI, ixN]
theorem g_oto8_6 {o0 o1 o2 o3 o4 o5 o6 o7 : OD} : gIx (.own (.tup [o0, o1, o2, o3, o4, o5, o6, o7]), .own (.fz (.int 6))) = some (.own o6) := by simp [gIx, atI, ixN, RV.part]; split <;> rfl
theorem g_otf8_6 {o0 o1 o2 o3 o4 o5 o6 o7 : OD} {d : D} : gIx (.view (.tup [o0, o1, o2, o3, o4, o5, (.fz d), o7]), .own (.fz (.int 6))) = some (.own (.fz d)) := by simp [gIx, atI, ixN]
theorem g_otw8_6 {o0 o1 o2 o3 o4 o5 o6 o7 : OD} {us : List OD} : gIx (.view (.tup [o0, o1, o2, o3, o4, o5, (.lst us), o7]), .own (.fz (.int 6))) = some (.view (.lst us)) := by simp [gIx, atI, ixN, RV.part]
theorem g_t8_7 {d0 d1 d2 d3 d4 d5 d6 d7 : D} : gIx (.own (.fz (.tup [d0, d1, d2, d3, d4, d5, d6, d7])), .own (.fz (.int 7))) = some (.own (.fz d7)) := by simp [gIx, atI, ixN]
theorem g_oto8_7 {o0 o1 o2 o3 o4 o5 o6 o7 : OD} : gIx (.own (.tup [o0, o1, o2, o3, o4, o5, o6, o7]), .own (.fz (.int 7))) = some (.own o7) := by simp [gIx, atI, ixN, RV.part]; split <;> rfl
theorem g_otf8_7 {o0 o1 o2 o3 o4 o5 o6 o7 : OD} {d : D} : gIx (.view (.tup [o0, o1, o2, o3, o4, o5, o6, (.fz d)]), .own (.fz (.int 7))) = some (.own (.fz d)) := by simp [gIx, atI, ixN]
theorem g_otw8_7 {o0 o1 o2 o3 o4 o5 o6 o7 : OD} {us : List OD} : gIx (.view (.tup [o0, o1, o2, o3, o4, o5, o6, (.lst us)]), .own (.fz (.int 7))) = some (.view (.lst us)) := by simp [gIx, atI, ixN, RV.part]
theorem g_t8_m1 {d0 d1 d2 d3 d4 d5 d6 d7 : D} : gIx (.own (.fz (.tup [d0, d1, d2, d3, d4, d5, d6, d7])), .own (.fz (.int (-1)))) = some (.own (.fz d7)) := by simp [gIx, atI, ixN]
theorem g_oto8_m1 {o0 o1 o2 o3 o4 o5 o6 o7 : OD} : gIx (.own (.tup [o0, o1, o2, o3, o4, o5, o6, o7]), .own (.fz (.int (-1)))) = some (.own o7) := by simp [gIx, atI, ixN, RV.part]; split <;> rfl
theorem g_otf8_m1 {o0 o1 o2 o3 o4 o5 o6 o7 : OD} {d : D} : gIx (.view (.tup [o0, o1, o2, o3, o4, o5, o6, (.fz d)]), .own (.fz (.int (-1)))) = some (.own (.fz d)) := by simp [gIx, atI, ixN]
theorem g_otw8_m1 {o0 o1 o2 o3 o4 o5 o6 o7 : OD} {us : List OD} : gIx (.view (.tup [o0, o1, o2, o3, o4, o5, o6, (.lst us)]), .own (.fz (.int (-1)))) = some (.view (.lst us)) := by simp [gIx, atI, ixN, RV.part]
theorem g_l0 : gLst [] = some (.own (.lst [])) := rfl
theorem g_tp0 : gTup [] = some (.own (.fz (.tup []))) := rfl
theorem g_l1 {o0 : OD} : gLst [.own o0] = some (.own (.lst [o0])) := rfl
theorem g_l2 {o0 o1 : OD} : gLst [.own o0, .own o1] = some (.own (.lst [o0, o1])) := rfl
theorem g_l3 {o0 o1 o2 : OD} : gLst [.own o0, .own o1, .own o2] = some (.own (.lst [o0, o1, o2])) := rfl
theorem g_l4 {o0 o1 o2 o3 : OD} : gLst [.own o0, .own o1, .own o2, .own o3] = some (.own (.lst [o0, o1, o2, o3])) := rfl
theorem g_l5 {o0 o1 o2 o3 o4 : OD} : gLst [.own o0, .own o1, .own o2, .own o3, .own o4] = some (.own (.lst [o0, o1, o2, o3, o4])) := rfl
theorem g_l6 {o0 o1 o2 o3 o4 o5 : OD} : gLst [.own o0, .own o1, .own o2, .own o3, .own o4, .own o5] = some (.own (.lst [o0, o1, o2, o3, o4, o5])) := rfl
theorem g_l7 {o0 o1 o2 o3 o4 o5 o6 : OD} : gLst [.own o0, .own o1, .own o2, .own o3, .own o4, .own o5, .own o6] = some (.own (.lst [o0, o1, o2, o3, o4, o5, o6])) := rfl
theorem g_l8 {o0 o1 o2 o3 o4 o5 o6 o7 : OD} : gLst [.own o0, .own o1, .own o2, .own o3, .own o4, .own o5, .own o6, .own o7] = some (.own (.lst [o0, o1, o2, o3, o4, o5, o6, o7])) := rfl
theorem g_l9 {o0 o1 o2 o3 o4 o5 o6 o7 o8 : OD} : gLst [.own o0, .own o1, .own o2, .own o3, .own o4, .own o5, .own o6, .own o7, .own o8] = some (.own (.lst [o0, o1, o2, o3, o4, o5, o6, o7, o8])) := rfl
theorem g_l10 {o0 o1 o2 o3 o4 o5 o6 o7 o8 o9 : OD} : gLst [.own o0, .own o1, .own o2, .own o3, .own o4, .own o5, .own o6, .own o7, .own o8, .own o9] = some (.own (.lst [o0, o1, o2, o3, o4, o5, o6, o7, o8, o9])) := rfl
theorem g_l11 {o0 o1 o2 o3 o4 o5 o6 o7 o8 o9 o10 : OD} : gLst [.own o0, .own o1, .own o2, .own o3, .own o4, .own o5, .own o6, .own o7, .own o8, .own o9, .own o10] = some (.own (.lst [o0, o1, o2, o3, o4, o5, o6, o7, o8, o9, o10])) := rfl
theorem g_l12 {o0 o1 o2 o3 o4 o5 o6 o7 o8 o9 o10 o11 : OD} : gLst [.own o0, .own o1, .own o2, .own o3, .own o4, .own o5, .own o6, .own o7, .own o8, .own o9, .own o10, .own o11] = some (.own (.lst [o0, o1, o2, o3, o4, o5, o6, o7, o8, o9, o10, o11])) := rfl
theorem g_l13 {o0 o1 o2 o3 o4 o5 o6 o7 o8 o9 o10 o11 o12 : OD} : gLst [.own o0, .own o1, .own o2, .own o3, .own o4, .own o5, .own o6, .own o7, .own o8, .own o9, .own o10, .own o11, .own o12] = some (.own (.lst [o0, o1, o2, o3, o4, o5, o6, o7, o8, o9, o10, o11, o12])) := rfl
theorem g_l14 {o0 o1 o2 o3 o4 o5 o6 o7 o8 o9 o10 o11 o12 o13 : OD} : gLst [.own o0, .own o1, .own o2, .own o3, .own o4, .own o5, .own o6, .own o7, .own o8, .own o9, .own o10, .own o11, .own o12, .own o13] = some (.own (.lst [o0, o1, o2, o3, o4, o5, o6, o7, o8, o9, o10, o11, o12, o13])) := rfl
theorem g_l15 {o0 o1 o2 o3 o4 o5 o6 o7 o8 o9 o10 o11 o12 o13 o14 : OD} : gLst [.own o0, .own o1, .own o2, .own o3, .own o4, .own o5, .own o6, .own o7, .own o8, .own o9, .own o10, .own o11, .own o12, .own o13, .own o14] = some (.own (.lst [o0, o1, o2, o3, o4, o5, o6, o7, o8, o9, o10, o11, o12, o13, o14])) := rfl
theorem g_l16 {o0 o1 o2 o3 o4 o5 o6 o7 o8 o9 o10 o11 o12 o13 o14 o15 : OD} : gLst [.own o0, .own o1, .own o2, .own o3, .own o4, .own o5, .own o6, .own o7, .own o8, .own o9, .own o10, .own o11, .own o12, .own o13, .own o14, .own o15] = some (.own (.lst [o0, o1, o2, o3, o4, o5, o6, o7, o8, o9, o10, o11, o12, o13, o14, o15])) := rfl
theorem g_l17 {o0 o1 o2 o3 o4 o5 o6 o7 o8 o9 o10 o11 o12 o13 o14 o15 o16 : OD} : gLst [.own o0, .own o1, .own o2, .own o3, .own o4, .own o5, .own o6, .own o7, .own o8, .own o9, .own o10, .own o11, .own o12, .own o13, .own o14, .own o15, .own o16] = some (.own (.lst [o0, o1, o2, o3, o4, o5, o6, o7, o8, o9, o10, o11, o12, o13, o14, o15, o16])) := rfl
theorem g_l18 {o0 o1 o2 o3 o4 o5 o6 o7 o8 o9 o10 o11 o12 o13 o14 o15 o16 o17 : OD} : gLst [.own o0, .own o1, .own o2, .own o3, .own o4, .own o5, .own o6, .own o7, .own o8, .own o9, .own o10, .own o11, .own o12, .own o13, .own o14, .own o15, .own o16, .own o17] = some (.own (.lst [o0, o1, o2, o3, o4, o5, o6, o7, o8, o9, o10, o11, o12, o13, o14, o15, o16, o17])) := rfl
theorem g_l19 {o0 o1 o2 o3 o4 o5 o6 o7 o8 o9 o10 o11 o12 o13 o14 o15 o16 o17 o18 : OD} : gLst [.own o0, .own o1, .own o2, .own o3, .own o4, .own o5, .own o6, .own o7, .own o8, .own o9, .own o10, .own o11, .own o12, .own o13, .own o14, .own o15, .own o16, .own o17, .own o18] = some (.own (.lst [o0, o1, o2, o3, o4, o5, o6, o7, o8, o9, o10, o11, o12, o13, o14, o15, o16, o17, o18])) := rfl
theorem g_l20 {o0 o1 o2 o3 o4 o5 o6 o7 o8 o9 o10 o11 o12 o13 o14 o15 o16 o17 o18 o19 : OD} : gLst [.own o0, .own o1, .own o2, .own o3, .own o4, .own o5, .own o6, .own o7, .own o8, .own o9, .own o10, .own o11, .own o12, .own o13, .own o14, .own o15, .own o16, .own o17, .own o18, .own o19] = some (.own (.lst [o0, o1, o2, o3, o4, o5, o6, o7, o8, o9, o10, o11, o12, o13, o14, o15, o16, o17, o18, o19])) := rfl
theorem g_l21 {o0 o1 o2 o3 o4 o5 o6 o7 o8 o9 o10 o11 o12 o13 o14 o15 o16 o17 o18 o19 o20 : OD} : gLst [.own o0, .own o1, .own o2, .own o3, .own o4, .own o5, .own o6, .own o7, .own o8, .own o9, .own o10, .own o11, .own o12, .own o13, .own o14, .own o15, .own o16, .own o17, .own o18, .own o19, .own o20] = some (.own (.lst [o0, o1, o2, o3, o4, o5, o6, o7, o8, o9, o10, o11, o12, o13, o14, o15, o16, o17, o18, o19, o20])) := rfl
theorem g_l22 {o0 o1 o2 o3 o4 o5 o6 o7 o8 o9 o10 o11 o12 o13 o14 o15 o16 o17 o18 o19 o20 o21 : OD} : gLst [.own o0, .own o1, .own o2, .own o3, .own o4, .own o5, .own o6, .own o7, .own o8, .own o9, .own o10, .own o11, .own o12, .own o13, .own o14, .own o15, .own o16, .own o17, .own o18, .own o19, .own o20, .own o21] = some (.own (.lst [o0, o1, o2, o3, o4, o5, o6, o7, o8, o9, o10, o11, o12, o13, o14, o15, o16, o17, o18, o19, o20, o21])) := rfl
theorem g_l23 {o0 o1 o2 o3 o4 o5 o6 o7 o8 o9 o10 o11 o12 o13 o14 o15 o16 o17 o18 o19 o20 o21 o22 : OD} : gLst [.own o0, .own o1, .own o2, .own o3, .own o4, .own o5, .own o6, .own o7, .own o8, .own o9, .own o10, .own o11, .own o12, .own o13, .own o14, .own o15, .own o16, .own o17, .own o18, .own o19, .own o20, .own o21, .own o22] = some (.own (.lst [o0, o1, o2, o3, o4, o5, o6, o7, o8, o9, o10, o11, o12, o13, o14, o15, o16, o17, o18, o19, o20, o21, o22])) := rfl
theorem g_l24 {o0 o1 o2 o3 o4 o5 o6 o7 o8 o9 o10 o11 o12 o13 o14 o15 o16 o17 o18 o19 o20 o21 o22 o23 : OD} : gLst [.own o0, .own o1, .own o2, .own o3, .own o4, .own o5, .own o6, .own o7, .own o8, .own o9, .own o10, .own o11, .own o12, .own o13, .own o14, .own o15, .own o16, .own o17, .own o18, .own o19, .own o20, .own o21, .own o22, .own o23] = some (.own (.lst [o0, o1, o2, o3, o4, o5, o6, o7, o8, o9, o10, o11, o12, o13, o14, o15, o16, o17, o18, o19, o20, o21, o22, o23])) := rfl
theorem g_tp1 {d0 : D} : gTup [.own (.fz d0)] = some (.own (.fz (.tup [d0]))) := rfl
theorem g_tp2 {d0 d1 : D} : gTup [.own (.fz d0), .own (.fz d1)] = some (.own (.fz (.tup [d0, d1]))) := rfl
theorem g_tp3 {d0 d1 d2 : D} : gTup [.own (.fz d0), .own (.fz d1), .own (.fz d2)] = some (.own (.fz (.tup [d0, d1, d2]))) := rfl
theorem g_tp4 {d0 d1 d2 d3 : D} : gTup [.own (.fz d0), .own (.fz d1), .own (.fz d2), .own (.fz d3)] = some (.own (.fz (.tup [d0, d1, d2, d3]))) := rfl
theorem g_tp5 {d0 d1 d2 d3 d4 : D} : gTup [.own (.fz d0), .own (.fz d1), .own (.fz d2), .own (.fz d3), .own (.fz d4)] = some (.own (.fz (.tup [d0, d1, d2, d3, d4]))) := rfl
theorem g_tp6 {d0 d1 d2 d3 d4 d5 : D} : gTup [.own (.fz d0), .own (.fz d1), .own (.fz d2), .own (.fz d3), .own (.fz d4), .own (.fz d5)] = some (.own (.fz (.tup [d0, d1, d2, d3, d4, d5]))) := rfl
theorem g_tp7 {d0 d1 d2 d3 d4 d5 d6 : D} : gTup [.own (.fz d0), .own (.fz d1), .own (.fz d2), .own (.fz d3), .own (.fz d4), .own (.fz d5), .own (.fz d6)] = some (.own (.fz (.tup [d0, d1, d2, d3, d4, d5, d6]))) := rfl
theorem g_tp8 {d0 d1 d2 d3 d4 d5 d6 d7 : D} : gTup [.own (.fz d0), .own (.fz d1), .own (.fz d2), .own (.fz d3), .own (.fz d4), .own (.fz d5), .own (.fz d6), .own (.fz d7)] = some (.own (.fz (.tup [d0, d1, d2, d3, d4, d5, d6, d7]))) := rfl
end
section
variable {α β γ δ : Type} {x y : α} {xs ys : List α} {i j k : Int} {o : α → OD} {e : α → D} {r u : RV} {a b : Int} {Γ Γ' Γ1 Γ2 : Ctx} {p p1 p2 : Bool} {fa fb : Env → O RV}
/-! items of what is there -/
theorem fzs_L : fzs (xs.map (oF e)) = some (xs.map e) := fzs_map
theorem frzL_L : frzL (xs.map (oF e)) = some (xs.map e) := frzL_map
theorem si_tup : (OD.fz (.tup (xs.map e))).sitems = some (xs.map e) := rfl
theorem si_lst : (OD.fz (.lst (xs.map e))).sitems = some (xs.map e) := rfl
theorem si_scr : (OD.fz (.scr (xs.map e))).sitems = some (xs.map e) := rfl
theorem si_L : (oL (oF e) xs).sitems = some (xs.map e) := fzs_L
theorem it_lst : (OD.fz (.lst (xs.map e))).items = some (xs.map e) := rfl
theorem it_scr : (OD.fz (.scr (xs.map e))).items = some (xs.map e) := rfl
theorem it_L : (oL (oF e) xs).items = some (xs.map e) := fzs_L
theorem li_lst : (OD.fz (.lst (xs.map e))).litems = some (xs.map e) := rfl
theorem li_L : (oL (oF e) xs).litems = some (xs.map e) := fzs_L
theorem pl_fz {d : D} : (OD.fz d).plain = some d := frz_fz
theorem pl_L : (oL (oF e) xs).plain = some (.lst (xs.map e)) := by
  show frz _ = _
  rw [frz_lst, frzL_L]; rfl
theorem pa_L {r : RV} (h : r.od = oL (oF e) xs) : r.argO = some (.fz (.lst (xs.map e))) := by
  have : r.plainArg = some (.lst (xs.map e)) := by
    unfold RV.plainArg
    rw [h]
    show frz _ = _
    rw [frz_lst, frzL_L]; rfl
  unfold RV.argO
  rw [this, h]; rfl
theorem g_items {o : OD} {ds : List D} (h : o.sitems = some ds) : gItems (.own o) = some ds := items_of h
/-! subscripts -/
def ixO (xs : List α) (i : Int) : Option α := atI xs i
theorem ixO_map {f : α → β} (h : ixO xs i = some x) : atI (xs.map f) i = some (f x) := by
  unfold ixO atI at h
  unfold atI
  rw [List.length_map]
  cases e : ixN xs.length i with
  | none => rw [e] at h; cases h
  | some j =>
    rw [e] at h
    have h' : xs[j]? = some x := h
    show (xs.map f)[j]? = _
    rw [List.getElem?_map, h']; rfl
theorem ixO_nn (h0 : 0 ≤ i) (h : i < xs.length) : ixO xs i = xs[i.toNat]? := by unfold ixO; exact atI_int h0 h
theorem ixO_nat {n : Nat} (h : n < xs.length) : ixO xs (n : Int) = some xs[n] := by
  rw [ixO_nn (by omega) (by omega), Int.toNat_natCast]; simp [h]
@[simp] theorem ixO_0 : ixO (x :: xs) 0 = some x := atI_0
@[simp] theorem ixO_1 {y z : α} : ixO (y :: z :: xs) 1 = some z := atI_1
@[simp] theorem ixO_2 {y z v : α} : ixO (y :: z :: v :: xs) 2 = some v := atI_2
@[simp] theorem ixO_3 {y z v s : α} : ixO (y :: z :: v :: s :: xs) 3 = some s := atI_3
theorem ixO_last (h : xs ≠ []) : ixO xs (-1) = some (xs.getLast h) := by
  have hl : 0 < xs.length := List.length_pos_iff.mpr h
  unfold ixO atI ixN
  rw [if_neg (by omega), if_pos (by omega)]
  have : (-1 + (xs.length : Int)).toNat = xs.length - 1 := by omega
  show xs[(-1 + (xs.length : Int)).toNat]? = _
  rw [this, List.getLast_eq_getElem]
  simp
theorem g_ixL (hr : r.od = .lst (xs.map o)) (h : ixO xs i = some x) : gIx (r, .own (.fz (.int i))) = some (r.part (o x)) := by
  unfold gIx; rw [hr]
  show (atI (xs.map o) i).map r.part = _
  rw [ixO_map h]; rfl
theorem g_ixF (h : ixO xs i = some x) : gIx (.own (.fz (.lst (xs.map e))), .own (.fz (.int i))) = some (.own (.fz (e x))) := by
  show (atI (xs.map e) i).map _ = _
  rw [ixO_map h]; rfl
theorem g_ixV (h : ixO xs i = some x) : gIx (.own (.fz (.tup (xs.map e))), .own (.fz (.int i))) = some (.own (.fz (e x))) := by
  show (atI (xs.map e) i).map _ = _
  rw [ixO_map h]; rfl
theorem g_ixS (h : ixO xs i = some x) : gIx (.own (.fz (.scr (xs.map e))), .own (.fz (.int i))) = some (.own (.fz (e x))) := by
  show (atI (xs.map e) i).map _ = _
  rw [ixO_map h]; rfl
theorem ev_un {v : α} {q : Option α} (h : q = some v) (D : Ev p fa Γ (.own (.fz (eOp e q))) Γ') : Ev p fa Γ (.own (.fz (e v))) Γ' := by subst h; exact D
/-! arithmetic -/
theorem g_isub : g2i (fun i j => some (iSub i j)) (.own (.fz (.int a)), .own (.fz (.int b))) = some (.own (.fz (.int (a - b)))) := rfl
theorem g_iadd : gAdd (.own (.fz (.int a)), .own (.fz (.int b))) = some (.own (.fz (.int (a + b)))) := rfl
theorem g_neg : gNeg (.own (.fz (.int a))) = some (.own (.fz (.int (-a)))) := rfl
theorem g_lt : g2i (fun i j => some (iLt i j)) (.own (.fz (.int a)), .own (.fz (.int b))) = some (.own (.fz (.bl (decide (a < b))))) := rfl
theorem g_le : g2i (fun i j => some (iLe i j)) (.own (.fz (.int a)), .own (.fz (.int b))) = some (.own (.fz (.bl (decide (a ≤ b))))) := rfl
theorem g_gt : g2i (fun i j => some (iGt i j)) (.own (.fz (.int a)), .own (.fz (.int b))) = some (.own (.fz (.bl (decide (b < a))))) := rfl
theorem g_ge : g2i (fun i j => some (iGe i j)) (.own (.fz (.int a)), .own (.fz (.int b))) = some (.own (.fz (.bl (decide (b ≤ a))))) := rfl
theorem g_band : g2i (fun i j => some (.int (Builtin.bitAnd i j))) (.own (.fz (.int a)), .own (.fz (.int b))) = some (.own (.fz (.int (Builtin.bitAnd a b)))) := rfl
theorem g_bor : g2i (fun i j => some (.int (Builtin.bitOr i j))) (.own (.fz (.int a)), .own (.fz (.int b))) = some (.own (.fz (.int (Builtin.bitOr a b)))) := rfl
theorem g_bxor : g2i (fun i j => some (.int (Builtin.bitXor i j))) (.own (.fz (.int a)), .own (.fz (.int b))) = some (.own (.fz (.int (Builtin.bitXor a b)))) := rfl
def mulO (a b : Int) : Option Int := if mulSafe a b then some (a * b) else none
theorem g_mul (h : mulO a b = some k) : gMul (.own (.fz (.int a)), .own (.fz (.int b))) = some (.own (.fz (.int k))) := by
  unfold mulO at h
  split at h
  · rename_i q; cases h; exact gMul_i q
  · cases h
theorem mulO_e (h : mulSafe a b) : mulO a b = some (a * b) := if_pos h
@[simp] theorem mulO_l (h : -18446744073709551616 < a) (h' : a < 18446744073709551616) : mulO a b = some (a * b) := mulO_e (.inl ⟨by simpa using h, by simpa using h'⟩)
@[simp] theorem mulO_r (h : -18446744073709551616 < b) (h' : b < 18446744073709551616) : mulO a b = some (a * b) := mulO_e (.inr (.inl ⟨by simpa using h, by simpa using h'⟩))
def divO (a b : Int) : Option Int := if 0 < b ∧ b.natAbs.log2 < 9000 then some (a / b) else none
theorem g_div (h : divO a b = some k) : g2i iDiv (.own (.fz (.int a)), .own (.fz (.int b))) = some (.own (.fz (.int k))) := by
  unfold divO at h
  split at h
  · rename_i q; cases h; simp [iDiv, q]
  · cases h
theorem divO_e (h : 0 < b) (h2 : b < 2 ^ 128) : divO a b = some (a / b) := by
  have : b.natAbs.log2 < 9000 := by
    by_cases e : b.natAbs = 0
    · rw [e]; decide
    · have := (Nat.log2_lt (k := 128) e).mpr (by omega); omega
  exact if_pos ⟨h, this⟩
@[simp] theorem divO_s (h : 0 < b) (h2 : b < 340282366920938463463374607431768211456) : divO a b = some (a / b) := divO_e h (by simpa using h2)
def modO (a b : Int) : Option Int := if 0 < b then some (a % b) else none
@[simp] theorem modO_e (h : 0 < b) : modO a b = some (a % b) := if_pos h
theorem g_mod (h : modO a b = some k) : g2i iMod (.own (.fz (.int a)), .own (.fz (.int b))) = some (.own (.fz (.int k))) := by
  unfold modO at h
  split at h
  · rename_i q; cases h; simp [iMod, q]
  · cases h
def powO (a b : Int) : Option Int := if 0 ≤ b ∧ b ≤ 1000000 ∧ a.natAbs < 2 ^ 64 then some (a ^ b.toNat) else none
theorem powO_e (h : 0 ≤ b ∧ b ≤ 1000000 ∧ a.natAbs < 2 ^ 64) : powO a b = some (a ^ b.toNat) := if_pos h
theorem g_pow (h : powO a b = some k) : g2i iPow (.own (.fz (.int a)), .own (.fz (.int b))) = some (.own (.fz (.int k))) := by
  unfold powO at h
  split at h
  · rename_i q; cases h; rw [g2i_iPow, iPow, if_pos q]; rfl
  · cases h
def shlO (a b : Int) : Option Int := if 0 ≤ b ∧ b ≤ 1000000 ∧ a.natAbs < 2 ^ 64 then some (a * 2 ^ b.toNat) else none
theorem g_shl (h : shlO a b = some k) : g2i iShl (.own (.fz (.int a)), .own (.fz (.int b))) = some (.own (.fz (.int k))) := by
  unfold shlO at h
  split at h
  · rename_i q; cases h; rw [g2i_iShl, iShl, if_pos q]; rfl
  · cases h
def shrO (a b : Int) : Option Int := if 0 ≤ b then some (a / 2 ^ b.toNat) else none
theorem g_shr (h : shrO a b = some k) : g2i iShr (.own (.fz (.int a)), .own (.fz (.int b))) = some (.own (.fz (.int k))) := by
  unfold shrO at h
  split at h
  · rename_i q; cases h; rw [g2i_iShr, iShr, if_pos q]; rfl
  · cases h
theorem pow10 {n : Nat} (h : n ≤ 19) : powO 10 n = some (10 ^ n) := by
  rw [powO_e ⟨by omega, by omega, by decide⟩, Int.toNat_natCast]
theorem g_min : gMin [.own (.fz (.int a)), .own (.fz (.int b))] = some (.own (.fz (.int (min a b)))) := by
  rw [gMin_e, show (if b < a then b else a) = min a b by omega]
theorem g_max : gMax [.own (.fz (.int a)), .own (.fz (.int b))] = some (.own (.fz (.int (max a b)))) := by
  rw [gMax_e, show (if b > a then b else a) = max a b by omega]
theorem gIsi_fz {T : Ty} {d : D} {z : Bool} (h : d.ty.is T = z) : gIsi T (.own (.fz d)) = some (.own (.fz (.bl z))) := by rw [isi_fz, h]
theorem gIsi_L {T : Ty} {os : List OD} (h : r.od = .lst os) : gIsi T r = some (.own (.fz (.bl (Ty.list.is T)))) := by
  unfold gIsi; rw [h]; rfl
theorem gIsi_T {T : Ty} {os : List OD} (h : r.od = .tup os) : gIsi T r = some (.own (.fz (.bl (Ty.tuple.is T)))) := by
  unfold gIsi; rw [h]; rfl
/-! None -/
theorem g_isN {q : Option α} (h : ∀ v, e v ≠ .non) : gIsN (.own (.fz (eOp e q)), .own (.fz .non)) = some (.own (.fz (.bl q.isNone))) := by
  cases q with
  | none => rfl
  | some v =>
    have := h v
    show gIsN (.own (.fz (e v)), .own (.fz .non)) = _
    cases hv : e v <;> first | rfl | exact absurd hv this
theorem g_notN {q : Option α} (h : ∀ v, e v ≠ .non) : gNotN (.own (.fz (eOp e q)), .own (.fz .non)) = some (.own (.fz (.bl q.isSome))) := by
  cases q with
  | none => rfl
  | some v =>
    have := h v
    show gNotN (.own (.fz (e v)), .own (.fz .non)) = _
    cases hv : e v <;> first | rfl | exact absurd hv this
def dNon : D → Bool
  | .non => true
  | _ => false
theorem g_isA {d : D} : gIsN (.own (.fz d), .own (.fz .non)) = some (.own (.fz (.bl (dNon d)))) := by cases d <;> rfl
theorem g_notA {d : D} : gNotN (.own (.fz d), .own (.fz .non)) = some (.own (.fz (.bl (!dNon d)))) := by cases d <;> rfl
theorem g_isF {d : D} (h : dNon d = false) : gIsN (.own (.fz d), .own (.fz .non)) = some (.own (.fz (.bl false))) := by rw [g_isA, h]
theorem g_notF {d : D} (h : dNon d = false) : gNotN (.own (.fz d), .own (.fz .non)) = some (.own (.fz (.bl true))) := by rw [g_notA, h]; rfl
theorem g_isLs {os : List OD} (h : r.od = .lst os) : gIsN (r, .own (.fz .non)) = some (.own (.fz (.bl false))) := by unfold gIsN; simp only [h]; rfl
theorem g_notLs {os : List OD} (h : r.od = .lst os) : gNotN (r, .own (.fz .non)) = some (.own (.fz (.bl true))) := by unfold gNotN; simp only [h]; rfl
/-! lengths, lists -/
theorem g_lenL (h : r.od = .lst (xs.map o)) : gLen [r] = some (.own (.fz (.int xs.length))) := by
  simp only [gLen, h, OD.len, List.length_map]; rfl
theorem g_lenF : gLen [.own (.fz (.lst (xs.map e)))] = some (.own (.fz (.int xs.length))) := by simp
theorem g_lenV : gLen [.own (.fz (.tup (xs.map e)))] = some (.own (.fz (.int xs.length))) := by simp
theorem g_lenS : gLen [.own (.fz (.scr (xs.map e)))] = some (.own (.fz (.int xs.length))) := by simp
theorem g_list (h : r.od.sitems = some (xs.map e)) : gList [r] = some (.own (.lst (xs.map (oF e)))) := by
  simp only [gList, h]
  show some (RV.own (.lst ((xs.map e).map .fz))) = _
  rw [List.map_map]; rfl
theorem g_tupl (h : r.od.items = some (xs.map e)) : gTuple [r] = some (.own (.fz (.tup (xs.map e)))) := by
  simp only [gTuple, h]
theorem cutL_e {f : α → β} {lo hi : Option Int} : cutL (xs.map f) lo hi = (cutL xs lo hi).map f := by
  simp only [cutL, List.length_map, List.map_take, List.map_drop]
theorem g_slL {lo hi : Option Int} (h : r.od.items = some (xs.map e)) (hs : (match r.od with | .fz (.str _) => false | _ => true) = true) : gSl ((r, lo), hi) = some (.own (.lst ((cutL xs lo hi).map (oF e)))) := by
  have : gSl ((r, lo), hi) = match r.od.items with
    | some ds => some (.own (.lst ((cutD ds lo hi).map .fz)))
    | none => match r.od.titems with
      | some ds => some (.own (.fz (.tup (cutD ds lo hi))))
      | none => none := by
    unfold gSl
    split
    · rename_i z hz; simp only at hz; rw [hz] at hs; cases hs
    · rfl
  rw [this, h]
  simp only [cutD_map, List.map_map]; rfl
theorem g_slV {lo hi : Option Int} : gSl ((.own (.fz (.tup (xs.map e))), lo), hi) = some (.own (.fz (.tup ((cutL xs lo hi).map e)))) := by
  rw [gSl_tup, cutD_map]
theorem g_revL (h : r.od.items = some (xs.map e)) : gRev r = some (.own (.lst (xs.reverse.map (oF e)))) := by
  simp only [gRev, h, ← List.map_reverse, List.map_map]; rfl
def catO (xs ys : List α) : Option (List α) := if xs.length + ys.length ≤ sizeLine then some (xs ++ ys) else none
theorem sizeLine_big {n : Nat} (h : n ≤ 1000000) : n ≤ sizeLine := Nat.le_trans h (by decide)
theorem catO_e (h : xs.length + ys.length ≤ 1000000) : catO xs ys = some (xs ++ ys) := if_pos (sizeLine_big h)
theorem gAdd_gen {xs ys : List D} (hr : r.od.litems = some xs) (hu : u.od.litems = some ys) (h3 : xs.length + ys.length ≤ sizeLine) : gAdd (r, u) = some (.own (.lst ((xs ++ ys).map .fz))) := by
  unfold gAdd
  split
  · rename_i e1 e2; simp only at e1; rw [e1] at hr; cases hr
  · rename_i e1 e2; simp only at e1; rw [e1] at hr; cases hr
  · simp only [hr, hu, h3, if_true]
theorem g_catL {zs : List α} (hr : r.od.litems = some (xs.map e)) (hu : u.od.litems = some (ys.map e)) (h : catO xs ys = some zs) : gAdd (r, u) = some (.own (.lst (zs.map (oF e)))) := by
  unfold catO at h
  split at h
  · rename_i hl
    cases h
    rw [gAdd_gen hr hu (by simpa using hl), ← List.map_append, List.map_map]; rfl
  · cases h
theorem g_catV {zs : List α} (h : catO xs ys = some zs) : gAdd (.own (.fz (.tup (xs.map e))), .own (.fz (.tup (ys.map e)))) = some (.own (.fz (.tup (zs.map e)))) := by
  unfold catO at h
  split at h
  · rename_i hl
    cases h
    show (if (xs.map e).length + (ys.map e).length ≤ sizeLine then _ else _) = _
    rw [if_pos (by simpa using hl)]
    simp
  · cases h
def repO (xs : List α) (k : Int) : Option (List α) := if -(2 ^ 63) ≤ k ∧ k < 2 ^ 63 ∧ xs.length * k.toNat ≤ sizeLine then some (List.replicate k.toNat xs).flatten else none
theorem repO_1 (h : k ≤ 1000000) (h0 : -1000000 ≤ k) : repO [x] k = some (List.replicate k.toNat x) := by
  unfold repO
  rw [if_pos ⟨by omega, by omega, by
    refine sizeLine_big ?_
    have : [x].length = 1 := rfl
    rw [this, Nat.one_mul]; omega⟩]
  congr 1
  generalize k.toNat = n
  induction n with
  | zero => rfl
  | succ n ih => rw [List.replicate_succ, List.flatten_cons, ih]; rfl
theorem map_fl {n : Nat} {f : α → β} : ((List.replicate n xs).flatten).map f = (List.replicate n (xs.map f)).flatten := by
  induction n with
  | zero => rfl
  | succ n ih => simp [List.replicate_succ, ih]
theorem g_rep (hr : r.od.litems = some (xs.map e)) (h : repO xs k = some ys) : gMul (r, .own (.fz (.int k))) = some (.own (.lst (ys.map (oF e)))) := by
  unfold repO at h
  split at h
  · rename_i hc
    cases h
    unfold gMul
    split
    · rename_i e1 e2; simp only at e1; rw [e1] at hr; cases hr
    · rename_i k2 z e2
      have : D.int k = D.int k2 := by
        have := z; simp only [RV.od] at this; injection this
      cases this
      simp only [hr]
      rw [if_pos (by simpa using hc), ← map_fl, List.map_map]; rfl
    · exfalso
      rename_i z w
      first
        | exact z k rfl
        | exact z _ k rfl
        | exact w k rfl
        | exact w _ k rfl rfl
        | exact z _ k rfl rfl
  · cases h
def repT (xs : List α) (k : Int) : Option (List α) := if xs.length ≠ 0 ∧ 2 ≤ k ∧ k ≤ 1000 ∧ xs.length ≤ 1000 then some (List.replicate k.toNat xs).flatten else none
theorem g_repT (h : repT xs k = some ys) : gMul (.own (.fz (.tup (xs.map e))), .own (.fz (.int k))) = some (.own (.fz (.tup (ys.map e)))) := by
  unfold repT at h
  split at h
  · rename_i hc
    cases h
    show (if xs.map e ≠ [] ∧ 2 ≤ k ∧ k ≤ 1000 ∧ (xs.map e).length ≤ 1000 then _ else _) = _
    rw [if_pos ⟨fun z => hc.1 (by simpa using congrArg List.length z), hc.2.1, hc.2.2.1, by simpa using hc.2.2.2⟩, ← map_fl]
  · cases h
/-! bools, sums, least and most -/
theorem dBools_map : ∀ {bs : List Bool}, dBools (bs.map D.bl) = some bs
  | [] => rfl
  | b :: bs => by simp only [List.map_cons, dBools, dBools_map]
theorem g_all {bs : List Bool} (h : r.od.items = some (bs.map D.bl)) : gBs (fun bs => bs.all id) [r] = some (.own (.fz (.bl (bs.all id)))) := by
  simp only [gBs, h, dBools_map]
theorem g_any {bs : List Bool} (h : r.od.items = some (bs.map D.bl)) : gBs (fun bs => bs.any id) [r] = some (.own (.fz (.bl (bs.any id)))) := by
  simp only [gBs, h, dBools_map]
end
/-! what may be compared -/
structure EqE {α : Type} [DecidableEq α] (n : Nat) (e : α → D) : Prop where
  sh : ∀ a, shp n (e a)
  eq : ∀ a b, dEq (e a) (e b) = decide (a = b)
structure EqO {α : Type} [DecidableEq α] (n : Nat) (e : α → D) : Prop extends EqE n e where
  nl : ∀ a, dEq .non (e a) = false
  nr : ∀ a, dEq (e a) .non = false
section
variable {α β γ δ : Type} [DecidableEq α] [DecidableEq β] [DecidableEq γ] [DecidableEq δ] {n m : Nat} {e : α → D} {e1 : β → D} {e2 : γ → D} {e3 : δ → D} {r u : RV} {xs ys : List α}
theorem q_I : EqO 0 D.int := ⟨⟨fun _ => shp_int, fun a b => by rw [dEq_i]; exact (Bool.beq_eq_decide_eq a b)⟩, fun a => by simp [dEq, pd, PyData.eqv], fun a => by simp [dEq, pd, PyData.eqv]⟩
theorem q_B : EqO 0 D.bl := ⟨⟨fun _ => shp_bl, fun a b => by rw [dEq_b]; exact (Bool.beq_eq_decide_eq a b)⟩, fun a => by simp [dEq, pd, PyData.eqv], fun a => by simp [dEq, pd, PyData.eqv]⟩
theorem q_N : EqE 0 eN := ⟨fun _ => shp_non, fun a b => by simp [dEq, pd, PyData.eqv]⟩
theorem q_Op (h : EqO n e) : EqE n (eOp e) := ⟨fun a => by
  cases a with
  | none => exact shp_non
  | some a => exact h.sh a, fun a b => by
  cases a with
  | none => cases b with
    | none => simp [dEq, pd, PyData.eqv]
    | some b => simpa using h.nl b
  | some a => cases b with
    | none => simpa using h.nr a
    | some b => simpa using h.eq a b⟩
theorem EqE.mono (h : EqE n e) (k : n ≤ m) : EqE m e := ⟨fun a => (h.sh a).mono k, h.eq⟩
theorem eqvAll_map (h : EqE n e) : ∀ xs ys : List α, PyData.eqvAll (pdL (xs.map e)) (pdL (ys.map e)) = decide (xs = ys)
  | [], [] => by simp [pdL, PyData.eqvAll]
  | [], _ :: _ => by simp [pdL, PyData.eqvAll]
  | _ :: _, [] => by simp [pdL, PyData.eqvAll]
  | x :: xs, y :: ys => by
    have a := h.eq x y
    simp only [dEq] at a
    simp only [List.map_cons, pdL, PyData.eqvAll, a, eqvAll_map h xs ys, List.cons.injEq]
    simp
theorem q_L (h : EqE n e) : EqO (n + 1) (eLs e) := ⟨⟨fun xs => shp_lst fun d m => by
  obtain ⟨x, _, rfl⟩ := List.mem_map.mp m
  exact h.sh x, fun xs ys => by simp only [dEq, pd, PyData.eqv]; exact eqvAll_map h xs ys⟩, fun a => by simp [dEq, pd, PyData.eqv], fun a => by simp [dEq, pd, PyData.eqv]⟩
theorem q_V (h : EqE n e) : EqO (n + 1) (eV e) := ⟨⟨fun xs => shp_tup fun d m => by
  obtain ⟨x, _, rfl⟩ := List.mem_map.mp m
  exact h.sh x, fun xs ys => by simp only [dEq, pd, PyData.eqv]; exact eqvAll_map h xs ys⟩, fun a => by simp [dEq, pd, PyData.eqv], fun a => by simp [dEq, pd, PyData.eqv]⟩
theorem tup_eq {ds es : List D} : dEq (.tup ds) (.tup es) = PyData.eqvAll (pdL ds) (pdL es) := by simp only [dEq, pd, PyData.eqv]
theorem all_cons {d d' : D} {ds es : List D} : PyData.eqvAll (pdL (d :: ds)) (pdL (d' :: es)) = (dEq d d' && PyData.eqvAll (pdL ds) (pdL es)) := by simp only [pdL, PyData.eqvAll, dEq]
theorem all_nil : PyData.eqvAll (pdL []) (pdL []) = true := by simp [pdL, PyData.eqvAll]
theorem tnl {ds : List D} : dEq .non (.tup ds) = false := by simp [dEq, pd, PyData.eqv]
theorem tnr {ds : List D} : dEq (.tup ds) .non = false := by simp [dEq, pd, PyData.eqv]
theorem q_T0 : EqO (n + 1) eT0 := ⟨⟨fun x => shp_tup (by simp), fun x y => by rw [tup_eq, all_nil]; simp⟩, fun _ => tnl, fun _ => tnr⟩
theorem q_T1 (h : EqE n e) : EqO (n + 1) (eT1 e) := ⟨⟨fun x => shp_tup (by simp [h.sh x]), fun x y => by rw [tup_eq, all_cons, all_nil, h.eq]; simp⟩, fun _ => tnl, fun _ => tnr⟩
theorem q_T2 (h : EqE n e) (h1 : EqE n e1) : EqO (n + 1) (eT2 e e1) := ⟨⟨fun x => shp_tup (by simp [h.sh x.1, h1.sh x.2]), fun x y => by
  rw [tup_eq, all_cons, all_cons, all_nil, h.eq, h1.eq]
  obtain ⟨x1, x2⟩ := x
  obtain ⟨y1, y2⟩ := y
  simp⟩, fun _ => tnl, fun _ => tnr⟩
theorem q_T3 (h : EqE n e) (h1 : EqE n e1) (h2 : EqE n e2) : EqO (n + 1) (eT3 e e1 e2) := ⟨⟨fun x => shp_tup (by simp [h.sh x.1, h1.sh x.2.1, h2.sh x.2.2]), fun x y => by
  rw [tup_eq, all_cons, all_cons, all_cons, all_nil, h.eq, h1.eq, h2.eq]
  obtain ⟨x1, x2, x3⟩ := x
  obtain ⟨y1, y2, y3⟩ := y
  simp⟩, fun _ => tnl, fun _ => tnr⟩
theorem q_T4 (h : EqE n e) (h1 : EqE n e1) (h2 : EqE n e2) (h3 : EqE n e3) : EqO (n + 1) (eT4 e e1 e2 e3) := ⟨⟨fun x => shp_tup (by simp [h.sh x.1, h1.sh x.2.1, h2.sh x.2.2.1, h3.sh x.2.2.2]), fun x y => by
  rw [tup_eq, all_cons, all_cons, all_cons, all_cons, all_nil, h.eq, h1.eq, h2.eq, h3.eq]
  obtain ⟨x1, x2, x3, x4⟩ := x
  obtain ⟨y1, y2, y3, y4⟩ := y
  simp⟩, fun _ => tnl, fun _ => tnr⟩
theorem g_eq (h : EqE n e) (hn : n ≤ 64) {a b : α} (h1 : r.od.plain = some (e a)) (h2 : u.od.plain = some (e b)) : gEq (r, u) = some (.own (.fz (.bl (decide (a = b))))) := by
  simp only [gEq, h1, h2, (h.sh a).ok hn, (h.sh b).ok hn, and_self, if_true, h.eq]
theorem g_ne (h : EqE n e) (hn : n ≤ 64) {a b : α} (h1 : r.od.plain = some (e a)) (h2 : u.od.plain = some (e b)) : gNe (r, u) = some (.own (.fz (.bl (decide (a ≠ b))))) := by
  simp only [gNe, h1, h2, (h.sh a).ok hn, (h.sh b).ok hn, and_self, if_true, h.eq]
  simp
def eqA (a b : D) : Option Bool := if dOk a = true ∧ dOk b = true then some (dEq a b) else none
def neA (a b : D) : Option Bool := if dOk a = true ∧ dOk b = true then some (!dEq a b) else none
theorem g_eqA {a b : D} {z : Bool} (h1 : r.od.plain = some a) (h2 : u.od.plain = some b) (h : eqA a b = some z) : gEq (r, u) = some (.own (.fz (.bl z))) := by
  unfold eqA at h
  split at h
  · rename_i q; cases h; simp only [gEq, h1, h2, q, and_self, if_true]
  · cases h
theorem g_neA {a b : D} {z : Bool} (h1 : r.od.plain = some a) (h2 : u.od.plain = some b) (h : neA a b = some z) : gNe (r, u) = some (.own (.fz (.bl z))) := by
  unfold neA at h
  split at h
  · rename_i q; cases h; simp only [gNe, h1, h2, q, and_self, if_true]
  · cases h
/-! in -/
theorem any_map (h : EqE n e) {a : α} : ((xs.map e).any fun z => dEq z (e a)) = decide (a ∈ xs) := by
  rw [List.any_map]
  rw [Bool.eq_iff_iff, List.any_eq_true, decide_eq_true_eq]
  constructor
  · rintro ⟨x, m, q⟩
    simp only [Function.comp, h.eq, decide_eq_true_eq] at q
    exact q ▸ m
  · exact fun m => ⟨a, m, by simp [h.eq]⟩
theorem gIn_gen {d : D} {ds : List D} (hs : (match r.od, u.od with | .fz (.str _), .fz (.str _) => false | _, _ => true) = true) (h1 : r.od.plain = some d) (h2 : u.od.items = some ds) (k1 : dOk d = true) (k2 : dOk (.lst ds) = true) : gIn (r, u) = some (.own (.fz (.bl (ds.any fun z => dEq z d)))) := by
  unfold gIn
  split
  · rename_i e1 e2; simp only at e1 e2; rw [e1, e2] at hs; cases hs
  · simp only [h1, h2, k1, k2, and_self, if_true]
theorem g_in (h : EqE n e) (hn : n ≤ 63) {a : α} (hs : (match r.od, u.od with | .fz (.str _), .fz (.str _) => false | _, _ => true) = true) (h1 : r.od.plain = some (e a)) (h2 : u.od.items = some (xs.map e)) : gIn (r, u) = some (.own (.fz (.bl (decide (a ∈ xs))))) := by
  rw [gIn_gen hs h1 h2 ((h.sh a).ok (by omega)) (((q_L h).sh xs).ok (by omega)), any_map h]
theorem g_nin (h : EqE n e) (hn : n ≤ 63) {a : α} (hs : (match r.od, u.od with | .fz (.str _), .fz (.str _) => false | _, _ => true) = true) (h1 : r.od.plain = some (e a)) (h2 : u.od.items = some (xs.map e)) : gNotIn (r, u) = some (.own (.fz (.bl (decide (a ∉ xs))))) := by
  unfold gNotIn
  rw [g_in h hn hs h1 h2]
  show some (RV.b (!decide (a ∈ xs))) = _
  simp
theorem flatDs_int : ∀ {xs : List Int}, gIn.flatDs (xs.map D.int) = some (xs.map V.int)
  | [] => rfl
  | x :: xs => by
    have := flatDs_int (xs := xs)
    simp only [List.map_cons, gIn.flatDs, gIn.flatD, this]
theorem inV_int {a : Int} {xs : List Int} : inV (.int a) (xs.map V.int) = decide (a ∈ xs) := by
  unfold inV
  rw [List.any_map, Bool.eq_iff_iff, List.any_eq_true, decide_eq_true_eq]
  constructor
  · rintro ⟨x, m, q⟩
    have : x = a := by simpa [Function.comp, eqV] using q
    exact this ▸ m
  · exact fun m => ⟨a, m, by simp [eqV]⟩
theorem g_inT {a : Int} {xs : List Int} : gIn (.own (.fz (.int a)), .own (.fz (.tup (xs.map D.int)))) = some (.own (.fz (.bl (decide (a ∈ xs))))) := by
  show (match (OD.fz (.int a)).plain with
    | none => none
    | some d => match gIn.flatD d, gIn.flatDs (xs.map D.int) with
          | some x, some xs => some (RV.b (inV x xs))
          | _, _ => none) = _
  rw [pl_fz]
  show (match some (V.int a), gIn.flatDs (xs.map D.int) with
          | some x, some xs => some (RV.b (inV x xs))
          | _, _ => none) = _
  rw [flatDs_int]
  show some (RV.b (inV (.int a) (xs.map V.int))) = _
  rw [inV_int]
theorem g_ninT {a : Int} {xs : List Int} : gNotIn (.own (.fz (.int a)), .own (.fz (.tup (xs.map D.int)))) = some (.own (.fz (.bl (decide (a ∉ xs))))) := by
  unfold gNotIn
  rw [g_inT]
  show some (RV.b (!decide (a ∈ xs))) = _
  simp
end
/-! no list within -/
section
variable {α β γ δ : Type} {e : α → D} {e1 : β → D} {e2 : γ → D} {e3 : δ → D} {o : α → OD}
def NfD {α : Type} (e : α → D) : Prop := ∀ x, nfl (e x) = true
def NfO {α : Type} (o : α → OD) : Prop := ∀ x, nfo (o x) = true
theorem nf_I : NfD D.int := fun _ => by simp [nfl]
theorem nf_B : NfD D.bl := fun _ => by simp [nfl]
theorem nf_S : NfD D.str := fun _ => by simp [nfl]
theorem nf_N : NfD eN := fun _ => by simp [nfl]
theorem nf_Op (h : NfD e) : NfD (eOp e) := fun x => by cases x with
  | none => simp [nfl]
  | some x => exact h x
theorem nflL_map (h : NfD e) : ∀ {xs : List α}, nflL (xs.map e) = true
  | [] => by simp [nflL]
  | x :: xs => by simp [nflL, h x, nflL_map h (xs := xs)]
theorem nf_V (h : NfD e) : NfD (eV e) := fun xs => by simp only [nfl]; exact nflL_map h
theorem nf_T2 (h : NfD e) (h1 : NfD e1) : NfD (eT2 e e1) := fun x => by simp [nfl, nflL, h x.1, h1 x.2]
theorem nf_T3 (h : NfD e) (h1 : NfD e1) (h2 : NfD e2) : NfD (eT3 e e1 e2) := fun x => by simp [nfl, nflL, h x.1, h1 x.2.1, h2 x.2.2]
theorem nf_T4 (h : NfD e) (h1 : NfD e1) (h2 : NfD e2) (h3 : NfD e3) : NfD (eT4 e e1 e2 e3) := fun x => by simp [nfl, nflL, h x.1, h1 x.2.1, h2 x.2.2.1, h3 x.2.2.2]
theorem nf_F (h : NfD e) : NfO (oF e) := fun x => by simp only [nfo]; exact h x
theorem nfoL_map (h : NfO o) : ∀ {xs : List α}, nfoL (xs.map o) = true
  | [] => by simp [nfoL]
  | x :: xs => by simp [nfoL, h x, nfoL_map h (xs := xs)]
theorem nf_L (h : NfO o) : NfO (oL o) := fun xs => by simp only [nfo]; exact nfoL_map h
end
/-! sums, least, most -/
section
variable {r : RV} {xs : List Int}
theorem g_sum (h : r.od.items = some (xs.map D.int)) : gIs (fun ns => some (.int ns.sum)) [r] = some (.own (.fz (.int xs.sum))) := by
  simp only [gIs, h, dInts_id]; rfl
def minO (xs : List Int) : Option Int := if 0 < xs.length then some (leastL xs) else none
def maxO (xs : List Int) : Option Int := if 0 < xs.length then some (mostL xs) else none
end
/-! walking, collecting -/
section
variable {α β γ σ : Type} {Γ Γ' Γ1 Γ2 Γa : Ctx} {p p1 p2 : Bool} {i j : Nat} {e : α → D} {o : α → OD} {xs ys : List α} {x : α} {f : Env → O RV} {r : RV} {d : D} {y : Option OD}
def rg1 (n : Int) : Option (List Int) := if -(2 ^ 62) ≤ n ∧ n < 2 ^ 62 then some ((List.range n.toNat).map fun k : Nat => (k : Int)) else none
def rg2 (a b : Int) : Option (List Int) := if -(2 ^ 62) ≤ a ∧ a < 2 ^ 62 ∧ -(2 ^ 62) ≤ b ∧ b < 2 ^ 62 then some ((List.range (b - a).toNat).map fun k : Nat => a + (k : Int)) else none
def rg3 (a b c : Int) : Option (List Int) := if -(2 ^ 62) ≤ a ∧ a < 2 ^ 62 ∧ -(2 ^ 62) ≤ b ∧ b < 2 ^ 62 ∧ c = -1 then some ((List.range (a - b).toNat).map fun k : Nat => a - (k : Int)) else none
theorem rg1_e {n : Int} (h : -1000000000000 ≤ n) (h' : n ≤ 1000000000000) : rg1 n = some ((List.range n.toNat).map fun k : Nat => (k : Int)) := if_pos (by omega)
theorem rg2_e {a b : Int} (h : -1000000000000 ≤ a) (h' : a ≤ 1000000000000) (k : -1000000000000 ≤ b) (k' : b ≤ 1000000000000) : rg2 a b = some ((List.range (b - a).toNat).map fun k : Nat => a + (k : Int)) := if_pos (by omega)
theorem rg3_e {a b : Int} (h : -1000000000000 ≤ a) (h' : a ≤ 1000000000000) (k : -1000000000000 ≤ b) (k' : b ≤ 1000000000000) : rg3 a b (-1) = some ((List.range (a - b).toNat).map fun k : Nat => a - (k : Int)) := if_pos (by omega)
theorem g_rg1 {n : Int} {xs : List Int} (h : rg1 n = some xs) : gR1 [.own (.fz (.int n))] = some (xs.map D.int) := by
  unfold rg1 at h
  split at h
  · rename_i q; cases h
    show (if -(2 ^ 62) ≤ n ∧ n < 2 ^ 62 then some (rng 0 n.toNat) else none) = _
    rw [if_pos q]
    simp [rng]
  · cases h
theorem g_rg2 {a b : Int} {xs : List Int} (h : rg2 a b = some xs) : gR2 [.own (.fz (.int a)), .own (.fz (.int b))] = some (xs.map D.int) := by
  unfold rg2 at h
  split at h
  · rename_i q; cases h
    show (if -(2 ^ 62) ≤ a ∧ a < 2 ^ 62 ∧ -(2 ^ 62) ≤ b ∧ b < 2 ^ 62 then some (rng a (b - a).toNat) else none) = _
    rw [if_pos q]
    simp [rng]
  · cases h
theorem g_rg3 {a b c : Int} {xs : List Int} (h : rg3 a b c = some xs) : gR3 [.own (.fz (.int a)), .own (.fz (.int b)), .own (.fz (.int c))] = some (xs.map D.int) := by
  unfold rg3 at h
  split at h
  · rename_i q; cases h
    show (if -(2 ^ 62) ≤ a ∧ a < 2 ^ 62 ∧ -(2 ^ 62) ≤ b ∧ b < 2 ^ 62 ∧ c = -1 then some (rngD a (a - b).toNat) else none) = _
    rw [if_pos q]
    simp [rngD]
  · cases h
def rgL (n : Int) : Option (List Int) := if -(2 ^ 24) ≤ n ∧ n ≤ 2 ^ 24 then some ((List.range n.toNat).map fun k : Nat => (k : Int)) else none
theorem rgL_e {n : Int} (h : -1000000 ≤ n) (h' : n ≤ 1000000) : rgL n = some ((List.range n.toNat).map fun k : Nat => (k : Int)) := if_pos (by omega)
theorem g_rgL {n : Int} {xs : List Int} (h : rgL n = some xs) : gRgL (.own (.fz (.int n))) = some (.own (.lst (xs.map (oF D.int)))) := by
  unfold rgL at h
  split at h
  · rename_i q; cases h
    show (if -(2 ^ 24) ≤ n ∧ n ≤ 2 ^ 24 then some (RV.own (.lst ((rng 0 n.toNat).map .fz))) else none) = _
    rw [if_pos q]
    simp [rng]
  · cases h
def enumO (xs : List α) : List (Int × α) := xs.zipIdx.map fun p => ((p.2 : Int), p.1)
theorem numD_map : numD (xs.map e) = (enumO xs).map (eT2 D.int e) := by
  unfold numD enumO
  rw [List.zipIdx_map, List.map_map, List.map_map]; rfl
theorem g_enum (h : gItems r = some (xs.map e)) : gEnum r = some ((enumO xs).map (eT2 D.int e)) := by
  unfold gEnum; rw [h, ← numD_map]; rfl
theorem ev_frz (i : Nat) (h : Γ[i]? = some (some (.lst (xs.map (oF e))))) : Ev true (eFrz i) Γ (.own (.fz (.lst (xs.map e)))) (Γ.set i (some (.fz (.lst (xs.map e))))) := fun env q => .inr ⟨rfl, _, by
  have g := q.get h
  have : frz (.lst (xs.map (oF e))) = some (.lst (xs.map e)) := by rw [frz_lst, frzL_L]; rfl
  simp only [eFrz, g, this], q.set⟩
theorem ev_frzF (i : Nat) (h : Γ[i]? = some (some (.fz d))) : Ev false (eFrz i) Γ (.own (.fz d)) Γ := fun env q => .inl ⟨by simp only [eFrz, q.get h], q⟩
theorem ev_move (i : Nat) {o : OD} (h : Γ[i]? = some (some o)) (hn : notUn o = true) : Ev true (eMove i) Γ (.own o) (Γ.set i (some .un)) := fun env q => .inr ⟨rfl, _, by
  have g := q.get h
  cases o with
  | un => cases hn
  | _ => simp only [eMove, g], q.set⟩
theorem ev_lendF {β : Type} (i : Nat) {nf : β → Bool} {f : Env → O β} {z : β} (h : Γ[i]? = some (some (.fz d))) (k : Ev p f Γ z Γ') : Ev p (lendE i nf f) Γ z Γ' := fun env q => by
  have : lendE i nf f env = f env := by simp only [lendE, q.get h]
  rw [this]; exact k env q
theorem ev_lendN {β : Type} (i : Nat) {nf : β → Bool} {f : Env → O β} {z : β} (h : Γ[i]? = some (some (.lst (xs.map (oF e))))) (k : Ev false f (Γ.set i (some (.fz (.lst (xs.map e))))) z Γ') (hn : nf z = true) : Ev false (lendE i nf f) Γ z Γ := fun env q => by
  have g := q.get h
  rcases k _ (q.set (i := i) (o := .fz (.lst (xs.map e)))) with ⟨k1, k2⟩ | ⟨k0, _⟩
  · exact .inl ⟨by simp only [lendE, g, frzL_L, k1, hn, if_true], q⟩
  · cases k0
theorem ev_lendW {β : Type} (i : Nat) {nf : β → Bool} {f : Env → O β} {z : β} (m : List Bool) (h : Γ[i]? = some (some (.lst (xs.map (oF e))))) (k : Ev false f (Γ.set i (some (.fz (.lst (xs.map e))))) z Γ') (k2 : Ev true f Γ z (Γ.set i (some (.fz (.lst (xs.map e)))))) (hm : keep m Γ = Γ2) (hm2 : keep m (Γ.set i (some (.fz (.lst (xs.map e))))) = Γ2) : Ev true (lendE i nf f) Γ z Γ2 := fun env q => by
  have g := q.get h
  rcases k _ (q.set (i := i) (o := .fz (.lst (xs.map e)))) with ⟨k1, k3⟩ | ⟨k0, _⟩
  · cases hn : nf z with
    | true => exact .inl ⟨by simp only [lendE, g, frzL_L, k1, hn, if_true], hm ▸ q.keep m⟩
    | false =>
      have : lendE i nf f env = f env := by simp only [lendE, g, frzL_L, k1, hn, Bool.false_eq_true, if_false]
      rw [this]
      exact (k2 env q).imp (fun ⟨a, b⟩ => ⟨a, hm2 ▸ b.keep m⟩) fun ⟨a, e, b, c⟩ => ⟨a, e, b, hm2 ▸ c.keep m⟩
  · cases k0
def lcO.go {α β : Type} (c : α → Option Bool) (F : α → Option β) : List α → Option (List β)
  | [] => some []
  | x :: xs => (c x).bind fun b => if b = true then (F x).bind fun y => (lcO.go c F xs).map (y :: ·) else lcO.go c F xs
/-- a comprehension -/
def lcO {α β : Type} (xs : List α) (c : α → Option Bool) (F : α → Option β) : Option (List β) := if xs.length < 10000000 then lcO.go c F xs else none
def Ct (g : D → Env → Option Env) (d : D) (Γ Γ' : Ctx) : Prop := ∀ env, Fits Γ env → ∃ env', g d env = some env' ∧ Fits Γ' env'
def Cts (g : List D → Env → Option Env) (d : List D) (Γ Γ' : Ctx) : Prop := ∀ env, Fits Γ env → ∃ env', g d env = some env' ∧ Fits Γ' env'
theorem cc_set (i : Nat) : Ct (cSet i) d Γ (Γ.set i (some (.fz d))) := fun env q => ⟨_, rfl, q.set⟩
theorem cc_nil : Cts csNil [] Γ Γ := fun env q => ⟨env, rfl, q⟩
theorem cc_cons {g : D → Env → Option Env} {gs : List D → Env → Option Env} {ds : List D} (h : Ct g d Γ Γ1) (h' : Cts gs ds Γ1 Γ2) : Cts (csCons g gs) (d :: ds) Γ Γ2 := fun env w => by
  obtain ⟨e1, a, b⟩ := h env w
  obtain ⟨e2, c, d⟩ := h' e1 b
  exact ⟨e2, by simp only [csCons, a, c], d⟩
theorem cc_tup {n : Nat} {gs : List D → Env → Option Env} {ds : List D} (hl : ds.length = n) (h : Cts gs ds Γ Γ1) : Ct (cTup n gs) (.tup ds) Γ Γ1 := fun env w => by
  obtain ⟨e, a, b⟩ := h env w
  exact ⟨e, by simp only [cTup, hl, if_true, a], b⟩
def wipeC (Γ : Ctx) : List Nat → Ctx
  | [] => Γ
  | v :: vs => (wipeC Γ vs).set v (some .un)
theorem Fits.wipe {env : Env} (h : Fits Γ env) : ∀ vs, Fits (wipeC Γ vs) (wipeE env vs)
  | [] => h
  | v :: vs => (Fits.wipe h vs).set
theorem wm_yes : Wm false bYes Γ (some true) (fun b => b) (fun _ => Γ) := wm_ret ev_ok
theorem ev_lc {it : Env → O (List D)} {g : D → Env → Option Env} {tt : Env → O Bool} {fe : Env → O RV} {vs : List Nat} {Gb : α → Ctx} {c : α → Option Bool} {F : α → Option β} {o : β → OD} {zs : List β} (hr : lcO xs c F = some zs) (h : Ev p it Γ (xs.map e) Γ1) (hl0 : Γ1.length = Γ.length) (hv : vs.all (fun i => decide (i < Γ1.length)) = true) (ht : ∀ x, Ct g (e x) (wipeC Γ1 vs) (Gb x))
    (hc : ∀ x, Wm false tt (Gb x) (c x) (fun b => b) (fun _ => Gb x)) (hF : ∀ x, Wm false fe (Gb x) (F x) (fun y => .own (o y)) (fun _ => Gb x)) : Ev p (eLc it g tt fe vs) Γ (.own (.lst (zs.map o))) Γ1 := by
  unfold lcO at hr
  split at hr
  case isFalse => cases hr
  rename_i hl
  have key : ∀ (xs : List α) (zs : List β) (acc : List OD) (env : Env), acc.length + xs.length < 10000000 → lcO.go c F xs = some zs → Fits (wipeC Γ1 vs) env → lcGo g tt fe vs (xs.map e) acc env false = some (acc ++ zs.map o, env, false) := by
    intro xs
    induction xs with
    | nil => intro zs acc env hl q w; cases q; simp [lcGo]
    | cons x xs ih =>
      intro zs acc env hl q w
      have hl' : acc.length + xs.length + 1 < 10000000 := by simp at hl; omega
      obtain ⟨e1, h1, h2⟩ := ht x env w
      simp only [lcO.go] at q
      cases hb : c x with
      | none => rw [hb] at q; cases q
      | some b =>
        rw [hb] at q
        rcases hc x b hb e1 h2 with ⟨k1, k2⟩ | ⟨k0, _⟩
        · cases b with
          | false =>
            simp only [Option.bind, Bool.false_eq_true, if_false] at q
            simp only [List.map_cons, lcGo, lcStep, h1, k1, lcElt, Bool.false_eq_true, if_false, Bool.or_false]
            exact ih zs acc env (by omega) q w
          | true =>
            simp only [Option.bind, if_true] at q
            cases hy : F x with
            | none => rw [hy] at q; cases q
            | some y =>
              rw [hy] at q
              rcases hF x y hy e1 k2 with ⟨m1, m2⟩ | ⟨m0, _⟩
              · cases hz : lcO.go c F xs with
                | none => rw [hz] at q; cases q
                | some ws =>
                  rw [hz] at q; cases q
                  have ha : acc.length < 10000000 := by omega
                  simp only [List.map_cons, lcGo, lcStep, h1, k1, lcElt, if_true, m1, ha, Bool.false_eq_true, if_false, Bool.or_false]
                  rw [ih ws (acc ++ [o y]) env (by simp; omega) hz w]
                  simp
              · cases m0
        · cases k0
  intro env q
  rcases h env q with ⟨h1, h2⟩ | ⟨h0, env', h1, h2⟩
  · refine .inl ⟨?_, h2⟩
    unfold eLc
    rw [if_pos (by rw [h2.len]; exact hv), h1]
    simp only [key xs zs [] _ (by simpa using hl) hr (h2.wipe vs)]
    simp [lcFin]
  · refine .inr ⟨h0, env', ?_, h2⟩
    unfold eLc
    have hvv : vs.all (fun i => decide (i < env.length)) = true := by rw [q.len, ← hl0]; exact hv
    · rw [if_pos hvv, h1]
      simp only [key xs zs [] _ (by simpa using hl) hr (h2.wipe vs)]
      have sh : showE env' (wipeE env' vs) vs = env' := by
        have : ∀ (ws : List Nat) (e : Env), e.length = env'.length → (∀ j, j ∉ ws → e[j]? = env'[j]?) → showE env' e ws = env' := by
          intro ws
          induction ws with
          | nil => intro e hl hj; exact List.ext_getElem? fun j => hj j (by simp)
          | cons v ws ih =>
            intro e hl hj
            unfold showE
            cases hv0 : env'[v]? with
            | some o0 =>
              simp only
              refine List.ext_getElem? fun j => ?_
              by_cases hjv : v = j
              · subst hjv
                have hlt := (List.getElem?_eq_some_iff.mp hv0).1
                have : (showE env' e ws).length = env'.length := by
                  clear hj ih
                  induction ws with
                  | nil => simpa [showE] using hl
                  | cons a ws ih2 => unfold showE; split <;> simp [ih2]
                rw [List.getElem?_set_self (by omega), hv0]
              · rw [List.getElem?_set_ne hjv]
                by_cases hjw : j ∈ ws
                · have gen : ∀ (ws : List Nat) (e : Env), e.length = env'.length → j ∈ ws → (showE env' e ws)[j]? = env'[j]? := by
                    intro ws
                    induction ws with
                    | nil => intro e _ m; cases m
                    | cons a ws ih3 =>
                      intro e hl m
                      have hls : (showE env' e ws).length = env'.length := by
                        clear ih3 m
                        induction ws with
                        | nil => simpa [showE] using hl
                        | cons a ws ih2 => unfold showE; split <;> simp [ih2]
                      unfold showE
                      by_cases ha : a = j
                      · subst ha
                        cases hv1 : env'[a]? with
                        | some o1 =>
                          have := (List.getElem?_eq_some_iff.mp hv1).1
                          simp only
                          rw [List.getElem?_set_self (by omega)]
                        | none =>
                          simp only
                          have : env'.length ≤ a := List.getElem?_eq_none_iff.mp hv1
                          exact List.getElem?_eq_none (by omega)
                      · have m' : j ∈ ws := by
                          rcases List.mem_cons.mp m with q | q
                          · exact absurd q.symm ha
                          · exact q
                        cases hv1 : env'[a]? with
                        | some o1 => simp only; rw [List.getElem?_set_ne ha]; exact ih3 e hl m'
                        | none => simp only; exact ih3 e hl m'
                  exact gen ws e hl hjw
                · have gen : ∀ (ws : List Nat) (e : Env), j ∉ ws → (showE env' e ws)[j]? = e[j]? := by
                    intro ws
                    induction ws with
                    | nil => intro e _; rfl
                    | cons a ws ih3 =>
                      intro e m
                      unfold showE
                      have ha : a ≠ j := fun z => m (by simp [z])
                      have m' : j ∉ ws := fun z => m (by simp [z])
                      cases hv1 : env'[a]? with
                      | some o1 => simp only; rw [List.getElem?_set_ne ha]; exact ih3 e m'
                      | none => simp only; exact ih3 e m'
                  rw [gen ws e hjw]
                  exact hj j fun m => (List.mem_cons.mp m).elim (fun z => hjv z.symm) hjw
            | none =>
              simp only
              refine ih e hl fun j hjw => ?_
              by_cases hjv : j = v
              · subst hjv
                have : env'.length ≤ j := List.getElem?_eq_none_iff.mp hv0
                rw [hv0]; exact List.getElem?_eq_none (by omega)
              · exact hj j fun m => (List.mem_cons.mp m).elim hjv hjw
        have wl : ∀ ws : List Nat, (wipeE env' ws).length = env'.length := by
          intro ws
          induction ws with
          | nil => rfl
          | cons a ws ih => unfold wipeE; simp [ih]
        have wj : ∀ (ws : List Nat) (j : Nat), j ∉ ws → (wipeE env' ws)[j]? = env'[j]? := by
          intro ws
          induction ws with
          | nil => intro j _; rfl
          | cons a ws ih =>
            intro j m
            unfold wipeE
            rw [List.getElem?_set_ne (fun z => m (by simp [z]))]
            exact ih j fun z => m (by simp [z])
        exact this vs _ (wl vs) (wj vs)
      simp [lcFin, sh]
end
section
variable {α β γ δ : Type} {x : α} {xs ys : List α} {i : Int} {o : α → OD} {e : α → D} {r : RV} {Γ Γ' : Ctx} {p : Bool} {fa : Env → O RV} {d : D}
theorem g_ixLF (hr : r.od = .lst (xs.map (oF e))) (h : ixO xs i = some x) : gIx (r, .own (.fz (.int i))) = some (.own (.fz (e x))) := g_ixL hr h
theorem it_tup : (OD.fz (.tup (xs.map e))).titems = some (xs.map e) := rfl
def dInt : D → Option Int
  | .int i => some i
  | _ => none
theorem ev_dint {i : Int} (h : dInt d = some i) (D : Ev p fa Γ (.own (.fz d)) Γ') : Ev p fa Γ (.own (.fz (.int i))) Γ' := by
  unfold dInt at h
  split at h
  · cases h; exact D
  · cases h
def dLen : D → Option Int
  | .lst ds => some ds.length
  | .tup ds => some ds.length
  | .scr ds => some ds.length
  | _ => none
theorem g_lenA {n : Int} (h : dLen d = some n) : gLen [.own (.fz d)] = some (.own (.fz (.int n))) := by
  cases d <;> first
    | (cases h; rfl)
    | (cases h; done)
theorem lnd {ars : List AR} {o : OD} {ds : List OD} (h : nfo o = true) (h2 : nfIo ars ds = true) : (lends ars && !(nfo o && nfIo ars ds)) = false := by rw [h, h2]; simp
theorem g_intB {b : Bool} : gInt [.own (.fz (.bl b))] = some (.own (.fz (.int (if b = true then (1 : Int) else 0)))) := by cases b <;> rfl
def oOp (o : α → OD) : Option α → OD
  | none => .fz .non
  | some x => o x
theorem g_sortI {xs : List Int} (h : r.od.items = some (xs.map D.int)) : gSorted [r] = some (.own (.lst ((sortI xs).map (oF D.int)))) := by
  simp only [gSorted, h, dInts_id, List.map_map]; rfl
/-- rows of whole numbers, sorted -/
def srtO (key : α → List Int) (xs : List α) : Option (List α) := if xs.isEmpty = true then some [] else if xs.length < 64 ∧ 1 ≤ ((xs.map key).headD []).length ∧ bdAll ((xs.map key).headD []).length (xs.map key) = true then some (xs.mergeSort fun a b => lexLe (key a) (key b)) else none
theorem map_sort {key : α → List Int} {xs : List α} : (xs.mergeSort fun a b => lexLe (key a) (key b)).map key = sortT (xs.map key) := by
  unfold sortT
  exact List.map_mergeSort fun _ _ _ _ => rfl
theorem g_srt {key : α → List Int} {ys : List α} (hk : ∀ x, e x = tupD (key x)) (h : r.od.items = some (xs.map e)) (hs : srtO key xs = some ys) : gSorted [r] = some (.own (.lst (ys.map (oF e)))) := by
  have he : e = fun x => tupD (key x) := funext hk
  cases xs with
  | nil =>
    cases hs
    have h' : r.od.items = some [] := h
    unfold gSorted
    simp only [h']
    simp [dInts, sortI]
  | cons x xs =>
    unfold srtO at hs
    rw [if_neg (by simp)] at hs
    split at hs
    · rename_i hc
      cases hs
      have e1 : dInts ((x :: xs).map e) = none := by rw [he]; rfl
      have e2 : dTups ((x :: xs).map e) = some ((x :: xs).map key) := by
        rw [he]
        have := dTups_map (nss := (x :: xs).map key)
        rw [List.map_map] at this
        exact this
      simp only [gSorted, h, e1, e2]
      rw [if_pos ⟨by simpa using hc.1, hc.2.1, hc.2.2⟩, ← map_sort, List.map_map, List.map_map, he]
      rfl
    · cases hs
theorem srtO_e {key : α → List Int} {xs : List α} {n : Nat} (h : xs.length < 64) (hn : 1 ≤ n) (hb : ∀ x ∈ xs, (key x).length = n ∧ ∀ i ∈ key x, 0 ≤ i ∧ i < 18446744073709551616) : srtO key xs = some (xs.mergeSort fun a b => lexLe (key a) (key b)) := by
  unfold srtO
  cases xs with
  | nil => simp
  | cons x xs =>
    rw [if_neg (by simp), if_pos]
    have h0 := (hb x (by simp)).1
    refine ⟨h, by simp only [List.map_cons, List.headD_cons, h0]; exact hn, ?_⟩
    simp only [bdAll, List.all_map, List.all_eq_true, List.map_cons, List.headD_cons, h0]
    rintro ky hky
    obtain ⟨y, hy, rfl⟩ := List.mem_map.mp (show ky ∈ (x :: xs).map key from hky)
    obtain ⟨a, b⟩ := hb y hy
    simp only [Function.comp, Bool.and_eq_true, beq_iff_eq, List.all_eq_true, decide_eq_true_eq]
    exact ⟨a, fun i hi => by have := b i hi; omega⟩
end
end Tl
/-! typed places and methods -/
namespace Tl
open PySem PySem.Spec L2
section
variable {α β γ σ T : Type} {Γ Γ' Γ1 Γ2 Γa : Ctx} {p p1 p2 : Bool} {i j : Nat} {e : α → D} {o : α → OD} {xs ys zs : List α} {x y v : α} {f fk fe : Env → O RV} {fr : Env → O (List RV)} {r : RV} {d : D} {yy : Option OD} {k a b c : Int} {t : Option T} {P : T → SO → Prop} {rest m : Env → SO}
theorem sk_opt {q : Option α} {G : Option α → Ctx} {κ : α → Option T} (h : ∀ v, q = some v → Sk P m (G (some v)) (κ v)) : Sk P m (G q) (q.bind κ) := by
  cases q with
  | none => exact fun x z => by cases z
  | some v => exact h v rfl
theorem sk_if0 {b : Bool} {tA tB : Option T} (hA : b = true → Sk P m Γ tA) (hB : b = false → Sk P m Γ tB) : Sk P m Γ (if b = true then tA else tB) := by
  cases b with
  | true => exact hA rfl
  | false => exact hB rfl
theorem ev_sm {β : Type} {f : Env → O β} (o : α → β) {a x : α} (h : some a = some x) (D : Ev p f Γ (o a) Γ') : Ev p f Γ (o x) Γ' := by cases h; exact D
theorem ev_wm {α β : Type} {f : Env → O β} {t : Option α} {e : α → β} {G : α → Ctx} {v : α} (h : t = some v) (D : Wm p f Γ t e G) : Ev p f Γ (e v) (G v) := D v h
def setO (xs : List α) (k : Int) (v : α) : Option (List α) := (ixN xs.length k).map fun j => xs.set j v
theorem setO_nn (h0 : 0 ≤ k) (h : k < xs.length) : setO xs k v = some (xs.set k.toNat v) := by unfold setO; rw [ixN_int h0 h]; rfl
theorem setO_nat {n : Nat} (h : n < xs.length) : setO xs (n : Int) v = some (xs.set n v) := by rw [setO_nn (by omega) (by omega), Int.toNat_natCast]
@[simp] theorem setO_0 : setO (x :: xs) 0 v = some (v :: xs) := by rw [setO_nn (by omega) (by simp <;> omega)]; rfl
@[simp] theorem setO_1 : setO (x :: y :: xs) 1 v = some (x :: v :: xs) := by rw [setO_nn (by omega) (by simp <;> omega)]; rfl
@[simp] theorem setO_2 {z : α} : setO (x :: y :: z :: xs) 2 v = some (x :: y :: v :: xs) := by rw [setO_nn (by omega) (by simp <;> omega)]; rfl
@[simp] theorem setO_3 {z w : α} : setO (x :: y :: z :: w :: xs) 3 v = some (x :: y :: z :: v :: xs) := by rw [setO_nn (by omega) (by simp <;> omega)]; rfl
theorem setO_map (h : setO xs k v = some ys) : (ixN (xs.map o).length k).map (fun j => (xs.map o).set j (o v)) = some (ys.map o) := by
  unfold setO at h
  rw [List.length_map]
  cases q : ixN xs.length k with
  | none => rw [q] at h; cases h
  | some n => rw [q] at h; cases h; simp [List.map_set]
theorem vGet_fits {env : Env} {os : List OD} (w : Fits Γ env) (h : Γ[j]? = some (some (.lst os))) : vGet j env = some (.lst os) := by
  have := w.get h
  simp only [vGet, this]
theorem tg_sub (j : Nat) (h : Γ[j]? = some (some (.lst (xs.map o)))) (hk : Ev false fk Γ (.own (.fz (.int k))) Γ) (q : setO xs k v = some ys) : Tg (gSub (vGet j) (vPut j) fk) (o v) Γ (Γ.set j (some (.lst (ys.map o)))) := fun env w => by
  have g := vGet_fits w h
  rcases hk env w with ⟨k1, _⟩ | ⟨k0, _⟩
  · refine ⟨_, ?_, w.set⟩
    have := setO_map (o := o) q
    simp only [gSub, g, k1, RV.od]
    cases q2 : ixN (xs.map o).length k with
    | none => rw [q2] at this; cases this
    | some n =>
      rw [q2] at this
      have : (xs.map o).set n (o v) = ys.map o := by simpa using this
      simp only [Option.map, vPut, this]
  · cases k0
theorem sk_augS (j : Nat) {xs ys : List Int} {x y z : Int} {op : Int → Int → Option Int} (h : Γ[j]? = some (some (.lst (xs.map (oF D.int))))) (hk : Ev false fk Γ (.own (.fz (.int k))) Γ) (he : Ev false fe Γ (.own (.fz (.int y))) Γ) (q1 : ixO xs k = some x) (q2 : op x y = some z) (q3 : setO xs k z = some ys) (r : Sk P rest (Γ.set j (some (.lst (ys.map (oF D.int))))) t) :
    Sk P (sSeq (sAugS (vGet j) (vPut j) fk op fe) rest) Γ t := fun w q env fit => by
  have g := vGet_fits fit h
  rcases hk env fit with ⟨k1, _⟩ | ⟨k0, _⟩
  · rcases he env fit with ⟨e1, _⟩ | ⟨e0, _⟩
    · have key : sAugS (vGet j) (vPut j) fk op fe env = .nx (env.set j (.lst (ys.map (oF D.int)))) := by
        unfold ixO atI at q1
        unfold setO at q3
        simp only [sAugS, g, k1, List.length_map, RV.od]
        cases q4 : ixN xs.length k with
        | none => rw [q4] at q1; cases q1
        | some n =>
          rw [q4] at q1 q3
          have q1' : xs[n]? = some x := q1
          cases q3
          simp [q1', e1, q2, List.map_set]
      have := r w q _ (fit.set (i := j) (o := .lst (ys.map (oF D.int))))
      simpa only [sSeq, key] using this
    · cases e0
  · cases k0
theorem sk_aug (i : Nat) {x y z : Int} {op : Int → Int → Option Int} (h : Γ[i]? = some (some (.fz (.int x)))) (he : Ev p fe Γ (.own (.fz (.int y))) Γ1) (hi : Γ1[i]? = some yy) (q2 : op x y = some z) (r : Sk P rest (Γ1.set i (some (.fz (.int z)))) t) :
    Sk P (sSeq (sAug i op fe) rest) Γ t := fun w q env fit => by
  have g := fit.get h
  rcases he env fit with ⟨e1, e2⟩ | ⟨_, env', e1, e2⟩
  · have key : sAug i op fe env = .nx (env.set i (.fz (.int z))) := by
      have := e2.lt hi
      simp only [sAug, g, sE, e1, RV.od, q2, this, if_true]
    have := r w q _ (e2.set (i := i) (o := .fz (.int z)))
    simpa only [sSeq, key] using this
  · have key : sAug i op fe env = .nx (env'.set i (.fz (.int z))) := by
      have := e2.lt hi
      simp only [sAug, g, sE, e1, RV.od, q2, this, if_true]
    have := r w q _ (e2.set (i := i) (o := .fz (.int z)))
    simpa only [sSeq, key] using this
/-! methods of the list at a name -/
theorem ev_meth (i : Nat) {g : List OD → List RV → Option (OD × List OD)} {rs : List RV} {os os1 os2 : List OD} {o : OD} (h0 : Γ[i]? = some (some (.lst os))) (h : Ev p fr Γ rs Γ1) (h1 : Γ1[i]? = some (some (.lst os1))) (q : g os1 rs = some (o, os2)) : Ev true (eMethV i g fr) Γ (.own o) (Γ1.set i (some (.lst os2))) := fun env fit => by
  have g0 := vGet_fits fit h0
  rcases h env fit with ⟨e1, e2⟩ | ⟨_, env', e1, e2⟩
  · refine .inr ⟨rfl, _, ?_, e2.set⟩
    have g1 := vGet_fits e2 h1
    cases g0.symm.trans g1
    simp only [eMethV, g0, e1, q]
  · refine .inr ⟨rfl, _, ?_, e2.set⟩
    have g1 := vGet_fits e2 h1
    simp only [eMethV, g0, e1, g1, q]
def appO (xs : List α) (y : α) : Option (List α) := if xs.length < 10000000 then some (xs ++ [y]) else none
theorem appO_e (h : xs.length < 10000000) : appO xs y = some (xs ++ [y]) := if_pos h
theorem g_app {y : α} (h : appO xs y = some ys) : mAppend (xs.map o) [.own (o y)] = some (.fz .non, ys.map o) := by
  unfold appO at h
  split at h
  · rename_i q; cases h; simp [mAppend, q]
  · cases h
def extO (xs ys : List α) : Option (List α) := if xs.length + ys.length ≤ 10000000 then some (xs ++ ys) else none
theorem g_ext (hr : r.od.litems = some (ys.map e)) (h : extO xs ys = some zs) : mExtend (xs.map (oF e)) [r] = some (.fz .non, zs.map (oF e)) := by
  unfold extO at h
  split at h
  · rename_i q; cases h
    simp only [mExtend, fzs_L, hr, List.length_map, q, if_true]
    rw [← List.map_append, List.map_map]; rfl
  · cases h
def popO (xs : List α) : Option (α × List α) := match xs.getLast? with
  | some x => some (x, xs.dropLast)
  | none => none
theorem g_pop {z : α × List α} (h : popO xs = some z) : mPop (xs.map (oF e)) [] = some (.fz (e z.1), z.2.map (oF e)) := by
  unfold popO at h
  cases q : xs.getLast? with
  | none => rw [q] at h; cases h
  | some x =>
    rw [q] at h; cases h
    simp only [mPop, fzs_L]
    have : (xs.map e)[(xs.map e).length - 1]? = some (e x) := by
      rw [← List.getLast?_eq_getElem?, List.getLast?_map, q]; rfl
    rw [this]
    simp only [← List.map_dropLast, List.map_map]; rfl
theorem er_map {β : Type} {f : α → β} : ∀ (xs : List α) (k : Nat), (xs.map f).eraseIdx k = (xs.eraseIdx k).map f
  | [], _ => rfl
  | _ :: _, 0 => rfl
  | x :: xs, k + 1 => by
    rw [List.map_cons, List.eraseIdx_cons_succ, List.eraseIdx_cons_succ, List.map_cons, er_map xs k]
def popAtO (xs : List α) (i : Int) : Option (α × List α) := match ixN xs.length i with
  | some k => if -4611686018427387904 ≤ i ∧ i < 4611686018427387904 then (xs[k]?).map fun x => (x, xs.eraseIdx k) else none
  | none => none
theorem g_popAt {z : α × List α} {i : Int} (h : popAtO xs i = some z) : mPop (xs.map (oF e)) [.own (.fz (.int i))] = some (.fz (e z.1), z.2.map (oF e)) := by
  unfold popAtO at h
  cases q : ixN xs.length i with
  | none => rw [q] at h; cases h
  | some k =>
    rw [q] at h
    dsimp only at h
    split at h
    · rename_i hb
      cases q2 : xs[k]? with
      | none => rw [q2] at h; cases h
      | some x =>
        rw [q2] at h; cases h
        simp only [mPop, fzs_L, RV.od, List.length_map, q, hb, and_self, if_true, List.getElem?_map, q2, Option.map_some]
        rw [er_map, List.map_map]; rfl
    · cases h
theorem g_clear : mClear (xs.map o) [] = some (.fz .non, ([] : List α).map o) := rfl
theorem g_mrev : mReverse (xs.map (oF e)) [] = some (.fz .non, xs.reverse.map (oF e)) := by
  simp only [mReverse, fzs_L, ← List.map_reverse, List.map_map]; rfl
/-! slices -/
theorem ev_pno : Ev false pNo Γ none Γ := ev_ok
theorem ev_pso (h : Ev p f Γ (.own (.fz (.int a))) Γ') : Ev p (pSo f) Γ (some a) Γ' := ev_map h rfl
theorem ev_sl {g h : Env → O (Option Int)} {lo hi : Option Int} {r2 : RV} (h0 : Ev p f Γ r Γ1) (h1 : Ev p1 g Γ1 lo Γ2) (h2 : Ev p2 h Γ2 hi Γ') (hs : ((p1 || p2) && !r.safe) = false) (q : gSl ((r, lo), hi) = some r2) : Ev (p || (p1 || p2)) (eSl3 f g h) Γ r2 Γ' :=
  ev_map (ev_then (jn := fun (a : RV) (b : Option Int × Option Int) => ((a, b.1), b.2)) h0 (ev_then (jn := Prod.mk) (safe := fun _ => true) h1 h2 (by simp)) hs) q
/-! a chain of two comparisons -/
theorem ev_ch {ga gb : RV × RV → Option RV} {fa fb fc : Env → O RV} {ra rb rc : RV} {b1 b2 : Bool} {n : Int} (h1 : Ev p1 fa Γ ra Γ1) (h2 : Ev p2 fb Γ1 rb Γ2) (hs : (p2 && !ra.safe) = false) (q1 : ga (ra, rb) = some (.own (.fz (.bl b1)))) (qn : rb.od = .fz (.int n)) (h3 : b1 = true → Ev false fc Γ2 rc Γ2) (q2 : b1 = true → gb (.own (.fz (.int n)), rc) = some (.own (.fz (.bl b2)))) :
    Ev (p1 || p2) (e3c ga gb fa fb fc) Γ (.own (.fz (.bl (b1 && b2)))) Γ2 := by
  have c1 : ch1 ga (ra, rb) = some (b1, n) := by
    show (match rb.od with
      | .fz (.int j) => match ga (ra, rb) with
        | some r => match r.bool? with
          | some k => some (k, j)
          | none => none
        | none => none
      | _ => none) = _
    rw [qn, q1]; rfl
  have z := ev_map (g := ch1 ga) (ev_then (k := fun _ e => fb e) (jn := Prod.mk) (safe := RV.safe) h1 h2 hs) c1
  have k3 : Ev false (fun e => if b1 = true then (fc e).mapP (fun r => gb (.own (.fz (.int n)), r)) else .ok (.own (.fz (.bl false)))) Γ2 (.own (.fz (.bl (b1 && b2)))) Γ2 := by
    cases b1 with
    | true => exact ev_map (g := fun r => gb (.own (.fz (.int n)), r)) (h3 rfl) (q2 rfl)
    | false => exact ev_ok
  have w := ev_then (k := fun (p : Bool × Int) e => if p.1 = true then (fc e).mapP (fun r => gb (.own (.fz (.int p.2)), r)) else .ok (.own (.fz (.bl false)))) (jn := fun _ c => c) (safe := fun _ => true) z k3 rfl
  rw [Bool.or_false] at w
  exact w
end
end Tl
/-! xs[::-1] of a list or a tuple -/
namespace Tl
open PySem PySem.Spec L2 PyProof.Rows
section
variable {prog : Program} {w : World} {A : Around} {E : Value → Shared → Prop} {s : Shared}
theorem sliceApplied_rev {sl : Addr} {vl vu vs : Value} {n : Nat} {Q : Int × Int × Nat → Shared → Prop} (hs : s.heap.IsSliceOf sl vl vu vs) (pl : IsPart vl none) (pu : IsPart vu none) (ps : IsPart vs (some (-1)))
    (h : Q ((n : Int) - 1, -1, n) s) : wpAny (model prog w) A (Builtin.Slice.sliceApplied (.ref sl) (pure (n : Int))) Q E s := by
  obtain ⟨os, hos, hcs, hds⟩ := id hs
  unfold Builtin.Slice.sliceApplied Builtin.Slice.sliceFields
  refine wpAny_bind (wpAny_bind (wpAny_field hos hds (x := vl) rfl (wpAny_bind (wpAny_field hos hds (x := vu) rfl (wpAny_bind (wpAny_field hos hds (x := vs) rfl (wpAny_pure ?_)))))))
  refine wpAny_bind (HT.slicePart_ ps ?_)
  show wpAny _ _ (if ((-1 : Int) == 0) = true then _ else _) _ _ s
  rw [if_neg (by decide)]
  refine wpAny_bind (HT.slicePart_ pl (wpAny_bind (HT.slicePart_ pu (wpAny_bind (wpAny_pure ?_)))))
  show wpAny _ _ (match Builtin.Slice.sliceAdjust none none (-1) (n : Int) with | (lo, hi) => pure (lo, (-1 : Int), Builtin.Slice.slicePlaces lo hi (-1))) _ _ s
  have e1 : Builtin.Slice.sliceAdjust none none (-1) (n : Int) = ((n : Int) - 1, -1) := by
    unfold Builtin.Slice.sliceAdjust
    simp
  rw [e1]
  have e2 : Builtin.Slice.slicePlaces ((n : Int) - 1) (-1) (-1) = n := by
    unfold Builtin.Slice.slicePlaces
    simp only [show ¬ ((-1 : Int) > 0) by decide, if_false, show (- -1 : Int) = 1 by decide, Int.ediv_one]
    split <;> omega
  show wpAny _ _ (pure ((n : Int) - 1, (-1 : Int), Builtin.Slice.slicePlaces ((n : Int) - 1) (-1) (-1))) _ _ s
  rw [e2]
  exact wpAny_pure h
theorem fm_range {α : Type} : ∀ l : List α, (List.range l.length).filterMap (fun m => l[m]?) = l
  | [] => rfl
  | x :: l => by
    rw [List.length_cons, List.range_succ_eq_map, List.filterMap_cons]
    simp only [List.getElem?_cons_zero, List.filterMap_map]
    have := fm_range l
    congr 1
theorem fm_congr {α β : Type} {f g : α → Option β} : ∀ {l : List α}, (∀ m ∈ l, f m = g m) → l.filterMap f = l.filterMap g
  | [], _ => rfl
  | x :: l, h => by
    rw [List.filterMap_cons, List.filterMap_cons, h x (by simp), fm_congr fun m hm => h m (by simp [hm])]
theorem pick_rev (xs : Array Value) : ((List.range xs.size).filterMap fun (m : Nat) => xs[((xs.size : Int) - 1 + (m : Int) * -1).toNat]?).toArray = xs.toList.reverse.toArray := by
  congr 1
  have e : (List.range xs.size).filterMap (fun (m : Nat) => xs[((xs.size : Int) - 1 + (m : Int) * -1).toNat]?) = (List.range xs.size).filterMap (fun m => xs.toList.reverse[m]?) := by
    refine fm_congr fun m hm => ?_
    have hm' : m < xs.size := List.mem_range.mp hm
    have : ((xs.size : Int) - 1 + (m : Int) * -1).toNat = xs.size - 1 - m := by omega
    rw [this, List.getElem?_reverse (by simpa using hm')]
    simp
  rw [e]
  have := fm_range xs.toList.reverse
  rwa [List.length_reverse, Array.length_toList] at this
theorem getItem_tuple_rev {t sl : Addr} {items : Array Value} {vl vu vs : Value} {Q : Value → Shared → Prop} (ht : IsTup s.heap t items) (hs : s.heap.IsSliceOf sl vl vu vs) (pl : IsPart vl none) (pu : IsPart vu none) (ps : IsPart vs (some (-1)))
    (h : Q (.ref s.heap.objs.size) { s with heap := s.heap.push { cls := .type "tuple", data := .seq items.toList.reverse.toArray } })
    (hsz : items.size ≤ sizeLine) : wpAny (model prog w) A (getItem (.ref t) (.ref sl)) Q E s := by
  have htake : sizeOk (.seq items.toList.reverse.toArray) := by
    show items.toList.reverse.toArray.size ≤ sizeLine
    simpa using hsz
  obtain ⟨os, hos, hcs, hds⟩ := id hs
  have hTs : s.TypeIs (.ref sl) "slice" := ⟨os, hos, hcs⟩
  unfold getItem
  try with_reducible refine wpAny_holding ?_
  first | refine wpAny_bind (wpAny_pure ?_) | skip
  refine wpAny_bind (wpAny_sequenceKey ht.typeIs (by decide) ?_)
  refine wpAny_bind (wpAny_callSpecial?_slot (name := Str.ofString "__getitem__") ht.typeIs PyProof.Rows.slot_tuple_getitem
    (wpAny_call_entry PyProof.Rows.slot_tuple_getitem ht.typeIs entry_tuple_getitem ?_ (args_tuple_getitem _ _)))
  show wpAny _ _ (Builtin.Tuple.tupleItemsOf (.ref t) >>= _) _ _ s
  refine wpAny_bind (tupleItemsOf_ ht ?_)
  refine wpAny_bind (wpAny_typeOf hTs ?_)
  rw [if_pos (by decide)]
  refine wpAny_bind (sliceApplied_rev hs pl pu ps ?_)
  have hno : ¬ ((((items.size : Int) - 1 == 0) && (-1 : Int) == 1 && items.size == items.size) = true) := by
    intro q
    rw [Bool.and_eq_true, Bool.and_eq_true] at q
    have q1 : (-1 : Int) = 1 := eq_of_beq q.1.2
    omega
  show wpAny _ _ (if (((items.size : Int) - 1 == 0) && (-1 : Int) == 1 && items.size == items.size) = true then _ else _) _ _ s
  rw [if_neg hno, pick_rev]
  first
    | exact wpAny_bind (m := Builtin.Tuple.tupleExact _) (wpAny_newObj_type (wpAny_pure ⟨_, rfl, wpAny_pure h⟩) htake)
    | exact wpAny_bind (m := Builtin.Tuple.tupleExact _) (wpAny_newObj_type (wpAny_bind (wpAny_pure (wpAny_pure ⟨_, rfl, wpAny_pure h⟩))) htake)
    | exact wpAny_bind (wpAny_bind (m := Builtin.Tuple.tupleExact _) (wpAny_newObj_type (wpAny_pure (wpAny_pure ⟨_, rfl, wpAny_pure h⟩)) htake))
    | exact wpAny_bind (wpAny_bind (m := Builtin.Tuple.tupleExact _) (wpAny_newObj_type (wpAny_pure ⟨_, rfl, wpAny_pure h⟩) htake))
end
def tRevA (K : PySem.W.Frag) (te : TE) : TE := fun σ H Q => te σ H fun x H1 => ∃ a xs, x = .ref a ∧ ((SqL K H1 a xs ∧ ∀ p, H1 p = none → Q (.ref p) (upd H1 p (.lst xs.reverse))) ∨ (SqT K H1 a xs ∧ ∀ p, H1 p = none → Q (.ref p) (upd H1 p (.tup xs.reverse))))
theorem pe_revA {X : Cx} {e : Expr} {te : TE} {k : Nat} {p1 p2 p3 pos : Pos} (he : PE X e te) : PE X (.Subscript e (.Slice none none (some (.UnaryOp .USub (.Constant (.int 1) k p1) p2)) p3) pos) (tRevA X.K te) := by
  refine ⟨fun pins s σ H Q I h => ?_⟩
  refine Subscript_ (thn (he.run pins s σ H _ I h) fun v s1 ⟨x, H1, I1, r1, q1⟩ => ?_)
  obtain ⟨a, xs, ex, q⟩ := q1
  subst ex
  cases r1
  have hst : PO X (some (.UnaryOp .USub (.Constant (.int 1) k p1) p2)) (tPart (tUn (rU fun i => .int (-i)) (tC (.int 1)))) := po_some (pe_un un_neg pe_int)
  refine wpAny_Slice (thn (po_none.run pins s1 σ H1 (fun o H2 => o = none ∧ H2 = H1) I1 ⟨rfl, rfl⟩) fun vl s2 ⟨l, H2, I2, pl, el, e2⟩ => ?_)
  subst el e2
  refine thn (po_none.run pins s2 σ H2 (fun o H3 => o = none ∧ H3 = H2) I2 ⟨rfl, rfl⟩) fun vu s3 ⟨u, H3, I3, pu, eu, e3⟩ => ?_
  subst eu e3
  refine thn (hst.run pins s3 σ H3 (fun o H4 => o = some (-1) ∧ H4 = H3) I3 ⟨1, rfl, -1, rfl, rfl, rfl⟩) fun vs s4 ⟨o, H4, I4, ps, eo, e4⟩ => ?_
  subst eo e4
  have I5 : Inv X pins σ H4 { s4 with heap := s4.heap.push { cls := .type "slice", data := .fields #[vl, vu, vs] } } := I4.kept (t' := s4.toks) fun b ob q => Heap.get?_push_of_some _ q
  show wpAny (model X.prog X.w) X.A (subscriptTail e (.Slice none none (some (.UnaryOp .USub (.Constant (.int 1) k p1) p2)) p3) (.ref a) (.ref s4.heap.objs.size)) (EP X pins σ Q) X.xe { s4 with heap := s4.heap.push { cls := .type "slice", data := .fields #[vl, vu, vs] } }
  rcases q with ⟨hx, q⟩ | ⟨hx, q⟩
  · obtain ⟨its, r, ht, hz⟩ := I5.list hx
    have hlen := r.length
    refine tail_any (ops := [.ref a, .ref s4.heap.objs.size]) ht.isList.typeIs (PySem.slot_list_getitem.lookup) ?_ (by with_unfolding_all rfl)
    refine wpAny_getItem_list_slice ht.isList (Heap.IsSliceOf.new _ vl vu vs) pl pu ps (by decide) ?_ (by rw [List.size_toArray]; omega)
    rw [PySem.W.krv_pick]
    refine ⟨.ref _, _, I5.laid (t' := s4.toks) (o := .lst xs.reverse) (fun b ob q => Heap.get?_push_of_some _ q) (Nat.le_refl _) ?_, rfl, q _ (I5.hok.fresh (Nat.le_refl _))⟩
    exact ⟨by rw [List.length_reverse]; exact hz, _, 0, r.reverse, Heap.get?_push_size _ rfl⟩
  · obtain ⟨its, r, ht, hz⟩ := I5.tuple hx
    have hlen := r.length
    refine tail_any (ops := [.ref a, .ref s4.heap.objs.size]) ht.typeIs (PyProof.Rows.slot_tuple_getitem.lookup) ?_ (by with_unfolding_all rfl)
    refine getItem_tuple_rev ht (Heap.IsSliceOf.new _ vl vu vs) pl pu ps ?_ (by rw [List.size_toArray]; omega)
    refine ⟨.ref _, _, I5.laid (t' := s4.toks) (o := .tup xs.reverse) (fun b ob q => Heap.get?_push_of_some _ q) (Nat.le_refl _) ?_, rfl, q _ (I5.hok.fresh (Nat.le_refl _))⟩
    exact ⟨by rw [List.length_reverse]; exact hz, _, r.reverse, IsTup.new _ _⟩
def gRev2 (r : RV) : Option RV := match r.od.items with
  | some ds => some (.own (.lst (ds.reverse.map .fz)))
  | none => match r.od.titems with
    | some ds => some (.own (.fz (.tup ds.reverse)))
    | none => none
section
variable {X : Cx} {W : WX} {e : Expr} {f : Env → O RV} {pos : Pos}
theorem r_rev2 {k : Nat} {p1 p2 p3 : Pos} (ha : PEr X W e f) : PEr X W (.Subscript e (.Slice none none (some (.UnaryOp .USub (.Constant (.int 1) k p1) p2)) p3) pos) (e1 gRev2 f) := by
  obtain ⟨ta, ha, ka⟩ := ha
  refine ⟨_, pe_revA ha, ka.map (r := fun (x : V) (H1 : Hp) (Q : VK) => ∃ a xs, x = .ref a ∧ ((SqL X.K H1 a xs ∧ ∀ p, H1 p = none → Q (.ref p) (upd H1 p (.lst xs.reverse))) ∨ (SqT X.K H1 a xs ∧ ∀ p, H1 p = none → Q (.ref p) (upd H1 p (.tup xs.reverse))))) fun B H G v r Q s hr n q => ?_⟩
  dsimp only [gRev2] at q
  split at q
  · rename_i ds e1
    obtain ⟨p, vs, rfl, a1, a2⟩ := rv_items s hr e1
    exact ⟨p, vs, rfl, .inl ⟨a1, fun l hl => VPost.lst q s a2.reverse hl⟩⟩
  · split at q
    · rename_i ds e2
      cases rv_tfz hr e2 with
      | @tup p us _ k1 k2 => exact ⟨p, us, rfl, .inr ⟨Same.seqT s k1, fun l hl => VPost.tup q s k2.reverse hl⟩⟩
    · exact q.elim
theorem g_rev2L {α : Type} {e : α → D} {xs : List α} {r : RV} (h : r.od.items = some (xs.map e)) : gRev2 r = some (.own (.lst (xs.reverse.map (oF e)))) := by
  simp only [gRev2, h, ← List.map_reverse, List.map_map]; rfl
theorem g_revV {α : Type} {e : α → D} {xs : List α} : gRev2 (.own (.fz (.tup (xs.map e)))) = some (.own (.fz (.tup (xs.reverse.map e)))) := by
  show some (RV.own (.fz (.tup (xs.map e).reverse))) = _
  rw [← List.map_reverse]
end
end Tl
/-! working with typed functions -/
namespace Tl
open PySem PySem.Spec L2
section
variable {α β γ σ R : Type} {xs : List α} {x : α}
theorem forO_inv {P : Nat → σ → Prop} {f : α → σ → Option σ} : ∀ (xs : List α) (s0 : σ) (k : Nat), P k s0 → (∀ i x s, xs[i]? = some x → P (k + i) s → ∃ s', f x s = some s' ∧ P (k + i + 1) s') → ∃ s, forO xs s0 f = some s ∧ P (k + xs.length) s
  | [], s0, k, h0, _ => ⟨s0, rfl, h0⟩
  | x :: xs, s0, k, h0, h => by
    obtain ⟨s1, e1, h1⟩ := h 0 x s0 rfl h0
    obtain ⟨s2, e2, h2⟩ := forO_inv (P := P) (f := f) xs s1 (k + 1) h1 fun i y s hi hp => by
      have := h (i + 1) y s (by simpa using hi) (by rw [show k + (i + 1) = k + 1 + i by omega]; exact hp)
      rw [show k + (i + 1) + 1 = k + 1 + i + 1 by omega] at this
      exact this
    exact ⟨s2, by simp only [forO, e1, Option.bind_some, e2], by rw [show k + (x :: xs).length = k + 1 + xs.length by simp; omega]; exact h2⟩
/-- by what holds all along -/
theorem forO_all {P : σ → Prop} {f : α → σ → Option σ} (xs : List α) (s0 : σ) (h0 : P s0) (h : ∀ x ∈ xs, ∀ s, P s → ∃ s', f x s = some s' ∧ P s') : ∃ s, forO xs s0 f = some s ∧ P s :=
  forO_inv (P := fun _ => P) xs s0 0 h0 fun i x s hi hp => h x (List.mem_of_getElem? hi) s hp
theorem forO_fold {P : σ → Prop} {f : α → σ → Option σ} {g : α → σ → σ} : ∀ (xs : List α) (s0 : σ), P s0 → (∀ x ∈ xs, ∀ s, P s → f x s = some (g x s) ∧ P (g x s)) → forO xs s0 f = some (xs.foldl (fun s x => g x s) s0) ∧ P (xs.foldl (fun s x => g x s) s0)
  | [], s0, h0, _ => ⟨rfl, h0⟩
  | x :: xs, s0, h0, h => by
    obtain ⟨e1, h1⟩ := h x (by simp) s0 h0
    obtain ⟨e2, h2⟩ := forO_fold (P := P) (f := f) (g := g) xs (g x s0) h1 fun y hy => h y (by simp [hy])
    exact ⟨by simp only [forO, e1, Option.bind_some, e2, List.foldl_cons], h2⟩
theorem forX_inv {P : Nat → σ → Prop} {f : α → σ → Option (LS σ R)} : ∀ (xs : List α) (s0 : σ) (k : Nat), P k s0 → (∀ i x s, xs[i]? = some x → P (k + i) s → ∃ s', f x s = some (.go s') ∧ P (k + i + 1) s') → ∃ s, forX xs s0 f = some (.fin s) ∧ P (k + xs.length) s
  | [], s0, k, h0, _ => ⟨s0, rfl, h0⟩
  | x :: xs, s0, k, h0, h => by
    obtain ⟨s1, e1, h1⟩ := h 0 x s0 rfl h0
    obtain ⟨s2, e2, h2⟩ := forX_inv (P := P) (f := f) xs s1 (k + 1) h1 fun i y s hi hp => by
      have := h (i + 1) y s (by simpa using hi) (by rw [show k + (i + 1) = k + 1 + i by omega]; exact hp)
      rw [show k + (i + 1) + 1 = k + 1 + i + 1 by omega] at this
      exact this
    exact ⟨s2, by simp only [forX, e1, Option.bind_some, e2], by rw [show k + (x :: xs).length = k + 1 + xs.length by simp; omega]; exact h2⟩
theorem forX_all {P : σ → Prop} {f : α → σ → Option (LS σ R)} (xs : List α) (s0 : σ) (h0 : P s0) (h : ∀ x ∈ xs, ∀ s, P s → ∃ s', f x s = some (.go s') ∧ P s') : ∃ s, forX xs s0 f = some (.fin s) ∧ P s :=
  forX_inv (P := fun _ => P) xs s0 0 h0 fun i x s hi hp => h x (List.mem_of_getElem? hi) s hp
theorem lcO_gen {c : α → Option Bool} {F : α → Option β} {C : α → Bool} {f : α → β} (hl : xs.length < 10000000) (h : ∀ x ∈ xs, c x = some (C x)) (h2 : ∀ x ∈ xs, C x = true → F x = some (f x)) : lcO xs c F = some ((xs.filter C).map f) := by
  unfold lcO
  rw [if_pos hl]
  clear hl
  induction xs with
  | nil => rfl
  | cons x xs ih =>
    have e := ih (fun y hy => h y (by simp [hy])) (fun y hy => h2 y (by simp [hy]))
    simp only [lcO.go, h x (by simp), Option.bind_some]
    cases hc : C x with
    | true => simp [h2 x (by simp) hc, e, hc]
    | false => simp [e, hc]
theorem lcO_map {F : α → Option β} {f : α → β} (hl : xs.length < 10000000) (h2 : ∀ x ∈ xs, F x = some (f x)) : lcO xs (fun _ => some true) F = some (xs.map f) := by
  rw [lcO_gen (C := fun _ => true) hl (fun _ _ => rfl) fun x hx _ => h2 x hx, List.filter_eq_self.mpr (by simp)]
theorem lcO_some {c : α → Bool} {f : α → β} (hl : xs.length < 10000000) : lcO xs (fun x => some (c x)) (fun x => some (f x)) = some ((xs.filter c).map f) := lcO_gen hl (fun _ _ => rfl) fun _ _ _ => rfl
theorem lcO_all {f : α → β} (hl : xs.length < 10000000) : lcO xs (fun _ => some true) (fun x => some (f x)) = some (xs.map f) := lcO_map hl fun _ _ => rfl
@[simp] theorem mem_enum {xs : List α} {p : Int × α} : p ∈ enumO xs ↔ ∃ i : Nat, p.1 = (i : Int) ∧ xs[i]? = some p.2 := by
  unfold enumO
  rw [List.mem_map]
  constructor
  · rintro ⟨⟨a, i⟩, m, rfl⟩
    exact ⟨i, rfl, by simpa using List.mem_zipIdx_iff_getElem?.mp m⟩
  · rintro ⟨i, e1, e2⟩
    exact ⟨(p.2, i), List.mem_zipIdx_iff_getElem?.mpr (by simpa using e2), by simp [← e1]⟩
theorem enum_get {xs : List α} {i : Nat} : (enumO xs)[i]? = xs[i]?.map fun x => ((i : Int), x) := by
  unfold enumO
  rw [List.getElem?_map, List.getElem?_zipIdx]
  cases xs[i]? <;> simp
@[simp] theorem enum_len {xs : List α} : (enumO xs).length = xs.length := by simp [enumO]
@[simp] theorem cut_some0 {n : Int} (h : 0 ≤ n) : cutL xs none (some n) = xs.take n.toNat := by
  unfold cutL
  simp only [HT.sIx, List.drop_zero]
  rw [if_neg (by omega)]
  by_cases hn : n.toNat ≤ xs.length
  · rw [Nat.min_eq_left hn, Nat.sub_zero]
  · rw [Nat.min_eq_right (by omega), Nat.sub_zero, List.take_of_length_le (by omega), List.take_of_length_le (by omega)]
theorem ixO_mem {i : Int} (h : ixO xs i = some x) : x ∈ xs := by
  unfold ixO atI at h
  cases e : ixN xs.length i with
  | none => rw [e] at h; cases h
  | some j => rw [e] at h; exact List.mem_of_getElem? h
theorem ixO_ok {i : Int} (h0 : 0 ≤ i) (h : i < xs.length) : ∃ x, ixO xs i = some x ∧ x ∈ xs := by
  have e := ixO_nn (xs := xs) h0 h
  have : i.toNat < xs.length := by omega
  rw [List.getElem?_eq_getElem this] at e
  exact ⟨_, e, List.getElem_mem this⟩
@[simp] theorem pow10_6 : powO (10 : Int) (6 : Int) = some 1000000 := by rw [powO_e (by decide)]; rfl
@[simp] theorem pow10_7 : powO (10 : Int) (7 : Int) = some 10000000 := by rw [powO_e (by decide)]; rfl
@[simp] theorem pow10_9 : powO (10 : Int) (9 : Int) = some 1000000000 := by rw [powO_e (by decide)]; rfl
@[simp] theorem pow10_18 : powO (10 : Int) (18 : Int) = some 1000000000000000000 := by rw [powO_e (by decide)]; rfl
@[simp] theorem pow10_30 : powO (10 : Int) (30 : Int) = some 1000000000000000000000000000000 := by rw [powO_e (by decide)]; rfl
end
end Tl
/-! is, of bools too; zip -/
namespace Tl
open PySem PySem.Spec L2
def gIsX (p : RV × RV) : Option RV := match p.1.od, p.2.od with
  | .fz (.bl a), .fz (.bl b) => some (.own (.fz (.bl (decide (a = b)))))
  | _, _ => gIsN p
def gNotX (p : RV × RV) : Option RV := match p.1.od, p.2.od with
  | .fz (.bl a), .fz (.bl b) => some (.own (.fz (.bl (!decide (a = b)))))
  | _, _ => gNotN p
section
variable {X : Cx} {W : WX} {a b c e e2 : Expr} {es : List Expr} {f fa fb fc : Env → O RV} {pos : Pos}
theorem vor {r r' : R2} {g g' gg : RV × RV → Option RV} (v : VOk (rr X) (rvR X.K X.mg) (fun p => r p.1 p.2) g) (v' : VOk (rr X) (rvR X.K X.mg) (fun p => r' p.1 p.2) g') (h : ∀ p, gg p = g p ∨ gg p = g' p) : VOk (rr X) (rvR X.K X.mg) (fun p H Q => r p.1 p.2 H Q ∨ r' p.1 p.2 H Q) gg := by
  intro B H G p q Q s hr n z
  rcases h q with e | e
  · rw [e] at z; exact .inl (v B H G p q Q s hr n z)
  · rw [e] at z; exact .inr (v' B H G p q Q s hr n z)
theorem c_isX : CmpOk X .Is gIsX := by
  obtain ⟨r, h1, v1⟩ := c_isN (X := X)
  refine ⟨_, h1.or op_isBl, vor v1 (g' := fun p => match p.1.od, p.2.od with | .fz (.bl a), .fz (.bl b) => some (.own (.fz (.bl (decide (a = b))))) | _, _ => none) ?_ fun p => ?_⟩
  · rintro B H G ⟨x, y⟩ ⟨r1, r2⟩ Q s ⟨G1, G2, _, h1, h2⟩ n q
    dsimp only at q h1 h2 ⊢
    split at q
    · rename_i a b e1 e2
      have z1 := rv_fz h1 e1
      have z2 := rv_fz h2 e2
      cases z1; cases z2
      exact ⟨a, b, rfl, rfl, VPost.fz q s .bl⟩
    · exact q.elim
  · unfold gIsX
    split
    · right; rename_i e1 e2; simp only [e1, e2]
    · exact .inl rfl
theorem c_notX : CmpOk X .IsNot gNotX := by
  obtain ⟨r, h1, v1⟩ := c_notN (X := X)
  refine ⟨_, h1.or op_notBl, vor v1 (g' := fun p => match p.1.od, p.2.od with | .fz (.bl a), .fz (.bl b) => some (.own (.fz (.bl (!decide (a = b))))) | _, _ => none) ?_ fun p => ?_⟩
  · rintro B H G ⟨x, y⟩ ⟨r1, r2⟩ Q s ⟨G1, G2, _, h1, h2⟩ n q
    dsimp only at q h1 h2 ⊢
    split at q
    · rename_i a b e1 e2
      have z1 := rv_fz h1 e1
      have z2 := rv_fz h2 e2
      cases z1; cases z2
      exact ⟨a, b, rfl, rfl, VPost.fz q s .bl⟩
    · exact q.elim
  · unfold gNotX
    split
    · right; rename_i e1 e2; simp only [e1, e2]
    · exact .inl rfl
/-! zip -/
def iZipM (f g : Env → O RV) : Env → O (List D) := fun env => ((f env).andThen RV.safe env (fun _ e => g e) Prod.mk).mapP gZip
theorem i_zip {p tpos : Pos} {elts : List Expr} {kk : Nat} (hm : X.mg "zip" = none) (ha : PEr X W e fa) (hb : PEr X W e2 fb) (hg : Gl X "zip" := by rfl)
    (hs0 : starEach [e, e2] X.env = (false, eval e X.env) :: starEach [e2] X.env := by rfl) (hs1 : starEach [e2] X.env = (false, eval e2 X.env) :: starEach [] X.env := by rfl) (hpl : (backTo pos (starEach [e2] X.env)).any (·.1) = false := by rfl) :
    PIr X W (.Tuple elts kk tpos) (.Call (.Name "zip" p) [e, e2] [] pos) (iZipM fa fb) := by
  obtain ⟨ta, ha, ka⟩ := ha
  obtain ⟨tb, hb, kb⟩ := hb
  have k2 : EOk X W (prR (rvR X.K X.mg) (rvR X.K X.mg)) (fun σ H Q => ta σ H fun x H1 => tb σ H1 fun y H2 => Q (x, y) H2) (fun env => (fa env).andThen RV.safe env (fun _ e => fb e) Prod.mk) :=
    EOk.andThen (jx := Prod.mk) (jb := Prod.mk) (R'' := prR (rvR X.K X.mg) (rvR X.K X.mg)) (u := fun _ => tb) stb_rv stb_rv (fun _ _ G1 G2 _ _ _ _ a b => ⟨G1, G2, rfl, a, b⟩) ka fun _ _ _ => kb
  refine ⟨_, RZ.pi_zipA hg hm (pa_cons ha (pa_cons hb pa_nil hs1) hs0) hs0 hpl, EOk.map (r := fun (p : V × V) (H1 : Hp) (R : It → Hp → Prop) => ∃ a b xs ys, [p.1, p.2] = [.ref a, .ref b] ∧ ((SqL X.K H1 a xs ∧ SqL X.K H1 b ys ∧ R (Itz X.K a b) H1) ∨ (SqT X.K H1 a xs ∧ SqT X.K H1 b ys ∧ R (RZ.ItzT X.K a b) H1))) k2 fun B H G v r R s h n q => ?_⟩
  obtain ⟨x, y⟩ := v
  obtain ⟨r1, r2⟩ := r
  have sb : Stb (prR (rvR X.K X.mg) (rvR X.K X.mg)) (fun q => RV.safe q.1 && RV.safe q.2) := stb_pr stb_rv stb_rv
  have th := sb.there _ _ _ _ _ h
  obtain ⟨G1, G2, e, h1, h2⟩ := h
  obtain ⟨s1, s2, f⟩ := frm_more (K := X.K) (mg := X.mg) (G := G) s th
  have one : ∀ {x : V} {r : RV} {G' : List Addr} {kd : SeqK} {ds : List D}, rvR X.K X.mg B H G' x r → (∀ a ∈ G', a ∈ G) → gSeqK r = some (kd, ds) → ∃ p vs, x = .ref p ∧ (match kd with | .l => SqL X.K (more B H G) p vs | .t => SqT X.K (more B H G) p vs) ∧ RepL X.K (more B H G) vs ds := by
    intro x r G' kd ds hr hG e
    cases r with
    | view o => unfold gSeqK at e; cases e
    | own o =>
      have h' : Own X.K X.mg B H G' x o := hr
      unfold gSeqK at e
      cases h' with
      | fz r => cases r with
        | lst h1 h2 => cases e; exact ⟨_, _, rfl, SqL.of (s1 _ _ h1), h2.mono s1⟩
        | scr h1 h2 => cases e; exact ⟨_, _, rfl, s1.seq h1, h2.mono s1⟩
        | tup h1 h2 => cases e; exact ⟨_, _, rfl, Same.seqT s1 h1, h2.mono s1⟩
        | _ => cases e
      | @lst p vs F os h1 h2 h3 =>
        cases e3 : fzs os with
        | none => simp only [e3, Option.map] at e; cases e
        | some us =>
          simp only [e3, Option.map] at e; cases e
          obtain ⟨rfl, h4⟩ := h3.rep e3
          exact ⟨_, _, rfl, SqL.of (by rw [more_in (hG _ (by simp))]; exact h1), h4.mono s1⟩
      | @tup p vs F os h1 h3 =>
        cases e3 : fzs os with
        | none => simp only [e3, Option.map] at e; cases e
        | some us =>
          simp only [e3, Option.map] at e; cases e
          exact ⟨_, _, rfl, Same.seqT s1 h1, (h3.rep e3).2.mono s1⟩
      | _ => cases e
  have in1 : ∀ a ∈ G1, a ∈ G := fun a m => by rw [e]; exact List.mem_append_left _ m
  have in2 : ∀ a ∈ G2, a ∈ G := fun a m => by rw [e]; exact List.mem_append_right _ m
  dsimp only [gZip] at q
  split at q
  · rename_i ds es e1 e2
    obtain ⟨p1, v1, z1, z2, z3⟩ := one h1 in1 e1
    obtain ⟨p2, v2, w1, w2, w3⟩ := one h2 in2 e2
    dsimp only at z1 w1
    subst z1 w1
    exact ⟨p1, p2, v1, v2, rfl, .inl ⟨s2.seq z2, s2.seq w2, VPost.it (mg := X.mg) q s th (spec_zipL z2 z3 w2 w3)⟩⟩
  · rename_i ds es e1 e2
    obtain ⟨p1, v1, z1, z2, z3⟩ := one h1 in1 e1
    obtain ⟨p2, v2, w1, w2, w3⟩ := one h2 in2 e2
    dsimp only at z1 w1
    subst z1 w1
    exact ⟨p1, p2, v1, v2, rfl, .inr ⟨Same.seqT s2 z2, Same.seqT s2 w2, VPost.it (mg := X.mg) q s th (spec_zipT z2 z3 w2 w3)⟩⟩
  · exact q.elim
end
end Tl
/-! typed: is, zip, exceptions, comprehensions that change the frame -/
namespace Tl
open PySem PySem.Spec L2
section
variable {α β γ σ T : Type} {x y : α} {xs ys : List α} {e : α → D} {o : α → OD} {r u : RV} {Γ Γ' Γ1 Γ2 Γh : Ctx} {p p1 p2 : Bool} {fa fb : Env → O RV} {a b : Bool}
theorem isX_non {a : RV} : gIsX (a, .own (.fz .non)) = gIsN (a, .own (.fz .non)) := by
  unfold gIsX
  split
  · rename_i e1 e2; cases e2
  · rfl
theorem notX_non {a : RV} : gNotX (a, .own (.fz .non)) = gNotN (a, .own (.fz .non)) := by
  unfold gNotX
  split
  · rename_i e1 e2; cases e2
  · rfl
theorem x_isN {q : Option α} (h : ∀ v, e v ≠ .non) : gIsX (.own (.fz (eOp e q)), .own (.fz .non)) = some (.own (.fz (.bl q.isNone))) := isX_non.trans (g_isN h)
theorem x_notN {q : Option α} (h : ∀ v, e v ≠ .non) : gNotX (.own (.fz (eOp e q)), .own (.fz .non)) = some (.own (.fz (.bl q.isSome))) := notX_non.trans (g_notN h)
theorem x_isA {d : D} : gIsX (.own (.fz d), .own (.fz .non)) = some (.own (.fz (.bl (dNon d)))) := isX_non.trans g_isA
theorem x_notA {d : D} : gNotX (.own (.fz d), .own (.fz .non)) = some (.own (.fz (.bl (!dNon d)))) := notX_non.trans g_notA
theorem x_isF {d : D} (h : dNon d = false) : gIsX (.own (.fz d), .own (.fz .non)) = some (.own (.fz (.bl false))) := isX_non.trans (g_isF h)
theorem x_notF {d : D} (h : dNon d = false) : gNotX (.own (.fz d), .own (.fz .non)) = some (.own (.fz (.bl true))) := notX_non.trans (g_notF h)
theorem x_isT {d : D} (h : dNon d = true) : gIsX (.own (.fz d), .own (.fz .non)) = some (.own (.fz (.bl true))) := by rw [x_isA, h]
theorem x_notT {d : D} (h : dNon d = true) : gNotX (.own (.fz d), .own (.fz .non)) = some (.own (.fz (.bl false))) := by rw [x_notA, h]; rfl
theorem x_isLs {os : List OD} (h : r.od = .lst os) : gIsX (r, .own (.fz .non)) = some (.own (.fz (.bl false))) := isX_non.trans (g_isLs h)
theorem x_notLs {os : List OD} (h : r.od = .lst os) : gNotX (r, .own (.fz .non)) = some (.own (.fz (.bl true))) := notX_non.trans (g_notLs h)
theorem x_isB : gIsX (.own (.fz (.bl a)), .own (.fz (.bl b))) = some (.own (.fz (.bl (decide (a = b))))) := rfl
theorem x_notB : gNotX (.own (.fz (.bl a)), .own (.fz (.bl b))) = some (.own (.fz (.bl (!decide (a = b))))) := rfl
def plainO : OD → Bool
  | .lst _ => true
  | .tup _ => true
  | .ins _ _ => true
  | .dK _ => true
  | .dT _ => true
  | _ => false
theorem x_isPl {o : OD} (h : plainO o = true) : gIsX (.view o, .own (.fz .non)) = some (.own (.fz (.bl false))) := by cases o <;> first | rfl | cases h
theorem x_notPl {o : OD} (h : plainO o = true) : gNotX (.view o, .own (.fz .non)) = some (.own (.fz (.bl true))) := by cases o <;> first | rfl | cases h
theorem eVar_pl {o : OD} {env : Env} {i : Nat} (h : plainO o = true) (g : env[i]? = some o) : eVar i env = .ok (.view o) := by
  cases o <;> first
    | (simp only [eVar, g]; done)
    | cases h
/-- what may be None, and is owned else -/
theorem ev_isNO (i : Nat) {q : Option α} (h : Γ[i]? = some (some (oOp o q))) (ho : ∀ v, plainO (o v) = true) : Ev false (e2 gIsX (eVar i) (eC .non)) Γ (.own (.fz (.bl q.isNone))) Γ := fun env w => by
  have g := w.get h
  cases q with
  | none =>
    refine .inl ⟨?_, w⟩
    have : eVar i env = .ok (.own (.fz .non)) := by simp only [eVar, g, oOp]
    simp only [e2, this, O.andThen, eC, O.mapP]; rfl
  | some v =>
    refine .inl ⟨?_, w⟩
    have : eVar i env = .ok (.view (o v)) := eVar_pl (ho v) g
    simp only [e2, this, O.andThen, eC, O.mapP, x_isPl (ho v)]; rfl
theorem ev_notNO (i : Nat) {q : Option α} (h : Γ[i]? = some (some (oOp o q))) (ho : ∀ v, plainO (o v) = true) : Ev false (e2 gNotX (eVar i) (eC .non)) Γ (.own (.fz (.bl q.isSome))) Γ := fun env w => by
  have g := w.get h
  cases q with
  | none =>
    refine .inl ⟨?_, w⟩
    have : eVar i env = .ok (.own (.fz .non)) := by simp only [eVar, g, oOp]
    simp only [e2, this, O.andThen, eC, O.mapP]; rfl
  | some v =>
    refine .inl ⟨?_, w⟩
    have : eVar i env = .ok (.view (o v)) := eVar_pl (ho v) g
    simp only [e2, this, O.andThen, eC, O.mapP, x_notPl (ho v)]; rfl
theorem ev_unO {v : α} {q : Option α} (h : q = some v) (D : Ev p fa Γ (.own (oOp o q)) Γ') : Ev p fa Γ (.own (o v)) Γ' := by subst h; exact D
/-! zip -/
theorem zipD_map {e2 : β → D} {ys : List β} : zipD (xs.map e) (ys.map e2) = (xs.zip ys).map (eT2 e e2) := by
  unfold zipD
  rw [List.zip_map, List.map_map]; rfl
theorem kz_lst : gSeqK (.own (.fz (.lst (xs.map e)))) = some (.l, xs.map e) := rfl
theorem kz_scr : gSeqK (.own (.fz (.scr (xs.map e)))) = some (.l, xs.map e) := rfl
theorem kz_tup : gSeqK (.own (.fz (.tup (xs.map e)))) = some (.t, xs.map e) := rfl
theorem kz_L : gSeqK (.own (.lst (xs.map (oF e)))) = some (.l, xs.map e) := by
  show (fzs (xs.map (oF e))).map _ = _
  rw [fzs_L]; rfl
theorem ev_zip {e2 : β → D} {ys : List β} {kd : SeqK} (h1 : Ev p1 fa Γ r Γ1) (h2 : Ev p2 fb Γ1 u Γ2) (hs : (p2 && !r.safe) = false) (k1 : gSeqK r = some (kd, xs.map e)) (k2 : gSeqK u = some (kd, ys.map e2)) : Ev (p1 || p2) (iZipM fa fb) Γ ((xs.zip ys).map (eT2 e e2)) Γ2 := by
  refine ev_map (ev_then (k := fun _ e => fb e) (jn := Prod.mk) h1 h2 hs) ?_
  show gZip (r, u) = _
  unfold gZip
  rw [k1, k2, ← zipD_map]
  cases kd <;> rfl
/-! exceptions -/
def Xc {β : Type} (f : Env → O β) (Γ : Ctx) (c : Str) (Γ' : Ctx) : Prop := ∀ env, Fits Γ env → ∃ env', f env = .exc c env' ∧ Fits Γ' env'
variable {c : Str} {f : Env → O β} {rest : Env → SO} {P : T → SO → Prop} {z : T}
theorem xc_map {g : β → Option γ} (h : Xc f Γ c Γ') : Xc (fun env => (f env).mapP g) Γ c Γ' := fun env w => by
  obtain ⟨e, a, b⟩ := h env w
  exact ⟨e, by simp only [a, O.mapP], b⟩
theorem xc_thl {k : β → Env → O γ} {jn : β → γ → σ} {safe : β → Bool} (h : Xc f Γ c Γ') : Xc (fun env => (f env).andThen safe env k jn) Γ c Γ' := fun env w => by
  obtain ⟨e, a, b⟩ := h env w
  exact ⟨e, by simp only [a, O.andThen], b⟩
theorem xc_thr {x : β} {k : β → Env → O γ} {jn : β → γ → σ} {safe : β → Bool} (h : Ev p f Γ x Γ1) (h' : Xc (k x) Γ1 c Γ') : Xc (fun env => (f env).andThen safe env k jn) Γ c Γ' := fun env w => by
  rcases h env w with ⟨h1, h2⟩ | ⟨_, e1, h1, h2⟩
  · obtain ⟨e, a, b⟩ := h' env h2
    exact ⟨e, by simp only [h1, O.andThen, a], b⟩
  · obtain ⟨e, a, b⟩ := h' e1 h2
    exact ⟨e, by simp only [h1, O.andThen, a], b⟩
theorem xc_e1 {g : RV → Option RV} (h : Xc fa Γ c Γ') : Xc (e1 g fa) Γ c Γ' := xc_map h
theorem xc_e2l {g : RV × RV → Option RV} (h : Xc fa Γ c Γ') : Xc (e2 g fa fb) Γ c Γ' := xc_map (xc_thl h)
theorem xc_e2r {g : RV × RV → Option RV} (h : Ev p fa Γ r Γ1) (h' : Xc fb Γ1 c Γ') : Xc (e2 g fa fb) Γ c Γ' := xc_map (xc_thr h h')
theorem xc_consl {fr : Env → O (List RV)} (h : Xc fa Γ c Γ') : Xc (aCons fa fr) Γ c Γ' := xc_thl h
theorem xc_consr {fr : Env → O (List RV)} (h : Ev p fa Γ r Γ1) (h' : Xc fr Γ1 c Γ') : Xc (aCons fa fr) Γ c Γ' := xc_thr h h'
theorem xc_eL {g : List RV → Option RV} {fr : Env → O (List RV)} (h : Xc fr Γ c Γ') : Xc (eL g fr) Γ c Γ' := xc_map h
theorem xc_tV {g : RV → Option Bool} (h : Xc fa Γ c Γ') : Xc (tV g fa) Γ c Γ' := xc_map h
theorem xc_not {ca : Env → O Bool} (h : Xc ca Γ c Γ') : Xc (bNot ca) Γ c Γ' := xc_map h
theorem xc_eB {ca : Env → O Bool} (h : Xc ca Γ c Γ') : Xc (eB ca) Γ c Γ' := xc_map h
theorem xc_andl {ca cb : Env → O Bool} (h : Xc ca Γ c Γ') : Xc (bAnd ca cb) Γ c Γ' := xc_thl h
theorem xc_orl {ca cb : Env → O Bool} (h : Xc ca Γ c Γ') : Xc (bOr ca cb) Γ c Γ' := xc_thl h
theorem xc_eandl (h : Xc fa Γ c Γ') : Xc (eAnd fa fb) Γ c Γ' := xc_thl (xc_map h)
theorem xc_eorl (h : Xc fa Γ c Γ') : Xc (eOr fa fb) Γ c Γ' := xc_thl (xc_map h)
theorem xc_cvall {fr : Env → O (List AR)} (h : Xc fa Γ c Γ') : Xc (cVal fa fr) Γ c Γ' := xc_thl h
theorem xc_cvalr {fr : Env → O (List AR)} (h : Ev p fa Γ r Γ1) (h' : Xc fr Γ1 c Γ') : Xc (cVal fa fr) Γ c Γ' := xc_thr h h'
theorem xc_ctmpl {fr : Env → O (List AR)} (h : Xc fa Γ c Γ') : Xc (cTmp fa fr) Γ c Γ' := xc_thl (xc_map h)
theorem xc_args {Fm : List OD → FO} {fr : Env → O (List AR)} (h : Xc fr Γ c Γ') : Xc (eCall Fm fr) Γ c Γ' := fun env w => by
  obtain ⟨e, a, b⟩ := h env w
  exact ⟨e, by simp only [eCall, a], b⟩
theorem xc_call {Fm : List OD → FO} {fr : Env → O (List AR)} {ars : List AR} {ds ds' : List OD} (ha : Ev p fr Γ ars Γ1) (hg : Gath ars Γ1 ds Γh) (hm : Fm ds = .exc c ds') (hl : (lends ars && !(nfIo ars ds')) = false) (hk : (looks ars && (hasIo ars || hasTmp ars)) = false) : Xc (eCall Fm fr) Γ c (putC ars ds' Γh) := fun env q => by
  have key : ∀ (t : Bool) (e : Env), Fits Γ1 e → ∃ e2, Fits (putC ars ds' Γh) e2 ∧ callAt Fm ars e t = .exc c e2 := fun t e z => by
    obtain ⟨eh, h1, h2⟩ := hg.gath z
    refine ⟨_, putB_fits (ars := ars) (ds := ds') h2, ?_⟩
    simp only [callAt, h1, hm, hl, hk, Bool.false_eq_true, if_false]
  rcases ha env q with ⟨h1, h2⟩ | ⟨_, env', h1, h2⟩
  · obtain ⟨e2, z1, z2⟩ := key false env h2
    exact ⟨e2, by simp only [eCall, h1, z2], z1⟩
  · obtain ⟨e2, z1, z2⟩ := key true env' h2
    exact ⟨e2, by simp only [eCall, h1, z2], z1⟩
theorem sk_exc {κ : β → Env → SO} (h : Xc f Γ c Γ') (q : ∀ env, Fits Γ' env → P z (.exc c env)) : Sk P (sSeq (sE f κ) rest) Γ (some z) := fun w e env k => by
  cases e
  obtain ⟨e1, a, b⟩ := h env k
  have := q e1 b
  simpa only [sSeq, sE, a] using this
theorem exv {t : Option (Ex α)} {e : Ex α} {v : α} (h : t = some e) (k : e = .val v) : t = some (.val v) := by rw [h, k]
theorem exx {t : Option (Ex α)} {e : Ex α} (h : t = some e) (k : e = .exc c) : t = some (.exc c) := by rw [h, k]
theorem lndx {ars : List AR} {ds : List OD} (h2 : nfIo ars ds = true) : (lends ars && !(nfIo ars ds)) = false := by rw [h2]; simp
/-! a comprehension whose elements change the frame -/
def lcE {α β σ : Type} (F : α → σ → Option (β × σ)) : List α → σ → Option (List β × σ)
  | [], s => some ([], s)
  | x :: xs, s => (F x s).bind fun y => (lcE F xs y.2).bind fun z => some (y.1 :: z.1, z.2)
def showC (Γ0 Γ : Ctx) : List Nat → Ctx
  | [] => Γ
  | v :: vs => match Γ0[v]? with
    | some o => (showC Γ0 Γ vs).set v o
    | none => showC Γ0 Γ vs
theorem Fits.setN {Γ : Ctx} {env : Env} (h : Fits Γ env) (i : Nat) (o : OD) : Fits (Γ.set i none) (env.set i o) := by
  induction h generalizing i with
  | nil => exact .nil
  | un h ih => cases i with
    | zero => exact .un h
    | succ i => exact .un (ih i)
  | cons h ih => cases i with
    | zero => exact .un h
    | succ i => exact .cons (ih i)
theorem Fits.show' {Γ0 Γ : Ctx} {env e : Env} (h0 : Fits Γ0 env) (h : Fits Γ e) : ∀ vs, Fits (showC Γ0 Γ vs) (showE env e vs)
  | [] => h
  | v :: vs => by
    have ih := Fits.show' h0 h vs
    unfold showC showE
    cases hg : Γ0[v]? with
    | none =>
      have : env[v]? = none := List.getElem?_eq_none_iff.mpr (by rw [h0.len]; exact List.getElem?_eq_none_iff.mp hg)
      simp only [this]; exact ih
    | some y =>
      cases y with
      | none =>
        have : v < env.length := by rw [h0.len]; exact (List.getElem?_eq_some_iff.mp hg).1
        rw [List.getElem?_eq_getElem this]
        exact ih.setN v _
      | some o =>
        rw [h0.get hg]
        exact ih.set
def Cw (g : D → Env → Option Env) (d : D) (vs : List Nat) (Γ Γ' : Ctx) : Prop := ∀ env, Fits Γ env → ∃ env', g d env = some env' ∧ Fits Γ' env' ∧ wipeE env' vs = wipeE env vs
def Cws (g : List D → Env → Option Env) (d : List D) (vs : List Nat) (Γ Γ' : Ctx) : Prop := ∀ env, Fits Γ env → ∃ env', g d env = some env' ∧ Fits Γ' env' ∧ wipeE env' vs = wipeE env vs
variable {vs : List Nat} {d : D}
theorem cw_set (i : Nat) (h : vs.contains i = true) : Cw (cSet i) d vs Γ (Γ.set i (some (.fz d))) := fun env q => ⟨_, rfl, q.set, wipeE_set (by simpa using h)⟩
theorem cw_nil : Cws csNil [] vs Γ Γ := fun env q => ⟨env, rfl, q, rfl⟩
theorem cw_cons {g : D → Env → Option Env} {gs : List D → Env → Option Env} {ds : List D} (h : Cw g d vs Γ Γ1) (h' : Cws gs ds vs Γ1 Γ2) : Cws (csCons g gs) (d :: ds) vs Γ Γ2 := fun env w => by
  obtain ⟨e1, a, b, k⟩ := h env w
  obtain ⟨e2, c, d, k2⟩ := h' e1 b
  exact ⟨e2, by simp only [csCons, a, c], d, k2.trans k⟩
theorem cw_tup {n : Nat} {gs : List D → Env → Option Env} {ds : List D} (hl : ds.length = n) (h : Cws gs ds vs Γ Γ1) : Cw (cTup n gs) (.tup ds) vs Γ Γ1 := fun env w => by
  obtain ⟨e, a, b, k⟩ := h env w
  exact ⟨e, by simp only [cTup, hl, if_true, a], b, k⟩
theorem wipe_wipe {env : Env} : ∀ ws : List Nat, (∀ i ∈ ws, i ∈ vs) → wipeE (wipeE env vs) ws = wipeE env vs := by
  have un : ∀ (vs : List Nat) (i : Nat), i ∈ vs → i < env.length → (wipeE env vs)[i]? = some .un := by
    intro vs
    induction vs with
    | nil => intro i m _; cases m
    | cons v vs ih =>
      intro i m hl
      have hlen : ∀ ws : List Nat, (wipeE env ws).length = env.length := by
        intro ws
        induction ws with
        | nil => rfl
        | cons a ws ih => unfold wipeE; simp [ih]
      unfold wipeE
      by_cases h : v = i
      · subst h; rw [List.getElem?_set_self (by rw [hlen]; exact hl)]
      · rw [List.getElem?_set_ne h]
        exact ih i (by rcases List.mem_cons.mp m with z | z; exact absurd z.symm h; exact z) hl
  have hlen : ∀ ws : List Nat, (wipeE env ws).length = env.length := by
    intro ws
    induction ws with
    | nil => rfl
    | cons a ws ih => unfold wipeE; simp [ih]
  intro ws
  induction ws with
  | nil => intro _; rfl
  | cons w ws ih =>
    intro h
    show (wipeE (wipeE env vs) ws).set w .un = wipeE env vs
    rw [ih fun i m => h i (by simp [m])]
    refine List.ext_getElem? fun j => ?_
    by_cases hj : w = j
    · subst hj
      by_cases hl : w < env.length
      · rw [List.getElem?_set_self (by rw [hlen]; exact hl), un vs w (h w (by simp)) hl]
      · rw [List.getElem?_eq_none (by rw [List.length_set, hlen]; omega), List.getElem?_eq_none (by rw [hlen]; omega)]
    · rw [List.getElem?_set_ne hj]
theorem ev_lcE {it : Env → O (List D)} {g : D → Env → Option Env} {fe : Env → O RV} {G : σ → Ctx} {Gb Gx : α → σ → Ctx} {F : α → σ → Option (β × σ)} {o : β → OD} {s0 : σ} {zs : List β × σ} {Γf Γ1 : Ctx} {p : Bool} (hr : lcE F xs s0 = some zs) (hl : xs.length < 10000000) (hv : vs.all (fun i => decide (i < Γ.length)) = true) (h : Ev p it Γ (xs.map e) Γ1) (h0 : wipeC Γ1 vs = G s0)
    (ht : ∀ x s, Cw g (e x) vs (G s) (Gb x s)) (hF : ∀ x s, Wm true fe (Gb x s) (F x s) (fun y => .own (o y.1)) (fun y => Gx x y.2)) (hx : ∀ x s, wipeC (Gx x s) vs = G s) (hf : showC Γ1 (G zs.2) vs = Γf) : Ev true (eLc it g bYes fe vs) Γ (.own (.lst (zs.1.map o))) Γf := by
  have key : ∀ (xs : List α) (s : σ) (zs : List β × σ) (acc : List OD) (env : Env) (t : Bool), acc.length + xs.length < 10000000 → lcE F xs s = some zs → Fits (G s) env → wipeE env vs = env → ∃ env' t', lcGo g bYes fe vs (xs.map e) acc env t = some (acc ++ zs.1.map o, env', t') ∧ Fits (G zs.2) env' ∧ wipeE env' vs = env' ∧ (t' = false → env' = env) := by
    intro xs
    induction xs with
    | nil => intro s zs acc env t hl q w hw; cases q; exact ⟨env, t, by simp [lcGo], w, hw, fun _ => rfl⟩
    | cons x xs ih =>
      intro s zs acc env t hl q w hw
      have hl' : acc.length + xs.length + 1 < 10000000 := by simp at hl; omega
      have ha : acc.length < 10000000 := by omega
      obtain ⟨e1, h1, h2, h3⟩ := ht x s env w
      simp only [lcE] at q
      cases hy : F x s with
      | none => rw [hy] at q; cases q
      | some y =>
        rw [hy] at q
        cases hz : lcE F xs y.2 with
        | none => simp only [Option.bind_some, hz] at q; cases q
        | some ws =>
          simp only [Option.bind_some, hz] at q; cases q
          have e1w : wipeE e1 vs = env := h3.trans hw
          rcases hF x s y hy e1 h2 with ⟨m1, m2⟩ | ⟨m0, e5, m1, m2⟩
          · have w2 : Fits (G y.2) env := by
              have := m2.wipe vs
              rwa [e1w, hx] at this
            obtain ⟨env', t', k1, k2, k3, k4⟩ := ih y.2 ws (acc ++ [o y.1]) env (t || false) (by simp; omega) hz w2 hw
            refine ⟨env', t', ?_, k2, k3, k4⟩
            simp only [List.map_cons, lcGo, lcStep, h1, bYes, lcElt, if_true, m1, ha, Bool.false_eq_true, if_false]
            rw [k1]; simp
          · have w2 : Fits (G y.2) (wipeE e5 vs) := by
              have := m2.wipe vs
              rwa [hx] at this
            obtain ⟨env', t', k1, k2, k3, k4⟩ := ih y.2 ws (acc ++ [o y.1]) (wipeE e5 vs) (t || true) (by simp; omega) hz w2 (wipe_wipe vs fun _ m => m)
            have tt : t' = true := by
              have mono : ∀ (ds : List D) (acc : List OD) (e : Env) (r : List OD × Env × Bool), lcGo g bYes fe vs ds acc e true = some r → r.2.2 = true := by
                intro ds
                induction ds with
                | nil => intro acc e r z; simp only [lcGo] at z; cases z; rfl
                | cons d ds ih =>
                  intro acc e r z
                  simp only [lcGo] at z
                  split at z
                  · cases z
                  · exact ih _ _ _ (by simpa using z)
                  · split at z
                    · exact ih _ _ _ (by simpa using z)
                    · cases z
              have := mono _ _ _ _ (by simpa using k1)
              exact this
            refine ⟨env', t', ?_, k2, k3, fun z => by rw [tt] at z; cases z⟩
            simp only [List.map_cons, lcGo, lcStep, h1, bYes, lcElt, if_true, m1, ha]
            rw [k1]; simp
  intro env q
  rcases h env q with ⟨h1, h2⟩ | ⟨h0', e0, h1, h2⟩
  · obtain ⟨env', t', k1, k2, k3, k4⟩ := key xs s0 zs [] (wipeE env vs) false (by simpa using hl) hr (h0 ▸ h2.wipe vs) (wipe_wipe vs fun _ m => m)
    have hvv : vs.all (fun i => decide (i < env.length)) = true := by rw [q.len]; exact hv
    have sh : Fits Γf (showE env env' vs) := hf ▸ Fits.show' h2 k2 vs
    cases t' with
    | true =>
      refine .inr ⟨rfl, showE env env' vs, ?_, sh⟩
      unfold eLc
      rw [if_pos hvv, h1]
      simp only [k1]
      simp [lcFin]
    | false =>
      refine .inl ⟨?_, ?_⟩
      · unfold eLc
        rw [if_pos hvv, h1]
        simp only [k1]
        simp [lcFin]
      · rw [k4 rfl] at sh
        have : showE env (wipeE env vs) vs = env := by
          have gen : ∀ (ws : List Nat) (e : Env), e.length = env.length → (∀ j, j ∉ ws → e[j]? = env[j]?) → showE env e ws = env := by
            intro ws
            induction ws with
            | nil => intro e hl hj; exact List.ext_getElem? fun j => hj j (by simp)
            | cons v ws ih =>
              intro e hl hj
              have hls : ∀ ws : List Nat, (showE env e ws).length = env.length := by
                intro ws
                induction ws with
                | nil => simpa [showE] using hl
                | cons a ws ih2 => unfold showE; split <;> simp [ih2]
              have outw : ∀ (ws : List Nat) (j : Nat), j ∉ ws → (showE env e ws)[j]? = e[j]? := by
                intro ws
                induction ws with
                | nil => intro j _; rfl
                | cons a ws ih3 =>
                  intro j m
                  have ha : a ≠ j := fun z => m (by simp [z])
                  have m' : j ∉ ws := fun z => m (by simp [z])
                  unfold showE
                  split
                  · rw [List.getElem?_set_ne ha]; exact ih3 j m'
                  · exact ih3 j m'
              have inw : ∀ (ws : List Nat) (j : Nat), j ∈ ws → (showE env e ws)[j]? = env[j]? := by
                intro ws
                induction ws with
                | nil => intro j m; cases m
                | cons a ws ih3 =>
                  intro j m
                  unfold showE
                  by_cases ha : a = j
                  · subst ha
                    cases hv1 : env[a]? with
                    | some o1 =>
                      have := (List.getElem?_eq_some_iff.mp hv1).1
                      simp only
                      rw [List.getElem?_set_self (by rw [hls]; exact this)]
                    | none =>
                      simp only
                      exact List.getElem?_eq_none (by rw [hls]; exact List.getElem?_eq_none_iff.mp hv1)
                  · have m' : j ∈ ws := by
                      rcases List.mem_cons.mp m with q | q
                      · exact absurd q.symm ha
                      · exact q
                    split
                    · rw [List.getElem?_set_ne ha]; exact ih3 j m'
                    · exact ih3 j m'
              refine List.ext_getElem? fun j => ?_
              by_cases hjw : j ∈ v :: ws
              · exact inw _ j hjw
              · rw [outw _ j hjw]; exact hj j hjw
          have wl : ∀ ws : List Nat, (wipeE env ws).length = env.length := by
            intro ws
            induction ws with
            | nil => rfl
            | cons a ws ih => unfold wipeE; simp [ih]
          have wj : ∀ (ws : List Nat) (j : Nat), j ∉ ws → (wipeE env ws)[j]? = env[j]? := by
            intro ws
            induction ws with
            | nil => intro j _; rfl
            | cons a ws ih =>
              intro j m
              unfold wipeE
              rw [List.getElem?_set_ne (fun z => m (by simp [z]))]
              exact ih j fun z => m (by simp [z])
          exact gen vs _ (wl vs) (wj vs)
        rwa [this] at sh
  · obtain ⟨env', t', k1, k2, k3, k4⟩ := key xs s0 zs [] (wipeE e0 vs) false (by simpa using hl) hr (h0 ▸ h2.wipe vs) (wipe_wipe vs fun _ m => m)
    have hvv : vs.all (fun i => decide (i < env.length)) = true := by rw [q.len]; exact hv
    have sh : Fits Γf (showE e0 env' vs) := hf ▸ Fits.show' h2 k2 vs
    refine .inr ⟨rfl, showE e0 env' vs, ?_, sh⟩
    unfold eLc
    rw [if_pos hvv, h1]
    simp only [k1]
    simp [lcFin]
section
variable {α β : Type} {Γ Γ1 : Ctx} {f g : Env → O β} {fa fb : Env → O RV} {b1 : Bool} {ca cb : Env → O Bool}
theorem wm_ifx0 {e : α → β} {G : α → Ctx} {t1 t2 : Option α} (h : Ev false ca Γ b1 Γ1) (h1 : b1 = true → Wm false f Γ1 t1 e G) (h2 : b1 = false → Wm false g Γ1 t2 e G) : Wm false (bIf ca f g) Γ (if b1 = true then t1 else t2) e G := wm_ifx h h1 h2
theorem wm_and0 {e : α → Bool} {G : α → Ctx} {t : Option α} {v0 : α} (h : Ev false ca Γ b1 Γ1) (h' : b1 = true → Wm false cb Γ1 t e G) (he : e v0 = false) (m : List Bool) (hk : keep m Γ1 = G v0) : Wm false (bAnd ca cb) Γ (if b1 = true then t else some v0) e G := wm_and h h' he m hk
theorem wm_or0 {e : α → Bool} {G : α → Ctx} {t : Option α} {v0 : α} (h : Ev false ca Γ b1 Γ1) (h' : b1 = false → Wm false cb Γ1 t e G) (he : e v0 = true) (m : List Bool) (hk : keep m Γ1 = G v0) : Wm false (bOr ca cb) Γ (if b1 = true then some v0 else t) e G := wm_or h h' he m hk
theorem wm_eand0 {e : α → RV} {G : α → Ctx} {t : Option α} {v0 : α} (h : Ev false fa Γ (.own (.fz (.bl b1))) Γ1) (h' : b1 = true → Wm false fb Γ1 t e G) (he : e v0 = .own (.fz (.bl false))) (m : List Bool) (hk : keep m Γ1 = G v0) : Wm false (eAnd fa fb) Γ (if b1 = true then t else some v0) e G := wm_eand h h' he m hk
theorem wm_eor0 {e : α → RV} {G : α → Ctx} {t : Option α} {v0 : α} (h : Ev false fa Γ (.own (.fz (.bl b1))) Γ1) (h' : b1 = false → Wm false fb Γ1 t e G) (he : e v0 = .own (.fz (.bl true))) (m : List Bool) (hk : keep m Γ1 = G v0) : Wm false (eOr fa fb) Γ (if b1 = true then some v0 else t) e G := wm_eor h h' he m hk
end
theorem Ev.cxq {β γ : Type} {p : Bool} {f : Env → O β} {q : Option γ} {v : γ} {G : Option γ → Ctx} {r : β} {Γ' : Ctx} (h : q = some v) (D : Ev p f (G (some v)) r Γ') : Ev p f (G q) r Γ' := by subst h; exact D
theorem ev_varQ {γ : Type} (i : Nat) {o : γ → OD} {q : Option γ} {v : γ} {Γ : Ctx} (h : Γ[i]? = some (some (oOp o q))) (hq : q = some v) (hp : plainO (o v) = true) : Ev false (eVar i) Γ (.view (o v)) Γ := fun env w => by
  subst hq
  exact .inl ⟨eVar_pl hp (w.get h), w⟩
theorem x_isOw {γ : Type} {o : γ → OD} {q : Option γ} (ho : ∀ v, plainO (o v) = true) : gIsX (.own (oOp o q), .own (.fz .non)) = some (.own (.fz (.bl q.isNone))) := by
  cases q with
  | none => rfl
  | some v =>
    have := ho v
    show gIsX (.own (o v), _) = _
    cases h : o v <;> first
      | rfl
      | (rw [h] at this; cases this)
theorem x_notOw {γ : Type} {o : γ → OD} {q : Option γ} (ho : ∀ v, plainO (o v) = true) : gNotX (.own (oOp o q), .own (.fz .non)) = some (.own (.fz (.bl q.isSome))) := by
  cases q with
  | none => rfl
  | some v =>
    have := ho v
    show gNotX (.own (o v), _) = _
    cases h : o v <;> first
      | rfl
      | (rw [h] at this; cases this)
def allS {α : Type} : List (Option α) → Option (List α)
  | [] => some []
  | none :: _ => none
  | some x :: xs => (allS xs).map (x :: ·)
theorem allS_eq {α : Type} : ∀ {xs : List (Option α)} {ys : List α}, allS xs = some ys → xs = ys.map some
  | [], ys, h => by cases h; rfl
  | none :: _, ys, h => by cases h
  | some x :: xs, ys, h => by
    simp only [allS] at h
    cases e : allS xs with
    | none => rw [e] at h; cases h
    | some zs => rw [e] at h; cases h; rw [List.map_cons, allS_eq e]
theorem allS_map {α : Type} : ∀ {ys : List α}, allS (ys.map some) = some ys
  | [] => rfl
  | y :: ys => by simp only [List.map_cons, allS, allS_map (ys := ys)]; rfl
theorem it_LO {α : Type} {e : α → D} {xs : List (Option α)} {ys : List α} (h : allS xs = some ys) : (oL (oF (eOp e)) xs).items = some (ys.map e) := by
  rw [it_L, allS_eq h, List.map_map]; rfl
theorem it_lstO {α : Type} {e : α → D} {xs : List (Option α)} {ys : List α} (h : allS xs = some ys) : (OD.fz (.lst (xs.map (eOp e)))).items = some (ys.map e) := by
  rw [it_lst, allS_eq h, List.map_map]; rfl
theorem g_maxL {r : RV} {xs : List Int} {n : Int} (h : r.od.items = some (xs.map D.int)) (k : maxO xs = some n) : gMax [r] = some (.own (.fz (.int n))) := by
  unfold maxO at k
  split at k
  · rename_i q; cases k
    simp only [gMax, gIs, h, dInts_id, oMost, q, if_true]; rfl
  · cases k
theorem g_minL {r : RV} {xs : List Int} {n : Int} (h : r.od.items = some (xs.map D.int)) (k : minO xs = some n) : gMin [r] = some (.own (.fz (.int n))) := by
  unfold minO at k
  split at k
  · rename_i q; cases k
    simp only [gMin, gIs, h, dInts_id, oLeast, q, if_true]; rfl
  · cases k
def exV {R : Type} : Ex R → Option R
  | .val r => some r
  | .exc _ => none
theorem exV_h {R : Type} {t : Option (Ex R)} {v : R} (h : t.bind exV = some v) : t = some (.val v) := by
  cases t with
  | none => cases h
  | some y => cases y with
    | val r => simp only [Option.bind_some, exV] at h; rw [Option.some.inj h]
    | exc c => simp only [Option.bind_some, exV] at h; cases h
@[simp] theorem exV_val {R : Type} {r : R} : exV (.val r) = some r := rfl
theorem sk_none {T : Type} {P : T → SO → Prop} {m : Env → SO} {Γ : Ctx} : Sk P m Γ none := fun x z => by cases z
def FzO {α : Type} (o : α → OD) (e : α → D) : Prop := ∀ x, frz (o x) = some (e x)
theorem fz_F {α : Type} {e : α → D} : FzO (oF e) e := fun x => frz_fz
theorem frzL_O {α : Type} {o : α → OD} {e : α → D} (h : FzO o e) : ∀ xs : List α, frzL (xs.map o) = some (xs.map e)
  | [] => by simp
  | x :: xs => by simp [h x, frzL_O h xs]
theorem fz_L {α : Type} {o : α → OD} {e : α → D} (h : FzO o e) : FzO (oL o) (eLs e) := fun xs => by
  rw [frz_lst, frzL_O h]; rfl
theorem fz_T2 {α β : Type} {o : α → OD} {e : α → D} {o1 : β → OD} {e1 : β → D} (h : FzO o e) (h1 : FzO o1 e1) : FzO (oT2 o o1) (eT2 e e1) := fun x => by
  rw [frz_tup]; simp [h x.1, h1 x.2]
theorem fz_T3 {α β γ : Type} {o : α → OD} {e : α → D} {o1 : β → OD} {e1 : β → D} {o2 : γ → OD} {e2 : γ → D} (h : FzO o e) (h1 : FzO o1 e1) (h2 : FzO o2 e2) : FzO (oT3 o o1 o2) (eT3 e e1 e2) := fun x => by
  rw [frz_tup]; simp [h x.1, h1 x.2.1, h2 x.2.2]
theorem fz_T4 {α β γ δ : Type} {o : α → OD} {e : α → D} {o1 : β → OD} {e1 : β → D} {o2 : γ → OD} {e2 : γ → D} {o3 : δ → OD} {e3 : δ → D} (h : FzO o e) (h1 : FzO o1 e1) (h2 : FzO o2 e2) (h3 : FzO o3 e3) : FzO (oT4 o o1 o2 o3) (eT4 e e1 e2 e3) := fun x => by
  rw [frz_tup]; simp [h x.1, h1 x.2.1, h2 x.2.2.1, h3 x.2.2.2]
theorem fz_Op {α : Type} {o : α → OD} {e : α → D} (h : FzO o e) : FzO (oOp o) (eOp e) := fun x => by
  cases x with
  | none => exact frz_fz
  | some x => exact h x
theorem g_inX {α : Type} [DecidableEq α] {n : Nat} {e : α → D} {r u : RV} {xs : List α} (h : EqE n e) (hn : n ≤ 63) {a : α} {i : Decidable (a ∈ xs)} (hs : (match r.od, u.od with | .fz (.str _), .fz (.str _) => false | _, _ => true) = true) (h1 : r.od.plain = some (e a)) (h2 : u.od.items = some (xs.map e)) : gIn (r, u) = some (.own (.fz (.bl (@decide (a ∈ xs) i)))) := by
  rw [g_in h hn hs h1 h2]
  congr
theorem g_ninX {α : Type} [DecidableEq α] {n : Nat} {e : α → D} {r u : RV} {xs : List α} (h : EqE n e) (hn : n ≤ 63) {a : α} {i : Decidable (a ∉ xs)} (hs : (match r.od, u.od with | .fz (.str _), .fz (.str _) => false | _, _ => true) = true) (h1 : r.od.plain = some (e a)) (h2 : u.od.items = some (xs.map e)) : gNotIn (r, u) = some (.own (.fz (.bl (@decide (a ∉ xs) i)))) := by
  rw [g_nin h hn hs h1 h2]
  congr
theorem g_itemsO {α : Type} {o : List α → OD} {e : α → D} {xs : List α} (h : FzO o (eLs e)) : gItems (.own (o xs)) = some (xs.map e) := by
  show (frz (o xs)).bind (fun d => (OD.fz d).sitems) = _
  rw [h xs]; rfl
theorem pl_O {α : Type} {o : α → OD} {e : α → D} (h : FzO o e) {x : α} : (o x).plain = some (e x) := h x
theorem pa_O {α : Type} {o : α → OD} {e : α → D} (h : FzO o e) {r : RV} {x : α} (hr : r.od = o x) : r.argO = some (.fz (e x)) := by
  have := h x
  have h2 : r.plainArg = some (e x) := by
    unfold RV.plainArg
    rw [hr]
    cases ho : o x with
    | fz d => rw [ho, frz_fz] at this; exact this
    | _ => rw [ho] at this; exact this
  unfold RV.argO
  rw [h2, hr]
  cases ho : o x with
  | ins c fs => rw [ho] at this; unfold frz at this; cases this
  | fzi c fs => rw [ho] at this; unfold frz at this; cases this
  | _ => rfl
theorem ev_frzG {α : Type} (i : Nat) {o : α → OD} {e : α → D} {x : α} {Γ : Ctx} (hf : FzO o e) (h : Γ[i]? = some (some (o x))) (hp : plainO (o x) = true) : Ev true (eFrz i) Γ (.own (.fz (e x))) (Γ.set i (some (.fz (e x)))) := fun env q => .inr ⟨rfl, _, (by
  have g := q.get h
  have f := hf x
  cases ho : o x with
  | fz d => rw [ho] at hp; cases hp
  | un => rw [ho] at hp; cases hp
  | _ => rw [ho] at g f; simp only [eFrz, g, f]), q.set⟩
theorem wm_opt {α β γ : Type} {p : Bool} {f : Env → O β} {q : Option γ} {G : Option γ → Ctx} {k : γ → Option α} {e : α → β} {G' : α → Ctx} (h : ∀ v, q = some v → Wm p f (G (some v)) (k v) e G') : Wm p f (G q) (q.bind k) e G' := by
  cases q with
  | none => exact fun x z => by cases z
  | some v => exact h v rfl
def lcF {α β σ : Type} (F : α → σ → Option (β × σ)) (xs : List α) (s : σ) : Option (List β × σ) := if xs.length < 10000000 then lcE F xs s else none
theorem lcF_r {α β σ : Type} {F : α → σ → Option (β × σ)} {xs : List α} {s : σ} {z : List β × σ} (h : lcF F xs s = some z) : lcE F xs s = some z := by
  unfold lcF at h
  split at h
  · exact h
  · cases h
theorem lcF_l {α β σ : Type} {F : α → σ → Option (β × σ)} {xs : List α} {s : σ} {z : List β × σ} (h : lcF F xs s = some z) : xs.length < 10000000 := by
  unfold lcF at h
  split at h
  · assumption
  · cases h
/-- by what holds at each turn -/
theorem lcF_inv {α β σ : Type} {P : Nat → List β → σ → Prop} {F : α → σ → Option (β × σ)} (xs : List α) (s0 : σ) (hl : xs.length < 10000000) (h0 : P 0 [] s0) (h : ∀ i x ys s, xs[i]? = some x → P i ys s → ∃ y s', F x s = some (y, s') ∧ P (i + 1) (ys ++ [y]) s') : ∃ ys s, lcF F xs s0 = some (ys, s) ∧ P xs.length ys s := by
  have key : ∀ (xs : List α) (k : Nat) (acc : List β) (s0 : σ), P k acc s0 → (∀ i x ys s, xs[i]? = some x → P (k + i) ys s → ∃ y s', F x s = some (y, s') ∧ P (k + i + 1) (ys ++ [y]) s') → ∃ ys s, lcE F xs s0 = some (ys, s) ∧ P (k + xs.length) (acc ++ ys) s := by
    intro xs
    induction xs with
    | nil => intro k acc s0 h0 _; exact ⟨[], s0, rfl, by simpa using h0⟩
    | cons x xs ih =>
      intro k acc s0 h0 h
      obtain ⟨y, s1, e1, h1⟩ := h 0 x acc s0 rfl h0
      obtain ⟨ys, s2, e2, h2⟩ := ih (k + 1) (acc ++ [y]) s1 h1 fun i z ws s hi hp => by
        have := h (i + 1) z ws s (by simpa using hi) (by rw [show k + (i + 1) = k + 1 + i by omega]; exact hp)
        rw [show k + (i + 1) + 1 = k + 1 + i + 1 by omega] at this
        exact this
      refine ⟨y :: ys, s2, by simp only [lcE, e1, Option.bind_some, e2], ?_⟩
      rw [show k + (x :: xs).length = k + 1 + xs.length by simp; omega, show acc ++ y :: ys = acc ++ [y] ++ ys by simp]
      exact h2
  obtain ⟨ys, s, e, hp⟩ := key xs 0 [] s0 h0 fun i x ys s hi hp => by
    rw [Nat.zero_add] at hp ⊢; exact h i x ys s hi hp
  exact ⟨ys, s, by unfold lcF; rw [if_pos hl, e], by simpa using hp⟩
end
end Tl
namespace Tl
open PySem PySem.Spec L2
/-! a, b = x, y of plain values: a swap -/
def sPar (i j : Nat) (f : Env → O (List RV)) : Env → SO := fun env => match f env with
  | .ok [.own (.fz a), .own (.fz b)] => if i < env.length ∧ j < env.length then .nx ((env.set i (.fz a)).set j (.fz b)) else .bad
  | _ => .bad
theorem s_par {X : Cx} {W : WX} {io : List Nat} (i j : Nat) {x y : Str} {a b : Expr} {f : Env → O (List RV)} {pos px py pt pt2 : Pos} {kt k2} (hc : X.calm = true) (hN : X.N.Nodup) (ha : PAr X W [a, b] f) (hi : X.N[i]? = some x := by rfl) (hj : X.N[j]? = some y := by rfl) (hij : i ≠ j := by decide)
    (hx : X.env.scope.names.lookup x = some .local := by rfl) (hy : X.env.scope.names.lookup y = some .local := by rfl) (hio : io.contains i = false := by rfl) (hjo : io.contains j = false := by rfl)
    (hw : swappedStores [.Tuple [.Name x px, .Name y py] kt pt] (.Tuple [a, b] k2 pt2) X.env = pure (some [x, y]) := by first | rfl | (simp [swappedStores]; done))
    (hs : swapsWithSole [.Tuple [.Name x px, .Name y py] kt pt] (.Tuple [a, b] k2 pt2) pos.line X.env = pure false := by rfl) :
    PSr X W io (.Assign [.Tuple [.Name x px, .Name y py] kt pt] (.Tuple [a, b] k2 pt2) pos) (sPar i j f) := by
  obtain ⟨t, h, k⟩ := ha
  refine ⟨_, ps_par hc hN hi hj hij hx hy h hw hs, fun B H F σ env D S q => k B H F σ env _ S ?_⟩
  dsimp only [sPar] at q
  split at q
  · rename_i da db e
    rw [e]
    split at q
    · rename_i hl
      intro vs B' H' G r s n fr
      cases r with
      | @cons G1 G2 v _ us _ r1 r2 =>
        cases r2 with
        | @cons G3 G4 w _ us' _ r3 r4 =>
          cases r4
          have r1 : Own X.K X.mg B' H' G1 v (.fz da) := r1
          have r3 : Own X.K X.mg B' H' G3 w (.fz db) := r3
          cases r1 with
          | fz r1 =>
            cases r3 with
            | fz r3 =>
              have S1 := S.pure s fr
              obtain ⟨F1, h1, h2, h3⟩ := store_ok (io := io) S1.sl s (Own.fz r1) S1.nd hl.1 hio
              obtain ⟨F2, g1, g2, g3⟩ := store_ok (io := io) h1.sl h1.sub (Own.fz r3) h1.nd (by simpa using hl.2) hjo
              exact ⟨v, w, rfl, q _ _ _ _ g1 ((Frm.wide0 fr).trans (h2.trans g2)) (h3.trans g3)⟩
    · exact q.elim
  · exact q.elim
theorem sk_par {T : Type} {P : T → SO → Prop} {rest : Env → SO} {Γ Γ1 Γ2 : Ctx} {t : Option T} (i j : Nat) {a b : D} {f : Env → O (List RV)} (h : Ev false f Γ [.own (.fz a), .own (.fz b)] Γ1) {y1 y2 : Option OD} (hi : Γ1[i]? = some y1) (hj : Γ1[j]? = some y2)
    (hg : (Γ1.set i (some (.fz a))).set j (some (.fz b)) = Γ2) (k : Sk P rest Γ2 t) : Sk P (sSeq (sPar i j f) rest) Γ t := fun x q env fit => by
  subst hg
  rcases h env fit with ⟨e1, e2⟩ | ⟨e0, _⟩
  · have hi := (List.getElem?_eq_some_iff.mp hi).1
    have hj := (List.getElem?_eq_some_iff.mp hj).1
    have l : Γ1.length = env.length := e2.len.symm
    have key : sPar i j f env = .nx ((env.set i (.fz a)).set j (.fz b)) := by
      simp only [sPar, e1]
      rw [if_pos ⟨by omega, by omega⟩]
    have := k x q _ ((e2.set (i := i) (o := .fz a)).set (i := j) (o := .fz b))
    simpa only [sSeq, key] using this
  · cases e0
end Tl
/-! instances: attributes read and stored, places within places -/
namespace Tl
open PySem PySem.Spec L2

/-- the class c of the text -/
def ClsT (K : PySem.W.Frag) (mg : Str → Option Value) (c : Str) : Prop := ∃ C, mg c = some (.ref C) ∧ Cls K C
/-- no class of c has the name f -/
def NoA (K : PySem.W.Frag) (mg : Str → Option Value) (c f : Str) : Prop := ∃ C, mg c = some (.ref C) ∧ NoAttr K C f
def putD (f : Str) (o : OD) : List (Str × OD) → List (Str × OD)
  | [] => [(f, o)]
  | (g, x) :: r => if g = f then (g, o) :: r else (g, x) :: putD f o r
def gAttr (c f : Str) (r : RV) : Option RV := match r.od with
  | .ins c' fs => if c' = c then (fs.lookup f).map r.part else none
  | .fzi c' fs => if c' = c then (fs.lookup f).map r.part else none
  | _ => none
section
variable {K : PySem.W.Frag} {mg : Str → Option Value} {B H : Hp} {F : List Addr}
theorem lookup_names {α β : Type} {m : Str} : ∀ {fs : List (Str × α)} {os : List (Str × β)}, fs.map (·.1) = os.map (·.1) → os.lookup m = none → fs.lookup m = none
  | [], [], _, _ => rfl
  | [], _ :: _, h, _ => by simp at h
  | _ :: _, [], h, _ => by simp at h
  | (x, v) :: fs, (y, o) :: os, h, e => by
    simp only [List.map_cons, List.cons.injEq] at h
    obtain ⟨h1, h2⟩ := h
    subst h1
    rw [List.lookup_cons] at e ⊢
    cases hb : (m == x) with
    | true => rw [hb] at e; cases e
    | false => rw [hb] at e; exact lookup_names h2 e
theorem lookup_own {f : Str} {o : OD} : ∀ {fs : List (Str × V)} {os : List (Str × OD)} {F : List Addr}, fs.map (·.1) = os.map (·.1) → OwnL K mg B H F (fs.map (·.2)) (os.map (·.2)) → os.lookup f = some o →
    ∃ v G Fr, fs.lookup f = some v ∧ Own K mg B H G v o ∧ F.Perm (G ++ Fr) ∧ (∀ B' H' G' v' o', Same B B' → (∀ a ∈ Fr, (∀ u, H a = some u → H' a = some u) ∧ B' a = none) → Own K mg B' H' G' v' o' → ∃ F', OwnL K mg B' H' F' ((putF f v' fs).map (·.2)) ((putD f o' os).map (·.2)) ∧ F'.Perm (G' ++ Fr))
  | [], [], _, _, _, e => by cases e
  | [], _ :: _, _, h, _, _ => by simp at h
  | _ :: _, [], _, h, _, _ => by simp at h
  | (x, v) :: fs, (y, o1) :: os, F, h, r, e => by
    simp only [List.map_cons, List.cons.injEq] at h
    obtain ⟨h1, h2⟩ := h
    subst h1
    simp only [List.map_cons] at r
    cases r with
    | @cons F1 G1 _ _ _ _ r1 rt =>
      rw [List.lookup_cons] at e ⊢
      cases hb : (f == x) with
      | true =>
        rw [hb] at e; cases e
        have ef : x = f := (beq_iff_eq.mp hb).symm
        refine ⟨v, F1, G1, rfl, r1, List.Perm.refl _, fun B' H' G' v' o' s k r' => ?_⟩
        unfold putF putD
        rw [if_pos ef, if_pos ef]
        exact ⟨G' ++ G1, .cons r' (rt.mono s k), List.Perm.refl _⟩
      | false =>
        rw [hb] at e
        have ef : ¬ x = f := fun z => by rw [z, beq_self_eq_true] at hb; cases hb
        obtain ⟨v2, G, Fr, a1, a2, a3, a4⟩ := lookup_own h2 rt e
        have pm : ∀ {A B C D E : List Addr}, B.Perm (C ++ D) → (A ++ B).Perm (C ++ (A ++ D)) := fun {A B C D E} z => by
          refine (z.append_left A).trans ?_
          rw [← List.append_assoc, ← List.append_assoc]
          exact (List.perm_append_comm).append_right D
        refine ⟨v2, G, F1 ++ Fr, a1, a2, pm (E := []) a3, fun B' H' G' v' o' s k r' => ?_⟩
        obtain ⟨F', b1, b2⟩ := a4 B' H' G' v' o' s (fun a m => k a (List.mem_append_right _ m)) r'
        unfold putF putD
        rw [if_neg ef, if_neg ef]
        exact ⟨F1 ++ F', .cons (r1.mono s fun a m => k a (List.mem_append_left _ m)) b1, pm (E := []) b2⟩
theorem putF_same {f : Str} {v : V} : ∀ {fs : List (Str × V)}, fs.lookup f = some v → putF f v fs = fs
  | [], h => by cases h
  | (x, w) :: fs, h => by
    rw [List.lookup_cons] at h
    unfold putF
    cases hb : (f == x) with
    | true =>
      rw [hb] at h; cases h
      rw [if_pos (beq_iff_eq.mp hb).symm]
    | false =>
      rw [hb] at h
      have ne : ¬ x = f := fun z => by rw [z, beq_self_eq_true] at hb; cases hb
      rw [if_neg ne, putF_same h]
theorem putD_names {f : Str} {v : V} {o : OD} : ∀ {fs : List (Str × V)} {os : List (Str × OD)}, fs.map (·.1) = os.map (·.1) → (putF f v fs).map (·.1) = (putD f o os).map (·.1)
  | [], [], _ => rfl
  | [], _ :: _, h => by simp at h
  | _ :: _, [], h => by simp at h
  | (x, w) :: fs, (y, p) :: os, h => by
    simp only [List.map_cons, List.cons.injEq] at h
    obtain ⟨h1, h2⟩ := h
    subst h1
    unfold putF putD
    by_cases e : x = f
    · rw [if_pos e, if_pos e]; simp only [List.map_cons, h2]
    · rw [if_neg e, if_neg e]; simp only [List.map_cons, putD_names (f := f) (v := v) (o := o) h2]
/-- a field stored, there or not -/
theorem putD_own {f : Str} {B' H' : Hp} {G' : List Addr} {v' : V} {o' : OD} (s : Same B B') : ∀ {fs : List (Str × V)} {os : List (Str × OD)} {F : List Addr}, fs.map (·.1) = os.map (·.1) → OwnL K mg B H F (fs.map (·.2)) (os.map (·.2)) → (∀ a ∈ F, (∀ u, H a = some u → H' a = some u) ∧ B' a = none) → Own K mg B' H' G' v' o' →
    ∃ F' Fr, OwnL K mg B' H' F' ((putF f v' fs).map (·.2)) ((putD f o' os).map (·.2)) ∧ F'.Perm (G' ++ Fr) ∧ Fr.Sublist F
  | [], [], F, _, h, k, r => ⟨G' ++ [], [], .cons r .nil, List.Perm.refl _, List.nil_sublist _⟩
  | [], _ :: _, _, h, _, _, _ => by simp at h
  | _ :: _, [], _, h, _, _, _ => by simp at h
  | (x, v) :: fs, (y, o1) :: os, F, h, r, k, r' => by
    simp only [List.map_cons, List.cons.injEq] at h
    obtain ⟨h1, h2⟩ := h
    subst h1
    simp only [List.map_cons] at r
    cases r with
    | @cons F1 G1 _ _ _ _ r1 rt =>
      unfold putF putD
      by_cases ef : x = f
      · rw [if_pos ef, if_pos ef]
        exact ⟨G' ++ G1, G1, .cons r' (rt.mono s fun a m => k a (List.mem_append_right _ m)), List.Perm.refl _, List.sublist_append_right _ _⟩
      · rw [if_neg ef, if_neg ef]
        obtain ⟨F', Fr, b1, b2, b3⟩ := putD_own (f := f) s h2 rt (fun a m => k a (List.mem_append_right _ m)) r'
        refine ⟨F1 ++ F', F1 ++ Fr, .cons (r1.mono s fun a m => k a (List.mem_append_left _ m)) b1, ?_, (List.Sublist.refl _).append b3⟩
        refine (b2.append_left F1).trans ?_
        rw [← List.append_assoc, ← List.append_assoc]
        exact (List.perm_append_comm).append_right Fr
end
section
variable {X : Cx} {W : WX} {io : List Nat} {a b c e o : Expr} {es rest : List Expr} {f fa fb fc : Env → O RV} {pos : Pos}
theorem cls_eq {mg : Str → Option Value} {c : Str} {C C' : Addr} (h : mg c = some (.ref C)) (h' : mg c = some (.ref C')) : C = C' := by
  rw [h] at h'; cases h'; rfl
/-! ### e.f -/
theorem r_attr (cn fn : Str) (ha : PEr X W e fa) (hc : ClsT X.K X.mg cn) (hn : NoA X.K X.mg cn fn) (hb : attributeBase e fn X.env (eval e X.env) = eval e X.env := by rfl) : PEr X W (.Attribute e fn pos) (e1 (gAttr cn fn) fa) := by
  obtain ⟨t, ha, ka⟩ := ha
  obtain ⟨C, c1, c2⟩ := hc
  obtain ⟨C', n1, n2⟩ := hn
  cases cls_eq c1 n1
  refine ⟨_, pe_fld ha hb, ka.map (r := fun (x : V) (H : Hp) (Q : VK) => ∃ a C dx fs v, x = .ref a ∧ H a = some (.ins C dx fs) ∧ Cls X.K C ∧ NoAttr X.K C fn ∧ fs.lookup fn = some v ∧ Q v H) fun B H G v r Q s h n q => ?_⟩
  dsimp only [gAttr] at q
  obtain ⟨G', k⟩ := rv_own h
  split at q
  · rename_i c' fs er
    split at q
    · rename_i ec
      subst ec
      cases el : fs.lookup fn with
      | none => rw [el] at q; exact q.elim
      | some o1 =>
        rw [el] at q
        rw [er] at k
        cases k with
        | @ins p C2 dx vs F _ _ h1 b1 h2 b2 g ke r1 =>
          cases cls_eq c1 g
          obtain ⟨w, Gw, Fr, d1, d2, d3, _⟩ := lookup_own ke r1 el
          refine ⟨p, C, dx, vs, w, rfl, h1, c2, n2, d1, VPost.part q s n h fun F2 k2 => ?_⟩
          rw [er] at k2
          cases k2 with
          | ins h1' b1' h2' b2' g' ke' r1' =>
            rw [h1] at h1'; cases h1'
            obtain ⟨w', Gw', Fr', d1', d2', d3', _⟩ := lookup_own ke' r1' el
            rw [d1] at d1'; cases d1'
            have inF : ∀ a, a ∈ Gw' → a ∈ _ := fun a m => d3'.mem_iff.mpr (List.mem_append_left _ m)
            exact ⟨Gw', d2', fun a m => List.mem_cons_of_mem _ (List.mem_cons_of_mem _ (inF a m)), fun nd => (List.nodup_append.mp (d3'.nodup_iff.mp (List.nodup_cons.mp (List.nodup_cons.mp nd).2).2)).1⟩
    · exact q.elim
  · rename_i c' fs er
    split at q
    · rename_i ec
      subst ec
      cases el : fs.lookup fn with
      | none => rw [el] at q; exact q.elim
      | some o1 =>
        rw [el] at q
        rw [er] at k
        cases k with
        | @fzi p C2 dx vs _ _ h1 h2 g ke r1 =>
          cases cls_eq c1 g
          obtain ⟨w, Gw, Fr, d1, d2, d3, _⟩ := lookup_own ke r1 el
          have gw : Gw = [] := (List.append_eq_nil_iff.mp (List.nil_perm.mp d3)).1
          subst gw
          refine ⟨p, C, dx, vs, w, rfl, s _ _ h1, c2, n2, d1, VPost.part q s n h fun F2 _ => ⟨[], d2, (fun _ z => nomatch z), fun _ => List.nodup_nil⟩⟩
    · exact q.elim
  · exact q.elim
/-! ### places within places -/
theorem Plug.later {K : PySem.W.Frag} {mg : Str → Option Value} {B H B1 H1 : Hp} {Fr : List Addr} {σ : St} {put : OD → Env} {v : V} (pl : Plug K mg B H Fr σ put v) (s : Same B B1) (k : ∀ a ∈ Fr, ∀ u, H a = some u → H1 a = some u) : Plug K mg B1 H1 Fr σ put v :=
  fun B' H' Fo' o' sb kk r => pl B' H' Fo' o' (s.trans sb) (fun a m => ⟨fun u e => (kk a m).1 u (k a m u e), (kk a m).2⟩) r
/-- a part's place -/
theorem Plug.part {K : PySem.W.Frag} {mg : Str → Option Value} {B H : Hp} {Fr Fo Fc Fs : List Addr} {σ : St} {put : OD → Env} {v w : V} {mk : OD → OD} (pl : Plug K mg B H Fr σ put v) (th : ∀ a ∈ Fo ++ Fr, B a = none ∧ ∃ u, H a = some u) (pm : Fo.Perm (Fc ++ Fs)) (nd : (Fo ++ Fr).Nodup)
    (hm : ∀ B' H' F' o', Same B B' → (∀ a ∈ Fs, (∀ u, H a = some u → H' a = some u) ∧ B' a = none) → Own K mg B' H' F' w o' → ∃ Fo', Own K mg B' H' Fo' v (mk o') ∧ Fo'.Perm (F' ++ Fs)) : Plug K mg B H (Fs ++ Fr) σ (fun o' => put (mk o')) w := by
  intro B' H' Fo' o' sb k r
  obtain ⟨F1, a1, a2⟩ := hm B' H' Fo' o' sb (fun a m => k a (List.mem_append_left _ m)) r
  obtain ⟨F2, b1, b2⟩ := pl B' H' F1 (mk o') sb (fun a m => k a (List.mem_append_right _ m)) a1
  refine ⟨F2, b1, b2.trans ?_⟩
  rw [← List.append_assoc]
  exact a2.append_right Fr
def noUn (o : Option OD) : Option OD := match o with
  | some .un => none
  | o => o
theorem noUn_e {o : Option OD} {x : OD} (h : noUn o = some x) : o = some x := by
  unfold noUn at h
  split at h
  · cases h
  · exact h
def aGet (cn fn : Str) (get : Env → Option OD) : Env → Option OD := fun env => match get env with
  | some (.ins c fs) => if c = cn then noUn (fs.lookup fn) else none
  | _ => none
def aPut (fn : Str) (get : Env → Option OD) (put : Env → OD → Env) : Env → OD → Env := fun env o => match get env with
  | some (.ins c fs) => put env (.ins c (putD fn o fs))
  | _ => env
theorem p_attr (cn fn : Str) {get : Env → Option OD} {put : Env → OD → Env} (hp : PLr X e get put) (hc : ClsT X.K X.mg cn) (hn : NoA X.K X.mg cn fn) (hb : attributeBase e fn X.env (eval e X.env) = eval e X.env := by rfl) :
    PLr X (.Attribute e fn pos) (aGet cn fn get) (aPut fn get put) := by
  obtain ⟨t, ha, ka⟩ := hp
  obtain ⟨C, c1, c2⟩ := hc
  obtain ⟨C', n1, n2⟩ := hn
  cases cls_eq c1 n1
  refine ⟨_, pe_fld ha hb, fun B H F σ env o Q S eg q => ?_⟩
  unfold aGet at eg
  split at eg
  · rename_i c fs e0
    split at eg
    · rename_i ec
      subst ec
      have el := noUn_e eg
      refine ka B H F σ env _ _ S e0 fun v B1 H1 Fo Fr f1 s1 pm ho pl => ?_
      have S1 := S.pure s1 f1
      cases ho with
      | @ins p C2 dx vs F0 _ _ h1 b1 h2 b2 g ke r1 =>
        cases cls_eq c1 g
        obtain ⟨w, Gw, Fs, d1, d2, d3, d4⟩ := lookup_own ke r1 el
        refine ⟨p, C, dx, vs, w, rfl, h1, c2, n2, d1, ?_⟩
        have th : ∀ a ∈ (p :: dx :: F0) ++ Fr, B1 a = none ∧ ∃ u, H1 a = some u := fun a m => S1.sl.there a (pm.mem_iff.mpr m)
        have pm2 : (p :: dx :: F0).Perm (Gw ++ (p :: dx :: Fs)) := List.perm_iff_count.mpr fun z => by
          have e1 := d3.count_eq z
          simp only [List.count_append, List.count_cons] at e1 ⊢
          omega
        have nd := pm.nodup_iff.mp S1.nd
        have P := Plug.part (mk := fun o' => .ins c (putD fn o' fs)) pl th pm2 nd fun B' H' F' o' sb k r => by
          have kp := (k p (List.mem_cons_self)).1 _ h1
          have kd := (k dx (List.mem_cons_of_mem _ List.mem_cons_self)).1 _ h2
          obtain ⟨F2, z1, z2⟩ := d4 B' H' F' w o' sb (fun a m => k a (List.mem_cons_of_mem _ (List.mem_cons_of_mem _ m))) r
          rw [putF_same d1] at z1
          have kn := putD_names (f := fn) (v := w) (o := o') ke
          rw [putF_same d1] at kn
          refine ⟨_, .ins kp (k p List.mem_cons_self).2 kd (k dx (List.mem_cons_of_mem _ List.mem_cons_self)).2 g kn z1, List.perm_iff_count.mpr fun z => ?_⟩
          have e1 := z2.count_eq z
          simp only [List.count_append, List.count_cons] at e1 ⊢
          omega
        refine q w B1 H1 Gw ((p :: dx :: Fs) ++ Fr) f1 s1 (pm.trans ?_) d2 ?_
        · rw [← List.append_assoc]; exact pm2.append_right Fr
        · intro B' H' Fo' o' sb k r
          have := P B' H' Fo' o' sb k r
          unfold aPut
          rw [e0]
          exact this
    · cases eg
  · cases eg
/-! place[k] as a place -/
def xGet (get : Env → Option OD) (fk : Env → O RV) : Env → Option OD := fun env => match get env with
  | some (.lst os) => match fk env with
    | .ok r => match r.od with
      | .fz (.int k) => match ixN os.length k with
        | some j => noUn os[j]?
        | none => none
      | _ => none
    | _ => none
  | some (.tup os) => match fk env with
    | .ok r => match r.od with
      | .fz (.int k) => match ixN os.length k with
        | some j => noUn os[j]?
        | none => none
      | _ => none
    | _ => none
  | _ => none
def xPut (get : Env → Option OD) (put : Env → OD → Env) (fk : Env → O RV) : Env → OD → Env := fun env o => match get env with
  | some (.lst os) => match fk env with
    | .ok r => match r.od with
      | .fz (.int k) => match ixN os.length k with
        | some j => put env (.lst (os.set j o))
        | none => env
      | _ => env
    | _ => env
  | some (.tup os) => match fk env with
    | .ok r => match r.od with
      | .fz (.int k) => match ixN os.length k with
        | some j => put env (.tup (os.set j o))
        | none => env
      | _ => env
    | _ => env
  | _ => env
theorem OwnL.take {K : PySem.W.Frag} {mg : Str → Option Value} {B H : Hp} : ∀ {vs : List V} {os : List OD} {F : List Addr} {j : Nat} {o : OD}, OwnL K mg B H F vs os → os[j]? = some o →
    ∃ v G Fr, vs[j]? = some v ∧ Own K mg B H G v o ∧ F.Perm (G ++ Fr) ∧ (∀ B' H' G' o', Same B B' → (∀ a ∈ Fr, (∀ u, H a = some u → H' a = some u) ∧ B' a = none) → Own K mg B' H' G' v o' → ∃ F', OwnL K mg B' H' F' vs (os.set j o') ∧ F'.Perm (G' ++ Fr))
  | [], _, _, _, _, .nil, e => by simp at e
  | v :: vs, o1 :: os, _, 0, o, .cons (F := F1) (G := G1) r1 rt, e => by
    simp at e; subst e
    exact ⟨v, F1, G1, rfl, r1, List.Perm.refl _, fun B' H' G' o' s k r' => ⟨G' ++ G1, .cons r' (rt.mono s k), List.Perm.refl _⟩⟩
  | v :: vs, o1 :: os, _, j + 1, o, .cons (F := F1) (G := G1) r1 rt, e => by
    obtain ⟨w, G, Fr, a1, a2, a3, a4⟩ := OwnL.take (j := j) rt (by simpa using e)
    refine ⟨w, G, F1 ++ Fr, by simpa using a1, a2, List.perm_iff_count.mpr fun z => ?_, fun B' H' G' o' s k r' => ?_⟩
    · have e1 := a3.count_eq z
      simp only [List.count_append] at e1 ⊢
      omega
    · obtain ⟨F', b1, b2⟩ := a4 B' H' G' o' s (fun a m => k a (List.mem_append_right _ m)) r'
      refine ⟨F1 ++ F', .cons (r1.mono s fun a m => k a (List.mem_append_left _ m)) b1, List.perm_iff_count.mpr fun z => ?_⟩
      have e1 := b2.count_eq z
      simp only [List.count_append] at e1 ⊢
      omega
theorem p_ix {get : Env → Option OD} {put : Env → OD → Env} {fk : Env → O RV} (hp : PLr X a get put) (hk : PEr X W b fk) (hs : PlainIx b := by exact fun _ _ => rfl) : PLr X (.Subscript a b pos) (xGet get fk) (xPut get put fk) := by
  obtain ⟨ta, ha, ka⟩ := hp
  obtain ⟨tb, hb, kb⟩ := hk
  refine ⟨_, pe_ix ix_seq ha hb hs, fun B H F σ env o Q S eg q => ?_⟩
  unfold xGet at eg
  split at eg
  · rename_i os e0
    split at eg
    · rename_i rk e1
      split at eg
      · rename_i k ek
        split at eg
        · rename_i j ej
          have el := noUn_e eg
          refine ka B H F σ env _ _ S e0 fun vb B1 H1 Fo Fr f1 s1 pm ho pl => ?_
          have S1 : Sta X.K X.mg B1 H1 F σ env := S.pure s1 f1
          refine kb B1 H1 F σ env _ S1 ?_
          rw [e1]
          intro vk B2 H2 G2 r2 s2 n2 f2
          have zk := rv_fz r2 ek
          cases zk
          have S2 := S1.pure s2 f2
          have ho2 := f2.own ho fun _ _ z => nomatch z
          have pl2 := pl.later f2.sB (fun a m u e => f2.keep a u e (by simp))
          have nd := pm.nodup_iff.mp S2.nd
          cases ho2 with
          | @lst p vs F0 _ hp hb0 hr =>
            obtain ⟨w, Gw, Fs, d1, d2, d3, d4⟩ := hr.take el
            refine .inl ⟨p, vs, k, w, rfl, rfl, SqL.of hp, by unfold atI; rw [hr.length, ej]; exact d1, ?_⟩
            have th : ∀ a ∈ (p :: F0) ++ Fr, B2 a = none ∧ ∃ u, H2 a = some u := fun a m => S2.sl.there a (pm.mem_iff.mpr m)
            have pm2 : (p :: F0).Perm (Gw ++ (p :: Fs)) := List.perm_iff_count.mpr fun z => by
              have e1 := d3.count_eq z
              simp only [List.count_append, List.count_cons] at e1 ⊢
              omega
            have P := Plug.part (mk := fun o' => .lst (os.set j o')) pl2 th pm2 nd fun B' H' F' o' sb k r => by
              obtain ⟨F2, z1, z2⟩ := d4 B' H' F' o' sb (fun a m => k a (List.mem_cons_of_mem _ m)) r
              refine ⟨_, .lst ((k p List.mem_cons_self).1 _ hp) (k p List.mem_cons_self).2 z1, List.perm_iff_count.mpr fun z => ?_⟩
              have e1 := z2.count_eq z
              simp only [List.count_append, List.count_cons] at e1 ⊢
              omega
            have f12 : Frm B H [] B2 H2 [] := f1.trans (f2.wide (F2 := []) (fun _ z => nomatch z) fun c m => nomatch m)
            refine q w B2 H2 Gw ((p :: Fs) ++ Fr) f12 s2 (pm.trans ?_) d2 ?_
            · rw [← List.append_assoc]; exact pm2.append_right Fr
            · intro B' H' Fo' o' sb k' r
              have := P B' H' Fo' o' sb k' r
              unfold xPut
              simp only [e0, e1, ek, ej]
              exact this
        · cases eg
      · cases eg
    · cases eg
  · rename_i os e0
    split at eg
    · rename_i rk e1
      split at eg
      · rename_i k ek
        split at eg
        · rename_i j ej
          have el := noUn_e eg
          refine ka B H F σ env _ _ S e0 fun vb B1 H1 Fo Fr f1 s1 pm ho pl => ?_
          have S1 : Sta X.K X.mg B1 H1 F σ env := S.pure s1 f1
          refine kb B1 H1 F σ env _ S1 ?_
          rw [e1]
          intro vk B2 H2 G2 r2 s2 n2 f2
          have zk := rv_fz r2 ek
          cases zk
          have S2 := S1.pure s2 f2
          have ho2 := f2.own ho fun _ _ z => nomatch z
          have pl2 := pl.later f2.sB (fun a m u e => f2.keep a u e (by simp))
          have nd := pm.nodup_iff.mp S2.nd
          cases ho2 with
          | @tup p vs _ _ hp hr =>
            obtain ⟨w, Gw, Fs, d1, d2, d3, d4⟩ := hr.take el
            refine .inr (.inl ⟨p, vs, k, w, rfl, rfl, Same.seqT s2 hp, by unfold atI; rw [hr.length, ej]; exact d1, ?_⟩)
            have th : ∀ a ∈ Fo ++ Fr, B2 a = none ∧ ∃ u, H2 a = some u := fun a m => S2.sl.there a (pm.mem_iff.mpr m)
            have P := Plug.part (mk := fun o' => .tup (os.set j o')) pl2 th d3 nd fun B' H' F' o' sb k r => by
              obtain ⟨F2, z1, z2⟩ := d4 B' H' F' o' sb (fun a m => k a m) r
              exact ⟨_, .tup (Same.seqT sb hp) z1, z2⟩
            have f12 : Frm B H [] B2 H2 [] := f1.trans (f2.wide (F2 := []) (fun _ z => nomatch z) fun c m => nomatch m)
            refine q w B2 H2 Gw (Fs ++ Fr) f12 s2 (pm.trans ?_) d2 ?_
            · rw [← List.append_assoc]; exact d3.append_right Fr
            · intro B' H' Fo' o' sb k' r
              have := P B' H' Fo' o' sb k' r
              unfold xPut
              simp only [e0, e1, ek, ej]
              exact this
        · cases eg
      · cases eg
    · cases eg
  · cases eg
/-! ### o.f = e -/
def sFldT (cn fn : Str) (get : Env → Option OD) (put : Env → OD → Env) (fv : Env → O RV) : Env → SO := sE fv fun r env => match r with
  | .own v => match get env with
    | some (.ins c fs) => if c = cn ∧ fs.length < 1000 then .nx (put env (.ins c (putD fn v fs))) else .bad
    | _ => .bad
  | .view _ => .bad
/-- a field's store, the instance put back -/
theorem fld_back {K : PySem.W.Frag} {mg : Str → Option Value} {B1 H1 : Hp} {F' G Fo Fr : List Addr} {σ : St} {e1 : Env} {put : OD → Env} {p C dx : Addr} {c fn : Str} {vs : List (Str × V)} {fs : List (Str × OD)} {y : V} {v : OD} (S1 : Sta K mg B1 H1 F' σ e1) (pm : F'.Perm (Fo ++ Fr)) (ho : Own K mg B1 H1 Fo (.ref p) (.ins c fs)) (hp : H1 p = some (.ins C dx vs)) (pl : Plug K mg B1 H1 Fr σ put (.ref p)) (r' : Own K mg B1 H1 G y v) (nd : (G ++ F').Nodup) :
    ∃ F2, Sta K mg B1 (upd H1 p (.ins C dx (putF fn y vs))) F2 σ (put (.ins c (putD fn v fs))) ∧ Frm B1 H1 (G ++ F') B1 (upd H1 p (.ins C dx (putF fn y vs))) F2 := by
  have thF : ∀ a ∈ Fo ++ Fr, B1 a = none ∧ ∃ u, H1 a = some u := fun a m => S1.sl.there a (pm.mem_iff.mpr m)
  have nd2 : (G ++ (Fo ++ Fr)).Nodup := (pm.append_left G).nodup_iff.mp nd
  cases ho with
  | @ins _ C2 dx2 vs2 F0 _ _ h1 b1 h2 b2 g ker r1 =>
    rw [hp] at h1; cases h1
    have nd3 := List.nodup_append.mp nd2
    have nd4 := List.nodup_append.mp nd3.2.1
    have npF0 : p ∉ F0 := fun m => (List.nodup_cons.mp nd4.1).1 (List.mem_cons_of_mem _ m)
    have npdx : dx ≠ p := fun z => (List.nodup_cons.mp nd4.1).1 (by rw [z]; exact List.mem_cons_self)
    have npG : p ∉ G := fun m => nd3.2.2 p m p (List.mem_append_left _ List.mem_cons_self) rfl
    have ndF0 : dx ∉ F0 := (List.nodup_cons.mp (List.nodup_cons.mp nd4.1).2).1
    have nF0 : F0.Nodup := (List.nodup_cons.mp (List.nodup_cons.mp nd4.1).2).2
    have up : ∀ a, a ≠ p → ∀ u, H1 a = some u → upd H1 p (.ins C dx (putF fn y vs)) a = some u := fun a ne u e => by rw [upd_ne ne]; exact e
    obtain ⟨F1, Fs, k1, k2, k3⟩ := putD_own (f := fn) (o' := v) (v' := y) (Same.refl B1) ker r1 (H' := upd H1 p (.ins C dx (putF fn y vs))) (fun a m => ⟨fun u e => up a (fun z => npF0 (z ▸ m)) u e, (thF a (List.mem_append_left _ (List.mem_cons_of_mem _ (List.mem_cons_of_mem _ m)))).1⟩) (own_upd r' npG)
    have inF1 : ∀ a, a ∈ F1 → a ∈ G ∨ a ∈ F0 := fun a m => (List.mem_append.mp (k2.mem_iff.mp m)).imp id fun z => k3.subset z
    have nF1 : F1.Nodup := k2.nodup_iff.mpr (List.nodup_append.mpr ⟨nd3.1, nF0.sublist k3, fun a ha b hb e => by
      subst e
      exact nd3.2.2 a ha a (List.mem_append_left _ (List.mem_cons_of_mem _ (List.mem_cons_of_mem _ (k3.subset hb)))) rfl⟩)
    obtain ⟨F2, sl2, p2⟩ := pl B1 (upd H1 p (.ins C dx (putF fn y vs))) (p :: dx :: F1) (.ins c (putD fn v fs)) (Same.refl _) (fun a m => by
      have ne : a ≠ p := fun z => nd4.2.2 p List.mem_cons_self a m z.symm
      exact ⟨fun u e => up a ne u e, (thF a (List.mem_append_right _ m)).1⟩) (.ins upd_same b1 (up dx npdx _ h2) b2 g (putD_names ker) k1)
    have nF2 : F2.Nodup := by
      refine p2.nodup_iff.mpr (List.nodup_append.mpr ⟨?_, nd4.2.1, ?_⟩)
      · refine List.nodup_cons.mpr ⟨fun m => ?_, List.nodup_cons.mpr ⟨fun m => ?_, nF1⟩⟩
        · rcases List.mem_cons.mp m with z | z
          · exact npdx z.symm
          · exact (inF1 p z).elim npG npF0
        · rcases inF1 dx m with z | z
          · exact nd3.2.2 dx z dx (List.mem_append_left _ (List.mem_cons_of_mem _ List.mem_cons_self)) rfl
          · exact ndF0 z
      · intro a ha b hb e
        subst e
        rcases List.mem_cons.mp ha with z | z
        · exact nd4.2.2 p List.mem_cons_self a hb z.symm
        · rcases List.mem_cons.mp z with z | z
          · exact nd4.2.2 dx (List.mem_cons_of_mem _ List.mem_cons_self) a hb z.symm
          · rcases inF1 a z with y | y
            · exact nd3.2.2 a y a (List.mem_append_right _ hb) rfl
            · exact nd4.2.2 a (List.mem_cons_of_mem _ (List.mem_cons_of_mem _ y)) a hb rfl
    refine ⟨F2, ⟨same_upd S1.sub b1, sl2, nF2⟩, ⟨Same.refl _, fun a u e m => ?_, fun a u e m z => z, fun a m => .inl ?_⟩⟩
    · refine up a (fun z => m ?_) u e
      subst z
      exact List.mem_append_right _ (pm.mem_iff.mpr (List.mem_append_left _ List.mem_cons_self))
    · rcases List.mem_append.mp (p2.mem_iff.mp m) with z | z
      · rcases List.mem_cons.mp z with z | z
        · exact List.mem_append_right _ (pm.mem_iff.mpr (List.mem_append_left _ (by rw [z]; exact List.mem_cons_self)))
        · rcases List.mem_cons.mp z with z | z
          · exact List.mem_append_right _ (pm.mem_iff.mpr (List.mem_append_left _ (by rw [z]; exact List.mem_cons_of_mem _ List.mem_cons_self)))
          · rcases inF1 a z with y | y
            · exact List.mem_append_left _ y
            · exact List.mem_append_right _ (pm.mem_iff.mpr (List.mem_append_left _ (List.mem_cons_of_mem _ (List.mem_cons_of_mem _ y))))
      · exact List.mem_append_right _ (pm.mem_iff.mpr (List.mem_append_right _ z))
theorem s_fld {pos' : Pos} (cn fn : Str) {get : Env → Option OD} {put : Env → OD → Env} (hp : PLr X o get put) (he : PEr X W e f) (hc : ClsT X.K X.mg cn) (hn : NoA X.K X.mg cn fn) (hs : swapsWith e (some (.Attribute o fn pos')) pos.line X.env = pure false := by rfl) :
    PSr X W io (.Assign [.Attribute o fn pos'] e pos) (sFldT cn fn get put f) := by
  obtain ⟨ta, ha, ka⟩ := hp
  obtain ⟨te, he, ke⟩ := he
  obtain ⟨C, c1, c2⟩ := hc
  obtain ⟨C', n1, n2⟩ := hn
  cases cls_eq c1 n1
  refine ⟨_, ps_fld ha he hs, fun B H F σ env D S q => ?_⟩
  unfold sFldT sE at q
  refine ke B H F σ env _ S ?_
  have fin : ∀ {B' H' : Hp} {F' G : List Addr} {e1 : Env} {r1 : RV} {y : V}, Slots X.K X.mg B' H' F' σ e1 → Same B' H' → (G ++ F').Nodup → Frm B H F B' H' (G ++ F') → rvR X.K X.mg B' H' G y r1 →
      SPost X W io B H F σ D (match r1 with
        | .own v => match get e1 with
          | some (.ins c fs) => if c = cn ∧ fs.length < 1000 then .nx (put e1 (.ins c (putD fn v fs))) else .bad
          | _ => .bad
        | .view _ => .bad) → ta σ H' fun x H2 => ∃ a C dx fs, x = .ref a ∧ H2 a = some (.ins C dx fs) ∧ Cls X.K C ∧ NoAttr X.K C fn ∧ fs.length < 1000 ∧ D.nx σ (upd H2 a (.ins C dx (putF fn y fs))) := by
    intro B' H' F' G e1 r1 y sl s nd f r q2
    cases r1 with
    | view _ => exact q2.elim
    | own v =>
      dsimp only at q2
      split at q2
      · rename_i c fs eg
        split at q2
        · rename_i hcc
          obtain ⟨ec, hl⟩ := hcc
          subst ec
          have nF := (List.nodup_append.mp nd).2.1
          refine ka B' H' F' σ e1 _ _ ⟨s, sl, nF⟩ eg fun w B1 H1 Fo Fr f1 s1 pm ho pl => ?_
          have r' : Own X.K X.mg B1 H1 G y v := f1.own (show Own X.K X.mg B' H' G y v from r) fun _ _ z => nomatch z
          have S1 : Sta X.K X.mg B1 H1 F' σ e1 := Sta.pure ⟨s, sl, nF⟩ s1 f1
          obtain ⟨p, C2, dx, vs, ep, h1, ker, g⟩ : ∃ p C2 dx vs, w = .ref p ∧ H1 p = some (.ins C2 dx vs) ∧ vs.map (·.1) = fs.map (·.1) ∧ X.mg c = some (.ref C2) := by
            cases ho with
            | ins h1 b1 h2 b2 g ker r1 => exact ⟨_, _, _, _, rfl, h1, ker, g⟩
          subst ep
          cases cls_eq c1 g
          have hlen : vs.length = fs.length := by
            have := congrArg List.length ker
            simpa using this
          obtain ⟨F2, S2, f2⟩ := fld_back (fn := fn) S1 pm ho h1 pl r' nd
          exact ⟨p, C, dx, vs, rfl, h1, c2, n2, by omega, q2 B1 _ F2 σ S2 (f.trans ((Frm.wide (F := []) (F' := []) (G := G ++ F') (F2 := G ++ F') f1 (fun _ z => nomatch z) (fun c m => .inr m)).trans f2)) Agree.refl⟩
        · exact q2.elim
      · exact q2.elim
  cases e2 : f env with
  | bad => rw [e2] at q; exact q
  | exc c e => rw [e2] at q; exact fun B' H' F' S' f' => q B' H' F' σ S' f' Agree.refl
  | ok r1 => rw [e2] at q; exact fun w B' H' G ra s n f => fin (S.pure s f).sl s (nodup_new (fun a m => (S.sl.there a m).2) S.nd n f) f.wide0 ra q
  | eff r1 e => rw [e2] at q; exact fun w B' H' G F' ra l s n f => fin l s n f ra q
end
end Tl
/-! methods called, instances made -/
namespace Tl
open PySem PySem.Spec L2

section
variable {X : Cx} {W : WX} {CX : CXT} {k : Nat} {fa C : Addr} {fd : FuncData} {ps : List Str} {sp : Sp} {E : St → XK} {x m : Str} {p pos apos : Pos} {e o : Expr} {es : List Expr} {ta : TE} {t : TA}
def tMethT (C : Addr) (m : Str) (sp : Sp) (E : St → XK) (ta : TE) (t : TA) : TE := fun σ H Q => ta σ H fun v H1 => ∃ a dx fs, v = .ref a ∧ H1 a = some (.ins C dx fs) ∧ fs.lookup m = none ∧ t σ H1 fun vs H2 => sp (v :: vs) H2 Q (E σ)
theorem pe_methT {pl : Sem Bool} (ho : PE X o ta) (hc : Cls X.K C) (hm : Meth X.K C m fa) (Fo : FnOk X.prog X.w X.K X.mg X.base CX k fa fd ps sp) (hr : Room k X.A) (hb : Binds X.K fd ps []) (hx : ∀ σ, PassesAt CX X σ (E σ)) (hargs : PA X (e :: es) t)
    (h1 : starEach (e :: es) X.env = (false, eval e X.env) :: starEach es X.env := by rfl) (h2 : (backTo pos (starEach es X.env)).any (·.1) = false := by rfl)
    (h3 : eval (.Call (.Attribute o m apos) (e :: es) [] pos) X.env = (do let w ← eval o X.env; standAt apos.atName; let (g, fst) ← holding [w] (getMethod w m pl); callWith pos g fst (backTo pos (starEach (e :: es) X.env)) (backToKw pos (keywordEach [] X.env))) := by rfl) :
    PE X (.Call (.Attribute o m apos) (e :: es) [] pos) (tMethT C m sp E ta t) := ⟨fun pins s σ H Q I h => PySem.W.methodCall_KW (pl := pl) (thn (ho.run pins s σ H _ I h) fun u s1 ⟨v, H1, I1, rv, a, dx, fs, ev, ea, hl, q⟩ => by
  subst ev
  cases (show u = Value.ref a from rv)
  exact getmeth_ok I1 ea hc hm hl (PySem.W.callWith_K (h₀ := X.base) (first := [.ref a]) I.ok.mod.kin hm.kp (thn (hargs.run pos pins s1 σ H1 _ I1 q) fun us s2 ⟨vs, H2, I2, rr, q2⟩ => ⟨I2.kIn, run_fnS (vs := .ref a :: vs) (us := .ref a :: us) Fo hr hb (hx σ) I2 (.cons rfl rr) q2⟩) h1 h2)) h3⟩
theorem pe_methT0 {pl : Sem Bool} (ho : PE X o ta) (hc : Cls X.K C) (hm : Meth X.K C m fa) (Fo : FnOk X.prog X.w X.K X.mg X.base CX k fa fd ps sp) (hr : Room k X.A) (hb : Binds X.K fd ps []) (hx : ∀ σ, PassesAt CX X σ (E σ))
    (h3 : eval (.Call (.Attribute o m apos) [] [] pos) X.env = (do let w ← eval o X.env; standAt apos.atName; let (g, fst) ← holding [w] (getMethod w m pl); callWith pos g fst (backTo pos (starEach [] X.env)) (backToKw pos (keywordEach [] X.env))) := by rfl) :
    PE X (.Call (.Attribute o m apos) [] [] pos) (tMethT C m sp E ta tNil) := ⟨fun pins s σ H Q I h => PySem.W.methodCall_KW (pl := pl) (thn (ho.run pins s σ H _ I h) fun u s1 ⟨v, H1, I1, rv, a, dx, fs, ev, ea, hl, q⟩ => by
  subst ev
  cases (show u = Value.ref a from rv)
  exact getmeth_ok I1 ea hc hm hl (PySem.W.callWith_K0 (first := [.ref a]) I1.kIn hm.kp (run_fnS (vs := [.ref a]) (us := [.ref a]) Fo hr hb (hx σ) I1 (.cons rfl .nil) q))) h3⟩
/-- a call of a class, by what is raised at the slots -/
theorem run_makeT {pins : List (Addr × Obj)} {σ : St} {H : Hp} {s : Shared} {Q : VK} {us : List Value} {vs : List V} (M : Mk X.K C fa) (Fo : FnOk X.prog X.w X.K X.mg X.base CX k fa fd ps sp) (hr : Room (k + 1) X.A) (hb : Binds X.K fd ps []) (hx : ∀ σ, PassesAt CX X σ (E σ)) (I : Inv X pins σ H s) (r : Vals vs us)
    (h : ∀ x dx, H x = none → H dx = none → dx ≠ x → sp (.ref x :: vs) (upd (upd H dx (.own x)) x (.ins C dx [])) (fun v H2 => v = .non ∧ Q (.ref x) H2) (E σ)) : wpAny (model X.prog X.w) X.A (call (.ref C) us) (EP X pins σ Q) X.xe s := by
  have hq := h (s.heap.objs.size + 1) s.heap.objs.size (I.hok.fresh (Nat.le_succ _)) (I.hok.fresh (Nat.le_refl _)) (Nat.ne_of_lt (Nat.lt_succ_self _))
  have J := Inv.made (C := C) I
  have rr : Vals (V.ref (s.heap.objs.size + 1) :: vs) (Value.ref (s.heap.objs.size + 1) :: us) := .cons rfl r
  have hl : (Value.ref (s.heap.objs.size + 1) :: us ++ []).length = ps.length := by
    have z := rr.length
    rw [Fo.len _ _ _ _ hq] at z
    rw [List.append_nil]
    exact z.symm
  have bb := hb _ (Value.ref (s.heap.objs.size + 1) :: us) J.kIn hl
  rw [List.append_nil] at bb
  refine wpAny_call (make_map (f := fa) I.kIn M.makes M.init (beq_iff_eq.mp M.fn) (codeAny_mono (Fo.run _ X.stack _ _ ⟨Value.ref (s.heap.objs.size + 1) :: us, []⟩ (Value.ref (s.heap.objs.size + 1) :: us) _ _ (E σ) (hr.make C us []) (J.env0.make C us []) bb rr hq) fun z s' hz => ?_))
  cases z with
  | error e => exact hx σ pins _ _ e s' J hz
  | ok fl => cases fl with
    | ret u =>
      obtain ⟨v, H', I3, rv, ev, q3⟩ := J.after hz
      subst ev
      exact ⟨rv, ⟨V.ref (s.heap.objs.size + 1), H', I3, rfl, q3⟩⟩
    | next => exact hz.elim
    | brk => exact hz.elim
    | cont => exact hz.elim
def tMakeT (C : Addr) (sp : Sp) (E : St → XK) (t : TA) : TE := fun σ H Q => t σ H fun vs H1 => ∀ x dx, H1 x = none → H1 dx = none → dx ≠ x → sp (.ref x :: vs) (upd (upd H1 dx (.own x)) x (.ins C dx [])) (fun v H2 => v = .non ∧ Q (.ref x) H2) (E σ)
theorem pe_makeT (M : Mk X.K C fa) (Fo : FnOk X.prog X.w X.K X.mg X.base CX k fa fd ps sp) (hr : Room (k + 1) X.A) (hg : Gl X x) (hm : X.mg x = some (.ref C)) (hb : Binds X.K fd ps []) (hx : ∀ σ, PassesAt CX X σ (E σ)) (hargs : PA X (e :: es) t)
    (hd : (x == ("__debug__" : Str)) = false := by decide) (h1 : starEach (e :: es) X.env = (false, eval e X.env) :: starEach es X.env := by rfl) (h2 : (backTo pos (starEach es X.env)).any (·.1) = false := by rfl) : PE X (.Call (.Name x p) (e :: es) [] pos) (tMakeT C sp E t) :=
  ⟨fun pins s σ H Q I h => wpAny_Call_Name_kw (ld_glob I hg hm (PySem.W.callWith_K (h₀ := X.base) I.ok.mod.kin M.kp (thn (hargs.run pos pins s σ H _ I h) fun us s1 ⟨vs, H1, I1, r, q⟩ => ⟨I1.kIn, run_makeT M Fo hr hb hx I1 r q⟩) h1 h2) hd)⟩
theorem pe_makeT0 (M : Mk X.K C fa) (Fo : FnOk X.prog X.w X.K X.mg X.base CX k fa fd ps sp) (hr : Room (k + 1) X.A) (hg : Gl X x) (hm : X.mg x = some (.ref C)) (hb : Binds X.K fd ps []) (hx : ∀ σ, PassesAt CX X σ (E σ)) (hd : (x == ("__debug__" : Str)) = false := by decide) : PE X (.Call (.Name x p) [] [] pos) (tMakeT C sp E tNil) :=
  ⟨fun pins s σ H Q I h => wpAny_Call_Name_kw (ld_glob I hg hm (PySem.W.callWith_K0 I.kIn M.kp (run_makeT (us := []) M Fo hr hb hx I .nil h)) hd)⟩
end
/-! ### the mirrors -/
/-- an instance of c without an own m -/
def isIns (c m : Str) : Option OD → Bool
  | some (.ins c' fs) => decide (c' = c) && (fs.lookup m).isNone
  | some (.fzi c' fs) => decide (c' = c) && (fs.lookup m).isNone
  | _ => false
/-- x.m(..), x a name -/
def eMethI (i : Nat) (c m : Str) (Fm : List OD → FO) (fr : Env → O (List AR)) : Env → O RV := fun env => if isIns c m env[i]? = true then eCall Fm (cIo i fr) env else .bad
/-- place.m(..) -/
def eMethC (get : Env → Option OD) (put : Env → OD → Env) (c m : Str) (Fm : List OD → FO) (fr : Env → O (List AR)) : Env → O RV := fun env => match get env with
  | some o => if isIns c m (some o) = true then match fr env with
      | .ok ars => if (hasIo ars || lends ars) = true then .bad else match gath ars env with
        | some (ds, _) => match Fm (o :: ds) with
          | .ret r (o' :: _) => .eff (.own r) (put env o')
          | .exc x (o' :: _) => .exc x (put env o')
          | _ => .bad
        | none => .bad
      | _ => .bad
    else .bad
  | none => .bad
/-- a new instance, from what __init__ does to it -/
def mkF (c : Str) (Fm : List OD → FO) : List OD → FO := fun ds => match Fm (.ins c [] :: ds) with
  | .ret (.fz .non) (o :: r) => .ret o r
  | .exc x (_ :: r) => .exc x r
  | _ => .bad
/-- a method by name -/
def MethAt (K : PySem.W.Frag) (mg : Str → Option Value) (c m q : Str) (st : Stmt) (ps : List Str) : Prop := ∃ C f fd, mg c = some (.ref C) ∧ Cls K C ∧ Meth K C m f ∧ Fun K m q st f fd ∧ Binds K fd ps []
def CalM (P : Program) (w : World) (K : PySem.W.Frag) (mg : Str → Option Value) (base : Heap) (c m : Str) (ps : List Str) (k n : Nat) (Fm : List OD → FO) : Prop :=
  ∃ C fn fd, mg c = some (.ref C) ∧ Cls K C ∧ Meth K C m fn ∧ FnOk P w K mg base (L2.CX P w) k fn fd ps (spOf K mg n Fm) ∧ Binds K fd ps []
def MkT (K : PySem.W.Frag) (mg : Str → Option Value) (c : Str) : Prop := ∃ C, mg c = some (.ref C) ∧ ∃ f, Mk K C f ∧ Meth K C "__init__" f
section
variable {P : Program} {w : World} {K : PySem.W.Frag} {mg : Str → Option Value} {base : Heap}
theorem calM_of {c m q : Str} {st : Stmt} {N ps : List Str} {k n d : Nat} {io : List Nat} {body : Env → SO} (A : MethAt K mg c m q st ps) (S : FnScope N ps (defScope st)) (hn : ps.length = n) (hm : N.length = n + d) (hio : io.all (fun i => decide (i < n)) = true)
    (hb : ∀ (f : Addr) (cdv : Value) (A : Around) (outer : List PySem.Env) (s : Shared) (H : Hp) (E : XK), Room k (A.deeper (PyProof.Rows.envOfC q (defScope st) s.heap.objs.size f cdv)) →
      Takes (cxOf (L2.CX P w) P w K mg base N q (defScope st) f cdv A outer s H E) (fun cls d _ H => E cls d H) → PassesOwn (model P w) (cxOf (L2.CX P w) P w K mg base N q (defScope st) f cdv A outer s H E).A (cxOf (L2.CX P w) P w K mg base N q (defScope st) f cdv A outer s H E).env (cxOf (L2.CX P w) P w K mg base N q (defScope st) f cdv A outer s H E).xe →
      PSsr (cxOf (L2.CX P w) P w K mg base N q (defScope st) f cdv A outer s H E) (fun cls d _ H => E cls d H) io (defBody st) body) : CalM P w K mg base c m ps (k + 1) n (runB d io body) := by
  obtain ⟨C, f, fd, c1, c2, c3, F, bd⟩ := A
  exact ⟨C, f, fd, c1, c2, c3, fn_ok F S hn hm hio fun cdv A outer s H E hr => hb f cdv A outer s H E hr (takes_of rfl rfl rfl rfl) (passes_of rfl), bd⟩
end
section
variable {X : Cx} {W : WX} {e o : Expr} {es : List Expr} {pos apos : Pos}
theorem EOkS.io {i : Nat} {tb : TA} {fr : Env → O (List AR)} (kb : EOkS X W (fun σ => lsR (aR X.K X.mg σ)) tb fr) : EOkS X W (fun σ => lsR (aR X.K X.mg σ)) (fun σ H Q => ∃ v, σ[i]? = some (some v) ∧ tb σ H fun vs H1 => Q (v :: vs) H1) (cIo i fr) := by
  intro B H F σ env Q S q
  dsimp only [cIo] at q
  cases e : env[i]? with
  | none => rw [e] at q; exact q.elim
  | some o =>
    rw [e] at q
    by_cases n : o = .un
    · subst n; exact q.elim
    · obtain ⟨v, G, h1, h2, h3⟩ := S.sl.get e n
      refine ⟨v, h1, kb B H F σ env _ S ?_⟩
      have q' : EPost X W (lsR (aR X.K X.mg σ)) B H F σ Q (match fr env with
        | .ok b => .ok (.io i :: b)
        | .eff b e => .eff (.io i :: b) e
        | .exc c e => .exc c e
        | .bad => .bad) := by cases o <;> first | exact q | exact absurd rfl n
      cases e2 : fr env with
      | bad => rw [e2] at q'; exact q'
      | exc c e3 => rw [e2] at q'; exact q'
      | ok b => rw [e2] at q'; exact fun x B' H' G' r s' nd f => q' _ B' H' G' (.cons (R := aR X.K X.mg σ) (F := []) ⟨rfl, h1⟩ r) s' nd f
      | eff b e3 => rw [e2] at q'; exact fun x B' H' G' F' r l s' nd f => q' _ B' H' G' F' (.cons (R := aR X.K X.mg σ) (F := []) ⟨rfl, h1⟩ r) l s' nd f
/-- an instance in the heap -/
theorem own_isIns {K : PySem.W.Frag} {mg : Str → Option Value} {B H : Hp} {G : List Addr} {v : V} {o : OD} {c m : Str} {C : Addr} (s : Same B H) (h : Own K mg B H G v o) (hi : isIns c m (some o) = true) (hc : mg c = some (.ref C)) : ∃ a dx fs, v = .ref a ∧ H a = some (.ins C dx fs) ∧ fs.lookup m = none := by
  cases h with
  | @ins p C2 dx vs F c' os h1 b1 h2 b2 g ke r1 =>
    simp only [isIns, Bool.and_eq_true, decide_eq_true_eq, Option.isNone_iff_eq_none] at hi
    obtain ⟨e1, e2⟩ := hi
    subst e1
    cases cls_eq hc g
    exact ⟨p, dx, vs, rfl, h1, lookup_names ke e2⟩
  | @fzi p C2 dx vs c' os h1 h2 g ke r1 =>
    simp only [isIns, Bool.and_eq_true, decide_eq_true_eq, Option.isNone_iff_eq_none] at hi
    obtain ⟨e1, e2⟩ := hi
    subst e1
    cases cls_eq hc g
    exact ⟨p, dx, vs, rfl, s _ _ h1, lookup_names ke e2⟩
  | _ => cases hi
theorem EOk.methI {i n : Nat} {c m : Str} {C : Addr} {Fm : List OD → FO} {t : TA} {fr : Env → O (List AR)} (hc : X.mg c = some (.ref C)) (hn : ∀ env ars, (fr env = .ok ars ∨ ∃ e, fr env = .eff ars e) → ars.length = n) (kb : EOkS X W (fun σ => lsR (aR X.K X.mg σ)) t fr) :
    EOk X W (rvR X.K X.mg) (tMethT C m (spOf X.K X.mg (n + 1) Fm) (WE W) (fun σ H Q => ∃ v, σ[i]? = some (some v) ∧ Q v H) t) (eMethI i c m Fm fr) := by
  intro B H F σ env Q S q
  dsimp only [eMethI] at q
  split at q
  · rename_i hi
    obtain ⟨v, h1, h2⟩ := EOk.call (cl_io (i := i) hn) (EOkS.io (i := i) kb) B H F σ env Q S q
    refine ⟨v, h1, ?_⟩
    cases e : env[i]? with
    | none => rw [e] at hi; cases hi
    | some o =>
      rw [e] at hi
      obtain ⟨v', G, k1, k2, _⟩ := S.sl.get e (fun z => by subst z; cases hi)
      rw [h1] at k1; cases k1
      obtain ⟨a, dx, fs, e1, e2, e3⟩ := own_isIns S.sub k2 hi hc
      exact ⟨a, dx, fs, e1, e2, e3, h2⟩
  · exact q.elim
theorem r_methI {j k n : Nat} {c m x : Str} {ps : List Str} {p : Pos} {Fm : List OD → FO} {fr : Env → O (List AR)} (i : Nat) (cm : CalM X.prog X.w X.K X.mg X.base c m ps k (n + 1) Fm) (tk : Takes X W) (hr : Room j X.A) (hk : k ≤ j) (ha : PCr X W (e :: es) fr) (hl : ∀ env ars, (fr env = .ok ars ∨ ∃ e, fr env = .eff ars e) → ars.length = n)
    (hN : X.N[i]? = some x := by rfl) (hv : Vis X.env.scope x := by first | exact Or.inl rfl | exact Or.inr (Or.inl rfl) | exact Or.inr (Or.inr rfl)) (hd : (x == ("__debug__" : Str)) = false := by decide) (hcd : (x == ("__classdict__" : Str)) = false := by decide)
    (h1 : starEach (e :: es) X.env = (false, eval e X.env) :: starEach es X.env := by rfl) (h2 : (backTo pos (starEach es X.env)).any (·.1) = false := by rfl) {pl : Sem Bool}
    (h3 : eval (.Call (.Attribute (.Name x p) m apos) (e :: es) [] pos) X.env = (do let w ← eval (.Name x p) X.env; standAt apos.atName; let (g, fst) ← holding [w] (getMethod w m pl); callWith pos g fst (backTo pos (starEach (e :: es) X.env)) (backToKw pos (keywordEach [] X.env))) := by rfl) : PEr X W (.Call (.Attribute (.Name x p) m apos) (e :: es) [] pos) (eMethI i c m Fm fr) := by
  obtain ⟨C, fn, fd, c1, c2, c3, F, bd⟩ := cm
  obtain ⟨t, h, kt⟩ := ha
  exact ⟨_, pe_methT (E := WE W) (pe_var hN hv hd hcd) c2 c3 F (hr.mono hk) bd (fun σ => passAt tk σ) h h1 h2 h3, EOk.methI c1 hl kt⟩
theorem EOkS.nil : EOkS X W (fun σ => lsR (aR X.K X.mg σ)) tNil cNil := fun B H F σ env Q S q => q [] B H [] .nil S.sub List.nodup_nil Frm.none
theorem r_methI0 {j k : Nat} {c m x : Str} {ps : List Str} {p : Pos} {Fm : List OD → FO} (i : Nat) (cm : CalM X.prog X.w X.K X.mg X.base c m ps k 1 Fm) (tk : Takes X W) (hr : Room j X.A) (hk : k ≤ j)
    (hN : X.N[i]? = some x := by rfl) (hv : Vis X.env.scope x := by first | exact Or.inl rfl | exact Or.inr (Or.inl rfl) | exact Or.inr (Or.inr rfl)) (hd : (x == ("__debug__" : Str)) = false := by decide) (hcd : (x == ("__classdict__" : Str)) = false := by decide) {pl : Sem Bool}
    (h3 : eval (.Call (.Attribute (.Name x p) m apos) [] [] pos) X.env = (do let w ← eval (.Name x p) X.env; standAt apos.atName; let (g, fst) ← holding [w] (getMethod w m pl); callWith pos g fst (backTo pos (starEach [] X.env)) (backToKw pos (keywordEach [] X.env))) := by rfl) : PEr X W (.Call (.Attribute (.Name x p) m apos) [] [] pos) (eMethI i c m Fm cNil) := by
  obtain ⟨C, fn, fd, c1, c2, c3, F, bd⟩ := cm
  exact ⟨_, pe_methT0 (E := WE W) (pe_var hN hv hd hcd) c2 c3 F (hr.mono hk) bd (fun σ => passAt tk σ) h3, EOk.methI c1 cl_nil EOkS.nil⟩
/-! place.m(..) -/
theorem EOk.methC {ta : TE} {n : Nat} {c m : Str} {C : Addr} {Fm : List OD → FO} {t : TA} {fr : Env → O (List AR)} {get : Env → Option OD} {put : Env → OD → Env} (hc : X.mg c = some (.ref C)) (hn : ∀ env ars, (fr env = .ok ars ∨ ∃ e, fr env = .eff ars e) → ars.length = n) (kb : EOkS X W (fun σ => lsR (aR X.K X.mg σ)) t fr)
    (ka : ∀ B H F σ env o (Q : VK), Sta X.K X.mg B H F σ env → get env = some o → (∀ v B1 H1 Fo Fr, Frm B H [] B1 H1 [] → Same B1 H1 → F.Perm (Fo ++ Fr) → Own X.K X.mg B1 H1 Fo v o → Plug X.K X.mg B1 H1 Fr σ (put env) v → Q v H1) → ta σ H Q) :
    EOk X W (rvR X.K X.mg) (tMethT C m (spOf X.K X.mg (n + 1) Fm) (WE W) ta t) (eMethC get put c m Fm fr) := by
  intro B H F σ env Q S q
  dsimp only [eMethC] at q
  cases e0 : get env with
  | none => rw [e0] at q; exact q.elim
  | some o =>
    rw [e0] at q
    dsimp only at q
    split at q
    · rename_i hi
      refine ka B H F σ env o _ S e0 fun v B1 H1 Fo Fr f1 s1 pm ho pl => ?_
      have S1 := S.pure s1 f1
      obtain ⟨a, dx, fs, e1, e2, e3⟩ := own_isIns s1 ho hi hc
      refine ⟨a, dx, fs, e1, e2, e3, ?_⟩
      clear e1 e2 e3
      refine kb B1 H1 F σ env _ S1 ?_
      cases er : fr env with
      | ok ars =>
        rw [er] at q
        dsimp only at q
        split at q
        · exact q.elim
        · rename_i hio
          have hio : hasIo ars = false ∧ lends ars = false := by simpa using hio
          intro vs B2 H2 G2 r2 s2 n2 f2
          have S2 := S1.pure s2 f2
          cases eg : gath ars env with
          | none => rw [eg] at q; exact q.elim
          | some z =>
            obtain ⟨ds, envh⟩ := z
            rw [eg] at q
            dsimp only at q
            obtain ⟨L, Gio, Gt, Gc, Fh, a1, a2, p1, p2, p3, p4, a3, a4, a5, a6, a8⟩ := gath_ok S2.sl r2 eg
            have eL := a5 hio.2
            have eI := (a6 hio.1).1
            subst eL eI
            have p1' : Gc.Perm Gt := p1
            have own := a3 B2 (Same.refl _) (fun _ z => nomatch z)
            have thG : ∀ a ∈ G2, B2 a = none ∧ ∃ u, H2 a = some u := (stb_ls (stb_aR (K := X.K) (mg := X.mg) σ)).there _ _ _ _ _ r2
            have inG : ∀ a, a ∈ Gc → a ∈ G2 := fun a m => p4.subset (p1'.mem_iff.mp m)
            have own := own fun a m => (thG a (inG a m)).1
            have ho2 := f2.own ho fun _ _ z => nomatch z
            have pl2 := pl.later f2.sB (fun a m u e => f2.keep a u e (by simp))
            have nFo := pm.nodup_iff.mp S2.nd
            have n3 := List.nodup_append.mp nFo
            have thF : ∀ a ∈ Fo ++ Fr, B2 a = none ∧ ∃ u, H2 a = some u := fun a m => S2.sl.there a (pm.mem_iff.mpr m)
            have djF : ∀ a ∈ F, a ∉ G2 := fun a m z => by
              obtain ⟨_, u, e⟩ := S1.sl.there a m
              rcases f2.fr a z with y | y
              · cases y
              · rw [e] at y; cases y
            have nGc : Gc.Nodup := p1'.nodup_iff.mpr (n2.sublist p4)
            have nd : (Fo ++ Gc).Nodup := List.nodup_append.mpr ⟨n3.1, nGc, fun a ha b hb e => by
              subst e
              exact djF a (pm.mem_iff.mpr (List.mem_append_left _ ha)) (inG a hb)⟩
            have frFr : ∀ a ∈ Fr, a ∉ Fo ++ Gc := fun a m z => by
              rcases List.mem_append.mp z with z | z
              · exact n3.2.2 a z a m rfl
              · exact djF a (pm.mem_iff.mpr (List.mem_append_right _ m)) (inG a z)
            refine ⟨by rw [List.length_cons, (lsR_len r2).trans (hn env ars (.inl er))], B2, Fo ++ Gc, o :: ds, s2, .cons ho2 own, nd, ?_⟩
            have f02 : Frm B H F B2 H2 (G2 ++ F) := (f1.trans (f2.wide (F2 := G2) (fun _ z => nomatch z) fun c m => .inl m)).wide0
            -- what comes behind
            have key : ∀ {B' H' : Hp} {Fr' G' : List Addr} {o' : OD} {r : List OD}, OwnL X.K X.mg B' H' G' (v :: vs) (o' :: r) → Same B' H' → (Fr' ++ G').Nodup → Frm B2 H2 (Fo ++ Gc) B' H' (Fr' ++ G') →
                ∃ F2, Slots X.K X.mg B' H' F2 σ (put env o') ∧ (Fr' ++ F2).Nodup ∧ F2.Nodup ∧ Frm B H F B' H' (Fr' ++ F2) := by
              intro B' H' Fr' G' o' r oo s' nn f'
              cases oo with
              | @cons F1 G1 _ _ _ _ r1 rt =>
                have kp : ∀ a ∈ Fr, (∀ u, H2 a = some u → H' a = some u) ∧ B' a = none := fun a m => by
                  obtain ⟨b, u, e⟩ := thF a (List.mem_append_right _ m)
                  exact ⟨fun u e => f'.keep a u e (frFr a m), f'.forg a u e (frFr a m) b⟩
                obtain ⟨F2, c1, c2⟩ := pl2 B' H' F1 o' f'.sB kp r1
                have nn2 := List.nodup_append.mp nn
                have nF1 : F1.Nodup := (List.nodup_append.mp nn2.2.1).1
                have dj2 : ∀ a, a ∈ Fr' ++ (F1 ++ G1) → a ∉ Fr := fun a m z => by
                  rcases f'.fr a m with y | y
                  · exact frFr a z y
                  · obtain ⟨_, u, e⟩ := thF a (List.mem_append_right _ z)
                    rw [e] at y; cases y
                have nF2 : F2.Nodup := c2.nodup_iff.mpr (List.nodup_append.mpr ⟨nF1, n3.2.1, fun a ha b hb e => by
                  subst e
                  exact dj2 a (List.mem_append_right _ (List.mem_append_left _ ha)) hb⟩)
                refine ⟨F2, c1, List.nodup_append.mpr ⟨nn2.1, nF2, fun a ha b hb e => ?_⟩, nF2, ?_⟩
                · subst e
                  rcases List.mem_append.mp (c2.mem_iff.mp hb) with y | y
                  · exact nn2.2.2 a ha a (List.mem_append_left _ y) rfl
                  · exact dj2 a (List.mem_append_left _ ha) y
                · refine f02.trans ⟨f'.sB, fun a u e m => f'.keep a u e fun z => m ?_, fun a u e m b => f'.forg a u e (fun z => m ?_) b, fun a m => ?_⟩
                  · rcases List.mem_append.mp z with z | z
                    · exact List.mem_append_right _ (pm.mem_iff.mpr (List.mem_append_left _ z))
                    · exact List.mem_append_left _ (inG a z)
                  · rcases List.mem_append.mp z with z | z
                    · exact List.mem_append_right _ (pm.mem_iff.mpr (List.mem_append_left _ z))
                    · exact List.mem_append_left _ (inG a z)
                  · have cvt : a ∈ Fo ++ Gc → a ∈ G2 ++ F := fun z => by
                      rcases List.mem_append.mp z with z | z
                      · exact List.mem_append_right _ (pm.mem_iff.mpr (List.mem_append_left _ z))
                      · exact List.mem_append_left _ (inG a z)
                    rcases List.mem_append.mp m with y | y
                    · exact (f'.fr a (List.mem_append_left _ y)).imp cvt id
                    · rcases List.mem_append.mp (c2.mem_iff.mp y) with w | w
                      · exact (f'.fr a (List.mem_append_right _ (List.mem_append_left _ w))).imp cvt id
                      · exact .inl (List.mem_append_right _ (pm.mem_iff.mpr (List.mem_append_right _ w)))
            cases em : Fm (o :: ds) with
            | bad => rw [em] at q; exact q.elim
            | ret w args =>
              rw [em] at q
              cases args with
              | nil => exact q.elim
              | cons o' r =>
                intro x B' H' Fr' G' ow oo s' nn f'
                obtain ⟨F2, k1, k2, k3, k4⟩ := key oo s' nn f'
                exact q x B' H' Fr' F2 ow k1 s' k2 k4
            | exc x args =>
              rw [em] at q
              cases args with
              | nil => exact q.elim
              | cons o' r =>
                intro B' H' G' oo s' nn f' C hC
                obtain ⟨F2, k1, k2, k3, k4⟩ := key (Fr' := []) oo s' nn f'
                exact q B' H' F2 ⟨s', k1, k3⟩ k4 C hC
      | _ => rw [er] at q; exact q.elim
    · exact q.elim
theorem r_methC {j k n : Nat} {c m : Str} {ps : List Str} {Fm : List OD → FO} {fr : Env → O (List AR)} {get : Env → Option OD} {put : Env → OD → Env} (hp : PLr X o get put) (cm : CalM X.prog X.w X.K X.mg X.base c m ps k (n + 1) Fm) (tk : Takes X W) (hr : Room j X.A) (hk : k ≤ j) (ha : PCr X W (e :: es) fr) (hl : ∀ env ars, (fr env = .ok ars ∨ ∃ e, fr env = .eff ars e) → ars.length = n)
    (h1 : starEach (e :: es) X.env = (false, eval e X.env) :: starEach es X.env := by rfl) (h2 : (backTo pos (starEach es X.env)).any (·.1) = false := by rfl) {pl : Sem Bool}
    (h3 : eval (.Call (.Attribute o m apos) (e :: es) [] pos) X.env = (do let w ← eval o X.env; standAt apos.atName; let (g, fst) ← holding [w] (getMethod w m pl); callWith pos g fst (backTo pos (starEach (e :: es) X.env)) (backToKw pos (keywordEach [] X.env))) := by rfl) : PEr X W (.Call (.Attribute o m apos) (e :: es) [] pos) (eMethC get put c m Fm fr) := by
  obtain ⟨C, fn, fd, c1, c2, c3, F, bd⟩ := cm
  obtain ⟨t, h, kt⟩ := ha
  obtain ⟨ta, h0, k0⟩ := hp
  exact ⟨_, pe_methT (E := WE W) h0 c2 c3 F (hr.mono hk) bd (fun σ => passAt tk σ) h h1 h2 h3, EOk.methC c1 hl kt k0⟩
theorem r_methC0 {j k : Nat} {c m : Str} {ps : List Str} {Fm : List OD → FO} {get : Env → Option OD} {put : Env → OD → Env} (hp : PLr X o get put) (cm : CalM X.prog X.w X.K X.mg X.base c m ps k 1 Fm) (tk : Takes X W) (hr : Room j X.A) (hk : k ≤ j) {pl : Sem Bool}
    (h3 : eval (.Call (.Attribute o m apos) [] [] pos) X.env = (do let w ← eval o X.env; standAt apos.atName; let (g, fst) ← holding [w] (getMethod w m pl); callWith pos g fst (backTo pos (starEach [] X.env)) (backToKw pos (keywordEach [] X.env))) := by rfl) : PEr X W (.Call (.Attribute o m apos) [] [] pos) (eMethC get put c m Fm cNil) := by
  obtain ⟨C, fn, fd, c1, c2, c3, F, bd⟩ := cm
  obtain ⟨ta, h0, k0⟩ := hp
  exact ⟨_, pe_methT0 (E := WE W) h0 c2 c3 F (hr.mono hk) bd (fun σ => passAt tk σ) h3, EOk.methC c1 cl_nil EOkS.nil k0⟩
/-! C(..) -/
theorem mk_sp {n : Nat} {c : Str} {C : Addr} {Fm : List OD → FO} {vs : List V} {H : Hp} {Q : VK} {E : XK} (hc : X.mg c = some (.ref C)) (h : spOf X.K X.mg n (mkF c Fm) vs H Q E) : ∀ x dx, H x = none → H dx = none → dx ≠ x → spOf X.K X.mg (n + 1) Fm (.ref x :: vs) (upd (upd H dx (.own x)) x (.ins C dx [])) (fun v H2 => v = .non ∧ Q (.ref x) H2) E := by
  intro x dx hx hdx ne
  obtain ⟨hl, B, G, ds, sb, r, nd, q⟩ := h
  have ex : ∀ a, H a ≠ none → a ≠ x ∧ a ≠ dx := fun a z => ⟨fun e => z (e ▸ hx), fun e => z (e ▸ hdx)⟩
  have up : ∀ a u, H a = some u → upd (upd H dx (.own x)) x (.ins C dx []) a = some u := fun a u e => by
    obtain ⟨n1, n2⟩ := ex a (by rw [e]; nofun)
    rw [upd_ne n1, upd_ne n2]; exact e
  have bx : B x = none := sb.free hx
  have bd : B dx = none := sb.free hdx
  have thG := r.there
  have nG : ∀ a ∈ G, a ≠ x ∧ a ≠ dx := fun a m => by
    obtain ⟨_, u, e⟩ := thG a m
    exact ex a (by rw [e]; nofun)
  have oi : Own X.K X.mg B (upd (upd H dx (.own x)) x (.ins C dx [])) [x, dx] (.ref x) (.ins c []) := .ins upd_same bx (by rw [upd_ne ne]; exact upd_same) bd hc rfl .nil
  have r' : OwnL X.K X.mg B (upd (upd H dx (.own x)) x (.ins C dx [])) G vs ds := r.mono (Same.refl _) fun a m => ⟨fun u e => up a u e, (thG a m).1⟩
  have sb' : Same B (upd (upd H dx (.own x)) x (.ins C dx [])) := fun a u e => up a u (sb a u e)
  have frm : ∀ {B' H' : Hp} {F' : List Addr}, Frm B (upd (upd H dx (.own x)) x (.ins C dx [])) ([x, dx] ++ G) B' H' F' → Frm B H G B' H' F' := fun {B' H' F'} f => ⟨f.sB, fun a u e m => f.keep a u (up a u e) (fun z => by
      obtain ⟨n1, n2⟩ := ex a (by rw [e]; nofun)
      simp at z
      rcases z with z | z | z
      · exact n1 z
      · exact n2 z
      · exact m z), fun a u e m b => f.forg a u (up a u e) (fun z => by
      obtain ⟨n1, n2⟩ := ex a (by rw [e]; nofun)
      simp at z
      rcases z with z | z | z
      · exact n1 z
      · exact n2 z
      · exact m z) b, fun a m => by
    rcases f.fr a m with z | z
    · simp at z
      rcases z with z | z | z
      · exact .inr (z ▸ hx)
      · exact .inr (z ▸ hdx)
      · exact .inl z
    · cases e : H a with
      | none => exact .inr rfl
      | some u => rw [up a u e] at z; cases z⟩
  refine ⟨by rw [List.length_cons, hl], B, [x, dx] ++ G, .ins c [] :: ds, sb', .cons oi r', ?_, ?_⟩
  · refine List.nodup_append.mpr ⟨by simp [Ne.symm ne], nd, fun a ha b hb e => ?_⟩
    subst e
    obtain ⟨n1, n2⟩ := nG a hb
    simp at ha
    exact ha.elim n1 n2
  · dsimp only [mkF] at q
    cases em : Fm (.ins c [] :: ds) with
    | bad => rw [em] at q; exact q.elim
    | ret o args =>
      rw [em] at q
      intro v B' H' Fr G' ow oo s' nn f'
      cases oo with
      | @cons F1 G1 _ _ o' rs r1 rt =>
        split at q
        · rename_i e1
          cases e1
          cases ow with
          | fz rn =>
            cases rn
            refine ⟨rfl, q (.ref x) B' H' F1 G1 r1 rt s' (by simpa using nn) (frm (by simpa using f'))⟩
        · rename_i e1; cases e1
        · exact q.elim
    | exc y args =>
      rw [em] at q
      intro B' H' G' oo s' nn f' C2 hC2
      cases oo with
      | @cons F1 G1 _ _ o' rs r1 rt =>
        have f2 := frm f'
        exact q B' H' G1 rt s' (List.nodup_append.mp nn).2.1 ⟨f2.sB, f2.keep, f2.forg, fun a m => f2.fr a (List.mem_append_right _ m)⟩ C2 hC2
theorem EOk.callR {R : List V → Hp → VK → XK → Prop} {t : TA} {f : Env → O (List AR)} {Fm : List OD → FO} {n : Nat} (hR : ∀ vs H Q E, spOf X.K X.mg n Fm vs H Q E → R vs H Q E) (hn : ∀ env ars, (f env = .ok ars ∨ ∃ e, f env = .eff ars e) → ars.length = n) (h : EOkS X W (fun σ => lsR (aR X.K X.mg σ)) t f) :
    EOk X W (rvR X.K X.mg) (fun σ H Q => t σ H fun vs H1 => R vs H1 Q (WE W σ)) (eCall Fm f) := by
  intro B H F σ env Q S q
  refine h B H F σ env _ S ?_
  dsimp only [eCall] at q
  cases e : f env with
  | bad => rw [e] at q; exact q
  | exc c e1 => rw [e] at q; exact q
  | ok ars =>
    rw [e] at q
    intro vs B1 H1 G1 r1 s1 n1 f1
    exact hR _ _ _ _ (call_ok (t := false) (S.pure s1 f1) r1 ((lsR_len r1).trans (hn env ars (.inl e))) (nodup_new (fun a m => (S.sl.there a m).2) S.nd n1 f1) f1.wide0 (fun _ => ⟨rfl, f1⟩) q)
  | eff ars env1 =>
    rw [e] at q
    intro vs B1 H1 G1 F1 r1 l1 s1 n1 f1
    exact hR _ _ _ _ (call_ok (t := true) ⟨s1, l1, (List.nodup_append.mp n1).2.1⟩ r1 ((lsR_len r1).trans (hn env ars (.inr ⟨_, e⟩))) n1 f1 (fun z => nomatch z) q)
theorem r_make0 {j k : Nat} {c : Str} {ps : List Str} {p : Pos} {Fm : List OD → FO} (M : MkT X.K X.mg c) (cm : CalM X.prog X.w X.K X.mg X.base c "__init__" ps k 1 Fm) (tk : Takes X W) (hr : Room j X.A) (hk : k + 1 ≤ j) (hg : Gl X c := by rfl) (hd : (c == ("__debug__" : Str)) = false := by decide) : PEr X W (.Call (.Name c p) [] [] pos) (eCall (mkF c Fm) cNil) := by
  obtain ⟨C, fn, fd, c1, c2, c3, F, bd⟩ := cm
  obtain ⟨C', m1, f', m2, m3⟩ := M
  cases cls_eq c1 m1
  have ef : some (some (Value.ref f')) = some (some (Value.ref fn)) := m3.at_.symm.trans c3.at_
  cases ef
  exact ⟨_, pe_makeT0 (E := WE W) m2 F (hr.mono hk) hg c1 bd (fun σ => passAt tk σ) hd, EOk.callR (n := 0) (R := fun vs H1 Q E => ∀ x dx, H1 x = none → H1 dx = none → dx ≠ x → spOf X.K X.mg 1 Fm (.ref x :: vs) (upd (upd H1 dx (.own x)) x (.ins C dx [])) (fun v H2 => v = .non ∧ Q (.ref x) H2) E) (fun vs H Q E h => mk_sp c1 h) cl_nil EOkS.nil⟩
theorem r_make {j k n : Nat} {c : Str} {ps : List Str} {p : Pos} {Fm : List OD → FO} {fr : Env → O (List AR)} (M : MkT X.K X.mg c) (cm : CalM X.prog X.w X.K X.mg X.base c "__init__" ps k (n + 1) Fm) (tk : Takes X W) (hr : Room j X.A) (hk : k + 1 ≤ j) (ha : PCr X W (e :: es) fr) (hl : ∀ env ars, (fr env = .ok ars ∨ ∃ e, fr env = .eff ars e) → ars.length = n)
    (hg : Gl X c := by rfl) (hd : (c == ("__debug__" : Str)) = false := by decide) (h1 : starEach (e :: es) X.env = (false, eval e X.env) :: starEach es X.env := by rfl) (h2 : (backTo pos (starEach es X.env)).any (·.1) = false := by rfl) : PEr X W (.Call (.Name c p) (e :: es) [] pos) (eCall (mkF c Fm) fr) := by
  obtain ⟨C, fn, fd, c1, c2, c3, F, bd⟩ := cm
  obtain ⟨C', m1, f', m2, m3⟩ := M
  cases cls_eq c1 m1
  have ef : some (some (Value.ref f')) = some (some (Value.ref fn)) := m3.at_.symm.trans c3.at_
  cases ef
  obtain ⟨t, h, kt⟩ := ha
  exact ⟨_, pe_makeT (E := WE W) m2 F (hr.mono hk) hg c1 bd (fun σ => passAt tk σ) h hd h1 h2, EOk.callR (n := n) (R := fun vs H1 Q E => ∀ x dx, H1 x = none → H1 dx = none → dx ≠ x → spOf X.K X.mg (n + 1) Fm (.ref x :: vs) (upd (upd H1 dx (.own x)) x (.ins C dx [])) (fun v H2 => v = .non ∧ Q (.ref x) H2) E) (fun vs H Q E h => mk_sp c1 h) hl kt⟩
end
end Tl
/-! at places: methods of lists, stores by an operator, what is handed on, what is frozen -/
namespace Tl
open PySem PySem.Spec L2

/-- taken as it stands from now on -/
def frzO : OD → Option OD
  | .ins c fs => (frzS fs).map (.fzi c)
  | .fzi c fs => some (.fzi c fs)
  | o => (frz o).map .fz
theorem own_frzO {K : PySem.W.Frag} {mg : Str → Option Value} {B B' H : Hp} (s : Same B B') {F : List Addr} {v : V} {o o' : OD} (h : Own K mg B H F v o) (e : frzO o = some o') (k : ∀ a ∈ F, ∀ u, H a = some u → B' a = some u) (H' : Hp) : Own K mg B' H' [] v o' := by
  have plain : ∀ {d : D}, frz o = some d → Own K mg B' H' [] v (.fz d) := fun z => .fz (Own.frz s h z k)
  cases o with
  | ins c fs =>
    simp only [frzO] at e
    cases e4 : frzS fs with
    | none => rw [e4] at e; cases e
    | some ds => rw [e4] at e; cases e; exact Own.frzI s h e4 k H'
  | fzi c fs =>
    cases e
    cases h with
    | fzi h1 h2 g ke r => exact (Own.fzi (H := H) h1 h2 g ke r).mono s (fun _ z => nomatch z)
  | _ =>
    all_goals
      simp only [frzO] at e
      rw [Option.map_eq_some_iff] at e
      obtain ⟨d, e4, e5⟩ := e
      cases e5; exact plain e4
section
variable {X : Cx} {W : WX} {io : List Nat} {a b c e o : Expr} {es rest : List Expr} {f fa fb fc : Env → O RV} {pos : Pos} {get : Env → Option OD} {put : Env → OD → Env}
/-! ### place.append(..) and its kin -/
theorem EOk.methP {ta : TE} {id : String} {g : List OD → List RV → Option (OD × List OD)} {r : V → List V → Hp → VK → Prop} {t : TA} {fr : Env → O (List RV)}
    (hm : ∀ B H p F G vs os xs rs Q, Same B H → H p = some (.lst vs) → B p = none → OwnL X.K X.mg B H F vs os → lsR (rvR X.K X.mg) B H G xs rs → (p :: F ++ G).Nodup → MPost X B H p F G Q (g os rs) → r (.ref p) xs H Q) (kb : EOk X W (lsR (rvR X.K X.mg)) t fr)
    (ka : ∀ B H F σ env o (Q : VK), Sta X.K X.mg B H F σ env → get env = some o → (∀ v B1 H1 Fo Fr, Frm B H [] B1 H1 [] → Same B1 H1 → F.Perm (Fo ++ Fr) → Own X.K X.mg B1 H1 Fo v o → Plug X.K X.mg B1 H1 Fr σ (put env) v → Q v H1) → ta σ H Q) :
    EOk X W (rvR X.K X.mg) (fun σ H Q => ta σ H fun x H1 => tyV X.K "list" x H1 ∧ t σ H1 fun xs H2 => r x xs H2 Q) (eMethP get put g fr) := by
  intro B H F σ env Q S q
  dsimp only [eMethP] at q
  cases e0 : get env with
  | none => rw [e0] at q; exact q.elim
  | some o0 =>
    rw [e0] at q
    cases o0 with
    | lst os =>
      dsimp only at q
      refine ka B H F σ env _ _ S e0 fun v B1 H1 Fo Fr f1 s1 pm ho pl => ?_
      have S1 := S.pure s1 f1
      have ty : tyV X.K "list" v H1 := by
        cases ho with
        | lst hp _ _ => exact .inl ⟨rfl, _, .inl (.inl hp)⟩
      refine ⟨ty, kb B1 H1 F σ env _ S1 ?_⟩
      cases er : fr env with
      | ok rs =>
        rw [er] at q
        dsimp only at q
        intro xs B2 H2 G2 r2 s2 n2 f2
        have S2 := S1.pure s2 f2
        cases eg : g os rs with
        | none => rw [eg] at q; exact q.elim
        | some z =>
          obtain ⟨w, os'⟩ := z
          rw [eg] at q
          have f02 : Frm B H F B2 H2 (G2 ++ F) := (f1.trans (f2.wide (F2 := G2) (fun _ z => nomatch z) fun c m => .inl m)).wide0
          exact meth_back (id := id) hm s2 pm (nodup_new (fun a m => (S1.sl.there a m).2) S1.nd n2 f2) (f2.own ho fun _ _ z => nomatch z) (pl.later f2.sB (fun a m u e => f2.keep a u e (by simp))) (fun a m => S2.sl.there a (pm.mem_iff.mpr (List.mem_append_right _ m))) r2 eg
            fun w B' H' Gr F' a b c d e => q w B' H' Gr F' a b c d (f02.trans e)
      | _ => rw [er] at q; exact q.elim
    | _ => exact q.elim
theorem r_methP {id : String} {name : Str} {g : List OD → List RV → Option (OD × List OD)} {apos cpos : Pos} {fr : Env → O (List RV)} (hp : PLr X o get put) (pa : PlainAttrs "list") (slot : Slot "list" name id) (hty : typeOf (.builtin id) = pure (.type "method_descriptor")) (hm : MOk X id g) (ha : PAr X W (e :: es) fr)
    (hbase : attributeBase o name X.env (eval o X.env) = eval o X.env := by rfl)
    (hfew : ((backTo cpos (starEach (e :: es) X.env)).all (fun x => !x.1) && (backToKw cpos (keywordEach [] X.env)).all (fun x => x.1.isSome) && decide ((e :: es).length + ([] : List Keyword).length + (if ([] : List Keyword).isEmpty then 0 else 1) < 30)) = true := by rfl)
    (hline : (apos.endLine == cpos.line) = true := by rfl) (hs : starEach (e :: es) X.env = (false, eval e X.env) :: starEach es X.env := by rfl) (hplain : (backTo cpos (starEach es X.env)).any (·.1) = false := by rfl) :
    PEr X W (.Call (.Attribute o name apos) (e :: es) [] cpos) (eMethP get put g fr) := by
  obtain ⟨r, hr, hm⟩ := hm
  obtain ⟨t, h, k⟩ := ha
  obtain ⟨ta, h0, k0⟩ := hp
  exact ⟨_, pe_bm pa slot hty hr h0 h hbase hfew hline hs hplain, EOk.methP (id := id) hm k k0⟩
theorem r_methP0 {id : String} {name : Str} {g : List OD → List RV → Option (OD × List OD)} {apos cpos : Pos} (hp : PLr X o get put) (pa : PlainAttrs "list") (slot : Slot "list" name id) (hty : typeOf (.builtin id) = pure (.type "method_descriptor")) (hm : MOk X id g)
    (hbase : attributeBase o name X.env (eval o X.env) = eval o X.env := by rfl) (hline : (apos.endLine == cpos.line) = true := by rfl) : PEr X W (.Call (.Attribute o name apos) [] [] cpos) (eMethP get put g aNil) := by
  obtain ⟨r, hr, hm⟩ := hm
  have k : EOk X W (lsR (rvR X.K X.mg)) tNil aNil := fun B H F σ env Q S q => q [] B H [] .nil S.sub List.nodup_nil Frm.none
  obtain ⟨ta, h0, k0⟩ := hp
  exact ⟨_, pe_bm0 pa slot hty hr h0 hbase hline, EOk.methP (id := id) hm k k0⟩
/-! ### what stands at a place handed on, or taken as it stands -/
def eMoveP (get : Env → Option OD) (put : Env → OD → Env) : Env → O RV := fun env => match get env with
  | some o => .eff (.own o) (put env .un)
  | none => .bad
def eFrzP (get : Env → Option OD) (put : Env → OD → Env) : Env → O RV := fun env => match get env with
  | some o => match frzO o with
    | some o' => .eff (.own o') (put env o')
    | none => .bad
  | none => .bad
theorem r_moveP (hp : PLr X e get put) : PEr X W e (eMoveP get put) := by
  obtain ⟨t, h, k⟩ := hp
  refine ⟨t, h, fun B H F σ env Q S q => ?_⟩
  unfold eMoveP at q
  cases e0 : get env with
  | none => rw [e0] at q; exact q.elim
  | some o =>
    rw [e0] at q
    refine k B H F σ env o Q S e0 fun v B1 H1 Fo Fr f1 s1 pm ho pl => ?_
    have S1 := S.pure s1 f1
    have n := List.nodup_append.mp (pm.nodup_iff.mp S1.nd)
    obtain ⟨F2, c1, c2⟩ := pl B1 H1 [] .un (Same.refl _) (fun a m => ⟨fun u e => e, (S1.sl.there a (pm.mem_iff.mpr (List.mem_append_right _ m))).1⟩) .un
    have c2 : F2.Perm Fr := c2
    refine q v B1 H1 Fo F2 ho c1 s1 (List.nodup_append.mpr ⟨n.1, c2.nodup_iff.mpr n.2.1, fun a ha b hb e => n.2.2 a ha b (c2.mem_iff.mp hb) e⟩) (f1.wide (fun _ z => nomatch z) fun a m => .inr ?_)
    rcases List.mem_append.mp m with m | m
    · exact pm.mem_iff.mpr (List.mem_append_left _ m)
    · exact pm.mem_iff.mpr (List.mem_append_right _ (c2.mem_iff.mp m))
/-- a place's tree frozen -/
theorem plug_frz {B1 H1 : Hp} {F Fo Fr : List Addr} {σ : St} {env : Env} {v : V} {o o' : OD} (S1 : Sta X.K X.mg B1 H1 F σ env) (pm : F.Perm (Fo ++ Fr)) (ho : Own X.K X.mg B1 H1 Fo v o) (pl : Plug X.K X.mg B1 H1 Fr σ (put env) v) (ef : frzO o = some o') :
    ∃ B2 F2, Own X.K X.mg B2 H1 [] v o' ∧ Slots X.K X.mg B2 H1 F2 σ (put env o') ∧ Same B2 H1 ∧ F2.Nodup ∧ Frm B1 H1 F B2 H1 F2 := by
  have n := List.nodup_append.mp (pm.nodup_iff.mp S1.nd)
  obtain ⟨t1, t2, t3⟩ := frm_more (K := X.K) (mg := X.mg) (G := Fo) S1.sub ho.there
  have ow : Own X.K X.mg (more B1 H1 Fo) H1 [] v o' := own_frzO t1 ho ef (fun a m u z => by rw [more_in m]; exact z) H1
  obtain ⟨F2, c1, c2⟩ := pl (more B1 H1 Fo) H1 [] o' t1 (fun a m => ⟨fun u e => e, by
    rw [more_out fun z => n.2.2 a z a m rfl]
    exact (S1.sl.there a (pm.mem_iff.mpr (List.mem_append_right _ m))).1⟩) ow
  have c2 : F2.Perm Fr := c2
  refine ⟨more B1 H1 Fo, F2, ow, c1, t2, c2.nodup_iff.mpr n.2.1, t3.wide (fun a m => pm.mem_iff.mpr (List.mem_append_left _ m)) fun a m => .inr (pm.mem_iff.mpr (List.mem_append_right _ (c2.mem_iff.mp m)))⟩
theorem r_frzP (hp : PLr X e get put) : PEr X W e (eFrzP get put) := by
  obtain ⟨t, h, k⟩ := hp
  refine ⟨t, h, fun B H F σ env Q S q => ?_⟩
  unfold eFrzP at q
  cases e0 : get env with
  | none => rw [e0] at q; exact q.elim
  | some o =>
    rw [e0] at q
    dsimp only at q
    cases ef : frzO o with
    | none => rw [ef] at q; exact q.elim
    | some o' =>
      rw [ef] at q
      refine k B H F σ env o Q S e0 fun v B1 H1 Fo Fr f1 s1 pm ho pl => ?_
      have S1 := S.pure s1 f1
      obtain ⟨B2, F2, a1, a2, a3, a4, a5⟩ := plug_frz S1 pm ho pl ef
      exact q v B2 H1 [] F2 a1 a2 a3 a4 ((f1.wide (F := []) (F' := []) (G := F) (F2 := F) (fun _ z => nomatch z) fun c m => .inr m).trans a5)
/-- a place told without its expression -/
def PLg (X : Cx) (get : Env → Option OD) (put : Env → OD → Env) : Prop := ∀ B H F σ env o, Sta X.K X.mg B H F σ env → get env = some o → ∃ v Fo Fr, F.Perm (Fo ++ Fr) ∧ Own X.K X.mg B H Fo v o ∧ Plug X.K X.mg B H Fr σ (put env) v
theorem pg_slot (i : Nat) : PLg X (vGet i) (vPut i) := fun B H F σ env o S e => by
  obtain ⟨v, Fo, Fr, h1, h2, h3, h4⟩ := slots_plug S.sl e
  exact ⟨v, Fo, Fr, h2, h3, h4⟩
theorem pg_attr (cn fn : Str) (hp : PLg X get put) : PLg X (aGet cn fn get) (aPut fn get put) := fun B H F σ env o S eg => by
  unfold aGet at eg
  split at eg
  · rename_i c fs e0
    split at eg
    · rename_i ec
      subst ec
      have el := noUn_e eg
      obtain ⟨v, Fo, Fr, pm, ho, pl⟩ := hp B H F σ env _ S e0
      cases ho with
      | @ins p C2 dx vs F0 _ _ h1 b1 h2 b2 g ke r1 =>
        obtain ⟨w, Gw, Fs, d1, d2, d3, d4⟩ := lookup_own ke r1 el
        have th : ∀ a ∈ (p :: dx :: F0) ++ Fr, B a = none ∧ ∃ u, H a = some u := fun a m => S.sl.there a (pm.mem_iff.mpr m)
        have pm2 : (p :: dx :: F0).Perm (Gw ++ (p :: dx :: Fs)) := List.perm_iff_count.mpr fun z => by
          have e1 := d3.count_eq z
          simp only [List.count_append, List.count_cons] at e1 ⊢
          omega
        have nd := pm.nodup_iff.mp S.nd
        have P := Plug.part (mk := fun o' => .ins c (putD fn o' fs)) pl th pm2 nd fun B' H' F' o' sb k r => by
          have kp := (k p (List.mem_cons_self)).1 _ h1
          have kd := (k dx (List.mem_cons_of_mem _ List.mem_cons_self)).1 _ h2
          obtain ⟨F2, z1, z2⟩ := d4 B' H' F' w o' sb (fun a m => k a (List.mem_cons_of_mem _ (List.mem_cons_of_mem _ m))) r
          rw [putF_same d1] at z1
          have kn := putD_names (f := fn) (v := w) (o := o') ke
          rw [putF_same d1] at kn
          refine ⟨_, .ins kp (k p List.mem_cons_self).2 kd (k dx (List.mem_cons_of_mem _ List.mem_cons_self)).2 g kn z1, List.perm_iff_count.mpr fun z => ?_⟩
          have e1 := z2.count_eq z
          simp only [List.count_append, List.count_cons] at e1 ⊢
          omega
        refine ⟨w, Gw, (p :: dx :: Fs) ++ Fr, pm.trans ?_, d2, ?_⟩
        · rw [← List.append_assoc]; exact pm2.append_right Fr
        · intro B' H' Fo' o' sb k r
          have := P B' H' Fo' o' sb k r
          unfold aPut
          rw [e0]
          exact this
    · cases eg
  · cases eg
/-- a place's tree frozen between two statements -/
def sGh (get : Env → Option OD) (put : Env → OD → Env) (k : Env → SO) : Env → SO := fun env => match get env with
  | some o => match frzO o with
    | some o' => k (put env o')
    | none => .bad
  | none => .bad
theorem ss_gh {sts : List Stmt} {g : Env → SO} (hp : PLg X get put) (h : PSsr X W io sts g) : PSsr X W io sts (sGh get put g) := by
  obtain ⟨t, ht, k⟩ := h
  refine ⟨t, ht, fun B H F σ env D S q => ?_⟩
  unfold sGh at q
  cases e0 : get env with
  | none => rw [e0] at q; exact q.elim
  | some o =>
    rw [e0] at q
    dsimp only at q
    cases ef : frzO o with
    | none => rw [ef] at q; exact q.elim
    | some o' =>
      rw [ef] at q
      obtain ⟨v, Fo, Fr, pm, ho, pl⟩ := hp B H F σ env _ S e0
      obtain ⟨B2, F2, a1, a2, a3, a4, a5⟩ := plug_frz S pm ho pl ef
      exact k B2 H F2 σ _ D ⟨a3, a2, a4⟩ (q.later a5 Agree.refl)
/-! ### o.f op= e -/
def IFk (X : Cx) (op : Operator) (g : Int → Int → Option Int) : Prop := ∃ rd, InOp X op rd ∧ ∀ i j k H (Q : VK), g i j = some k → Q (.int k) H → rd (.int i) (.int j) H Q
theorem if_add : IFk X .Add (fun i j => some (i + j)) := ⟨_, in_add, fun i j k H Q e q => by cases e; exact ⟨i, j, rfl, rfl, q⟩⟩
theorem if_sub : IFk X .Sub (fun i j => some (i - j)) := ⟨_, in_sub, fun i j k H Q e q => by cases e; exact ⟨i, j, rfl, rfl, q⟩⟩
def sAugF (cn fn : Str) (get : Env → Option OD) (put : Env → OD → Env) (g : Int → Int → Option Int) (fe : Env → O RV) : Env → SO := fun env => match get env with
  | some (.ins c fs) => if c = cn ∧ fs.length < 1000 then match fs.lookup fn with
    | some (.fz (.int x)) => match fe env with
      | .ok r => match r.od with
        | .fz (.int y) => match g x y with
          | some z => .nx (put env (.ins c (putD fn (.fz (.int z)) fs)))
          | none => .bad
        | _ => .bad
      | _ => .bad
    | _ => .bad
    else .bad
  | _ => .bad
theorem s_augF {op : Operator} {g : Int → Int → Option Int} {tpos : Pos} (cn fn : Str) {fe : Env → O RV} (ho : IFk X op g) (hp : PLr X o get put) (he : PEr X W e fe) (hc : ClsT X.K X.mg cn) (hn : NoA X.K X.mg cn fn) : PSr X W io (.AugAssign (.Attribute o fn tpos) op e pos) (sAugF cn fn get put g fe) := by
  obtain ⟨ri, hr, hg⟩ := ho
  obtain ⟨ta, ha, ka⟩ := hp
  obtain ⟨te, hte, ke⟩ := he
  obtain ⟨C, c1, c2⟩ := hc
  obtain ⟨C', n1, n2⟩ := hn
  cases cls_eq c1 n1
  refine ⟨_, ps_fldaug ha hte hr, fun B H F σ env D S q => ?_⟩
  unfold sAugF at q
  split at q
  · rename_i c fs e0
    split at q
    · rename_i hcc
      obtain ⟨ec, hl⟩ := hcc
      split at q
      · rename_i x el
        refine ka B H F σ env _ _ S e0 fun w B1 H1 Fo Fr f1 s1 pm hw pl => ?_
        have S1 := S.pure s1 f1
        have hw0 := hw
        cases hw with
        | @ins p C2 dx vs F0 _ _ h1 b1 h2 b2 g0 ker r1 =>
          have gg : X.mg cn = some (.ref C2) := ec ▸ g0
          cases cls_eq c1 gg
          obtain ⟨v0, G0, Fs, d1, d2, d3, _⟩ := lookup_own ker r1 el
          refine ⟨p, C, dx, vs, v0, rfl, h1, c2, n2, d1, ?_⟩
          cases d2 with
          | fz d2 =>
            cases d2
            refine ke B1 H1 F σ env _ S1 ?_
            cases er : fe env with
            | ok r =>
              rw [er] at q
              dsimp only at q
              split at q
              · rename_i y ey
                intro vy B2 H2 G2 r2 s2 n2' f2
                have zy := rv_fz r2 ey
                cases zy
                cases eg : g x y with
                | none => rw [eg] at q; exact q.elim
                | some z =>
                  rw [eg] at q
                  refine hg _ _ z _ _ eg ?_
                  have S2 := S1.pure s2 f2
                  have h12 := f2.keep p _ h1 (by simp)
                  have hlen : vs.length = fs.length := by
                    have := congrArg List.length ker
                    simpa using this
                  refine ⟨dx, vs, h12, by omega, ?_⟩
                  obtain ⟨F2, S3, f3⟩ := fld_back (G := []) (y := .int z) (v := .fz (.int z)) (fn := fn) S2 pm (f2.own hw0 fun _ _ z => nomatch z) h12 (pl.later f2.sB (fun a m u e => f2.keep a u e (by simp))) (.fz .int) S2.nd
                  have f02 : Frm B H F B2 H2 F := (f1.trans (f2.wide (F2 := []) (fun _ z => nomatch z) fun c m => nomatch m)).wide (fun _ z => nomatch z) fun c m => .inr m
                  exact q B2 _ F2 σ S3 (f02.trans f3) Agree.refl
              · exact q.elim
            | _ => rw [er] at q; exact q.elim
      · exact q.elim
    · exact q.elim
  · exact q.elim
end
end Tl
/-! typed instances and places -/
namespace Tl
open PySem PySem.Spec L2
section
variable {α β γ δ ε ζ η θ ι κ : Type}
abbrev oI0 (c : Str) (x : Unit) : OD := .ins c []
abbrev oJ0 (c : Str) (x : Unit) : OD := .fzi c []
abbrev oI1 (c : Str) (f0 : Str) (e0 : α → OD) (x : α) : OD := .ins c [(f0, e0 (x))]
abbrev oJ1 (c : Str) (f0 : Str) (e0 : α → OD) (x : α) : OD := .fzi c [(f0, e0 (x))]
abbrev oI2 (c : Str) (f0 : Str) (f1 : Str) (e0 : α → OD) (e1 : β → OD) (x : α × β) : OD := .ins c [(f0, e0 (x.1)), (f1, e1 (x.2))]
abbrev oJ2 (c : Str) (f0 : Str) (f1 : Str) (e0 : α → OD) (e1 : β → OD) (x : α × β) : OD := .fzi c [(f0, e0 (x.1)), (f1, e1 (x.2))]
abbrev oI3 (c : Str) (f0 : Str) (f1 : Str) (f2 : Str) (e0 : α → OD) (e1 : β → OD) (e2 : γ → OD) (x : α × β × γ) : OD := .ins c [(f0, e0 (x.1)), (f1, e1 (x.2.1)), (f2, e2 (x.2.2))]
abbrev oJ3 (c : Str) (f0 : Str) (f1 : Str) (f2 : Str) (e0 : α → OD) (e1 : β → OD) (e2 : γ → OD) (x : α × β × γ) : OD := .fzi c [(f0, e0 (x.1)), (f1, e1 (x.2.1)), (f2, e2 (x.2.2))]
abbrev oI4 (c : Str) (f0 : Str) (f1 : Str) (f2 : Str) (f3 : Str) (e0 : α → OD) (e1 : β → OD) (e2 : γ → OD) (e3 : δ → OD) (x : α × β × γ × δ) : OD := .ins c [(f0, e0 (x.1)), (f1, e1 (x.2.1)), (f2, e2 (x.2.2.1)), (f3, e3 (x.2.2.2))]
abbrev oJ4 (c : Str) (f0 : Str) (f1 : Str) (f2 : Str) (f3 : Str) (e0 : α → OD) (e1 : β → OD) (e2 : γ → OD) (e3 : δ → OD) (x : α × β × γ × δ) : OD := .fzi c [(f0, e0 (x.1)), (f1, e1 (x.2.1)), (f2, e2 (x.2.2.1)), (f3, e3 (x.2.2.2))]
abbrev oI5 (c : Str) (f0 : Str) (f1 : Str) (f2 : Str) (f3 : Str) (f4 : Str) (e0 : α → OD) (e1 : β → OD) (e2 : γ → OD) (e3 : δ → OD) (e4 : ε → OD) (x : α × β × γ × δ × ε) : OD := .ins c [(f0, e0 (x.1)), (f1, e1 (x.2.1)), (f2, e2 (x.2.2.1)), (f3, e3 (x.2.2.2.1)), (f4, e4 (x.2.2.2.2))]
abbrev oJ5 (c : Str) (f0 : Str) (f1 : Str) (f2 : Str) (f3 : Str) (f4 : Str) (e0 : α → OD) (e1 : β → OD) (e2 : γ → OD) (e3 : δ → OD) (e4 : ε → OD) (x : α × β × γ × δ × ε) : OD := .fzi c [(f0, e0 (x.1)), (f1, e1 (x.2.1)), (f2, e2 (x.2.2.1)), (f3, e3 (x.2.2.2.1)), (f4, e4 (x.2.2.2.2))]
abbrev oI6 (c : Str) (f0 : Str) (f1 : Str) (f2 : Str) (f3 : Str) (f4 : Str) (f5 : Str) (e0 : α → OD) (e1 : β → OD) (e2 : γ → OD) (e3 : δ → OD) (e4 : ε → OD) (e5 : ζ → OD) (x : α × β × γ × δ × ε × ζ) : OD := .ins c [(f0, e0 (x.1)), (f1, e1 (x.2.1)), (f2, e2 (x.2.2.1)), (f3, e3 (x.2.2.2.1)), (f4, e4 (x.2.2.2.2.1)), (f5, e5 (x.2.2.2.2.2))]
abbrev oJ6 (c : Str) (f0 : Str) (f1 : Str) (f2 : Str) (f3 : Str) (f4 : Str) (f5 : Str) (e0 : α → OD) (e1 : β → OD) (e2 : γ → OD) (e3 : δ → OD) (e4 : ε → OD) (e5 : ζ → OD) (x : α × β × γ × δ × ε × ζ) : OD := .fzi c [(f0, e0 (x.1)), (f1, e1 (x.2.1)), (f2, e2 (x.2.2.1)), (f3, e3 (x.2.2.2.1)), (f4, e4 (x.2.2.2.2.1)), (f5, e5 (x.2.2.2.2.2))]
abbrev oI7 (c : Str) (f0 : Str) (f1 : Str) (f2 : Str) (f3 : Str) (f4 : Str) (f5 : Str) (f6 : Str) (e0 : α → OD) (e1 : β → OD) (e2 : γ → OD) (e3 : δ → OD) (e4 : ε → OD) (e5 : ζ → OD) (e6 : η → OD) (x : α × β × γ × δ × ε × ζ × η) : OD := .ins c [(f0, e0 (x.1)), (f1, e1 (x.2.1)), (f2, e2 (x.2.2.1)), (f3, e3 (x.2.2.2.1)), (f4, e4 (x.2.2.2.2.1)), (f5, e5 (x.2.2.2.2.2.1)), (f6, e6 (x.2.2.2.2.2.2))]
abbrev oJ7 (c : Str) (f0 : Str) (f1 : Str) (f2 : Str) (f3 : Str) (f4 : Str) (f5 : Str) (f6 : Str) (e0 : α → OD) (e1 : β → OD) (e2 : γ → OD) (e3 : δ → OD) (e4 : ε → OD) (e5 : ζ → OD) (e6 : η → OD) (x : α × β × γ × δ × ε × ζ × η) : OD := .fzi c [(f0, e0 (x.1)), (f1, e1 (x.2.1)), (f2, e2 (x.2.2.1)), (f3, e3 (x.2.2.2.1)), (f4, e4 (x.2.2.2.2.1)), (f5, e5 (x.2.2.2.2.2.1)), (f6, e6 (x.2.2.2.2.2.2))]
abbrev oI8 (c : Str) (f0 : Str) (f1 : Str) (f2 : Str) (f3 : Str) (f4 : Str) (f5 : Str) (f6 : Str) (f7 : Str) (e0 : α → OD) (e1 : β → OD) (e2 : γ → OD) (e3 : δ → OD) (e4 : ε → OD) (e5 : ζ → OD) (e6 : η → OD) (e7 : θ → OD) (x : α × β × γ × δ × ε × ζ × η × θ) : OD := .ins c [(f0, e0 (x.1)), (f1, e1 (x.2.1)), (f2, e2 (x.2.2.1)), (f3, e3 (x.2.2.2.1)), (f4, e4 (x.2.2.2.2.1)), (f5, e5 (x.2.2.2.2.2.1)), (f6, e6 (x.2.2.2.2.2.2.1)), (f7, e7 (x.2.2.2.2.2.2.2))]
abbrev oJ8 (c : Str) (f0 : Str) (f1 : Str) (f2 : Str) (f3 : Str) (f4 : Str) (f5 : Str) (f6 : Str) (f7 : Str) (e0 : α → OD) (e1 : β → OD) (e2 : γ → OD) (e3 : δ → OD) (e4 : ε → OD) (e5 : ζ → OD) (e6 : η → OD) (e7 : θ → OD) (x : α × β × γ × δ × ε × ζ × η × θ) : OD := .fzi c [(f0, e0 (x.1)), (f1, e1 (x.2.1)), (f2, e2 (x.2.2.1)), (f3, e3 (x.2.2.2.1)), (f4, e4 (x.2.2.2.2.1)), (f5, e5 (x.2.2.2.2.2.1)), (f6, e6 (x.2.2.2.2.2.2.1)), (f7, e7 (x.2.2.2.2.2.2.2))]
abbrev oI9 (c : Str) (f0 : Str) (f1 : Str) (f2 : Str) (f3 : Str) (f4 : Str) (f5 : Str) (f6 : Str) (f7 : Str) (f8 : Str) (e0 : α → OD) (e1 : β → OD) (e2 : γ → OD) (e3 : δ → OD) (e4 : ε → OD) (e5 : ζ → OD) (e6 : η → OD) (e7 : θ → OD) (e8 : ι → OD) (x : α × β × γ × δ × ε × ζ × η × θ × ι) : OD := .ins c [(f0, e0 (x.1)), (f1, e1 (x.2.1)), (f2, e2 (x.2.2.1)), (f3, e3 (x.2.2.2.1)), (f4, e4 (x.2.2.2.2.1)), (f5, e5 (x.2.2.2.2.2.1)), (f6, e6 (x.2.2.2.2.2.2.1)), (f7, e7 (x.2.2.2.2.2.2.2.1)), (f8, e8 (x.2.2.2.2.2.2.2.2))]
abbrev oJ9 (c : Str) (f0 : Str) (f1 : Str) (f2 : Str) (f3 : Str) (f4 : Str) (f5 : Str) (f6 : Str) (f7 : Str) (f8 : Str) (e0 : α → OD) (e1 : β → OD) (e2 : γ → OD) (e3 : δ → OD) (e4 : ε → OD) (e5 : ζ → OD) (e6 : η → OD) (e7 : θ → OD) (e8 : ι → OD) (x : α × β × γ × δ × ε × ζ × η × θ × ι) : OD := .fzi c [(f0, e0 (x.1)), (f1, e1 (x.2.1)), (f2, e2 (x.2.2.1)), (f3, e3 (x.2.2.2.1)), (f4, e4 (x.2.2.2.2.1)), (f5, e5 (x.2.2.2.2.2.1)), (f6, e6 (x.2.2.2.2.2.2.1)), (f7, e7 (x.2.2.2.2.2.2.2.1)), (f8, e8 (x.2.2.2.2.2.2.2.2))]
abbrev oI10 (c : Str) (f0 : Str) (f1 : Str) (f2 : Str) (f3 : Str) (f4 : Str) (f5 : Str) (f6 : Str) (f7 : Str) (f8 : Str) (f9 : Str) (e0 : α → OD) (e1 : β → OD) (e2 : γ → OD) (e3 : δ → OD) (e4 : ε → OD) (e5 : ζ → OD) (e6 : η → OD) (e7 : θ → OD) (e8 : ι → OD) (e9 : κ → OD) (x : α × β × γ × δ × ε × ζ × η × θ × ι × κ) : OD := .ins c [(f0, e0 (x.1)), (f1, e1 (x.2.1)), (f2, e2 (x.2.2.1)), (f3, e3 (x.2.2.2.1)), (f4, e4 (x.2.2.2.2.1)), (f5, e5 (x.2.2.2.2.2.1)), (f6, e6 (x.2.2.2.2.2.2.1)), (f7, e7 (x.2.2.2.2.2.2.2.1)), (f8, e8 (x.2.2.2.2.2.2.2.2.1)), (f9, e9 (x.2.2.2.2.2.2.2.2.2))]
abbrev oJ10 (c : Str) (f0 : Str) (f1 : Str) (f2 : Str) (f3 : Str) (f4 : Str) (f5 : Str) (f6 : Str) (f7 : Str) (f8 : Str) (f9 : Str) (e0 : α → OD) (e1 : β → OD) (e2 : γ → OD) (e3 : δ → OD) (e4 : ε → OD) (e5 : ζ → OD) (e6 : η → OD) (e7 : θ → OD) (e8 : ι → OD) (e9 : κ → OD) (x : α × β × γ × δ × ε × ζ × η × θ × ι × κ) : OD := .fzi c [(f0, e0 (x.1)), (f1, e1 (x.2.1)), (f2, e2 (x.2.2.1)), (f3, e3 (x.2.2.2.1)), (f4, e4 (x.2.2.2.2.1)), (f5, e5 (x.2.2.2.2.2.1)), (f6, e6 (x.2.2.2.2.2.2.1)), (f7, e7 (x.2.2.2.2.2.2.2.1)), (f8, e8 (x.2.2.2.2.2.2.2.2.1)), (f9, e9 (x.2.2.2.2.2.2.2.2.2))]
end
/-! ### places -/
/-- o stands at the place; with o' in its stead the frame fits Γ' -/
def PlS (get : Env → Option OD) (put : Env → OD → Env) (Γ : Ctx) (o o' : OD) (Γ' : Ctx) : Prop := ∀ env, Fits Γ env → get env = some o ∧ Fits Γ' (put env o')
section
variable {α : Type} {Γ Γ' Γ1 Γ2 Γh : Ctx} {i : Nat} {o o' w : OD} {c f m : Str} {fs fs' : List (Str × OD)} {get : Env → Option OD} {put : Env → OD → Env} {fk fe : Env → O RV} {p : Bool} {r : RV} {k : Int} {xs ys : List α} {x y : α} {eo : α → OD}
theorem pls_var (i : Nat) (h : Γ[i]? = some (some o)) (hn : notUn o = true) : PlS (vGet i) (vPut i) Γ o o' (Γ.set i (some o')) := fun env q => ⟨by
  have g := q.get h
  unfold vGet
  rw [g]
  cases o with
  | un => cases hn
  | _ => rfl, q.set⟩
theorem pls_attr (h : PlS get put Γ (.ins c fs) (.ins c fs') Γ') (hl : fs.lookup f = some o) (hn : notUn o = true) (hp : putD f o' fs = fs') : PlS (aGet c f get) (aPut f get put) Γ o o' Γ' := fun env q => by
  obtain ⟨h1, h2⟩ := h env q
  refine ⟨?_, ?_⟩
  · unfold aGet
    rw [h1]
    dsimp only
    rw [if_pos rfl, hl]
    cases o with
    | un => cases hn
    | _ => rfl
  · unfold aPut
    rw [h1]
    dsimp only
    rw [hp]; exact h2
theorem ixO_ix (h : ixO xs k = some x) : ∃ j, ixN xs.length k = some j ∧ xs[j]? = some x := by
  unfold ixO atI at h
  cases e : ixN xs.length k with
  | none => rw [e] at h; cases h
  | some j => rw [e] at h; exact ⟨j, rfl, h⟩
theorem pls_ix (h : PlS get put Γ (oL eo xs) (oL eo ys) Γ') (hk : Ev false fk Γ (.own (.fz (.int k))) Γ) (hx : ixO xs k = some x) (hy : setO xs k y = some ys) (hn : notUn (eo x) = true) : PlS (xGet get fk) (xPut get put fk) Γ (eo x) (eo y) Γ' := fun env q => by
  obtain ⟨h1, h2⟩ := h env q
  obtain ⟨j, a1, a2⟩ := ixO_ix hx
  have ek : fk env = .ok (.own (.fz (.int k))) := by
    rcases hk env q with ⟨z, _⟩ | ⟨z, _⟩
    · exact z
    · cases z
  have el : ixN (xs.map eo).length k = some j := by rw [List.length_map]; exact a1
  have es : (xs.map eo).set j (eo y) = ys.map eo := by
    have := setO_map (o := eo) hy
    rw [el] at this
    simpa using this
  refine ⟨?_, ?_⟩
  · unfold xGet
    rw [h1]
    simp only [ek, RV.od, el, List.getElem?_map, a2, Option.map_some]
    cases ho : eo x with
    | un => rw [ho] at hn; cases hn
    | _ => rfl
  · unfold xPut
    rw [h1]
    simp only [ek, RV.od, el, es]
    exact h2
theorem g_attrI (h : r.od = .ins c fs) (hl : fs.lookup f = some o) : gAttr c f r = some (r.part o) := by
  unfold gAttr
  rw [h]
  dsimp only
  rw [if_pos rfl, hl]; rfl
theorem ev_methP {g : List OD → List RV → Option (OD × List OD)} {fr : Env → O (List RV)} {rs : List RV} {os os' : List OD} (h : PlS get put Γ (.lst os) (.lst os') Γ') (ha : Ev false fr Γ rs Γ) (hg : g os rs = some (w, os')) : Ev true (eMethP get put g fr) Γ (.own w) Γ' := fun env q => by
  obtain ⟨h1, h2⟩ := h env q
  have ea : fr env = .ok rs := by
    rcases ha env q with ⟨z, _⟩ | ⟨z, _⟩
    · exact z
    · cases z
  exact .inr ⟨rfl, _, by simp only [eMethP, h1, ea, hg], h2⟩
theorem ev_moveP (h : PlS get put Γ o .un Γ') : Ev true (eMoveP get put) Γ (.own o) Γ' := fun env q => by
  obtain ⟨h1, h2⟩ := h env q
  exact .inr ⟨rfl, _, by simp only [eMoveP, h1], h2⟩
theorem ev_frzP (h : PlS get put Γ o o' Γ') (hf : frzO o = some o') : Ev true (eFrzP get put) Γ (.own o') Γ' := fun env q => by
  obtain ⟨h1, h2⟩ := h env q
  exact .inr ⟨rfl, _, by simp only [eFrzP, h1, hf], h2⟩
theorem ev_methI {p : Bool} {Fm : List OD → FO} {fr : Env → O (List AR)} (h : Γ[i]? = some (some o)) (hi : isIns c m (some o) = true) (k : Ev p (eCall Fm (cIo i fr)) Γ r Γ') : Ev p (eMethI i c m Fm fr) Γ r Γ' := fun env q => by
  have g := q.get h
  have e : eMethI i c m Fm fr env = eCall Fm (cIo i fr) env := by simp only [eMethI, g, hi, if_true]
  rw [e]; exact k env q
theorem xc_methI {Fm : List OD → FO} {fr : Env → O (List AR)} {x : Str} (h : Γ[i]? = some (some o)) (hi : isIns c m (some o) = true) (k : Xc (eCall Fm (cIo i fr)) Γ x Γ') : Xc (eMethI i c m Fm fr) Γ x Γ' := fun env q => by
  have g := q.get h
  have e : eMethI i c m Fm fr env = eCall Fm (cIo i fr) env := by simp only [eMethI, g, hi, if_true]
  rw [e]; exact k env q
theorem ev_methC {Fm : List OD → FO} {fr : Env → O (List AR)} {ars : List AR} {ds ds' : List OD} (h : PlS get put Γ o o' Γ') (hi : isIns c m (some o) = true) (ha : Ev false fr Γ ars Γ) (hq : (hasIo ars || lends ars) = false) (hg : Gath ars Γ ds Γh) (hm : Fm (o :: ds) = .ret w (o' :: ds')) : Ev true (eMethC get put c m Fm fr) Γ (.own w) Γ' := fun env q => by
  obtain ⟨h1, h2⟩ := h env q
  have ea : fr env = .ok ars := by
    rcases ha env q with ⟨z, _⟩ | ⟨z, _⟩
    · exact z
    · cases z
  obtain ⟨eh, g1, g2⟩ := hg.gath q
  exact .inr ⟨rfl, _, by simp only [eMethC, h1, hi, ea, hq, g1, hm, if_true, Bool.false_eq_true, if_false], h2⟩
theorem mk_e {Fm : List OD → FO} {ds rs : List OD} (h : Fm (.ins c [] :: ds) = .ret (.fz .non) (o :: rs)) : mkF c Fm ds = .ret o rs := by simp only [mkF, h]
theorem mk_x {Fm : List OD → FO} {ds rs : List OD} {x : Str} (h : Fm (.ins c [] :: ds) = .exc x (o :: rs)) : mkF c Fm ds = .exc x rs := by simp only [mkF, h]
/-! ### statements -/
theorem sk_fld {T : Type} {P : T → SO → Prop} {rest : Env → SO} {t : Option T} {fv : Env → O RV} (h : Ev p fv Γ (.own w) Γ1) (hp : PlS get put Γ1 (.ins c fs) (.ins c fs') Γ2) (hl : fs.length < 1000) (he : putD f w fs = fs') (k : Sk P rest Γ2 t) : Sk P (sSeq (sFldT c f get put fv) rest) Γ t := by
  refine sk_E h fun x q env z => ?_
  obtain ⟨h1, h2⟩ := hp env z
  have := k x q _ h2
  simpa only [sSeq, h1, hl, true_and, and_true, if_true, he] using this
theorem tg_place {fk : Env → O RV} {v : α} (hp : PlS get put Γ (oL eo xs) (oL eo ys) Γ') (hk : Ev false fk Γ (.own (.fz (.int k))) Γ) (hy : setO xs k v = some ys) : Tg (gSub get put fk) (eo v) Γ Γ' := fun env q => by
  obtain ⟨h1, h2⟩ := hp env q
  have ek : fk env = .ok (.own (.fz (.int k))) := by
    rcases hk env q with ⟨z, _⟩ | ⟨z, _⟩
    · exact z
    · cases z
  have es := setO_map (o := eo) hy
  refine ⟨put env (.lst (ys.map eo)), ?_, h2⟩
  unfold gSub
  rw [h1]
  simp only [ek, RV.od]
  rw [Option.map_eq_some_iff] at es ⊢
  obtain ⟨j, a, b⟩ := es
  exact ⟨j, a, by rw [b]⟩
theorem sk_augP {T : Type} {P : T → SO → Prop} {rest : Env → SO} {t : Option T} {g : Int → Int → Option Int} {zs zs' : List Int} {a b d : Int} (hp : PlS get put Γ (oL (oF D.int) zs) (oL (oF D.int) zs') Γ') (hk : Ev false fk Γ (.own (.fz (.int k))) Γ) (he : Ev false fe Γ (.own (.fz (.int b))) Γ) (hx : ixO zs k = some a) (hg : g a b = some d) (hy : setO zs k d = some zs') (q : Sk P rest Γ' t) : Sk P (sSeq (sAugS get put fk g fe) rest) Γ t := by
  intro x qx env z
  obtain ⟨h1, h2⟩ := hp env z
  have pure : ∀ {f : Env → O RV} {r : RV}, Ev false f Γ r Γ → f env = .ok r := fun h => by
    rcases h env z with ⟨z, _⟩ | ⟨z, _⟩
    · exact z
    · cases z
  obtain ⟨j, a1, a2⟩ := ixO_ix hx
  have el : ixN (zs.map (oF D.int)).length k = some j := by rw [List.length_map]; exact a1
  have es : (zs.map (oF D.int)).set j (.fz (.int d)) = zs'.map (oF D.int) := by
    have := setO_map (o := oF D.int) hy
    rw [el] at this
    simpa using this
  have e : sAugS get put fk g fe env = .nx (put env (.lst (zs'.map (oF D.int)))) := by
    unfold sAugS
    simp only [h1, pure hk, pure he, RV.od, el, List.getElem?_map, a2, Option.map_some, hg, es]
  have := q x qx _ h2
  simpa only [sSeq, e] using this
theorem sk_augF {T : Type} {P : T → SO → Prop} {rest : Env → SO} {t : Option T} {g : Int → Int → Option Int} {a b d : Int} (hp : PlS get put Γ (.ins c fs) (.ins c fs') Γ') (he : Ev false fe Γ (.own (.fz (.int b))) Γ) (hl : fs.length < 1000) (hx : fs.lookup f = some (.fz (.int a))) (hg : g a b = some d) (hy : putD f (.fz (.int d)) fs = fs') (q : Sk P rest Γ' t) : Sk P (sSeq (sAugF c f get put g fe) rest) Γ t := by
  intro x qx env z
  obtain ⟨h1, h2⟩ := hp env z
  have ee : fe env = .ok (.own (.fz (.int b))) := by
    rcases he env z with ⟨z, _⟩ | ⟨z, _⟩
    · exact z
    · cases z
  have e : sAugF c f get put g fe env = .nx (put env (.ins c fs')) := by
    unfold sAugF
    simp only [h1, hl, true_and, and_true, if_true, hx, ee, RV.od, hg, hy]
  have := q x qx _ h2
  simpa only [sSeq, e] using this
theorem gh_seq {h : Env → SO} : sSeq (sGh get put sNx) h = sGh get put h := by
  funext env
  unfold sSeq sGh
  cases get env with
  | none => rfl
  | some o =>
    dsimp only
    cases frzO o <;> rfl
theorem sk_gh {T : Type} {P : T → SO → Prop} {rest : Env → SO} {t : Option T} (hp : PlS get put Γ o o' Γ') (hf : frzO o = some o') (q : Sk P rest Γ' t) : Sk P (sSeq (sGh get put sNx) rest) Γ t := by
  rw [gh_seq]
  intro x qx env z
  obtain ⟨h1, h2⟩ := hp env z
  have := q x qx _ h2
  simpa only [sGh, h1, hf] using this
end
section
variable {X : Cx} {W : WX} {io : List Nat} {get : Env → Option OD} {put : Env → OD → Env}
theorem ss_ghs {sts : List Stmt} {h : Env → SO} (hp : PLg X get put) (k : PSsr X W io sts h) : PSsr X W io sts (sSeq (sGh get put sNx) h) := by
  rw [gh_seq]; exact ss_gh hp k
end
/-! ### what is frozen -/
section
variable {α β γ δ ε ζ η θ ι κ : Type}
theorem frzO_L {e : α → D} {xs : List α} : frzO (oL (oF e) xs) = some (.fz (eLs e xs)) := by
  show (frz (.lst (xs.map fun x => .fz (e x)))).map OD.fz = _
  rw [frz_lst, frzL_L]; rfl
theorem frzO_O {o : α → OD} {e : α → D} (h : FzO o e) {x : α} (hp : (match o x with | .ins _ _ => false | .fzi _ _ => false | _ => true) = true) : frzO (o x) = some (.fz (e x)) := by
  have := h x
  cases ho : o x with
  | ins c fs => rw [ho] at hp; cases hp
  | fzi c fs => rw [ho] at hp; cases hp
  | _ => rw [ho] at this; simp only [frzO, this, Option.map_some]
end
end Tl
/-! a method of what has just been made; what the top has left of classes -/
namespace Tl
open PySem PySem.Spec L2

def eMethT (fo : Env → O RV) (c m : Str) (Fm : List OD → FO) (fr : Env → O (List AR)) : Env → O RV := fun env =>
  let go := fun o env1 => if isIns c m (some o) = true then match fr env1 with
      | .ok ars => callAt Fm (.tmp o :: ars) env1 true
      | .eff ars env2 => callAt Fm (.tmp o :: ars) env2 true
      | .exc x e => .exc x e
      | .bad => .bad
    else .bad
  match fo env with
  | .ok (.own o) => go o env
  | .eff (.own o) env1 => go o env1
  | .exc x e => .exc x e
  | _ => .bad
section
variable {X : Cx} {W : WX} {e o : Expr} {es : List Expr} {pos apos : Pos}
theorem EOk.methT {ta : TE} {fo : Env → O RV} {n : Nat} {c m : Str} {C : Addr} {Fm : List OD → FO} {t : TA} {fr : Env → O (List AR)} (hc : X.mg c = some (.ref C)) (hn : ∀ env ars, (fr env = .ok ars ∨ ∃ e, fr env = .eff ars e) → ars.length = n) (ka : EOk X W (rvR X.K X.mg) ta fo) (kb : EOkS X W (fun σ => lsR (aR X.K X.mg σ)) t fr) :
    EOk X W (rvR X.K X.mg) (tMethT C m (spOf X.K X.mg (n + 1) Fm) (WE W) ta t) (eMethT fo c m Fm fr) := by
  intro B H F σ env Q S q
  dsimp only [eMethT] at q
  refine ka B H F σ env _ S ?_
  have go : ∀ {B1 H1 : Hp} {G1 F1 : List Addr} {x : V} {o : OD} {env1 : Env}, Own X.K X.mg B1 H1 G1 x o → Slots X.K X.mg B1 H1 F1 σ env1 → Same B1 H1 → (G1 ++ F1).Nodup → Frm B H F B1 H1 (G1 ++ F1) →
      EPost X W (rvR X.K X.mg) B H F σ Q (if isIns c m (some o) = true then match fr env1 with
        | .ok ars => callAt Fm (.tmp o :: ars) env1 true
        | .eff ars env2 => callAt Fm (.tmp o :: ars) env2 true
        | .exc x e => .exc x e
        | .bad => .bad else .bad) → ∃ a dx fs, x = .ref a ∧ H1 a = some (.ins C dx fs) ∧ fs.lookup m = none ∧ t σ H1 fun vs H2 => spOf X.K X.mg (n + 1) Fm (x :: vs) H2 Q (WE W σ) := by
    intro B1 H1 G1 F1 x o env1 r1 l1 s1 n1 f1 q
    split at q
    · rename_i hi
      obtain ⟨a, dx, fs, e1, e2, e3⟩ := own_isIns s1 r1 hi hc
      refine ⟨a, dx, fs, e1, e2, e3, ?_⟩
      clear e1 e2 e3
      have nn := List.nodup_append.mp n1
      have S1 : Sta X.K X.mg B1 H1 F1 σ env1 := ⟨s1, l1, nn.2.1⟩
      refine kb B1 H1 F1 σ env1 _ S1 ?_
      cases er : fr env1 with
      | bad => rw [er] at q; exact q.elim
      | exc x e => rw [er] at q; exact fun B' H' F' S' f' => q B' H' F' S' (f1.trans (f'.wide (fun c z => List.mem_append_right _ z) fun c z => .inl z))
      | ok ars =>
        rw [er] at q
        intro vs B2 H2 G2 r2 s2 n2 f2
        have S2 := S1.pure s2 f2
        have r1' := f2.own r1 fun _ _ z => nomatch z
        have nd : (G1 ++ G2 ++ F1).Nodup := by
          have th : ∀ a ∈ G1 ++ F1, ∃ u, H1 a = some u := fun a m => (List.mem_append.mp m).elim (fun z => (r1.there a z).2) fun z => (l1.there a z).2
          have := nodup_new th n1 n2 f2
          have p : (G2 ++ (G1 ++ F1)).Perm (G1 ++ G2 ++ F1) := by
            rw [← List.append_assoc]
            exact (List.perm_append_comm).append_right F1
          exact p.nodup_iff.mp this
        have hl : (x :: vs).length = n + 1 := by rw [List.length_cons, (lsR_len r2).trans (hn env1 ars (.inl er))]
        have R : lsR (aR X.K X.mg σ) B2 H2 (G1 ++ G2) (x :: vs) (.tmp o :: ars) := .cons (R := aR X.K X.mg σ) (show aR X.K X.mg σ B2 H2 G1 x (.tmp o) from r1') r2
        refine call_ok (t := true) S2 R hl nd (f1.trans ((f2.wide (F := []) (F2 := G1 ++ G2 ++ F1) (G := G1 ++ F1) (fun _ z => nomatch z) fun c z => ?_))) (fun z => nomatch z) q
        rcases List.mem_append.mp z with z | z
        · rcases List.mem_append.mp z with z | z
          · exact .inr (List.mem_append_left _ z)
          · exact .inl z
        · exact .inr (List.mem_append_right _ z)
      | eff ars env2 =>
        rw [er] at q
        intro vs B2 H2 G2 F2 r2 l2 s2 n2 f2
        have nn2 := List.nodup_append.mp n2
        have dj : ∀ a ∈ G1, a ∉ F1 := fun a ha hb => nn.2.2 a ha a hb rfl
        have r1' := f2.own r1 dj
        have hl : (x :: vs).length = n + 1 := by rw [List.length_cons, (lsR_len r2).trans (hn env1 ars (.inr ⟨_, er⟩))]
        have R : lsR (aR X.K X.mg σ) B2 H2 (G1 ++ G2) (x :: vs) (.tmp o :: ars) := .cons (R := aR X.K X.mg σ) (show aR X.K X.mg σ B2 H2 G1 x (.tmp o) from r1') r2
        have nd : (G1 ++ G2 ++ F2).Nodup := by
          rw [List.append_assoc]
          refine List.nodup_append.mpr ⟨nn.1, n2, fun a ha b hb e => ?_⟩
          subst e
          rcases f2.fr a hb with z | z
          · exact dj a ha z
          · obtain ⟨_, u, e⟩ := r1.there a ha
            rw [e] at z; cases z
        refine call_ok (t := true) ⟨s2, l2, nn2.2.1⟩ R hl nd (f1.trans ((f2.wide (F2 := G1 ++ G2 ++ F2) (G := G1 ++ F1) (fun c z => List.mem_append_right _ z) fun c z => ?_))) (fun z => nomatch z) q
        rw [List.append_assoc] at z
        rcases List.mem_append.mp z with z | z
        · exact .inr (List.mem_append_left _ z)
        · exact .inl z
    · exact q.elim
  cases ef : fo env with
  | bad => rw [ef] at q; exact q.elim
  | exc x e => rw [ef] at q; exact q
  | ok r =>
    rw [ef] at q
    cases r with
    | view _ => exact q.elim
    | own o => exact fun x B1 H1 G1 r1 s1 n1 f1 => go r1 (S.pure s1 f1).sl s1 (nodup_new (fun a m => (S.sl.there a m).2) S.nd n1 f1) f1.wide0 q
  | eff r env1 =>
    rw [ef] at q
    cases r with
    | view _ => exact q.elim
    | own o => exact fun x B1 H1 G1 F1 r1 l1 s1 n1 f1 => go r1 l1 s1 n1 f1 q
theorem r_methT {j k n : Nat} {c m : Str} {ps : List Str} {Fm : List OD → FO} {fo : Env → O RV} {fr : Env → O (List AR)} (ho : PEr X W o fo) (cm : CalM X.prog X.w X.K X.mg X.base c m ps k (n + 1) Fm) (tk : Takes X W) (hr : Room j X.A) (hk : k ≤ j) (ha : PCr X W (e :: es) fr) (hl : ∀ env ars, (fr env = .ok ars ∨ ∃ e, fr env = .eff ars e) → ars.length = n)
    (h1 : starEach (e :: es) X.env = (false, eval e X.env) :: starEach es X.env := by rfl) (h2 : (backTo pos (starEach es X.env)).any (·.1) = false := by rfl) {pl : Sem Bool}
    (h3 : eval (.Call (.Attribute o m apos) (e :: es) [] pos) X.env = (do let w ← eval o X.env; standAt apos.atName; let (g, fst) ← holding [w] (getMethod w m pl); callWith pos g fst (backTo pos (starEach (e :: es) X.env)) (backToKw pos (keywordEach [] X.env))) := by rfl) : PEr X W (.Call (.Attribute o m apos) (e :: es) [] pos) (eMethT fo c m Fm fr) := by
  obtain ⟨C, fn, fd, c1, c2, c3, F, bd⟩ := cm
  obtain ⟨t, h, kt⟩ := ha
  obtain ⟨ta, h0, k0⟩ := ho
  exact ⟨_, pe_methT (E := WE W) h0 c2 c3 F (hr.mono hk) bd (fun σ => passAt tk σ) h h1 h2 h3, EOk.methT c1 hl k0 kt⟩
theorem r_methT0 {j k : Nat} {c m : Str} {ps : List Str} {Fm : List OD → FO} {fo : Env → O RV} (ho : PEr X W o fo) (cm : CalM X.prog X.w X.K X.mg X.base c m ps k 1 Fm) (tk : Takes X W) (hr : Room j X.A) (hk : k ≤ j) {pl : Sem Bool}
    (h3 : eval (.Call (.Attribute o m apos) [] [] pos) X.env = (do let w ← eval o X.env; standAt apos.atName; let (g, fst) ← holding [w] (getMethod w m pl); callWith pos g fst (backTo pos (starEach [] X.env)) (backToKw pos (keywordEach [] X.env))) := by rfl) : PEr X W (.Call (.Attribute o m apos) [] [] pos) (eMethT fo c m Fm cNil) := by
  obtain ⟨C, fn, fd, c1, c2, c3, F, bd⟩ := cm
  obtain ⟨ta, h0, k0⟩ := ho
  exact ⟨_, pe_methT0 (E := WE W) h0 c2 c3 F (hr.mono hk) bd (fun σ => passAt tk σ) h3, EOk.methT c1 cl_nil k0 EOkS.nil⟩
end
section
variable {K : PySem.W.Frag} {mg : Str → Option Value} {h : Heap}
theorem cls_at (X : K.In h) (G : h.Ns mainGlobals mg) {c : Str} {C : Addr} (a : PySem.W.nsIn K mainGlobals c = some (some (.ref C))) (pg : PySem.W.plainGet K C Str.empty = true) (hd : PySem.W.hasDictIn K C = true) (po : PySem.W.plainOver K C = true) (sa : PySem.W.findIn K (.ref C) "__setattr__" = some (some (.builtin "object.__setattr__"))) : ClsT K mg c :=
  ⟨C, PySem.W.mg_of X G a, ⟨pg, hd, po, sa⟩⟩
theorem noa_at (X : K.In h) (G : h.Ns mainGlobals mg) {c f : Str} {C : Addr} (a : PySem.W.nsIn K mainGlobals c = some (some (.ref C))) (n : PySem.W.findIn K (.ref C) f = some none) : NoA K mg c f := ⟨C, PySem.W.mg_of X G a, n⟩
theorem mk_at (X : K.In h) (G : h.Ns mainGlobals mg) {c : Str} {C f : Addr} (a : PySem.W.nsIn K mainGlobals c = some (some (.ref C))) (m : PySem.W.makesIn K C = true) (i : PySem.W.findIn K (.ref C) "__init__" = some (some (.ref f))) (fn : PySem.W.isFn K (.ref f) = true) (kf : PySem.W.keepIn K (.ref f) = true) (kc : PySem.W.keepIn K (.ref C) = true) : MkT K mg c :=
  ⟨C, PySem.W.mg_of X G a, f, ⟨m, i, fn, kc⟩, ⟨i, fn, kf⟩⟩
theorem meth_at (X : K.In h) (G : h.Ns mainGlobals mg) {c m q : Str} {st : Stmt} {ps : List Str} {C f : Addr} {oc : Value} {od an : Option Addr} {osl : Array (Option Value)} {kV doc pm cdv ct : Value} (cl : ClsT K mg c)
    (a : PySem.W.nsIn K mainGlobals c = some (some (.ref C))) (i : PySem.W.findIn K (.ref C) m = some (some (.ref f))) (fn : PySem.W.isFn K (.ref f) = true) (l : K.lookup f = some ⟨oc, od, .func (PySem.W.fnOf m q (defArgs st) (defBody st) (defScope st) .none kV doc pm an cdv ct), osl⟩) (co : PySem.W.codeIn K cdv q = true) (k : PySem.W.keepIn K (.ref f) = true)
    (hb : ∀ (kV doc pm : Value) (an : Option Addr) (cdv ct : Value) (us : List Value), us.length = ps.length → bindArgs (PySem.W.fnOf m q (defArgs st) (defBody st) (defScope st) .none kV doc pm an cdv ct) ⟨us, []⟩ = pure (ps.zip us)) : MethAt K mg c m q st ps := by
  obtain ⟨C', c1, c2⟩ := cl
  cases cls_eq c1 (PySem.W.mg_of X G a)
  exact ⟨C, f, _, c1, c2, ⟨i, fn, k⟩, fun_mk l co k, (fun_mk (st := st) l co k).binds hb⟩
end
end Tl
namespace Tl
open PySem PySem.Spec L2

/-! ### dicts with tuples as keys: the key is displayed where it is used -/
def keyOf : D → Option Key
  | .int i => some (.inl i)
  | .str x => some (.inr x)
  | _ => none
def keysOf : List RV → Option (List Key)
  | [] => some []
  | .own (.fz d) :: r => match keyOf d, keysOf r with
    | some k, some ks => some (k :: ks)
    | _, _ => none
  | _ :: _ => none
def gKey (rs : List RV) : Option (List Key) := if rs.length ≤ 1000 then keysOf rs else none
def keyR : Rl V (List Key) := fun B _ G v ks => G = [] ∧ ∃ b, v = .ref b ∧ B b = some (.tup (ks.map kV))
theorem stb_key : Stb keyR (fun _ => true) where
  there := fun B H G x a h => by obtain ⟨rfl, _⟩ := h; exact fun _ z => nomatch z
  keep := fun B H F B' H' F' G x a h f _ _ => by
    obtain ⟨rfl, b, e, k⟩ := h
    exact ⟨rfl, b, e, f.sB _ _ k⟩
theorem keyOf_rep {K : PySem.W.Frag} {B : Hp} {v : V} {d : D} {k : Key} (h : Rep K B v d) (e : keyOf d = some k) : v = kV k := by
  cases h <;> cases e <;> rfl
theorem keysOf_rep {K : PySem.W.Frag} {mg : Str → Option Value} {B H : Hp} {G : List Addr} {vs : List V} {rs : List RV} {ks : List Key} (h : lsR (rvR K mg) B H G vs rs) (e : keysOf rs = some ks) : G = [] ∧ vs = ks.map kV := by
  induction h generalizing ks with
  | nil => cases e; exact ⟨rfl, rfl⟩
  | @cons F1 G1 x a xs as r _ ih =>
    cases a with
    | view o => cases e
    | own o =>
      cases o with
      | fz d =>
        unfold keysOf at e
        cases e1 : keyOf d with
        | none => rw [e1] at e; cases e
        | some k =>
          cases e2 : keysOf as with
          | none => rw [e1, e2] at e; cases e
          | some ks' =>
            rw [e1, e2] at e; cases e
            obtain ⟨g, rfl⟩ := ih e2
            cases r with
            | fz r => exact ⟨by rw [g]; rfl, by rw [keyOf_rep r e1]; rfl⟩
      | _ => cases e
section
variable {X : Cx} {W : WX} {io : List Nat} {a b c e o : Expr} {es rest : List Expr} {f fa fb fc fo fv : Env → O RV} {fr : Env → O (List RV)} {pos : Pos}
def PKr (X : Cx) (W : WX) (e : Expr) (f : Env → O (List Key)) : Prop := ∃ t, PE X e t ∧ EOk X W keyR t f
def eKey (fr : Env → O (List RV)) : Env → O (List Key) := fun env => (fr env).mapP gKey
theorem k_tup {x1} (h : PAr X W es fr) : PKr X W (.Tuple es x1 pos) (eKey fr) := by
  obtain ⟨t, h, k⟩ := h
  refine ⟨_, pe_tup h, EOk.map k (r := fun (xs : List V) (H : Hp) (Q : VK) => xs.length ≤ sizeLine ∧ ∀ p, H p = none → Q (V.ref p) (upd H p (.tup xs))) fun B H G xs rs Q s r n q => ?_⟩
  dsimp only [gKey] at q
  split at q
  · rename_i hl
    cases ek : keysOf rs with
    | none => rw [ek] at q; exact q.elim
    | some ks =>
      rw [ek] at q
      obtain ⟨rfl, rfl⟩ := keysOf_rep r ek
      refine ⟨by rw [lsR_len r]; exact small hl, fun p hp => ?_⟩
      have hb : B p = none := s.free hp
      refine q (.ref p) (upd B p (.tup (ks.map kV))) _ [] ⟨rfl, p, rfl, upd_same⟩ (fun a u e => ?_) List.nodup_nil ⟨fun a u e => by rw [upd_ne (ne_of_none e hb)]; exact e, fun a u e _ => ?_, fun a u e _ b => ?_, fun a m => nomatch m⟩
      · by_cases h : a = p
        · subst h; rw [upd_same] at e ⊢; exact e
        · rw [upd_ne h] at e ⊢; exact s a u e
      · rw [upd_ne (ne_of_none e hp)]; exact e
      · rw [upd_ne (ne_of_none e hp)]; exact b
  · exact q.elim
/-! {} -/
def eDNewT : Env → O RV := fun _ => .ok (.own (.dT []))
theorem r_dnewT : PEr X W (.Dict [] [] pos) eDNewT := ⟨_, pe_dnewT, fun B H F σ env Q S q => by
  intro p hp
  have hb : B p = none := S.sub.free hp
  exact q (.ref p) B _ [p] (.dT upd_same hb rfl .nil) (fun a u e => by
      have := S.sub a u e
      rw [upd_ne (ne_of_none this hp)]; exact this) (by simp) ⟨Same.refl _, fun a u e _ => by rw [upd_ne (ne_of_none e hp)]; exact e, fun _ _ _ _ b => b, fun a m => .inr (by rw [List.mem_singleton.mp m]; exact hp)⟩⟩
/-! key in d -/
def gInT (neg : Bool) (p : List Key × RV) : Option RV := match p.2.od with
  | .dT os => some (.own (.fz (.bl (neg ^^ (os.map (·.1)).any fun k => decide (k = p.1)))))
  | _ => none
def eInT (neg : Bool) (fk : Env → O (List Key)) (fd : Env → O RV) : Env → O RV := fun env => ((fk env).andThen (fun _ => true) env (fun _ => fd) Prod.mk).mapP (gInT neg)
theorem valV_some {κ : Type} [DecidableEq κ] {kvs : List (κ × V)} {k : κ} : (valV kvs k).isSome = (kvs.map (·.1)).any fun j => decide (j = k) := by
  unfold valV
  induction kvs with
  | nil => rfl
  | cons x xs ih =>
    rw [List.find?_cons, List.map_cons, List.any_cons]
    by_cases h : x.1 = k
    · simp [h]
    · simp only [h, decide_false, Bool.false_or]
      exact ih
theorem v_inT (neg : Bool) : VOk (prR keyR (rvR X.K X.mg)) (rvR X.K X.mg) (fun p H (Q : VK) => ∃ a o, p.2 = V.ref a ∧ DGet H a p.1 o ∧ Q (.bl (neg ^^ o.isSome)) H) (gInT neg) := by
  intro B H G p q0 Q s r n q
  obtain ⟨y, x⟩ := p
  obtain ⟨ks, rv⟩ := q0
  obtain ⟨G1, G2, eG, ⟨rfl, b, ey, eb⟩, r2⟩ := r
  dsimp only [gInT] at q ey r2 ⊢
  subst ey
  split at q
  · rename_i os er
    obtain ⟨G', k⟩ := rv_own r2
    rw [er] at k
    cases k with
    | @dT p kvs F _ hp hb ke hr =>
      refine ⟨p, _, rfl, DGet.t hp (s _ _ eb), ?_⟩
      rw [valV_some, ke]
      exact VPost.fz q s .bl
  · exact q.elim
theorem k_inDT {fk : Env → O (List Key)} {tk td : TE} (neg : Bool) (k : EOk X W keyR tk fk) (k2 : EOk X W (rvR X.K X.mg) td fo) : EOk X W (rvR X.K X.mg) (fun σ H Q => tk σ H fun y H1 => td σ H1 fun x H2 => ∃ a o, x = V.ref a ∧ DGet H2 a y o ∧ Q (.bl (neg ^^ o.isSome)) H2) (eInT neg fk fo) :=
  (EOk.andThen (jx := Prod.mk) (jb := Prod.mk) (R'' := prR keyR (rvR X.K X.mg)) (u := fun _ => td) stb_key stb_rv (fun _ _ G1 G2 _ _ _ _ a b => ⟨G1, G2, rfl, a, b⟩) k fun _ _ _ => k2).map (v_inT (X := X) neg)
theorem g_inDT (hu : X.A.units + 1 < cLine) {fk : Env → O (List Key)} (hk : PKr X W a fk) (hd : PEr X W o fo) (hm : behindInMarks .In o = false := by first | exact nomark _ | with_unfolding_all rfl) : PEr X W (.Compare a [.In] [o] pos) (eInT false fk fo) := by
  obtain ⟨t, h, k⟩ := hk
  obtain ⟨t2, h2, k2⟩ := hd
  refine ⟨_, pe_cmp (pc_din hu h h2) hm, fun B H F σ env Q S q => ?_⟩
  have z := k_inDT (X := X) false k k2 B H F σ env Q S q
  unfold tDIn
  simpa only [Bool.false_xor] using z
theorem t_inDT (hu : X.A.units + 1 < cLine) {fk : Env → O (List Key)} (hk : PKr X W a fk) (hd : PEr X W o fo) (hm : behindInMarks .In o = false := by first | exact nomark _ | with_unfolding_all rfl) : PTr X W (.Compare a [.In] [o] pos) (tV RV.bool? (eInT false fk fo)) := by
  obtain ⟨t, h, k⟩ := hk
  obtain ⟨t2, h2, k2⟩ := hd
  refine ⟨_, pt_cmp (pc_din hu h h2) hm, fun B H F σ env Q S q => ?_⟩
  have z := ((k_inDT (X := X) false k k2).map (r := fun (x : V) (H : Hp) (Q : Bool → Hp → Prop) => ∃ k, x = .bl k ∧ Q k H) (R' := boR) (g := RV.bool?) fun B H G x r Q s h n q => by
    cases e : r.bool? with
    | none => rw [e] at q; exact q.elim
    | some k => rw [e] at q; exact ⟨k, rv_bool h e, VPost.bo q s⟩) B H F σ env Q S q
  unfold tB tDIn
  simpa only [Bool.false_xor] using z
theorem g_ninDT (hu : X.A.units + 1 < cLine) {fk : Env → O (List Key)} (hk : PKr X W a fk) (hd : PEr X W o fo) (hm : behindInMarks .NotIn o = false := by first | exact nomark _ | with_unfolding_all rfl) : PEr X W (.Compare a [.NotIn] [o] pos) (eInT true fk fo) := by
  obtain ⟨t, h, k⟩ := hk
  obtain ⟨t2, h2, k2⟩ := hd
  refine ⟨_, pe_cmp (pc_dnotin hu h h2) hm, fun B H F σ env Q S q => ?_⟩
  have z := k_inDT (X := X) true k k2 B H F σ env Q S q
  unfold tDNotIn
  simpa only [Bool.true_xor] using z
theorem t_ninDT (hu : X.A.units + 1 < cLine) {fk : Env → O (List Key)} (hk : PKr X W a fk) (hd : PEr X W o fo) (hm : behindInMarks .NotIn o = false := by first | exact nomark _ | with_unfolding_all rfl) : PTr X W (.Compare a [.NotIn] [o] pos) (tV RV.bool? (eInT true fk fo)) := by
  obtain ⟨t, h, k⟩ := hk
  obtain ⟨t2, h2, k2⟩ := hd
  refine ⟨_, pt_cmp (pc_dnotin hu h h2) hm, fun B H F σ env Q S q => ?_⟩
  have z := ((k_inDT (X := X) true k k2).map (r := fun (x : V) (H : Hp) (Q : Bool → Hp → Prop) => ∃ k, x = .bl k ∧ Q k H) (R' := boR) (g := RV.bool?) fun B H G x r Q s h n q => by
    cases e : r.bool? with
    | none => rw [e] at q; exact q.elim
    | some k => rw [e] at q; exact ⟨k, rv_bool h e, VPost.bo q s⟩) B H F σ env Q S q
  unfold tB tDNotIn
  simpa only [Bool.true_xor] using z
theorem hu1 {j : Nat} {A : Around} (hr : Room j A) : A.units + 1 < cLine := by have := hr.un; omega
/-! d[key] = v, all values plain -/
def putO (kvs : List (List Key × OD)) (k : List Key) (o : OD) : List (List Key × OD) :=
  if ((kvs.map (·.1)).any fun j => decide (j = k)) = true then kvs.map (fun kv => if kv.1 = k then (kv.1, o) else kv) else kvs ++ [(k, o)]
theorem putO_len {kvs : List (List Key × OD)} {k : List Key} {o : OD} : (putO kvs k o).length ≤ kvs.length + 1 := by
  unfold putO
  split
  · simp
  · simp
def allFz (kvs : List (List Key × OD)) : Bool := kvs.all fun kv => match kv.2 with
  | .fz _ => true
  | _ => false
theorem any_keys {kvs : List (List Key × V)} {k : List Key} : (kvs.any fun kv => decide (kv.1 = k)) = (kvs.map (·.1)).any fun j => decide (j = k) := by
  rw [List.any_map]; rfl
theorem map_keys {α : Type} {kvs : List (List Key × α)} {k : List Key} {v : α} : (kvs.map (fun kv => if kv.1 = k then (kv.1, v) else kv)).map (·.1) = kvs.map (·.1) := by
  induction kvs with
  | nil => rfl
  | cons x xs ih =>
    rw [List.map_cons, List.map_cons, List.map_cons, ih]
    by_cases h : x.1 = k
    · rw [if_pos h]
    · rw [if_neg h]
theorem putO_keys {kvs : List (List Key × V)} {os : List (List Key × OD)} {k : List Key} {v : V} {o : OD} (ke : kvs.map (·.1) = os.map (·.1)) : (putK kvs k v).map (·.1) = (putO os k o).map (·.1) := by
  unfold putK putO
  rw [any_keys, ke]
  by_cases h : ((os.map (·.1)).any fun j => decide (j = k)) = true
  · rw [if_pos h, if_pos h, map_keys, map_keys, ke]
  · rw [if_neg h, if_neg h, List.map_append, List.map_append, ke]; rfl
theorem putM_own {K : PySem.W.Frag} {mg : Str → Option Value} {B H : Hp} {k : List Key} {v : V} {d : D} (rd : Rep K B v d) : ∀ {kvs : List (List Key × V)} {os : List (List Key × OD)} {F : List Addr}, kvs.map (·.1) = os.map (·.1) → OwnL K mg B H F (kvs.map (·.2)) (os.map (·.2)) → allFz os = true →
    F = [] ∧ OwnL K mg B H [] ((kvs.map (fun kv => if kv.1 = k then (kv.1, v) else kv)).map (·.2)) ((os.map (fun kv => if kv.1 = k then (kv.1, OD.fz d) else kv)).map (·.2))
  | [], [], _, _, .nil, _ => ⟨rfl, .nil⟩
  | [], _ :: _, _, e, _, _ => by cases e
  | _ :: _, [], _, e, _, _ => by cases e
  | x :: xs, y :: ys, _, e, r, z => by
    simp only [List.map_cons, List.cons.injEq] at e
    obtain ⟨e1, e2⟩ := e
    simp only [List.map_cons] at r
    cases r with
    | @cons F1 G1 _ _ _ _ r1 rt =>
      unfold allFz at z
      rw [List.all_cons, Bool.and_eq_true] at z
      obtain ⟨z1, z2⟩ := z
      obtain ⟨f1, t⟩ := putM_own (k := k) rd e2 rt z2
      obtain ⟨yk, yo⟩ := y
      obtain ⟨xk, xv⟩ := x
      dsimp only at r1
      cases yo with
      | fz dy =>
        cases r1 with
        | fz r1 =>
          subst f1
          refine ⟨rfl, ?_⟩
          rw [List.map_cons, List.map_cons, List.map_cons, List.map_cons]
          dsimp only at e1
          by_cases h : xk = k
          · have h' : yk = k := by rw [← e1]; exact h
            rw [if_pos h, if_pos h']
            exact OwnL.cons (F := []) (.fz rd) t
          · have h' : ¬ yk = k := by rw [← e1]; exact h
            rw [if_neg h, if_neg h']
            exact OwnL.cons (F := []) (.fz r1) t
      | _ => cases z1
theorem putO_own {K : PySem.W.Frag} {mg : Str → Option Value} {B H : Hp} {k : List Key} {v : V} {d : D} (rd : Rep K B v d) {kvs : List (List Key × V)} {os : List (List Key × OD)} {F : List Addr} (ke : kvs.map (·.1) = os.map (·.1)) (r : OwnL K mg B H F (kvs.map (·.2)) (os.map (·.2))) (z : allFz os = true) :
    F = [] ∧ OwnL K mg B H [] ((putK kvs k v).map (·.2)) ((putO os k (.fz d)).map (·.2)) := by
  obtain ⟨f, t⟩ := putM_own (k := k) rd ke r z
  refine ⟨f, ?_⟩
  subst f
  unfold putK putO
  rw [any_keys, ke]
  by_cases h : ((os.map (·.1)).any fun j => decide (j = k)) = true
  · rw [if_pos h, if_pos h]; exact t
  · rw [if_neg h, if_neg h, List.map_append, List.map_append]
    exact OwnL.append (F := []) r (OwnL.cons (F := []) (.fz rd) .nil)
def sDPutT (get : Env → Option OD) (put : Env → OD → Env) (fk : Env → O (List Key)) (fv : Env → O RV) : Env → SO := sE fv fun r env => match r.od with
  | .fz d => match get env with
    | some (.dT os) => match fk env with
      | .ok ks => if allFz os = true ∧ os.length < 1000 then .nx (put env (.dT (putO os ks (.fz d)))) else .bad
      | _ => .bad
    | _ => .bad
  | _ => .bad
theorem dict_back {K : PySem.W.Frag} {mg : Str → Option Value} {B H : Hp} {F Fo Fr : List Addr} {σ : St} {e1 : Env} {put : OD → Env} {p : Addr} {kvs : List (List Key × V)} {os : List (List Key × OD)} {k : List Key} {v : V} {d : D} (S1 : Sta K mg B H F σ e1) (pm : F.Perm (Fo ++ Fr)) (ho : Own K mg B H Fo (.ref p) (.dT os)) (hp : H p = some (.dT kvs)) (pl : Plug K mg B H Fr σ put (.ref p)) (rd : Rep K B v d) (z : allFz os = true) :
    ∃ F2, Sta K mg B (upd H p (.dT (putK kvs k v))) F2 σ (put (.dT (putO os k (.fz d)))) ∧ Frm B H F B (upd H p (.dT (putK kvs k v))) F2 := by
  have nd := pm.nodup_iff.mp S1.nd
  cases ho with
  | @dT _ kvs' F0 _ hp' hb ke hr =>
    rw [hp] at hp'; cases hp'
    obtain ⟨f0, t⟩ := putO_own (k := k) rd ke hr z
    subst f0
    have nd4 := List.nodup_append.mp nd
    obtain ⟨F2, sl, p2⟩ := pl B (upd H p (.dT (putK kvs k v))) [p] (.dT (putO os k (.fz d))) (Same.refl _) (fun a m => by
      have ne : a ≠ p := fun z => nd4.2.2 p List.mem_cons_self a m z.symm
      exact ⟨fun u e => by rw [upd_ne ne]; exact e, (S1.sl.there a (pm.mem_iff.mpr (List.mem_append_right _ m))).1⟩) (.dT upd_same hb (putO_keys ke) (ownL_upd t (fun z => nomatch z)))
    have pf : F2.Perm F := p2.trans pm.symm
    refine ⟨F2, ⟨same_upd S1.sub hb, sl, pf.nodup_iff.mpr S1.nd⟩, ⟨Same.refl _, fun a u e m => ?_, fun a u e m z => z, fun a m => .inl (pf.mem_iff.mp m)⟩⟩
    have ne : a ≠ p := fun z => m (by subst z; exact pm.mem_iff.mpr (List.mem_append_left _ List.mem_cons_self))
    rw [upd_ne ne]; exact e
theorem s_dputT (hu : X.A.units + 1 < cLine) {pos' : Pos} {get : Env → Option OD} {put : Env → OD → Env} {fk : Env → O (List Key)} (hp : PLr X o get put) (hk : PKr X W a fk) (he : PEr X W e f) (hs : swapsWith e (some (.Subscript o a pos')) pos.line X.env = pure false := by rfl) :
    PSr X W io (.Assign [.Subscript o a pos'] e pos) (sDPutT get put fk f) := by
  obtain ⟨td, hd, kd⟩ := hp
  obtain ⟨tk, hk, kk⟩ := hk
  obtain ⟨te, he, ke⟩ := he
  refine ⟨_, ps_dput hu hd hk he hs, fun B H F σ env D S q => ?_⟩
  unfold sDPutT sE at q
  refine ke B H F σ env _ S ?_
  have fin : ∀ {B' H' : Hp} {F' G : List Addr} {e1 : Env} {r1 : RV} {y : V}, Slots X.K X.mg B' H' F' σ e1 → Same B' H' → (G ++ F').Nodup → Frm B H F B' H' (G ++ F') → rvR X.K X.mg B' H' G y r1 →
      SPost X W io B H F σ D (match r1.od with
        | .fz d => match get e1 with
          | some (.dT os) => match fk e1 with
            | .ok ks => if allFz os = true ∧ os.length < 1000 then .nx (put e1 (.dT (putO os ks (.fz d)))) else .bad
            | _ => .bad
          | _ => .bad
        | _ => .bad) → td σ H' fun x H2 => tk σ H2 fun k H3 => ∃ a H4, x = .ref a ∧ DPut H3 a k y H4 ∧ D.nx σ H4 := by
    intro B' H' F' G e1 r1 y sl s nd f r q2
    split at q2
    · rename_i d er
      have rd := rv_fz r er
      split at q2
      · rename_i os eg
        split at q2
        · rename_i ks ek
          split at q2
          · rename_i hz
            have nF := (List.nodup_append.mp nd).2.1
            refine kd B' H' F' σ e1 _ _ ⟨s, sl, nF⟩ eg fun w B1 H1 Fo Fr f1 s1 pm ho pl => ?_
            have S1 : Sta X.K X.mg B1 H1 F' σ e1 := Sta.pure ⟨s, sl, nF⟩ s1 f1
            refine kk B1 H1 F' σ e1 _ S1 ?_
            rw [ek]
            intro vk B2 H2 G2 rk s2 n2 f2
            obtain ⟨rfl, b, rfl, eb⟩ := rk
            have S2 := S1.pure s2 f2
            have ho2 := f2.own ho fun _ _ z => nomatch z
            have pl2 := pl.later f2.sB (fun a m u e => f2.keep a u e (by simp))
            obtain ⟨p, kvs, ep, h1, ker⟩ : ∃ p kvs, w = .ref p ∧ H2 p = some (.dT kvs) ∧ kvs.map (·.1) = os.map (·.1) := by
              cases ho2 with
              | dT h1 b1 ker r1 => exact ⟨_, _, rfl, h1, ker⟩
            subst ep
            have hlen : kvs.length = os.length := by
              have := congrArg List.length ker
              simpa using this
            have sb : Same B' B2 := f1.sB.trans f2.sB
            obtain ⟨F2, S3, f3⟩ := dict_back (k := ks) S2 pm ho2 h1 pl2 (rd.mono sb) hz.1
            have f12 : Frm B' H' [] B2 H2 [] := f1.trans (f2.wide (F2 := []) (fun _ z => nomatch z) fun c m => nomatch m)
            refine ⟨p, _, rfl, DPut.t h1 (s2 _ _ eb) (by have : (1000 : Nat) ≤ sizeLine := small (Nat.le_refl _); omega), q2 B2 _ F2 σ S3 ?_ Agree.refl⟩
            exact f.trans ((Frm.wide (F := []) (F' := []) (G := G ++ F') (F2 := G ++ F') f12 (fun _ z => nomatch z) (fun c m => .inr m)).trans (f3.wide (fun c z => List.mem_append_right _ z) fun c m => .inl m))
          · exact q2.elim
        · exact q2.elim
      · exact q2.elim
    · exact q2.elim
  cases e2 : f env with
  | bad => rw [e2] at q; exact q
  | exc c e => rw [e2] at q; exact fun B' H' F' S' f' => q B' H' F' σ S' f' Agree.refl
  | ok r1 => rw [e2] at q; exact fun w B' H' G ra s n f => fin (S.pure s f).sl s (nodup_new (fun a m => (S.sl.there a m).2) S.nd n f) f.wide0 ra q
  | eff r1 e => rw [e2] at q; exact fun w B' H' G F' ra l s n f => fin l s n f ra q
end
end Tl
namespace Tl
open PySem PySem.Spec L2
open PyProof.Rows (seqObj ksk_s1 ksk_l1 ksk_t1 ksk_tree ksk_rest ksk_fold get?_update_seq listItems_at listUpdate_at seqEpoch_at size_push')
open PySem.W (EachIs KeepsBut)

/-! ### sorted(xs, key=f), f a def of the module whose keys are pairs of ints -/
theorem around_in1 (A : Around) : A.in1.frames = A.frames := by first | rfl | simp [Around.in1, Around.under]
section
variable {X : Cx} {W : WX} {σ : St}
/-- a def called from within built-ins, on plain data -/
theorem key_call {k : Nat} {ps : List Str} {Fm : List OD → FO} {A' : Around} {fn : Addr} {fd : FuncData} (F : FnOk X.prog X.w X.K X.mg X.base (L2.CX X.prog X.w) k fn fd ps (spOf X.K X.mg 1 Fm)) (hb : Binds X.K fd ps []) (hr : Room k A') (hfr : A'.frames = X.A.frames)
    {pl : List (Addr × Obj)} {H B : Hp} {s : Shared} (I : Inv X pl σ H s) (sb : Same B H) {v : V} {u : Value} {d kd : D} {r : List OD} (hv : RelV v u) (rd : Rep X.K B v d) (e : Fm [.fz d] = .ret (.fz kd) r) :
    wpAny (model X.prog X.w) A' (call (.ref fn) [u]) (fun u' s' => ∃ v' B' H', Inv X pl σ H' s' ∧ RelV v' u' ∧ Rep X.K B' v' kd ∧ Same B' H' ∧ Frm B H [] B' H' []) (fun _ _ => False) s := by
  have sp : spOf X.K X.mg 1 Fm [v] H (fun v' H' => ∃ B', Rep X.K B' v' kd ∧ Same B' H' ∧ Frm B H [] B' H' []) (fun _ _ _ => False) := by
    refine ⟨rfl, B, [], [.fz d], sb, .cons (F := []) (.fz rd) .nil, List.nodup_nil, ?_⟩
    rw [e]
    intro v' B' H' Fr G' ro _ s2 _ f
    cases ro with
    | fz ro => exact ⟨B', ro, s2, ⟨f.sB, f.keep, f.forg, fun _ m => nomatch m⟩⟩
  have hl : [u].length = ps.length := F.len _ _ _ _ sp
  have b := hb s [u] I.kIn (by rw [List.append_nil]; exact hl)
  rw [List.append_nil] at b
  have z := I.env0
  refine wpAny_call (codeAny_mono (F.run A' X.stack s H ⟨[u], []⟩ [u] [v] _ _ hr ⟨by rw [hfr]; exact z.frames, z.mod, z.bs, z.bsz, z.funs, z.frf, z.hok, z.bare⟩ b (.cons hv .nil) sp) fun r s' hq => ?_)
  cases r with
  | error e =>
    obtain ⟨_, _, _, _, _, _, _, _, _, _, _, _, z⟩ := hq
    exact z.elim
  | ok fl =>
    cases fl with
    | ret u' =>
      obtain ⟨v', H', I', rv, B', a1, a2, a3⟩ := I.after hq
      exact ⟨v', B', H', I', rv, a1, a2, a3⟩
    | next => exact False.elim hq
    | brk => exact False.elim hq
    | cont => exact False.elim hq
abbrev KD := D × Int × Int
def keyD (b : KD) : D := .tup [.int b.2.1, .int b.2.2]
def keyP (b : KD) : PyData := .tuple [.int b.2.1, .int b.2.2]
theorem reads_key {pl : List (Addr × Obj)} {H B : Hp} {s : Shared} (I : Inv X pl σ H s) (sb : Same B H) {v : V} {u : Value} {b : KD} (hv : RelV v u) (rd : Rep X.K B v (keyD b)) : ∃ as, PySem.Reads s.heap u (keyP b) as := by
  cases rd with
  | @tup p vs _ h r =>
    cases hv
    obtain ⟨its, rv, ⟨o, ho, hc, n, hd⟩, _⟩ := I.tuple (Same.seqT sb h)
    cases r with
    | cons r1 r =>
      cases r with
      | cons r2 r =>
        cases r
        cases r1
        cases r2
        obtain ⟨w1, w2, rfl, h1, h2⟩ := vals2 rv
        obtain ⟨t1, rfl⟩ := h1
        obtain ⟨t2, rfl⟩ := h2
        exact ⟨_, .tuple ho hc hd (.cons (.int _ _) (.cons (.int _ _) .nil))⟩
def itemR (X : Cx) (B : Hp) (u : Value) (b : KD) : Prop := ∃ v, RelV v u ∧ Rep X.K B v b.1
theorem itemR_mono {B B' : Hp} (s : Same B B') {u : Value} {b : KD} (h : itemR X B u b) : itemR X B' u b := by
  obtain ⟨v, h1, h2⟩ := h
  exact ⟨v, h1, h2.mono s⟩
theorem each_items {B : Hp} : ∀ {xs : List V} {its : List Value} {bs : List KD}, Vals xs its → RepL X.K B xs (bs.map (·.1)) → EachIs (itemR X B) its bs
  | [], _, [], .nil, _ => .nil
  | [], _, _ :: _, .nil, h => by cases h
  | _ :: _, _, [], .cons _ _, h => by cases h
  | x :: xs, _, b :: bs, .cons h1 t, h => by
    rw [List.map_cons] at h
    cases h with
    | cons r1 rt => exact .cons ⟨x, h1, r1⟩ (each_items t rt)
theorem items_each {B : Hp} : ∀ {its : List Value} {bs : List KD}, EachIs (itemR X B) its bs → ∃ vs, Vals vs its ∧ RepL X.K B vs (bs.map (·.1))
  | _, _, .nil => ⟨[], .nil, .nil⟩
  | _, _, .cons ⟨v, h1, h2⟩ t => by
    obtain ⟨vs, a, b⟩ := items_each t
    exact ⟨v :: vs, .cons h1 a, .cons h2 b⟩
def srtK (bs : List KD) : List KD := bs.mergeSort fun p q => decide (p.2.1 < q.2.1 ∨ (p.2.1 = q.2.1 ∧ p.2.2 ≤ q.2.2))
theorem each_get {α β : Type} {R : α → β → Prop} {as : List α} {bs : List β} (e : EachIs R as bs) {j : Nat} {x : α} (h : as[j]? = some x) : ∃ b, bs[j]? = some b ∧ R x b := by
  have hj := (List.getElem?_eq_some_iff.mp h).1
  obtain ⟨b, hb⟩ : ∃ b, bs[j]? = some b := ⟨_, List.getElem?_eq_getElem (by rw [← e.length]; exact hj)⟩
  exact ⟨b, hb, e.zip (x, b) (List.mem_of_getElem? (i := j) (by rw [List.getElem?_zip_eq_some]; exact ⟨h, hb⟩))⟩
def keyR2 (X : Cx) (B : Hp) (u : Value) (b : KD) : Prop := ∃ v, RelV v u ∧ Rep X.K B v (keyD b)
theorem keyR2_mono {B B' : Hp} (s : Same B B') {u : Value} {b : KD} (h : keyR2 X B u b) : keyR2 X B' u b := by
  obtain ⟨v, h1, h2⟩ := h
  exact ⟨v, h1, h2.mono s⟩
theorem keys_alike (bs : List KD) : PySem.W.AllAlike (bs.map keyP) := PySem.W.AllAlike.of fun _ _ => by simp [keyP, PySem.W.alike, PySem.W.alikeAll]
theorem keys_sortable (bs : List KD) : PySem.W.Sortable (bs.map keyP) := PySem.W.Sortable.tuples fun _ => ⟨_, _, rfl⟩
theorem sort_key {k : Nat} {ps : List Str} {Fm : List OD → FO} {fn : Addr} {fd : FuncData} (F : FnOk X.prog X.w X.K X.mg X.base (L2.CX X.prog X.w) k fn fd ps (spOf X.K X.mg 1 Fm)) (hb : Binds X.K fd ps []) (hr : Room (k + 2) X.A)
    {pins : List (Addr × Obj)} {H B : Hp} {s : Shared} {a : Addr} {xs : List V} {bs : List KD} {Q : VK} (I : Inv X pins σ H s) (sb : Same B H) (hs : SqL X.K H a xs) (rp : RepL X.K B xs (bs.map (·.1))) (hk : ∀ b ∈ bs, ∃ r, Fm [.fz b.1] = .ret (.fz (keyD b)) r)
    (q : ∀ B' H' D vs', Same B' H' → Frm B H [] B' H' [] → H' D = none → B' D = none → H D = none → RepL X.K B' vs' ((srtK bs).map (·.1)) → Q (.ref D) (upd H' D (.lst vs'))) :
    wpAny (model X.prog X.w) X.A (call (.builtin "sorted") [.ref a] [(Str.ofString "key", .ref fn)]) (EP X pins σ Q) X.xe s := by
  obtain ⟨its, rv, hl, hz⟩ := I.list hs
  have hzi : its.length ≤ sizeLine := by rw [← rv.length]; exact hz
  have each := each_items (X := X) rv rp
  have hbl : its.length = bs.length := each.length
  refine PySem.W.sorted_of_sort hl.isList hzi (ksk_s1 _ _) (fun _ => ksk_l1 _ _) fun E' => ?_
  rw [ksk_t1]
  obtain ⟨C, hC⟩ : ∃ C, C = PySem.W.copyHeap s.heap its := ⟨_, rfl⟩
  obtain ⟨D, hD⟩ : ∃ D, D = s.heap.objs.size + 1 := ⟨_, rfl⟩
  have ho : C.get? D = some (seqObj "list" its.toArray 0) := by rw [hC, hD]; exact PySem.W.copyHeap_at s.heap its
  rw [← hC, ← hD]
  obtain ⟨e1, ho1⟩ : ∃ e1, (C.update D (Obj.mapSeq fun _ => (#[] : Array Value))).get? D = some (seqObj "list" #[] e1) := ⟨_, get?_update_seq ho fun _ => #[]⟩
  obtain ⟨kS, hkS⟩ : ∃ kS, kS = ((C.update D (Obj.mapSeq fun _ => (#[] : Array Value))).push (seqObj "tuple" its.toArray 0)).objs.size := ⟨_, rfl⟩
  have hkS2 : kS = C.objs.size + 1 := by rw [hkS, size_push', Heap.size_update]
  have hCD : D < C.objs.size := Heap.lt_size ho
  have hkD : kS ≠ D := by omega
  have gD : s.heap.objs.size ≤ D := by omega
  have gK : s.heap.objs.size ≤ kS := by omega
  have fD := I.fpOk gD (I.hok.fresh gD)
  have fK := I.fpOk gK (I.hok.fresh gK)
  have bD : B D = none := sb.free fD.1
  have bK : B kS = none := sb.free fK.1
  unfold ksk_tree
  refine wpAny_bind (listItems_at (a := D) ho rfl ?_)
  refine wpAny_bind (listUpdate_at ho rfl ?_ (by rw [List.size_toArray]; exact hzi) (Nat.zero_le _))
  refine wpAny_bind (seqEpoch_at (a := D) ho1 rfl ?_)
  refine wpAny_bind (wpAny_newTuple ?_ (by show its.length ≤ _; exact hzi))
  refine wpAny_bind (wpAny_newList (items := []) ?_ (Nat.zero_le _))
  refine wpAny_holding ?_
  have hkS3 := hkS
  simp only [seqObj] at hkS3
  rw [← hkS3]
  have old : ∀ b u, s.heap.get? b = some u → (((C.update D (Obj.mapSeq fun _ => (#[] : Array Value))).push (seqObj "tuple" its.toArray 0)).push (seqObj "list" #[] 0)).get? b = some u := fun b u e =>
    PySem.W.sortingHeap_old (Nat.ne_of_lt (Nat.lt_of_lt_of_le (Heap.lt_size e) gD)) (by rw [hC]; exact PySem.W.copyHeap_old e)
  have I0 := I.kept (t' := s.toks) old
  unfold ksk_rest
  refine wpAny_bind (wpAny_rule ?_)
  rw [List.forIn_toArray]
  refine wpAny_bind (ksk_fold (fun i s' => ∃ B' H' kA e, Inv X pins σ H' s' ∧ Same B' H' ∧ Frm B H [] B' H' [] ∧ s'.heap.get? D = some (seqObj "list" #[] e1) ∧ s'.heap.get? kS = some (seqObj "list" kA e) ∧ H' D = none ∧ H' kS = none ∧ B' D = none ∧ B' kS = none ∧ EachIs (keyR2 X B') kA.toList (bs.take i)) its 0 _
    ⟨B, H, #[], 0, I0, sb, Frm.none, Heap.get?_push_of_some _ (Heap.get?_push_of_some _ ho1), by rw [hkS]; exact Heap.get?_push_size _ rfl, fD.1, fK.1, bD, bK, by rw [List.take_zero]; exact EachIs.nil⟩ ?step ?done)
  case step =>
    rintro j x s' hx ⟨B', H', kA, e, I', sb', f', na, nk, nD, nK, mD, mK, ek⟩
    simp only [Nat.zero_add] at ek ⊢
    obtain ⟨b, hbj, v, hv, rd⟩ := each_get each hx
    obtain ⟨r, er⟩ := hk b (List.mem_of_getElem? hbj)
    have Ip : Inv X ((kS, seqObj "list" kA e) :: (D, seqObj "list" #[] e1) :: pins) σ H' s' := I'.pins_of fun p hp => by
      rcases List.mem_cons.mp hp with rfl | hp
      · exact ⟨nk, nK, fK.2.1, fK.2.2.1, fun _ z => nomatch z⟩
      · rcases List.mem_cons.mp hp with rfl | hp
        · exact ⟨na, nD, fD.2.1, fD.2.2.1, fun _ z => nomatch z⟩
        · exact I'.pin p (List.mem_append_right _ hp)
    refine wpAny_bind (wpAny_attempt (wpAny_mono (key_call F hb hr.in1.in1 rfl Ip sb' hv (rd.mono f'.sB) er) (fun u' s'' he => ?_) fun _ _ hF => hF.elim))
    obtain ⟨v', B2, H2, I2, rv2, rd2, sb2, f2⟩ := he
    try dsimp only
    have p1 := I2.pin (kS, seqObj "list" kA e) (List.mem_append_right _ List.mem_cons_self)
    have p2 := I2.pin (D, seqObj "list" #[] e1) (List.mem_append_right _ (List.mem_cons_of_mem _ List.mem_cons_self))
    have I3 : Inv X pins σ H2 s'' := I2.pins_of fun p hp => I2.pin p (List.mem_append_right _ (List.mem_cons_of_mem _ (List.mem_cons_of_mem _ hp)))
    have hjl : j < its.length := (List.getElem?_eq_some_iff.mp hx).1
    have hka : kA.size ≤ its.length := by
      have h1 := ek.length
      rw [Array.length_toList, List.length_take] at h1
      omega
    have s1 := Heap.SameBut.update s''.heap kS (Obj.mapSeq (·.push u'))
    obtain ⟨c2, hc2⟩ : ∃ c2, (s''.heap.update kS (Obj.mapSeq (·.push u'))).get? kS = some (seqObj "list" (kA.push u') c2) := ⟨_, get?_update_seq p1.1 (·.push u')⟩
    refine wpAny_bind (listUpdate_at p1.1 rfl ?_ (Nat.le_trans hka hzi) (Nat.le_trans (Nat.le_of_eq (Array.size_push ..)) (Nat.succ_le_succ (Nat.le_trans hka hzi))))
    refine wpAny_pure ⟨rfl, B2, H2, kA.push u', c2, I3.turnedL (t' := s''.toks) (ch := [kS]) (fun c o hc e => (s1.2 c (fun z => hc (by simp [z]))).trans e) (fun c hc => ?_), sb2, f'.trans f2, (s1.2 D (fun z => hkD z.symm)).trans p2.1, hc2, p2.2.1, p1.2.1, sb2.free p2.2.1, sb2.free p1.2.1, ?_⟩
    · rw [List.mem_singleton.mp hc]
      exact ⟨p1.2.1, fK.2⟩
    · have e2 : bs.take (j + 1) = bs.take j ++ [b] := by rw [List.take_add_one, hbj]; simp
      have e3 : (kA.push u').toList = kA.toList ++ [u'] := by simp
      rw [e2, e3]
      exact PySem.W.each_snoc (R := keyR2 X B2) ⟨v', rv2, rd2⟩ (ek.mono fun u b h => keyR2_mono f2.sB h)
  case done =>
    rintro s' ⟨B', H', kA, e, I', sb', f', na, nk, nD, nK, mD, mK, ek⟩
    have e3 : bs.take (0 + its.length) = bs := List.take_of_length_le (by omega)
    rw [e3] at ek
    have hrd : EachIs (fun v k => ∃ as, PySem.Reads s'.heap v k as) kA.toList (bs.map keyP) := by
      have : EachIs (fun v b => ∃ as, PySem.Reads s'.heap v (keyP b) as) kA.toList bs := ek.mono fun u b ⟨v, h1, h2⟩ => reads_key I' sb' h1 h2
      exact PySem.W.each_map keyP this
    have hsz : kA.size = its.length := by
      have h1 := ek.length
      rw [Array.length_toList] at h1
      omega
    obtain ⟨G, g1, g2⟩ := L2.restrict s'.heap fun b => decide (b ≠ kS)
    try dsimp only
    refine wpAny_bind (listItems_at nk rfl ?_)
    refine PySem.W.keyH_end (κ := PySem.W.dataKind s'.heap (bs.map keyP)) (h₁ := G) (fun b o hb e => ?_) (g2 kS (by simp)) nk na hkD (PySem.W.SortsAt.data hrd (keys_alike bs) (keys_sortable bs) fun d hd => ?_) hsz hzi fun h3 tk3 c k3 n3 => ?_
    · by_cases hk2 : b = kS
      · rw [hk2, g2 kS (by simp)] at e; cases e
      · rw [← g1 b (by simp [hk2])]; exact e
    · obtain ⟨b, _, rfl⟩ := List.mem_map.mp hd
      have : (keyP b).depth ≤ 1 := by simp [keyP, PyData.depth, PyData.depthAll]
      have := hr.in1.in1.un
      omega
    · have ko : PySem.W.KeyedOut false (bs.map keyP) its (PySem.W.sortVals (PySem.W.dataKind s'.heap (bs.map keyP)) false kA.toList its) := ⟨s'.heap, kA.toList, keys_alike bs, rfl, hrd⟩
      have eo := PySem.W.keyedOut_each keyP ko (each.mono fun u b h => itemR_mono f'.sB h)
      have el : PySem.W.dataLe false keyP = fun p q : KD => decide (p.2.1 < q.2.1 ∨ (p.2.1 = q.2.1 ∧ p.2.2 ≤ q.2.2)) := PySem.W.dataLe_ii (fun b : KD => b.2.1) (fun b : KD => b.2.2)
      rw [el] at eo
      obtain ⟨vs', w1, w2⟩ := items_each eo
      have I4 : Inv X pins σ H' { s' with heap := h3, toks := tk3 } := I'.turnedL (ch := [kS, D]) (fun b o hb e => k3 b o (fun z => hb (by simp [z])) (by rw [g1 b (by simp; exact fun z => hb (by simp [z]))]; exact e)) fun b hb => by
        rcases List.mem_cons.mp hb with rfl | hb
        · exact ⟨nK, fK.2⟩
        · rw [List.mem_singleton.mp hb]; exact ⟨nD, fD.2⟩
      have hlen : vs'.length ≤ sizeLine := by
        rw [w1.length, eo.length, List.length_mergeSort, ← hbl]; exact hzi
      have I5 : Inv X pins σ (upd H' D (.lst vs')) { s' with heap := h3, toks := tk3 } := Inv.take (s := { s' with heap := h3, toks := tk3 }) (h' := h3) (t' := tk3) I4 (fun b ob _ e => e) ⟨nD, fD.2⟩ ⟨hlen, _, c, w1, n3⟩
      exact ⟨rfl, .ref D, _, I5, rfl, q B' H' D vs' sb' f' nD mD fD.1 w2⟩
def keyKs (Fm : List OD → FO) : List D → Option (List KD)
  | [] => some []
  | d :: ds => match Fm [.fz d], keyKs Fm ds with
    | .ret (.fz (.tup [.int i, .int j])) _, some r => some ((d, i, j) :: r)
    | _, _ => none
theorem keyKs_ok {Fm : List OD → FO} : ∀ {ds : List D} {bs : List KD}, keyKs Fm ds = some bs → bs.map (·.1) = ds ∧ ∀ b ∈ bs, ∃ r, Fm [.fz b.1] = .ret (.fz (keyD b)) r
  | [], bs, h => by cases h; exact ⟨rfl, fun _ m => nomatch m⟩
  | d :: ds, bs, h => by
    unfold keyKs at h
    split at h
    · rename_i i j r r2 e1 e2
      cases h
      obtain ⟨a, b⟩ := keyKs_ok e2
      refine ⟨by rw [List.map_cons, a], fun x m => ?_⟩
      rcases List.mem_cons.mp m with rfl | m
      · exact ⟨_, e1⟩
      · exact b x m
    · cases h
def gSortK (Fm : List OD → FO) (r : RV) : Option RV := match r.od.items with
  | some ds => (keyKs Fm ds).map fun bs => .own (.lst ((srtK bs).map fun b => .fz b.1))
  | none => none
def rSortK (X : Cx) (fn : Addr) (Fm : List OD → FO) : List V → List V → Hp → VK → Prop := fun xs zs H Q => ∃ B a vs bs, xs = [V.ref a] ∧ zs = [V.ref fn] ∧ Same B H ∧ SqL X.K H a vs ∧ RepL X.K B vs (bs.map (fun b : KD => b.1)) ∧ (∀ b ∈ bs, ∃ r, Fm [.fz b.1] = .ret (.fz (keyD b)) r) ∧
  ∀ B' H' D vs', Same B' H' → Frm B H [] B' H' [] → H' D = none → B' D = none → H D = none → RepL X.K B' vs' ((srtK bs).map (fun b : KD => b.1)) → Q (.ref D) (upd H' D (.lst vs'))
theorem repL_own {K : PySem.W.Frag} {mg : Str → Option Value} {B H : Hp} : ∀ {vs : List V} {ds : List D}, RepL K B vs ds → OwnL K mg B H [] vs (ds.map OD.fz)
  | _, _, .nil => .nil
  | _, _, .cons r t => OwnL.cons (F := []) (.fz r) (repL_own t)
theorem v_sortK {fn : Addr} {Fm : List OD → FO} : VOk (rvR X.K X.mg) (rvR X.K X.mg) (fun x H (Q : VK) => rSortK X fn Fm [x] [V.ref fn] H Q) (gSortK Fm) := by
  intro B H G x r Q s h n q
  dsimp only [gSortK] at q
  split at q
  · rename_i ds e
    obtain ⟨p, vs, rfl, a1, a2⟩ := rv_items s h e
    cases e2 : keyKs Fm ds with
    | none => rw [e2] at q; exact q.elim
    | some bs =>
      rw [e2] at q
      obtain ⟨b1, b2⟩ := keyKs_ok e2
      refine ⟨B, p, vs, bs, rfl, rfl, s, a1, by rw [b1]; exact a2, b2, fun B' H' D vs' sb f nD mD hD rl => ?_⟩
      have own := repL_own (mg := X.mg) (H := H') rl
      rw [List.map_map] at own
      refine q (.ref D) B' _ [D] (.lst upd_same mD (ownL_upd own (fun z => nomatch z))) (same_upd sb mD) (by simp) ⟨f.sB, fun a u e2 m => ?_, fun a u e2 m b => f.forg a u e2 (fun z => nomatch z) b, fun a m => .inr (by rw [List.mem_singleton.mp m]; exact hD)⟩
      rw [upd_ne (fun z => by rw [z, hD] at e2; cases e2)]
      exact f.keep a u e2 (fun z => nomatch z)
  · exact q.elim
theorem cr_sortK {k : Nat} {ps : List Str} {Fm : List OD → FO} {fn : Addr} {fd : FuncData} (F : FnOk X.prog X.w X.K X.mg X.base (L2.CX X.prog X.w) k fn fd ps (spOf X.K X.mg 1 Fm)) (hb : Binds X.K fd ps []) (hr : Room (k + 2) X.A) : CallRK X (.builtin "sorted") [Str.ofString "key"] (rSortK X fn Fm) := by
  intro pn s σ H vs zs us ws Q I r rz hw
  obtain ⟨B, a, xs, bs, rfl, rfl, sb, hs, rp, hk, q⟩ := hw
  obtain rfl := Vals.ref1 r
  obtain rfl := Vals.ref1 rz
  exact sort_key F hb hr I sb hs rp hk q
theorem r_sortK {j k : Nat} {ps : List Str} {x : Str} {e : Expr} {p p1 p2 pos : Pos} {Fm : List OD → FO} {f : Env → O RV} (c : Cal X.prog X.w X.K X.mg X.base x ps k 1 Fm) (hr : Room j X.A) (hk : k + 2 ≤ j) (ha : PEr X W e f) (hm : X.mg "sorted" = none) (hv : bootBuiltins "sorted" = some (.builtin "sorted")) (hg : Gl X "sorted" := by rfl)
    (hgx : Gl X x := by rfl) (hdb : (x == ("__debug__" : Str)) = false := by decide)
    (hs : starEach [e] X.env = (false, eval e X.env) :: starEach [] X.env := by rfl)
    (he : backTo pos (starEach [e] X.env) = (false, eval e X.env) :: backTo pos (starEach [] X.env) := by rfl) (hpl : (backTo pos (starEach [e] X.env)).any (·.1) = false := by rfl)
    (hall : (backToKw pos (keywordEach [⟨some "key", .Name x p1, p2⟩] X.env)).all (·.1.isSome) = true := by rfl) (hnone : (backToKw pos (keywordEach [⟨some "key", .Name x p1, p2⟩] X.env)).any (·.1.isNone) = false := by rfl) (hks : (backToKw pos (keywordEach [⟨some "key", .Name x p1, p2⟩] X.env)).filterMap (·.1) = [Str.ofString "key"] := by rfl) :
    PEr X W (.Call (.Name "sorted" p) [e] [⟨some "key", .Name x p1, p2⟩] pos) (e1 (gSortK Fm) f) := by
  obtain ⟨fn, fd, hmx, F, hkp, hb⟩ := c
  obtain ⟨t, h, kk⟩ := ha
  refine ⟨_, pe_callBK (cr_sortK F hb (hr.mono hk)) hg hm hv (pa_cons h pa_nil hs) (pk_cons (pe_glob (v := .ref fn) hgx hmx rfl hdb) pk_nil) (by decide) (by decide) he hpl hall hnone hks, ?_⟩
  intro B H F' σ env Q S q
  exact kk.map (r := fun x H Q => rSortK X fn Fm [x] [V.ref fn] H Q) v_sortK B H F' σ env Q S q
end
end Tl
/-! typed dicts with tuple keys; typed sorted by a key -/
namespace Tl
open PySem PySem.Spec L2
section
variable {α β γ κ : Type}
/-! keys -/
abbrev kT1 (x : Int) : List Key := [.inl x]
abbrev kT2 (x : Int × Int) : List Key := [.inl x.1, .inl x.2]
abbrev kT3 (x : Int × Int × Int) : List Key := [.inl x.1, .inl x.2.1, .inl x.2.2]
def KInj (f : κ → List Key) : Prop := ∀ x y, f x = f y → x = y
theorem kj1 : KInj kT1 := fun x y h => by injection h with h; injection h
theorem kj2 : KInj kT2 := fun ⟨a, b⟩ ⟨c, d⟩ h => by
  injection h with h1 h; injection h with h2 h
  injection h1 with h1; injection h2 with h2
  dsimp only at h1 h2
  rw [h1, h2]
theorem kj3 : KInj kT3 := fun ⟨a, b, e⟩ ⟨c, d, f⟩ h => by
  injection h with h1 h; injection h with h2 h; injection h with h3 h
  injection h1 with h1; injection h2 with h2; injection h3 with h3
  dsimp only at h1 h2 h3
  rw [h1, h2, h3]
abbrev oDT (k : κ → List Key) (e : α → D) (kvs : List (κ × α)) : OD := .dT (kvs.map fun p => (k p.1, .fz (e p.2)))
/-! ops -/
def dInO [DecidableEq κ] (k : κ) (d : List (κ × α)) : Bool := d.any fun p => decide (p.1 = k)
def dPutO [DecidableEq κ] (d : List (κ × α)) (k : κ) (v : α) : Option (List (κ × α)) :=
  if d.length < 1000 then some (if dInO k d = true then d.map (fun p => if p.1 = k then (p.1, v) else p) else d ++ [(k, v)]) else none
variable {Γ Γ' Γ1 Γ2 Γh : Ctx} {i : Nat} {get : Env → Option OD} {put : Env → OD → Env} {p p1 p2 : Bool}
theorem ev_dnew : Ev false eDNewT Γ (.own (.dT [])) Γ := ev_ok
theorem g_k1 {a : Int} : gKey [.own (.fz (.int a))] = some (kT1 a) := rfl
theorem g_k2 {a b : Int} : gKey [.own (.fz (.int a)), .own (.fz (.int b))] = some (kT2 (a, b)) := rfl
theorem g_k3 {a b c : Int} : gKey [.own (.fz (.int a)), .own (.fz (.int b)), .own (.fz (.int c))] = some (kT3 (a, b, c)) := rfl
theorem ev_key {fr : Env → O (List RV)} {rs : List RV} {ks : List Key} (h : Ev p fr Γ rs Γ') (e : gKey rs = some ks) : Ev p (eKey fr) Γ ks Γ' := ev_map h e
theorem any_inj [DecidableEq κ] {k : κ → List Key} (hk : KInj k) {e : α → D} {d : List (κ × α)} {x : κ} : (((d.map fun p => (k p.1, OD.fz (e p.2))).map (·.1)).any fun j => decide (j = k x)) = dInO x d := by
  unfold dInO
  rw [List.map_map, List.any_map]
  congr 1
  funext p
  exact decide_eq_decide.mpr ⟨fun h => hk _ _ h, fun h => by show k p.1 = k x; rw [h]⟩
theorem ev_inDT [DecidableEq κ] {neg : Bool} {fk : Env → O (List Key)} {fd : Env → O RV} {k : κ → List Key} {e : α → D} {d : List (κ × α)} {x : κ} {r : RV} (hk : KInj k) (h : Ev p1 fk Γ (k x) Γ1) (h' : Ev p2 fd Γ1 r Γ2) (hr : r.od = oDT k e d) : Ev (p1 || p2) (eInT neg fk fd) Γ (.own (.fz (.bl (neg ^^ dInO x d)))) Γ2 :=
  ev_map (ev_then h h' (by simp)) (by
    unfold gInT
    rw [hr]
    dsimp only
    rw [any_inj hk])
theorem ev_inD [DecidableEq κ] {fk : Env → O (List Key)} {fd : Env → O RV} {k : κ → List Key} {e : α → D} {d : List (κ × α)} {x : κ} {r : RV} (hk : KInj k) (h : Ev p1 fk Γ (k x) Γ1) (h' : Ev p2 fd Γ1 r Γ2) (hr : r.od = oDT k e d) : Ev (p1 || p2) (eInT false fk fd) Γ (.own (.fz (.bl (dInO x d)))) Γ2 := by
  have := ev_inDT (neg := false) hk h h' hr
  rwa [Bool.false_xor] at this
theorem ev_ninD [DecidableEq κ] {fk : Env → O (List Key)} {fd : Env → O RV} {k : κ → List Key} {e : α → D} {d : List (κ × α)} {x : κ} {r : RV} (hk : KInj k) (h : Ev p1 fk Γ (k x) Γ1) (h' : Ev p2 fd Γ1 r Γ2) (hr : r.od = oDT k e d) : Ev (p1 || p2) (eInT true fk fd) Γ (.own (.fz (.bl (!dInO x d)))) Γ2 := by
  have := ev_inDT (neg := true) hk h h' hr
  rwa [Bool.true_xor] at this
theorem putO_oDT [DecidableEq κ] {k : κ → List Key} (hk : KInj k) {e : α → D} {d : List (κ × α)} {x : κ} {v : α} {d' : List (κ × α)} (h : dPutO d x v = some d') : putO (d.map fun p => (k p.1, OD.fz (e p.2))) (k x) (.fz (e v)) = d'.map fun p => (k p.1, OD.fz (e p.2)) := by
  unfold dPutO at h
  split at h
  · unfold putO
    rw [any_inj hk]
    by_cases c : dInO x d = true
    · rw [if_pos c] at h ⊢
      cases h
      rw [List.map_map, List.map_map]
      refine List.map_congr_left fun p _ => ?_
      show (if k p.1 = k x then _ else _) = _
      by_cases q : p.1 = x
      · rw [if_pos (by rw [q])]; simp only [Function.comp, if_pos q]
      · rw [if_neg (fun z => q (hk _ _ z))]; simp only [Function.comp, if_neg q]
    · rw [if_neg c] at h ⊢
      cases h
      rw [List.map_append]; rfl
  · cases h
theorem allFz_oDT {k : κ → List Key} {e : α → D} {d : List (κ × α)} : allFz (d.map fun p => (k p.1, OD.fz (e p.2))) = true := by
  unfold allFz
  rw [List.all_map, List.all_eq_true]
  intro x _
  rfl
theorem sk_dput [DecidableEq κ] {T : Type} {P : T → SO → Prop} {rest : Env → SO} {t : Option T} {fk : Env → O (List Key)} {fv : Env → O RV} {k : κ → List Key} {e : α → D} {d d' : List (κ × α)} {x : κ} {v : α} (hk : KInj k) (h : Ev p fv Γ (.own (.fz (e v))) Γ1) (hp : PlS get put Γ1 (oDT k e d) (oDT k e d') Γ2) (hx : Ev false fk Γ1 (k x) Γ1) (hd : dPutO d x v = some d') (q : Sk P rest Γ2 t) : Sk P (sSeq (sDPutT get put fk fv) rest) Γ t := by
  refine sk_E h fun z qz env y => ?_
  obtain ⟨h1, h2⟩ := hp env y
  have ek : fk env = .ok (k x) := by
    rcases hx env y with ⟨z, _⟩ | ⟨z, _⟩
    · exact z
    · cases z
  have hl : (d.map fun p => (k p.1, OD.fz (e p.2))).length < 1000 := by
    rw [List.length_map]
    unfold dPutO at hd
    split at hd
    · assumption
    · cases hd
  have := q z qz _ h2
  simpa only [sSeq, RV.od, h1, ek, allFz_oDT, hl, and_self, if_true, putO_oDT hk hd] using this
/-! sorted by a key -/
def keyO (f : α → Option (Int × Int)) : List α → Option (List (α × Int × Int))
  | [] => some []
  | x :: xs => (f x).bind fun y => (keyO f xs).map fun r => (x, y) :: r
def sortKO (f : α → Option (Int × Int)) (xs : List α) : Option (List α) := (keyO f xs).map fun ps => (ps.mergeSort fun p q => decide (p.2.1 < q.2.1 ∨ (p.2.1 = q.2.1 ∧ p.2.2 ≤ q.2.2))).map (·.1)
theorem keyKs_e {Fm : List OD → FO} {f : α → Option (Int × Int)} {e : α → D} (hf : ∀ x y, f x = some y → ∃ r, Fm [.fz (e x)] = .ret (.fz (.tup [.int y.1, .int y.2])) r) : ∀ {xs : List α} {ps : List (α × Int × Int)}, keyO f xs = some ps → keyKs Fm (xs.map e) = some (ps.map fun p => (e p.1, p.2))
  | [], ps, h => by cases h; rfl
  | x :: xs, ps, h => by
    unfold keyO at h
    cases e1 : f x with
    | none => rw [e1] at h; cases h
    | some y =>
      cases e2 : keyO f xs with
      | none => rw [e1, e2] at h; cases h
      | some r =>
        rw [e1, e2] at h; cases h
        obtain ⟨r0, e3⟩ := hf x y e1
        have ih := keyKs_e hf e2
        rw [List.map_cons]
        unfold keyKs
        rw [e3, ih]
        rfl
theorem g_sortK {Fm : List OD → FO} {f : α → Option (Int × Int)} {e : α → D} {r : RV} {xs zs : List α} (hf : ∀ x y, f x = some y → ∃ r, Fm [.fz (e x)] = .ret (.fz (.tup [.int y.1, .int y.2])) r) (hi : r.od.items = some (xs.map e)) (h : sortKO f xs = some zs) : gSortK Fm r = some (.own (oL (oF e) zs)) := by
  unfold sortKO at h
  cases e1 : keyO f xs with
  | none => rw [e1] at h; cases h
  | some ps =>
    rw [e1] at h; cases h
    unfold gSortK
    rw [hi]
    dsimp only
    rw [keyKs_e hf e1]
    simp only [Option.map_some, Option.some.injEq, RV.own.injEq, OD.lst.injEq]
    unfold srtK
    have := List.map_mergeSort (f := fun p : α × Int × Int => (e p.1, p.2)) (r := fun p q : α × Int × Int => decide (p.2.1 < q.2.1 ∨ (p.2.1 = q.2.1 ∧ p.2.2 ≤ q.2.2))) (s := fun p q : KD => decide (p.2.1 < q.2.1 ∨ (p.2.1 = q.2.1 ∧ p.2.2 ≤ q.2.2))) (l := ps) (fun _ _ _ _ => rfl)
    rw [← this, List.map_map, List.map_map]
    rfl
/-! tuples of anything; a def that calls itself -/
def dTup : D → Option (List D)
  | .tup ds => some ds
  | _ => none
theorem kz_any {d : D} {xs : List D} (h : dTup d = some xs) : gSeqK (.own (.fz d)) = some (.t, xs.map eA) := by
  cases d <;> cases h
  rw [show xs.map eA = xs from List.map_id' xs]
  rfl
end
theorem cal_bad {P : Program} {w : World} {K : PySem.W.Frag} {mg : Str → Option Value} {base : Heap} {x : Str} {st : Stmt} {ps : List Str} {k n : Nat} (A : FunAt K mg x st ps) (hn : ps.length = n) : Cal P w K mg base x ps k n (fun _ => .bad) := by
  obtain ⟨f, fd, F, hx, bd⟩ := A
  exact ⟨f, fd, hx, ⟨fun vs H Q E q => by obtain ⟨h, _⟩ := q; rw [h, hn], fun A outer s H args us vs Q E _ _ _ _ q => by
    obtain ⟨_, _, _, _, _, _, _, z⟩ := q
    exact z.elim⟩, F.kp, bd⟩
end Tl
/-! reversed(xs), list(reversed(xs)) -/
namespace TlRv
open PySem PySem.Calls PyProof.Rows RT
section
variable {pr : Program} {ww : World} {Ar : Around} {Er : Value → Shared → Prop} {st : Shared}
/-- list(it), it a new walker of a list from its end -/
theorem list_of_rev {it l : Addr} {xs : Array Value} {Q : Value → Shared → Prop} (hd : Ar.handled = none) (hi : st.heap.IsRevIter it l ((xs.size : Int) - 1)) (hl : st.heap.IsList l xs) (ne : l ≠ it) (hz : xs.size ≤ sizeLine)
    (hQ : ∀ (g : Heap) (tk : Nat) (acc : Array Value) (c : Nat), (∀ b o, b ≠ it → st.heap.get? b = some o → g.get? b = some o) → g.get? st.heap.objs.size = some { cls := .type "list", dict := none, data := .seq acc c, slots := #[] } → ItemsOf (fun i v => xs[xs.size - 1 - i]? = some v) acc xs.size → Q (.ref st.heap.objs.size) { st with heap := g, toks := tk }) :
    wpAny (model pr ww) Ar (call (.type "list") [.ref it]) Q Er st := by
  obtain ⟨S, eS⟩ : ∃ S, S = st.heap.objs.size := ⟨_, rfl⟩
  obtain ⟨oi, hoi, _⟩ := id hi
  obtain ⟨ol, hol, _⟩ := id hl
  have n1 : S ≠ it := by rw [eS]; exact Nat.ne_of_gt (Heap.lt_size hoi)
  have n2 : S ≠ l := by rw [eS]; exact Nat.ne_of_gt (Heap.lt_size hol)
  have nf : S ∉ [it, l] := by simp only [List.mem_cons, List.not_mem_nil, or_false, not_or]; exact ⟨n1, n2⟩
  refine callType_codes (Q₁ := fun ob s₁ => ob = .ref S ∧ s₁ = { st with heap := st.heap.push { cls := .type "list", data := .seq #[] } }) PySem.F.called_list (PySem.F.typeCall_list_1 _) PySem.F.entry_list_init (code_list_new _ ⟨by rw [eS], rfl⟩) fun ob s₁ h₁ => ?_
  obtain ⟨rfl, rfl⟩ := h₁
  have a0 : (st.heap.push { cls := .type "list", data := .seq #[] }).get? S = some { cls := .type "list", data := .seq #[] } := by rw [eS]; exact Heap.get?_push_size _ rfl
  refine ⟨⟨_, a0, rfl⟩, PySem.F.args_list_init_2 _ _, ?_⟩
  show wpAny _ _ (do let old ← Builtin.List.listItems (.ref S); Builtin.List.listUpdate (.ref S) (fun _ => #[]); letGo old.toList.reverse; Builtin.List.listExtendWith (.ref S) (.ref it) .none) _ _ _
  refine wpAny_bind (listItems_at (a := S) a0 rfl ?_)
  refine wpAny_bind (listUpdate_at (a := S) a0 rfl ?_ (Nat.zero_le _) (Nat.zero_le _))
  refine wpAny_bind (wpAny_letGo ?_)
  have a1 := Heap.get?_update_self (Obj.mapSeq (fun _ => (#[] : Array Value))) a0 rfl
  have oth : ∀ b o, b ≠ S → st.heap.get? b = some o → ((st.heap.push { cls := .type "list", data := .seq #[] }).update S (Obj.mapSeq (fun _ => (#[] : Array Value)))).get? b = some o :=
    fun b o nb e => (Heap.get?_update_other _ _ (Ne.symm nb)).trans (Heap.get?_push_of_some _ e)
  obtain ⟨G, eG⟩ : ∃ G, G = (st.heap.push { cls := .type "list", data := .seq #[] }).update S (Obj.mapSeq (fun _ => (#[] : Array Value))) := ⟨_, rfl⟩
  rw [← eG] at a1 oth ⊢
  have hi1 : G.IsRevIter it l ((xs.size : Int) - 1) := hi.at fun o e => oth it o n1.symm e
  have hl1 : G.IsList l xs := by
    obtain ⟨o, ho, r⟩ := hl
    exact ⟨o, oth l o n2.symm ho, r⟩
  have hT : ({ st with heap := G } : Shared).TypeIs (.ref it) "list_reverseiterator" := Heap.IsRevIter.typeIs (s := { st with heap := G }) hi1
  have q1 : Builtin.List.listSameRef (.ref S) (.ref it) = false := by simp [Builtin.List.listSameRef, n1]
  have W := (Walks.listRev (prog := pr) (w := ww) (A := Ar.in1.in1) hd it l ne xs).toS
  unfold Builtin.List.listExtendWith
  refine wpAny_bind (wpAny_typeOf (s := { st with heap := G }) hT ?_)
  rw [if_neg (by rw [q1]; decide)]
  refine wpAny_bind (wpAny_pyIter_revIter (s := { st with heap := G }) (l := l) hi1 ?_)
  refine wpAny_bind (wpAny_holding ?_)
  unfold Builtin.List.listLengthHint
  refine wpAny_bind (wpAny_specialOf (s := { st with heap := G }) hT nolen_lri ?_)
  show wpAny _ _ (specialOf (Value.ref it) (Str.ofString "__length_hint__") >>= _) _ _ _
  refine wpAny_bind (wpAny_specialOf (s := { st with heap := G }) hT hint_lri ?_)
  generalize hid : ("list_reverseiterator.__length_hint__" : String) = id0
  wp_delta
  rw [show splitId id0 = some ("list_reverseiterator", "__length_hint__") from by rw [← hid]; decide +kernel]
  subst hid
  refine wpAny_bind (wpAny_isInstance (s := { st with heap := G }) (b := true) hT (by rw [isSubtype_type]; kernel_rfl) ?_)
  refine wpAny_pure ?_
  rw [if_neg (by decide)]
  have z0 : ((xs.size : Nat) : Int) - 1 - ((0 : Nat) : Int) = (xs.size : Int) - 1 := by omega
  refine wpAny_pure ⟨plainId_quiet PySem.F.plain_extend_loop _, codeAny_extend_loopS (A := Ar.in1) W hz S nf _ xs.size 0 _ _ _ rfl (Nat.zero_le _) ⟨Nat.zero_le _, by rw [z0]; exact hi1, hl1⟩ a1 (ItemsOf.nil _) fun s' acc c hm hS hacc => ?_⟩
  rw [Moved.eq_with hm]
  refine ⟨rfl, ?_⟩
  rw [eS] at hS ⊢
  refine hQ s'.heap s'.toks acc c (fun b o nb e => hm.heap b o (fun hmem => ?_) (oth b o (fun z => ?_) e)) hS hacc
  · rcases List.mem_cons.mp hmem with e' | hmem
    · exact absurd (Heap.lt_size e) (by rw [e', eS]; exact Nat.lt_irrefl _)
    · exact nb (List.mem_singleton.mp hmem)
  · exact absurd (Heap.lt_size e) (by rw [z, eS]; exact Nat.lt_irrefl _)
end
end TlRv

namespace Tl
open PySem PySem.Spec L2
open PyProof.Rows (Call_ args_cons args_nil)
def tListRev (K : PySem.W.Frag) (te : TE) : TE := fun σ H Q => te σ H fun x H1 => ∃ a xs, x = .ref a ∧ SqL K H1 a xs ∧ ∀ p, H1 p = none → Q (.ref p) (upd H1 p (.lst xs.reverse))
section
variable {X : Cx} {W : WX} {e tg : Expr} {f : Env → O RV} {te : TE} {p p2 pos pos2 : Pos}
theorem pe_listRev (hc : X.calm = true) (hg : Gl X "list") (hm : X.mg "list" = none) (hg2 : Gl X "reversed") (hm2 : X.mg "reversed" = none) (he : PE X e te)
    (hs : starEach [e] X.env = (false, eval e X.env) :: starEach [] X.env)
    (hs2 : starEach [.Call (.Name "reversed" p2) [e] [] pos2] X.env = (false, eval (.Call (.Name "reversed" p2) [e] [] pos2) X.env) :: starEach [] X.env) :
    PE X (.Call (.Name "list" p) [.Call (.Name "reversed" p2) [e] [] pos2] [] pos) (tListRev X.K te) := by
  refine ⟨fun pn s σ H Q I h => ?_⟩
  refine Call_ (ld_blt I hg hm PyProof.Rows.boot_list (PyProof.Rows.callWith_type1 (args_cons (Call_ (ld_blt I hg2 hm2 PyProof.Rows.boot_reversed (PyProof.Rows.callWith_type1 (args_cons (thn (he.run pn s σ H _ I h) fun u s1 ⟨x, H1, I1, rx, q1⟩ => args_nil ?_) hs) hs rfl))) hs2) hs2 rfl))
  obtain ⟨a, xs, ex, hq, q⟩ := q1
  subst ex
  cases rx
  obtain ⟨its, rv, pl, hz⟩ := I1.list hq
  refine PySem.call_reversed_list pl.isList (args_nil ?_)
  have up : ∀ b o, s1.heap.get? b = some o → (s1.heap.push (PySem.revObj a ((its.toArray.size : Int) - 1))).get? b = some o := fun b o e => Heap.get?_push_of_some _ e
  have I2 : Inv X pn σ H1 { s1 with heap := s1.heap.push (PySem.revObj a ((its.toArray.size : Int) - 1)) } := I1.kept (t' := s1.toks) up
  have fp := I1.fpOk (H' := H1) (b := s1.heap.objs.size) (Nat.le_refl _) (I1.hok.fresh (Nat.le_refl _))
  have hl := pl.isList
  obtain ⟨ol, hol, _⟩ := id hl
  have ne : a ≠ s1.heap.objs.size := Nat.ne_of_lt (Heap.lt_size hol)
  have hn : its.toArray.size ≤ sizeLine := by rw [List.size_toArray, ← rv.length]; exact hz
  refine TlRv.list_of_rev (st := { s1 with heap := s1.heap.push (PySem.revObj a ((its.toArray.size : Int) - 1)) }) (I1.ok.hd hc) ⟨_, Heap.get?_push_size _ rfl, rfl, rfl⟩ (hl.push _) ne hn fun g tk acc c hk hS hi => ?_
  have hT := I2.hok.fresh (Nat.le_refl (s1.heap.push (PySem.revObj a ((its.toArray.size : Int) - 1))).objs.size)
  have I3 : Inv X pn σ (upd H1 (s1.heap.push (PySem.revObj a ((its.toArray.size : Int) - 1))).objs.size (.lst xs.reverse)) { s1 with heap := g, toks := tk } := I2.turnedNew (t' := tk) (ch := [s1.heap.objs.size]) (fun b o hb e => hk b o (fun z => hb (by simp [z])) e) (fun b hb => by rw [List.mem_singleton.mp hb]; exact fp) (Nat.le_refl _)
    ⟨by rw [List.length_reverse]; exact hz, acc.toList, c, RT.vals_rev rv hi, by rw [Array.toArray_toList]; exact hS⟩
  exact ⟨.ref _, _, I3, rfl, q _ hT⟩
theorem r_listRev (hc : X.calm = true) (hm : X.mg "list" = none) (hm2 : X.mg "reversed" = none) (ha : PEr X W e f) (hg : Gl X "list" := by rfl) (hg2 : Gl X "reversed" := by rfl)
    (hs : starEach [e] X.env = (false, eval e X.env) :: starEach [] X.env := by rfl)
    (hs2 : starEach [.Call (.Name "reversed" p2) [e] [] pos2] X.env = (false, eval (.Call (.Name "reversed" p2) [e] [] pos2) X.env) :: starEach [] X.env := by rfl) :
    PEr X W (.Call (.Name "list" p) [.Call (.Name "reversed" p2) [e] [] pos2] [] pos) (e1 gRev f) := by
  obtain ⟨ta, ha, ka⟩ := ha
  refine ⟨_, pe_listRev hc hg hm hg2 hm2 ha hs hs2, ka.map (r := fun (x : V) (H1 : Hp) (Q : VK) => ∃ a xs, x = .ref a ∧ SqL X.K H1 a xs ∧ ∀ p, H1 p = none → Q (.ref p) (upd H1 p (.lst xs.reverse))) fun B H G v r Q s hr n q => ?_⟩
  dsimp only [gRev] at q
  cases e1 : r.od.items with
  | none => rw [e1] at q; exact q.elim
  | some ds =>
    rw [e1] at q
    obtain ⟨p, vs, rfl, a1, a2⟩ := rv_items s hr e1
    exact ⟨p, vs, rfl, a1, fun l hl => VPost.lst q s a2.reverse hl⟩
theorem g_revL1 {α : Type} {e : α → D} {xs : List α} {r : RV} (h : r.od.items = some (xs.map e)) : gRev r = some (.own (.lst (xs.reverse.map (oF e)))) := by
  simp only [gRev, h, ← List.map_reverse, List.map_map]; rfl
/-! for .. in reversed(xs) -/
theorem rep_rev {K : PySem.W.Frag} {B : Hp} {vs : List V} {ds : List D} (r : RepL K B vs ds) {i : Nat} {d : D} (h : ds.reverse[i]? = some d) : i < vs.length ∧ ∃ v, vs[vs.length - 1 - i]? = some v ∧ Rep K B v d := by
  have hi : i < ds.length := by
    have := (List.getElem?_eq_some_iff.mp h).1
    rwa [List.length_reverse] at this
  rw [List.getElem?_reverse hi] at h
  obtain ⟨v, e1, e2⟩ := r.get h
  exact ⟨by rw [r.length]; exact hi, v, by rw [r.length]; exact e1, e2⟩
theorem spec_revL {K : PySem.W.Frag} {B : Hp} {p : Addr} {vs : List V} {ds : List D} (h : SqL K B p vs) (r : RepL K B vs ds) : Spec K B (Itv K p vs.length) ds.reverse := fun B2 H2 s s2 => by
  have h2 := (s.trans s2).seq h
  refine ⟨fun i d e => ?_, by rw [List.length_reverse, ← r.length]; exact Nat.le_refl _⟩
  obtain ⟨hi, v, e1, r1⟩ := rep_rev r e
  refine ⟨⟨hi, vs, v, h2, e1⟩, fun x H3 y => ?_⟩
  obtain ⟨rfl, y⟩ := y
  have := y vs h2
  rw [e1] at this; cases this
  exact ⟨B2, Frm.none, s2, r1.mono s⟩
theorem spec_revT {K : PySem.W.Frag} {B : Hp} {p : Addr} {vs : List V} {ds : List D} (h : SqT K B p vs) (r : RepL K B vs ds) : Spec K B (RT.ItvT K p vs.length) ds.reverse := fun B2 H2 s s2 => by
  have h2 := Same.seqT (s.trans s2) h
  refine ⟨fun i d e => ?_, by rw [List.length_reverse, ← r.length]; exact Nat.le_refl _⟩
  obtain ⟨hi, v, e1, r1⟩ := rep_rev r e
  refine ⟨⟨hi, vs, v, h2, e1⟩, fun x H3 y => ?_⟩
  obtain ⟨rfl, y⟩ := y
  have := y vs h2
  rw [e1] at this; cases this
  exact ⟨B2, Frm.none, s2, r1.mono s⟩
def gItemsR (r : RV) : Option (List D) := (gItems r).map List.reverse
theorem i_rev (hm : X.mg "reversed" = none) (h : PEr X W e f) (hg : Gl X "reversed" := by rfl) (hs : starEach [e] X.env = (false, eval e X.env) :: starEach [] X.env := by rfl) : PIr X W tg (.Call (.Name "reversed" p) [e] [] pos) (fun env => (f env).mapP gItemsR) := by
  obtain ⟨t, h, k⟩ := h
  refine ⟨_, RT.pi_revA hg hm h hs, EOk.map (r := fun (x : V) (H1 : Hp) (R : It → Hp → Prop) => ∃ a xs, x = .ref a ∧ ((SqL X.K H1 a xs ∧ R (Itv X.K a xs.length) H1) ∨ (SqT X.K H1 a xs ∧ R (RT.ItvT X.K a xs.length) H1))) k fun B H G v r R s h n q => ?_⟩
  unfold gItemsR at q
  cases e2 : gItems r with
  | none => rw [e2] at q; exact q.elim
  | some ds =>
    rw [e2] at q
    have th := stb_rv.there _ _ _ _ _ h
    obtain ⟨p, vs, rfl, a1, a2⟩ := rv_sit s h e2
    obtain ⟨s1, s2, f⟩ := frm_more (K := X.K) (mg := X.mg) (G := G) s th
    refine ⟨p, vs, rfl, ?_⟩
    rcases a1 with a1 | a1
    · exact .inl ⟨s2.seq a1, VPost.it (mg := X.mg) q s th (spec_revL a1 a2)⟩
    · exact .inr ⟨Same.seqT s2 a1, VPost.it (mg := X.mg) q s th (spec_revT a1 a2)⟩
theorem g_itemsR {α : Type} {e : α → D} {xs : List α} {r : RV} (h : gItems r = some (xs.map e)) : gItemsR r = some (xs.reverse.map e) := by
  unfold gItemsR
  rw [h, List.map_reverse]; rfl
end
end Tl
/-! try .. except X: suite; try .. except X as e: a list of truths about e -/
namespace Tl
open PySem PySem.Spec L2

/-- an outcome's being fine, taken as a reading -/
def canS (X : Cx) (W : WX) (io : List Nat) (f : Env → SO) : TS := fun D σ H => ∃ B F env, Sta X.K X.mg B H F σ env ∧ SPost X W io B H F σ D (f env)
theorem pss_mono {X : Cx} {b : List Stmt} {t u : TS} (h : PSs X b t) (k : ∀ D σ H, u D σ H → t D σ H) : PSs X b u := ⟨fun pins s σ H D I z => h.run pins s σ H D I (k _ _ _ z)⟩
theorem ps_mono {X : Cx} {b : Stmt} {t u : TS} (h : PS X b t) (k : ∀ D σ H, u D σ H → t D σ H) : PS X b u := ⟨fun pins s σ H D I z => h.run pins s σ H D I (k _ _ _ z)⟩
theorem pe_mono {X : Cx} {b : Expr} {t u : TE} (h : PE X b t) (k : ∀ σ H Q, u σ H Q → t σ H Q) : PE X b u := ⟨fun pins s σ H D I z => h.run pins s σ H D I (k _ _ _ z)⟩
theorem pa_mono {X : Cx} {b : List Expr} {t u : TA} (h : PA X b t) (k : ∀ σ H Q, u σ H Q → t σ H Q) : PA X b u := ⟨fun pos pins s σ H D I z => h.run pos pins s σ H D I (k _ _ _ z)⟩
theorem canS_ok {X : Cx} {W : WX} {io : List Nat} {sts : List Stmt} {f : Env → SO} (h : PSsr X W io sts f) : PSs X sts (canS X W io f) := by
  obtain ⟨t, h1, h2⟩ := h
  exact pss_mono h1 fun D σ H ⟨B, F, env, S, q⟩ => h2 B H F σ env D S q

/-- an exception of the class n is caught by except x -/
def ExcM (K : PySem.W.Frag) (mg : Str → Option Value) (n x : Str) : Prop := ∃ C c, mg n = some (.ref C) ∧ mg x = some (.ref c) ∧ PySem.W.exmOne K (.ref C) (.ref c) = some true
inductive ExcMs (K : PySem.W.Frag) (mg : Str → Option Value) (x : Str) : List Str → Prop
  | nil : ExcMs K mg x []
  | cons {n T} : ExcM K mg n x → ExcMs K mg x T → ExcMs K mg x (n :: T)
theorem ExcMs.mem {K : PySem.W.Frag} {mg : Str → Option Value} {x n : Str} {T : List Str} (h : ExcMs K mg x T) (m : n ∈ T) : ExcM K mg n x := by
  induction h with
  | nil => cases m
  | cons a _ ih =>
    rcases List.mem_cons.mp m with e | m
    · subst e; exact a
    · exact ih m
/-- what the class's instances say to isinstance -/
def ExcCN (K : PySem.W.Frag) (mg : Str → Option Value) (n : Str) : Prop := ∃ C, mg n = some (.ref C) ∧ ExcC K C
/-- isinstance(an exception of the class n, x) -/
def ExcI (K : PySem.W.Frag) (mg : Str → Option Value) (n x : Str) (b : Bool) : Prop := ∃ C c, mg n = some (.ref C) ∧ mg x = some (.ref c) ∧ PySem.W.kitOne K (.ref C) (.ref c) = some b
def ExcB (K : PySem.W.Frag) (mg : Str → Option Value) (n : Str) (T : String) (b : Bool) : Prop := ∃ C, mg n = some (.ref C) ∧ PySem.W.kitOne K (.ref C) (.type T) = some b

def sTry (T : List Str) (f : Env → SO) (g : Str → Env → SO) : Env → SO := fun env => match f env with
  | .exc c e => if T.contains c = true then (match g c e with
    | .exc _ _ => .bad
    | o => o) else .bad
  | o => o

theorem boot_isi : bootBuiltins "isinstance" = some (.builtin "isinstance") := by decide +kernel
section
variable {X : Cx} {W : WX} {io : List Nat} {st : Stmt} {sts rest : List Stmt} {pos : Pos}
theorem sTry_exc {T : List Str} {g : Str → Env → SO} {c : Str} {e : Env} {B H : Hp} {F : List Addr} {σ : St} {D : Ends} (q : SPost X W io B H F σ D (if T.contains c = true then (match g c e with | .exc _ _ => .bad | o => o) else .bad)) (W' : WX) :
    c ∈ T ∧ SPost X W' io B H F σ D (g c e) := by
  split at q
  · rename_i h
    refine ⟨by simpa using h, ?_⟩
    cases e2 : g c e with
    | exc a b => rw [e2] at q; exact q.elim
    | _ => rw [e2] at q; exact q
  · exact q.elim
theorem s_try {x : Str} {body suite : List Stmt} {b₀ : Stmt} {np pos' : Pos} {T : List Str} {f : Env → SO} {g : Env → SO} (tk : Takes X W) (ht : ExcMs X.K X.mg x T) (hne : T ≠ [])
    (hb : ∀ (W' : WX) (pn : List (Addr × Obj)) (xe : Value → Shared → Prop), Takes (X.tr pn xe) W' → PassesOwn (model X.prog X.w) X.A X.env xe → PSsr (X.tr pn xe) W' io body f)
    (hsu : ∀ (a : Addr) (pn : List (Addr × Obj)), Takes (X.suite a pn) (fun _ _ _ _ => False) → PSsr (X.suite a pn) (fun _ _ _ _ => False) io (b₀ :: suite) g)
    (hs : X.stack = X.env :: X.outer := by rfl) (hf : X.env.frame = some X.env.locals := by rfl) (hg : Gl X x := by rfl) (hdb : (x == ("__debug__" : Str)) = false := by decide) :
    PSr X W io (.Try body [.ExceptHandler (some (.Name x np)) none (b₀ :: suite) pos'] [] [] pos) (sTry T f fun _ => g) := by
  have hc : ∃ c, X.mg x = some (.ref c) := by
    cases ht with
    | nil => exact absurd rfl hne
    | cons h _ => obtain ⟨_, c, _, h, _⟩ := h; exact ⟨c, h⟩
  obtain ⟨c, hc⟩ := hc
  refine ⟨_, ps_try_only (tb := fun W' => canS X W' io f) (ts := fun _ _ _ => canS X (fun _ _ _ _ => False) io g) (Wout := W) hs hf ⟨hg, hdb, .inl hc⟩ tk (fun W' pn xe tk' po => canS_ok (hb W' pn xe tk' po)) (fun a oe cls d pn hz hfl => canS_ok (hsu a ((a, oe) :: pn) takes0)), ?_⟩
  intro B H F σ env D S q
  refine ⟨B, F, env, S, ?_⟩
  dsimp only [sTry] at q
  cases e2 : f env with
  | exc n env' =>
    rw [e2] at q
    intro B' H' F' σ' S' f' ag C hC
    obtain ⟨hT, q'⟩ := sTry_exc (g := fun _ => g) q (fun _ _ _ _ => False)
    obtain ⟨C', c', h1, h2, h3⟩ := ht.mem hT
    rw [hC] at h1; cases h1
    rw [hc] at h2; cases h2
    exact ⟨true, h3, fun _ a _ => ⟨B', F', env', S', SPost.later q' f' ag⟩, fun z => by cases z⟩
  | _ => rw [e2] at q; exact q

/-! as e -/
/-- in the suite X': the exception stands at slot i -/
def QE (X' : Cx) (i : Nat) (a : Addr) (e : Expr) (b : Bool) : Prop := PE X' e (fun σ H Q => σ[i]? = some (some (.ref a)) ∧ ∀ H', Same H H' → Q (.bl b) H')
def QA (X' : Cx) (i : Nat) (a : Addr) (es : List Expr) (bs : List Bool) : Prop := PA X' es (fun σ H Q => σ[i]? = some (some (.ref a)) ∧ ∀ H', Same H H' → Q (bs.map .bl) H')
/-- a suite that ends with slot v holding a new list of truths -/
def QS (X' : Cx) (i v : Nat) (a : Addr) (sts : List Stmt) (bs : List Bool) : Prop :=
  PSs X' sts (fun D σ H => σ[i]? = some (some (.ref a)) ∧ v < σ.length ∧ ∀ p H', H p = none → (∀ b o, H b = some o → H' b = some o) → H' p = some (.lst (bs.map .bl)) → D.nx (σ.set v (some (.ref p))) H')
/-- .. and what follows, from a list of truths on -/
def QT (X' : Cx) (i v : Nat) (a : Addr) (sts : List Stmt) (b0 bs : List Bool) : Prop :=
  PSs X' sts (fun D σ H => σ[i]? = some (some (.ref a)) ∧ ∃ p, σ[v]? = some (some (.ref p)) ∧ H p = some (.lst (b0.map .bl)) ∧ ∀ H', (∀ b o, b ≠ p → H b = some o → H' b = some o) → H' p = some (.lst (bs.map .bl)) → D.nx σ H')
theorem qa_nil {X' : Cx} {i : Nat} {a : Addr} : QA X' i a [] [] := pa_mono pa_nil fun σ H Q ⟨_, q⟩ => q H (Same.refl H)
theorem qa_cons {X' : Cx} {i : Nat} {a : Addr} {e : Expr} {es : List Expr} {b : Bool} {bs : List Bool} (h : QE X' i a e b) (k : QA X' i a es bs) (hs : starEach (e :: es) X'.env = (false, eval e X'.env) :: starEach es X'.env := by rfl) : QA X' i a (e :: es) (b :: bs) :=
  pa_mono (pa_cons h k hs) fun σ H Q ⟨e, q⟩ => ⟨e, fun H1 s1 => ⟨e, fun H2 s2 => q H2 (s1.trans s2)⟩⟩
theorem qe_bl {X' : Cx} {i : Nat} {a : Addr} {b : Bool} {j pos} : QE X' i a (.Constant (.bool b) j pos) b := pe_mono pe_bl fun σ H Q ⟨_, q⟩ => q H (Same.refl H)
theorem same_updN {H : Hp} {p : Addr} {u : HO} (h : H p = none) : Same H (upd H p u) := fun b o e => by rw [upd_ne (ne_of_none e h)]; exact e
theorem qt_nil {X' : Cx} {i v : Nat} {a : Addr} {bs : List Bool} : QT X' i v a [] bs bs := pss_mono pss_nil fun D σ H ⟨_, p, h1, h2, q⟩ => q H (fun _ _ _ h => h) h2
theorem qs_cons {X' : Cx} {i v : Nat} {a : Addr} {es : List Expr} {sts : List Stmt} {b0 bs : List Bool} {x : Str} {pos pos' pos2 : Pos} (h : QA X' i a es b0) (k : QT X' i v a sts b0 bs) (hN : X'.N.Nodup) (hiv : v ≠ i := by decide) (hl : b0.length ≤ 1000 := by decide) (hv : X'.N[v]? = some x := by rfl) (hx : Loc X'.env.scope x := by first | exact Or.inl rfl | exact Or.inr rfl)
    (hs : swapsWith (.List es pos2) (some (.Name x pos')) pos.line X'.env = pure false := by rfl) (hf : X'.fn x = true ∨ X'.env.scope.names.lookup x = some .local := by first | exact .inl rfl | exact .inr rfl) :
    QS X' i v a (.Assign [.Name x pos'] (.List es pos2) pos :: sts) bs := by
  refine pss_mono (pss_cons (ps_set hN hv hx (pe_lst h) hs hf) k) fun D σ H ⟨e, hvl, q⟩ => ?_
  refine ⟨e, fun H1 s1 => ⟨by rw [List.length_map]; exact small hl, fun p hp => ?_⟩⟩
  refine ⟨by rw [List.getElem?_set_ne hiv]; exact e, p, by rw [List.getElem?_set_self hvl], upd_same, fun H2 k2 e2 => q p H2 (s1.free hp) (fun b o z => k2 b o ?_ ?_) e2⟩
  · exact ne_of_none (s1 _ _ z) hp
  · rw [upd_ne (ne_of_none (s1 _ _ z) hp)]; exact s1 _ _ z
theorem qt_app {X' : Cx} {i v : Nat} {a : Addr} {e : Expr} {sts : List Stmt} {b0 bs : List Bool} {b : Bool} {x : Str} {apos cpos pos px : Pos} (h : QE X' i a e b) (k : QT X' i v a sts (b0 ++ [b]) bs) (hl : b0.length ≤ 1000 := by decide) (hN : X'.N[v]? = some x := by rfl) (hv : Vis X'.env.scope x := by first | exact Or.inl rfl | exact Or.inr (Or.inl rfl) | exact Or.inr (Or.inr rfl))
    (hd : (x == ("__debug__" : Str)) = false := by decide) (hcd : (x == ("__classdict__" : Str)) = false := by decide)
    (hbase : attributeBase (.Name x px) "append" X'.env (eval (.Name x px) X'.env) = eval (.Name x px) X'.env := by rfl)
    (hfew : ((backTo cpos (starEach [e] X'.env)).all (fun x => !x.1) && (backToKw cpos (keywordEach [] X'.env)).all (fun x => x.1.isSome) && decide (([e] : List Expr).length + ([] : List Keyword).length + (if ([] : List Keyword).isEmpty then 0 else 1) < 30)) = true := by rfl)
    (hline : (apos.endLine == cpos.line) = true := by rfl) (hs : starEach [e] X'.env = (false, eval e X'.env) :: starEach [] X'.env := by rfl) (hplain : (backTo cpos (starEach [] X'.env)).any (·.1) = false := by rfl)
    (hsw : swapsWith (.Call (.Attribute (.Name x px) "append" apos) [e] [] cpos) none pos.line X'.env = pure false := by rfl) :
    QT X' i v a (.Expr (.Call (.Attribute (.Name x px) "append" apos) [e] [] cpos) pos :: sts) b0 bs := by
  refine pss_mono (pss_cons (ps_expr (pe_bm PySem.F.plainAttrs_list PySem.F.slot_list_append PySem.F.type_list_append mt_append (pe_var hN hv hd hcd) (qa_cons h qa_nil hs) hbase hfew hline hs hplain) hsw) k) fun D σ H ⟨e, p, h1, h2, q⟩ => ?_
  refine ⟨.ref p, h1, .inl ⟨rfl, _, .inl (.inl h2)⟩, e, fun H1 s1 => ?_⟩
  refine ⟨p, _, _, rfl, rfl, s1 _ _ h2, by rw [List.length_map]; exact Nat.lt_of_le_of_lt hl (by decide), ?_⟩
  refine ⟨e, p, h1, by rw [upd_same, List.map_append]; rfl, fun H2 k2 e2 => q H2 (fun b o n z => k2 b o n ?_) e2⟩
  rw [upd_ne n]; exact s1 _ _ z
section
variable {i : Nat} {a C : Addr} {oe : Obj} {pn : List (Addr × Obj)} {n x y : Str} {p p1 p2 : Pos}
theorem pe_cls {X' : Cx} {c : Addr} (hm : X'.mg x = some (.ref c)) (hg : Gl X' x := by rfl) (hd : (x == ("__debug__" : Str)) = false := by decide) : PE X' (.Name x p) (tC (.ref c)) := pe_glob hg hm (show RelV (.ref c) (.ref c) from rfl) hd
/-- isinstance(e, x), x a class of the text -/
theorem qe_is {b : Bool} (hC : X.mg n = some (.ref C)) (hz : Zc (.ref C) none oe) (hf : ∃ vs, oe.data = .fields vs) (cn : ExcCN X.K X.mg n) (ci : ExcI X.K X.mg n x b) (hmi : X.mg "isinstance" = none) (hi : X.N[i]? = some y := by rfl)
    (hv : Vis X.env.scope y := by first | exact Or.inl rfl | exact Or.inr (Or.inl rfl) | exact Or.inr (Or.inr rfl)) (hd : (y == ("__debug__" : Str)) = false := by decide) (hcd : (y == ("__classdict__" : Str)) = false := by decide)
    (hgi : Gl X "isinstance" := by rfl) (hg : Gl X x := by rfl) (hdx : (x == ("__debug__" : Str)) = false := by decide)
    (he : starEach [.Name y p1, .Name x p2] X.env = (false, eval (.Name y p1) X.env) :: starEach [.Name x p2] X.env := by rfl) (hpl : (backTo pos (starEach [.Name x p2] X.env)).any (·.1) = false := by rfl) (he2 : starEach [.Name x p2] X.env = (false, eval (.Name x p2) X.env) :: starEach [] X.env := by rfl) :
    QE (X.suite a ((a, oe) :: pn)) i a (.Call (.Name "isinstance" p) [.Name y p1, .Name x p2] [] pos) b := by
  obtain ⟨C1, h1, xc⟩ := cn
  rw [hC] at h1; cases h1
  obtain ⟨C2, c, h1, h2, h3⟩ := ci
  rw [hC] at h1; cases h1
  refine pe_mono (pe_callB (X := X.suite a ((a, oe) :: pn)) (call_isE (X := X) xc hz hf) hgi hmi boot_isi (pa_cons (pe_var hi hv hd hcd) (pa_cons (pe_cls (X' := X.suite a ((a, oe) :: pn)) h2 hg hdx) pa_nil he2) he) (by decide) (by decide) he hpl) fun σ H Q ⟨e, q⟩ => ?_
  exact ⟨.ref a, e, .ref c, .ref c, b, rfl, fun u r => by cases r; rfl, h3, q H (Same.refl H)⟩
/-- isinstance(e, T), T a built-in class -/
theorem qe_isB {b : Bool} {T : String} (hC : X.mg n = some (.ref C)) (hz : Zc (.ref C) none oe) (hf : ∃ vs, oe.data = .fields vs) (cn : ExcCN X.K X.mg n) (ci : ExcB X.K X.mg n T b) (hmi : X.mg "isinstance" = none) (hmx : X.mg x = none) (hbx : bootBuiltins x = some (.type T)) (hi : X.N[i]? = some y := by rfl)
    (hv : Vis X.env.scope y := by first | exact Or.inl rfl | exact Or.inr (Or.inl rfl) | exact Or.inr (Or.inr rfl)) (hd : (y == ("__debug__" : Str)) = false := by decide) (hcd : (y == ("__classdict__" : Str)) = false := by decide)
    (hgi : Gl X "isinstance" := by rfl) (hg : Gl X x := by rfl) (hdx : (x == ("__debug__" : Str)) = false := by decide) (hnx : x ≠ "__name__" := by decide)
    (he : starEach [.Name y p1, .Name x p2] X.env = (false, eval (.Name y p1) X.env) :: starEach [.Name x p2] X.env := by rfl) (hpl : (backTo pos (starEach [.Name x p2] X.env)).any (·.1) = false := by rfl) (he2 : starEach [.Name x p2] X.env = (false, eval (.Name x p2) X.env) :: starEach [] X.env := by rfl) :
    QE (X.suite a ((a, oe) :: pn)) i a (.Call (.Name "isinstance" p) [.Name y p1, .Name x p2] [] pos) b := by
  obtain ⟨C1, h1, xc⟩ := cn
  rw [hC] at h1; cases h1
  obtain ⟨C2, h1, h3⟩ := ci
  rw [hC] at h1; cases h1
  refine pe_mono (pe_callB (X := X.suite a ((a, oe) :: pn)) (call_isE (X := X) xc hz hf) hgi hmi boot_isi (pa_cons (pe_var hi hv hd hcd) (pa_cons (pe_bltn (X := X.suite a ((a, oe) :: pn)) hg hmx hbx (show RelV (.ty T) (.type T) from rfl) hnx hdx) pa_nil he2) he) (by decide) (by decide) he hpl) fun σ H Q ⟨e, q⟩ => ?_
  exact ⟨.ref a, e, .ty T, .type T, b, rfl, fun u r => by cases r; rfl, h3, q H (Same.refl H)⟩
/-- isinstance(e, a tuple of classes) -/
theorem call_isET {D : Addr} (C : ExcC X.K D) (hz : Zc (.ref D) none oe) (hf : ∃ vs, oe.data = .fields vs) : CallR (X.suite a ((a, oe) :: pn)) (.builtin "isinstance") (fun xs H Q => ∃ (tp : Addr) (cs : List V) (us : List Value) (b : Bool), xs = [.ref a, .ref tp] ∧ H tp = some (.tup cs) ∧ Paired ClsV cs us ∧ PySem.W.kitAny X.K (.ref D) us = some b ∧ Q (.bl b) H) := by
  intro pins s σ H xs us Q I r h
  obtain ⟨tp, cs, ws, b, rfl, hT, k, e, q⟩ := h
  obtain ⟨u1, u2, rfl, r1, r2⟩ := vals2 r
  cases (show u2 = Value.ref tp from r2)
  cases (show u1 = Value.ref a from r1)
  obtain ⟨hget, _⟩ := I.pin (a, oe) (List.mem_append.mpr (.inl List.mem_cons_self))
  obtain ⟨vs, hv⟩ := hf
  have J : PySem.W.InstAt s.heap a oe D none := by
    obtain ⟨oc, od, oda, osl⟩ := oe
    obtain ⟨h1, h2⟩ := hz
    dsimp only at h1 h2 hv
    subst h1 h2 hv
    exact ⟨hget, rfl, rfl, trivial⟩
  obtain ⟨_, its, rv, o, h1, h2, n, h3⟩ := (show ObjOk X.prog X.w H s.heap tp (.tup cs) from I.hok tp _ hT)
  have e3 := ClsV.all k rv
  subst e3
  obtain ⟨oc, od, dt, sl⟩ := o
  simp only at h2 h3
  subst h2 h3
  exact PySem.W.kia_tup (PySem.W.handS_kitx_exc C.hg C.hk C.hs C.hd C.ha C.hn C.ht C.hm) I.kIn J h1 e (fun z => nomatch z) fun tk => ⟨.bl b, H, I.kept (t' := tk) fun _ _ z => z, rfl, q⟩
def QM (X' : Cx) (n : Str) (es : List Expr) (b : Bool) : Prop := ∃ cs : List Addr, PA X' es (fun σ H Q => Q (cs.map .ref) H) ∧ cs.length = es.length ∧ ∀ C, X'.mg n = some (.ref C) → PySem.W.kitAny X'.K (.ref C) (cs.map .ref) = some b
theorem qm_nil {X' : Cx} : QM X' n [] false := ⟨[], pa_nil, rfl, fun _ _ => rfl⟩
theorem qm_cons {X' : Cx} {es : List Expr} {b b2 : Bool} (ci : ExcI X'.K X'.mg n x b) (k : QM X' n es b2) (hg : Gl X' x := by rfl) (hdx : (x == ("__debug__" : Str)) = false := by decide) (hs : starEach (.Name x p :: es) X'.env = (false, eval (.Name x p) X'.env) :: starEach es X'.env := by rfl) : QM X' n (.Name x p :: es) (b || b2) := by
  obtain ⟨C2, c, h1, h2, h3⟩ := ci
  obtain ⟨cs, k1, k2, k3⟩ := k
  refine ⟨c :: cs, pa_mono (pa_cons (pe_cls h2 hg hdx) k1 hs) fun σ H Q q => q, by simp [k2], fun C hC => ?_⟩
  rw [h1] at hC; cases hC
  exact kitAny_cons h3 (fun e => by rw [e]; exact k3 _ h1) fun e => by rw [e]; rfl
theorem paired_own (cs : List Addr) : Paired ClsV (cs.map .ref) (cs.map .ref) := by
  induction cs with
  | nil => exact .nil
  | cons c cs ih => exact .cons (.own c) ih
theorem qe_isT {es : List Expr} {b : Bool} {x1} {p3 : Pos} (hC : X.mg n = some (.ref C)) (hz : Zc (.ref C) none oe) (hf : ∃ vs, oe.data = .fields vs) (cn : ExcCN X.K X.mg n) (ci : QM (X.suite a ((a, oe) :: pn)) n es b) (hmi : X.mg "isinstance" = none) (hl : es.length ≤ 1000 := by decide) (hi : X.N[i]? = some y := by rfl)
    (hv : Vis X.env.scope y := by first | exact Or.inl rfl | exact Or.inr (Or.inl rfl) | exact Or.inr (Or.inr rfl)) (hd : (y == ("__debug__" : Str)) = false := by decide) (hcd : (y == ("__classdict__" : Str)) = false := by decide)
    (hgi : Gl X "isinstance" := by rfl)
    (he : starEach [.Name y p1, .Tuple es x1 p3] X.env = (false, eval (.Name y p1) X.env) :: starEach [.Tuple es x1 p3] X.env := by rfl) (hpl : (backTo pos (starEach [.Tuple es x1 p3] X.env)).any (·.1) = false := by rfl) (he2 : starEach [.Tuple es x1 p3] X.env = (false, eval (.Tuple es x1 p3) X.env) :: starEach [] X.env := by rfl) :
    QE (X.suite a ((a, oe) :: pn)) i a (.Call (.Name "isinstance" p) [.Name y p1, .Tuple es x1 p3] [] pos) b := by
  obtain ⟨C1, h1, xc⟩ := cn
  rw [hC] at h1; cases h1
  obtain ⟨cs, k1, k2, k3⟩ := ci
  refine pe_mono (pe_callB (X := X.suite a ((a, oe) :: pn)) (call_isET (X := X) xc hz hf) hgi hmi boot_isi (pa_cons (pe_var hi hv hd hcd) (pa_cons (pe_tup k1) pa_nil he2) he) (by decide) (by decide) he hpl) fun σ H Q ⟨e, q⟩ => ?_
  refine ⟨.ref a, e, by rw [List.length_map, k2]; exact small hl, fun T hT => ?_⟩
  exact ⟨T, _, _, b, rfl, upd_same, paired_own cs, k3 _ hC, q _ (same_updN hT)⟩
end
/-- the mirror of such a suite -/
def gMk (i v : Nat) (bs : Str → List Bool) (c : Str) : Env → SO := fun env => if i < env.length ∧ v < env.length then .nx ((env.set i .un).set v (.lst ((bs c).map fun b => .fz (.bl b)))) else .bad
/-- the suite of every class that is caught -/
def QX (X : Cx) (i v : Nat) (sts : List Stmt) (n : Str) (bs : List Bool) : Prop := ∀ (a : Addr) (oe : Obj) (C : Addr) (pn : List (Addr × Obj)), X.mg n = some (.ref C) → Zc (.ref C) none oe → (∃ vs, oe.data = .fields vs) → QS (X.suite a ((a, oe) :: pn)) i v a sts bs
inductive QXs (X : Cx) (i v : Nat) (sts : List Stmt) (bs : Str → List Bool) : List Str → Prop
  | nil : QXs X i v sts bs []
  | cons {n T} : QX X i v sts n (bs n) → QXs X i v sts bs T → QXs X i v sts bs (n :: T)
theorem QXs.mem {i v : Nat} {bs : Str → List Bool} {n : Str} {T : List Str} (h : QXs X i v sts bs T) (m : n ∈ T) : QX X i v sts n (bs n) := by
  induction h with
  | nil => cases m
  | cons a _ ih =>
    rcases List.mem_cons.mp m with e | m
    · subst e; exact a
    · exact ih m
theorem Slots.un1 {K : PySem.W.Frag} {mg : Str → Option Value} {B H : Hp} {F : List Addr} {σ : St} {env : Env} (x : Slots K mg B H F σ env) (i : Nat) (u : Option V) : ∃ F', Slots K mg B H F' (σ.set i u) (env.set i .un) ∧ F'.Sublist F := by
  induction x generalizing i with
  | nil => exact ⟨[], .nil, List.Sublist.refl _⟩
  | @un F x σ env h ih =>
    cases i with
    | zero => exact ⟨F, .un h, List.Sublist.refl _⟩
    | succ i => obtain ⟨F', h1, h2⟩ := ih i; exact ⟨F', .un h1, h2⟩
  | @cons F1 G1 w o' σ env r' h ih =>
    cases i with
    | zero => exact ⟨G1, .un h, List.sublist_append_right _ _⟩
    | succ i => obtain ⟨F', h1, h2⟩ := ih i; exact ⟨F1 ++ F', .cons r' h1, (List.Sublist.refl _).append h2⟩
theorem map_fzb {K : PySem.W.Frag} {mg : Str → Option Value} {B H : Hp} (bs : List Bool) : OwnL K mg B H [] (bs.map .bl) (bs.map fun b => .fz (.bl b)) := by
  induction bs with
  | nil => exact .nil
  | cons b bs ih => exact .cons (F := []) (.fz .bl) ih
theorem s_tryAs {x y : Str} {body suite : List Stmt} {b₀ : Stmt} {np pos' : Pos} {T : List Str} {f : Env → SO} {i v : Nat} {bs : Str → List Bool} (hN : X.N.Nodup) (tk : Takes X W) (ht : ExcMs X.K X.mg x T) (hne : T ≠ []) (hiv : i ≠ v) (hio : io.contains i = false) (hio2 : io.contains v = false)
    (hb : ∀ (W' : WX) (pn : List (Addr × Obj)) (xe : Value → Shared → Prop), Takes (X.tr pn xe) W' → PassesOwn (model X.prog X.w) X.A X.env xe → PSsr (X.tr pn xe) W' io body f)
    (hsu : QXs X i v (b₀ :: suite) bs T) (hi : X.N[i]? = some y := by rfl) (hln : X.env.kindOf y = some .local := by rfl)
    (hs : X.stack = X.env :: X.outer := by rfl) (hf : X.env.frame = some X.env.locals := by rfl) (hg : Gl X x := by rfl) (hdb : (x == ("__debug__" : Str)) = false := by decide) :
    PSr X W io (.Try body [.ExceptHandler (some (.Name x np)) (some y) (b₀ :: suite) pos'] [] [] pos) (sTry T f (gMk i v bs)) := by
  have hc : ∃ c, X.mg x = some (.ref c) := by
    cases ht with
    | nil => exact absurd rfl hne
    | cons h _ => obtain ⟨_, c, _, h, _⟩ := h; exact ⟨c, h⟩
  obtain ⟨c, hc⟩ := hc
  refine ⟨_, L2.ps_try_as (tb := fun W' => canS X W' io f) (ts := fun a cls d D σ H => ∃ n C, n ∈ T ∧ X.mg n = some (.ref C) ∧ cls = .ref C ∧ d = none ∧ σ[i]? = some (some (.ref a)) ∧ v < σ.length ∧ ∀ p H', H p = none → (∀ b o, H b = some o → H' b = some o) → H' p = some (.lst ((bs n).map .bl)) → D.nx (σ.set v (some (.ref p))) H') (Wout := W) hs hf hN hi hln ⟨hg, hdb, .inl hc⟩ tk (fun W' pn xe tk' po => canS_ok (hb W' pn xe tk' po)) (fun a oe cls d pn hz hfl => ⟨fun pins s σ H D I ⟨n, C, hT, hC, e1, e2, q⟩ => ?_⟩), ?_⟩
  · subst e1 e2
    exact (hsu.mem hT a oe C pn hC hz hfl).run pins s σ H D I q
  intro B H F σ env D S q
  refine ⟨B, F, env, S, ?_⟩
  dsimp only [sTry] at q
  cases e2 : f env with
  | exc n env' =>
    rw [e2] at q
    intro B' H' F' σ' S' f' ag C hC
    obtain ⟨hT, q'⟩ := sTry_exc q (fun _ _ _ _ => False)
    obtain ⟨C', c', h1, h2, h3⟩ := ht.mem hT
    rw [hC] at h1; cases h1
    rw [hc] at h2; cases h2
    refine ⟨true, h3, fun _ a ha => ?_, fun z => by cases z⟩
    dsimp only [gMk] at q'
    split at q'
    · rename_i hl
      have ll := S'.sl.len
      have il : i < σ'.length := by rw [ll]; exact hl.1
      have hl := hl.2
      refine ⟨n, C, hT, hC, rfl, rfl, by rw [List.getElem?_set_self il], by rw [List.length_set, ll]; exact hl, fun p H2 hp k2 e2 => ?_⟩
      obtain ⟨F1, l1, sub1⟩ := S'.sl.un1 i none
      have hb : B' p = none := S'.sub.free hp
      have np : p ∉ F1 := fun m => by
        obtain ⟨_, u, e⟩ := S'.sl.there p (sub1.subset m)
        rw [hp] at e; cases e
      have l2 : Slots X.K X.mg B' H2 F1 (σ'.set i none) (env'.set i .un) := l1.mono (Same.refl _) fun b m => ⟨fun u e => k2 b u e, (S'.sl.there b (sub1.subset m)).1⟩
      have s2 : Same B' H2 := fun b o e => k2 b o (S'.sub b o e)
      obtain ⟨F2, st, fr, ag2⟩ := store_ok (X := X) (io := io) (i := v) l2 s2 (.lst e2 hb (map_fzb (bs n))) (by simpa using ⟨np, S'.nd.sublist sub1⟩) (by rw [List.length_set]; exact hl) hio2
      have e3 : (((σ'.set i (some (.ref a))).set v (some (.ref p))).set i none) = ((σ'.set i none).set v (some (.ref p))) := by
        rw [List.set_comm _ _ hiv.symm, List.set_set]
      show D.nx (((σ'.set i (some (.ref a))).set v (some (.ref p))).set i none) H2
      rw [e3]
      refine q' B' H2 F2 _ st ?_ ((ag.trans (Agree.set hio)).trans ag2)
      refine f'.trans ⟨Same.refl _, fun b o e _ => k2 b o e, fun _ _ _ _ b => b, fun b m => ?_⟩
      rcases fr.fr b m with z | z
      · rcases List.mem_append.mp z with z | z
        · have : b = p := by simpa using z
          subst this; exact .inr hp
        · exact .inl (sub1.subset z)
      · cases q3 : H' b with
        | none => exact .inr rfl
        | some u => rw [k2 b u q3] at z; cases z
    · exact q'.elim
  | _ => rw [e2] at q; exact q
end
end Tl
/-! what is new is taken as plain; try, typed; closers for exceptions -/
namespace Tl
open PySem PySem.Spec L2

/-- a thing of one's own, taken as it stands -/
def gFrzX (r : RV) : Option RV := match r with
  | .own o => (frzO o).map .own
  | .view _ => none
section
variable {X : Cx} {W : WX} {e : Expr} {f : Env → O RV}
theorem r_frzX (h : PEr X W e f) : PEr X W e (e1 gFrzX f) := by
  obtain ⟨t, h, k⟩ := h
  refine ⟨_, h, k.map (r := fun (x : V) (H : Hp) (Q : VK) => Q x H) fun B H G x r Q s h n q => ?_⟩
  cases r with
  | view o => exact q.elim
  | own o =>
    dsimp only [gFrzX] at q
    cases ef : frzO o with
    | none => rw [ef] at q; exact q.elim
    | some o' =>
      rw [ef] at q
      have h' : Own X.K X.mg B H G x o := h
      obtain ⟨t1, t2, t3⟩ := frm_more (K := X.K) (mg := X.mg) (G := G) s h'.there
      have ow : Own X.K X.mg (more B H G) H [] x o' := own_frzO t1 h' ef (fun a m u z => by rw [more_in m]; exact z) H
      exact q x (more B H G) H [] ow t2 List.nodup_nil t3
end
section
variable {p : Bool} {f : Env → O RV} {Γ Γ1 Γ2 : Ctx} {o o' : OD}
theorem ev_frzX (h : Ev p f Γ (.own o) Γ1) (hf : frzO o = some o') : Ev p (e1 gFrzX f) Γ (.own o') Γ1 := ev_e1 h (by show (frzO o).map RV.own = _; rw [hf]; rfl)
theorem frzO_F {α : Type} {e : α → D} {x : α} : frzO (oF e x) = some (.fz (e x)) := by show (frz (.fz (e x))).map OD.fz = _; rw [frz_fz]; rfl
theorem frzO_dT : frzO (.dT []) = some (.fz (.dT [])) := by show (frz (.dT [])).map OD.fz = _; rw [Tl.frz]; rfl
end
/-! try -/
def PT {σ : Type} (G : σ → Ctx) (Gx : Ctx) : Ex σ → SO → Prop
  | .val s, so => ∃ env, so = .nx env ∧ Fits (G s) env
  | .exc c, so => ∃ env, so = .exc c env ∧ Fits Gx env
/-- raises nothing -/
def NX (g : Env → SO) : Prop := ∀ e c e', g e ≠ .exc c e'
def NE {β : Type} (g : Env → O β) : Prop := ∀ e c e', g e ≠ .exc c e'
theorem ne_c {d : D} : NE (eC d) := fun _ _ _ h => by cases h
theorem ne_var {i : Nat} : NE (eVar i) := fun e _ _ h => by
  unfold eVar at h
  split at h <;> cases h
theorem ne_map {β γ : Type} {f : Env → O β} {g : β → Option γ} (h : NE f) : NE (fun e => (f e).mapP g) := fun e c e' q => by
  dsimp only [O.mapP] at q
  cases z : f e with
  | exc a b => exact h _ _ _ z
  | bad => rw [z] at q; cases q
  | ok a => rw [z] at q; dsimp only at q; split at q <;> cases q
  | eff a b => rw [z] at q; dsimp only at q; split at q <;> cases q
theorem ne_e1 {g : RV → Option RV} {f : Env → O RV} (h : NE f) : NE (e1 g f) := ne_map h
theorem ne_e2 {g : RV × RV → Option RV} {f1 f2 : Env → O RV} (h : NE f1) (h2 : NE f2) : NE (e2 g f1 f2) := by
  refine ne_map (g := g) fun e c e' q => ?_
  dsimp only [O.andThen] at q
  cases z : f1 e with
  | exc a b => exact h _ _ _ z
  | bad => rw [z] at q; cases q
  | ok a =>
    rw [z] at q; dsimp only at q
    cases z2 : f2 e with
    | exc a b => exact h2 _ _ _ z2
    | bad => rw [z2] at q; cases q
    | ok a => rw [z2] at q; cases q
    | eff a b => rw [z2] at q; dsimp only at q; split at q <;> cases q
  | eff a b =>
    rw [z] at q; dsimp only at q
    cases z2 : f2 b with
    | exc a b => exact h2 _ _ _ z2
    | bad => rw [z2] at q; cases q
    | ok a => rw [z2] at q; cases q
    | eff a b => rw [z2] at q; dsimp only at q; split at q <;> cases q
theorem nx_E {β : Type} {f : Env → O β} {κ : β → Env → SO} (h : NE f) (k : ∀ b, NX (κ b)) : NX (sE f κ) := fun e c e' q => by
  unfold sE at q
  cases z : f e with
  | exc a b => exact h _ _ _ z
  | bad => rw [z] at q; cases q
  | ok a => rw [z] at q; exact k _ _ _ _ q
  | eff a b => rw [z] at q; exact k _ _ _ _ q
theorem nx_ret {f : Env → O RV} (h : NE f) : NX (sRet f) := nx_E h fun b e c e' q => by
  unfold kRet at q
  split at q <;> cases q
theorem nx_asg {f : Env → O RV} {g : OD → Env → Option Env} (h : NE f) : NX (sAsg f g) := nx_E h fun b e c e' q => by
  unfold kAsg at q
  split at q
  · split at q <;> cases q
  · cases q
theorem nx_mk {i v : Nat} {bs : Str → List Bool} {c : Str} : NX (gMk i v bs c) := fun e c' e' q => by
  unfold gMk at q
  split at q <;> cases q
section
variable {S T : Type} {P : T → SO → Prop} {Γ Γ1 Gx : Ctx} {f rest : Env → SO} {g : Str → Env → SO}
theorem sk_try {G : S → Ctx} {L : List Str} {tB : Option (Ex S)} {k : S → Option T} {kh : Str → Option T} (hB : Sk (PT G Gx) f Γ tB) (hn : ∀ c, NX (g c)) (hk : ∀ s, Sk P rest (G s) (k s)) (hH : ∀ c, Sk P (sSeq (g c) rest) Gx (kh c)) :
    Sk P (sSeq (sTry L f g) rest) Γ (tB.bind fun y => y.elim k fun c => if L.contains c = true then kh c else none) := by
  intro x q env w
  cases hb : tB with
  | none => rw [hb] at q; cases q
  | some y =>
    rw [hb] at q
    have h1 := hB y hb env w
    cases y with
    | val s =>
      obtain ⟨e, a, b⟩ := h1
      have := hk s x q e b
      simpa only [sSeq, sTry, a] using this
    | exc c =>
      obtain ⟨e, a, b⟩ := h1
      simp only [Option.bind, Ex.elim] at q
      by_cases hc : L.contains c = true
      · rw [if_pos hc] at q
        have := hH c x q e b
        simp only [sSeq, sTry, a, hc, if_true] at this ⊢
        cases z : g c e with
        | exc a b => exact absurd z (hn c e _ _)
        | _ => rw [z] at this; exact this
      · rw [if_neg hc] at q; cases q
theorem sk_mk {i v : Nat} {bs : Str → List Bool} {c : Str} {t : Option T} {y z : Option OD} (hi : Γ[i]? = some y) (hv : Γ[v]? = some z) (k : Sk P rest ((Γ.set i (some .un)).set v (some (oL (oF D.bl) (bs c)))) t) : Sk P (sSeq (gMk i v bs c) rest) Γ t := by
  intro x q env w
  have := k x q _ ((w.set (i := i) (o := .un)).set (i := v) (o := oL (oF D.bl) (bs c)))
  simp only [sSeq, gMk, w.lt hi, w.lt hv, and_self, if_true]
  exact this
theorem pt_nx {G : S → Ctx} {s : S} (msk : List Bool) (h : keep msk Γ = G s) : ∀ env, Fits Γ env → PT G Gx (.val s) (.nx env) := fun env w => ⟨env, rfl, h ▸ w.keep msk⟩
theorem pt_exc {G : S → Ctx} {c : Str} (msk : List Bool) (h : keep msk Γ = Gx) : ∀ env, Fits Γ env → PT G Gx (.exc c) (.exc c env) := fun env w => ⟨env, rfl, h ▸ w.keep msk⟩
end
section
variable {K : PySem.W.Frag} {mg : Str → Option Value} {h : Heap}
theorem excm_at (X : K.In h) (G : h.Ns mainGlobals mg) {n x : Str} {C c : Addr} (a : PySem.W.nsIn K mainGlobals n = some (some (.ref C))) (a2 : PySem.W.nsIn K mainGlobals x = some (some (.ref c))) (b : PySem.W.subIn K (.ref c) (.type "BaseException") = some true) (d : PySem.W.hasDictIn K c = true)
    (t : PySem.W.typeIn K (.ref c) = some (.type "type")) (s : PySem.W.subIn K (.ref C) (.ref c) = some true) : ExcM K mg n x := ⟨C, c, PySem.W.mg_of X G a, PySem.W.mg_of X G a2, PySem.W.exm_ref b d t s⟩
theorem exccn_at (X : K.In h) (G : h.Ns mainGlobals mg) {n : Str} {D : Addr} (a : PySem.W.nsIn K mainGlobals n = some (some (.ref D))) (hg : PySem.W.findIn K (.ref D) "__getattribute__" = some (some (.builtin "BaseException.__getattribute__")))
  (hk : PySem.W.findIn K (.ref D) "__getattr__" = some none) (hs : PySem.W.subIn K (.ref D) (.type "BaseException") = some true) (hd : PySem.W.hasDictIn K D = true) (ha : PySem.W.findIn K (.ref D) "__class__" = some (some (.builtin "object.__class__")))
  (hn : PySem.W.specialIn K (.builtin "object.__class__") "__get__" = some (some (.builtin "getset_descriptor.__get__"))) (ht : PySem.W.takesIn K (.builtin "object.__class__") = some true) (hm : PySem.W.mroIn K D (.type "object") = some true) : ExcCN K mg n :=
  ⟨D, PySem.W.mg_of X G a, ⟨hg, hk, hs, hd, ha, hn, ht, hm⟩⟩
theorem exci_at (X : K.In h) (G : h.Ns mainGlobals mg) {n x : Str} {C c : Addr} {b : Bool} (a : PySem.W.nsIn K mainGlobals n = some (some (.ref C))) (a2 : PySem.W.nsIn K mainGlobals x = some (some (.ref c))) (d : PySem.W.hasDictIn K c = true)
    (t : PySem.W.typeIn K (.ref c) = some (.type "type")) (s : PySem.W.subIn K (.ref C) (.ref c) = some b) (e : (b || !(decide (C = c))) = true) : ExcI K mg n x b := by
  refine ⟨C, c, PySem.W.mg_of X G a, PySem.W.mg_of X G a2, ?_⟩
  obtain ⟨cd, hc, _⟩ := PySem.W.any_some d
  unfold PySem.W.kitOne
  split
  · rename_i z
    have z : C = c := Value.ref.inj (beq_iff_eq.mp z)
    simp only [z, decide_true, Bool.not_true, Bool.or_false] at e
    rw [e]
  · show (if ((PySem.W.clsIn K c).isSome && PySem.W.typeIn K (.ref c) == some (.type "type")) = true then PySem.W.subIn K (.ref C) (.ref c) else none) = some b
    rw [hc, t, s]; rfl
theorem excb_at (X : K.In h) (G : h.Ns mainGlobals mg) {n : Str} {T : String} {C : Addr} {b : Bool} (a : PySem.W.nsIn K mainGlobals n = some (some (.ref C))) (t : PySem.W.subIn K (.ref C) (.type T) = some b) (m : PySem.W.kitMeta T = true) : ExcB K mg n T b := by
  refine ⟨C, PySem.W.mg_of X G a, ?_⟩
  show (if PySem.W.kitMeta T = true then PySem.W.subIn K (.ref C) (.type T) else none) = some b
  rw [if_pos m]; exact t
end
end Tl
/-! l.index(x), l.count(x) of plain things -/
namespace L2
open PySem PySem.Spec PyProof.Rows
section
variable {X : Cx}
def rCountD (K : PySem.W.Frag) : V → List V → Hp → VK → Prop := fun x xs H Q => ∃ (a : Addr) (y : V) (d : PyData) (ds : List PyData), x = V.ref a ∧ xs = [y] ∧ Dp K H (V.ref a) (.list ds) ∧ Dp K H y d ∧
  SeqAt.shaped (.list ds) = true ∧ SeqAt.shaped d = true ∧ Q (.int ((ds.countP fun z => PyData.eqv z d : Nat) : Int)) H
theorem mt_countD (hu : X.A.units + 65 < cLine) : MtR X "list.count" (rCountD X.K) := by
  intro pins s σ H x xs v us Q I rx rxs h
  obtain ⟨a, y, d, ds, rfl, rfl, hl, hy, sl, sd, q⟩ := h
  cases rx
  cases rxs with
  | cons ry rt =>
    rename_i uy ut
    cases rt
    obtain ⟨bs, r1⟩ := Dp.reads I d y uy hy ry
    have hxs : PyData.canLayAll0 ds = true := SeqAt.canLay_of_shaped sl
    have hroom : X.A.units + 1 + min (PyData.depthAll ds) d.depth < cLine := room_in_shaped sd hu
    cases hl with
    | lst hs ha =>
      obtain ⟨its, rv, ⟨⟨cls, dd, data, sls⟩, n, ho, hc, hdn, hdt⟩, hlen⟩ := I.list hs
      simp only at hc hdt
      subst hc hdt
      obtain ⟨as, h4⟩ := Dp.readsAll I ds _ its ha rv
      have hmap : its.map (SeqAt.readOf s.heap) = ds := SeqAt.readsAll_map ds its as hxs h4
      refine call_meets PySem.F.slot_list_count ⟨_, ho, rfl⟩ PySem.F.entry_list_count (PySem.F.args_list_count_2 _ _)
        (SeqAt.list_countAt a its.toArray n dd sls uy (fun u => PyData.eqv (SeqAt.readOf s.heap u) d)) ⟨ho, SeqAt.items_eqAt (vs := its.toArray) (show ReadsAll s.heap its.toArray.toList ds as from h4) r1 hxs (SeqAt.canLay_of_shaped sd) hroom, ?_⟩
      have ec : its.toArray.toList.countP (fun u => PyData.eqv (SeqAt.readOf s.heap u) d) = ds.countP fun z => PyData.eqv z d := by
        conv => rhs; rw [← hmap]
        rw [List.countP_map]; rfl
      refine ⟨.int ((ds.countP fun z => PyData.eqv z d : Nat) : Int), H, I.tok _, ⟨s.toks, ?_⟩, q⟩
      show Value.int ((its.toArray.toList.countP (fun u => PyData.eqv (SeqAt.readOf s.heap u) d) : Nat) : Int) s.toks = Value.int ((ds.countP fun z => PyData.eqv z d : Nat) : Int) s.toks
      rw [ec]
end
end L2
namespace Tl
open PySem PySem.Spec L2
/-- a list -/
def gLs (r : RV) : Option RV := match r.od.items with
  | some _ => some r
  | none => none
def gIndex (p : RV × RV) : Option RV := match p.1.od.items, p.2.od.plain with
  | some ds, some d => if dOk (.lst ds) = true ∧ dOk d = true then (ds.findIdx? fun z => dEq z d).map fun j => .own (.fz (.int (j : Nat))) else none
  | _, _ => none
def gCount (p : RV × RV) : Option RV := match p.1.od.items, p.2.od.plain with
  | some ds, some d => if dOk (.lst ds) = true ∧ dOk d = true then some (.own (.fz (.int ((ds.countP fun z => dEq z d : Nat) : Int)))) else none
  | _, _ => none
section
variable {X : Cx} {W : WX} {a b : Expr} {fa fb : Env → O RV} {cpos apos : Pos}
theorem rv_items_dp {K : PySem.W.Frag} {mg : Str → Option Value} {B H : Hp} {G : List Addr} {v : V} {r : RV} {ds : List D} (s : Same B H) (h : rvR K mg B H G v r) (e : r.od.items = some ds) (l : dOk (.lst ds) = true) : ∃ p, v = .ref p ∧ Dp K H (.ref p) (.list (pdL ds)) := by
  obtain ⟨p, vs, rfl, hq, hr⟩ := rv_items s h e
  refine ⟨p, rfl, .lst hq (RepL.dp s hr ?_)⟩
  have := SeqAt.canLay_of_shaped l
  exact this
theorem EOk.lsm {t : TE} {tb : TE} {g : RV × RV → Option RV} {r : V → List V → Hp → VK → Prop} (ka : EOk X W (rvR X.K X.mg) t fa) (kb : EOk X W (rvR X.K X.mg) tb fb) (v : VOk (rr X) (rvR X.K X.mg) (fun p H Q => r p.1 [p.2] H Q) g) :
    EOk X W (rvR X.K X.mg) (fun σ H Q => t σ H fun x H1 => tyV X.K "list" x H1 ∧ tCons tb tNil σ H1 fun xs H2 => r x xs H2 Q) (e2 g (e1 gLs fa) fb) := by
  have k1 : EOk X W (rvR X.K X.mg) (fun σ H Q => t σ H fun x H1 => tyV X.K "list" x H1 ∧ Q x H1) (e1 gLs fa) := ka.map (r := fun (x : V) (H : Hp) (Q : VK) => tyV X.K "list" x H ∧ Q x H) fun B H G x rv Q s h n q => by
    dsimp only [gLs] at q
    split at q
    · rename_i ds e
      obtain ⟨p, vs, rfl, hq, hr⟩ := rv_items s h e
      exact ⟨.inl ⟨rfl, _, hq⟩, q (.ref p) B H G h s n Frm.refl⟩
    · exact q.elim
  intro B H F σ env Q S q
  have := (k1.two (r := fun x y H Q => r x [y] H Q) kb v) B H F σ env Q S q
  exact this
theorem v_index : VOk (rr X) (rvR X.K X.mg) (fun p H Q => rIndexD X.K p.1 [p.2] H Q) gIndex := by
  rintro B H G ⟨x, y⟩ ⟨r1, r2⟩ Q s ⟨G1, G2, _, h1, h2⟩ n q
  dsimp only [gIndex] at q h1 h2 ⊢
  split at q
  · rename_i ds d e1 e2
    split at q
    · rename_i hk
      obtain ⟨p, rfl, hp⟩ := rv_items_dp s h1 e1 hk.1
      cases e3 : ds.findIdx? (fun z => dEq z d) with
      | none => rw [e3] at q; exact q.elim
      | some j =>
        rw [e3] at q
        obtain ⟨hj, hz, hm⟩ := List.findIdx?_eq_some_iff_getElem.mp e3
        refine ⟨p, y, pd d, pdL ds, j, pd ds[j], rfl, rfl, hp, rv_dp s h2 e2 (SeqAt.canLay_of_shaped hk.2), hk.1, hk.2, ?_, hz, fun m z' hmj hz' => ?_, VPost.fz q s .int⟩
        · rw [pdL_eq, List.getElem?_map, List.getElem?_eq_getElem hj]; rfl
        · rw [pdL_eq, List.getElem?_map, List.getElem?_eq_getElem (by omega)] at hz'
          cases hz'
          have := hm m hmj
          exact Bool.eq_false_iff.mpr this
    · exact q.elim
  · exact q.elim
theorem v_count : VOk (rr X) (rvR X.K X.mg) (fun p H Q => rCountD X.K p.1 [p.2] H Q) gCount := by
  rintro B H G ⟨x, y⟩ ⟨r1, r2⟩ Q s ⟨G1, G2, _, h1, h2⟩ n q
  dsimp only [gCount] at q h1 h2 ⊢
  split at q
  · rename_i ds d e1 e2
    split at q
    · rename_i hk
      obtain ⟨p, rfl, hp⟩ := rv_items_dp s h1 e1 hk.1
      refine ⟨p, y, pd d, pdL ds, rfl, rfl, hp, rv_dp s h2 e2 (SeqAt.canLay_of_shaped hk.2), hk.1, hk.2, ?_⟩
      have : (pdL ds).countP (fun z => PyData.eqv z (pd d)) = ds.countP fun z => dEq z d := by
        rw [pdL_eq, List.countP_map]; rfl
      rw [this]
      exact VPost.fz q s .int
    · exact q.elim
  · exact q.elim
theorem r_index {j : Nat} (hr : Room j X.A) (ha : PEr X W a fa) (hb : PEr X W b fb) (hbase : attributeBase a "index" X.env (eval a X.env) = eval a X.env := by rfl)
    (hfew : ((backTo cpos (starEach [b] X.env)).all (fun x => !x.1) && (backToKw cpos (keywordEach [] X.env)).all (fun x => x.1.isSome) && decide (([b] : List Expr).length + ([] : List Keyword).length + (if ([] : List Keyword).isEmpty then 0 else 1) < 30)) = true := by rfl)
    (hline : (apos.endLine == cpos.line) = true := by rfl) (hs : starEach [b] X.env = (false, eval b X.env) :: starEach [] X.env := by rfl) (hplain : (backTo cpos (starEach [] X.env)).any (·.1) = false := by rfl) :
    PEr X W (.Call (.Attribute a "index" apos) [b] [] cpos) (e2 gIndex (e1 gLs fa) fb) := by
  obtain ⟨ta, ha, ka⟩ := ha
  obtain ⟨tb, hb, kb⟩ := hb
  exact ⟨_, pe_bm PySem.F.plainAttrs_list PySem.F.slot_list_index PySem.F.type_list_index (mt_indexD (hu65 hr)) ha (pa_cons hb pa_nil hs) hbase hfew hline hs hplain, EOk.lsm ka kb v_index⟩
theorem r_count {j : Nat} (hr : Room j X.A) (ha : PEr X W a fa) (hb : PEr X W b fb) (hbase : attributeBase a "count" X.env (eval a X.env) = eval a X.env := by rfl)
    (hfew : ((backTo cpos (starEach [b] X.env)).all (fun x => !x.1) && (backToKw cpos (keywordEach [] X.env)).all (fun x => x.1.isSome) && decide (([b] : List Expr).length + ([] : List Keyword).length + (if ([] : List Keyword).isEmpty then 0 else 1) < 30)) = true := by rfl)
    (hline : (apos.endLine == cpos.line) = true := by rfl) (hs : starEach [b] X.env = (false, eval b X.env) :: starEach [] X.env := by rfl) (hplain : (backTo cpos (starEach [] X.env)).any (·.1) = false := by rfl) :
    PEr X W (.Call (.Attribute a "count" apos) [b] [] cpos) (e2 gCount (e1 gLs fa) fb) := by
  obtain ⟨ta, ha, ka⟩ := ha
  obtain ⟨tb, hb, kb⟩ := hb
  exact ⟨_, pe_bm PySem.F.plainAttrs_list PySem.F.slot_list_count PySem.F.type_list_count (mt_countD (hu65 hr)) ha (pa_cons hb pa_nil hs) hbase hfew hline hs hplain, EOk.lsm ka kb v_count⟩
end
/-! typed -/
def idxO {α : Type} [DecidableEq α] (xs : List α) (a : α) : Option Int := (xs.findIdx? fun z => decide (z = a)).map fun j => ((j : Nat) : Int)
section
variable {α : Type} [DecidableEq α] {n : Nat} {e : α → D} {r u : RV} {xs : List α} {a : α}
theorem g_ls (h : u.od.items = some (xs.map e)) : gLs u = some u := by unfold gLs; rw [h]
theorem g_index {j : Int} (h : EqE n e) (hn : n ≤ 63) (h2 : u.od.items = some (xs.map e)) (h1 : r.od.plain = some (e a)) (hj : idxO xs a = some j) : gIndex (u, r) = some (.own (.fz (.int j))) := by
  unfold gIndex
  dsimp only
  rw [h2, h1]
  dsimp only
  rw [if_pos ⟨((q_L h).sh xs).ok (by omega), (h.sh a).ok (by omega)⟩, List.findIdx?_map]
  have : ((fun z => dEq z (e a)) ∘ e) = fun z => decide (z = a) := by funext z; exact h.eq z a
  rw [this]
  unfold idxO at hj
  cases q : xs.findIdx? (fun z => decide (z = a)) with
  | none => rw [q] at hj; cases hj
  | some k => rw [q] at hj; cases hj; rfl
theorem g_count (h : EqE n e) (hn : n ≤ 63) (h2 : u.od.items = some (xs.map e)) (h1 : r.od.plain = some (e a)) : gCount (u, r) = some (.own (.fz (.int ((xs.countP fun z => decide (z = a) : Nat) : Int)))) := by
  unfold gCount
  dsimp only
  rw [h2, h1]
  dsimp only
  rw [if_pos ⟨((q_L h).sh xs).ok (by omega), (h.sh a).ok (by omega)⟩, List.countP_map]
  have : ((fun z => dEq z (e a)) ∘ e) = fun z => decide (z = a) := by funext z; exact h.eq z a
  rw [this]
end
end Tl
/-! plain data of any kind, taken apart -/
namespace Tl
open PySem PySem.Spec L2
def dT2 : D → Option (D × D)
  | .tup [a, b] => some (a, b)
  | _ => none
def dT3 : D → Option (D × D × D)
  | .tup [a, b, c] => some (a, b, c)
  | _ => none
def dT4 : D → Option (D × D × D × D)
  | .tup [a, b, c, d] => some (a, b, c, d)
  | _ => none
def dT5 : D → Option (D × D × D × D × D)
  | .tup [a, b, c, d, e] => some (a, b, c, d, e)
  | _ => none
/-- the items of a list or a tuple -/
def dSeq : D → Option (List D)
  | .lst ds => some ds
  | .scr ds => some ds
  | .tup ds => some ds
  | _ => none
def dIx (d : D) (i : Int) : Option D := match d with
  | .lst ds => atI ds i
  | .scr ds => atI ds i
  | .tup ds => atI ds i
  | _ => none
/-- the part of a tuple -/
def dCutT (d : D) (l h : Option Int) : Option D := match d with
  | .tup ds => some (.tup (cutL ds l h))
  | _ => none
section
variable {p : Bool} {f : Env → O RV} {Γ Γ' : Ctx} {d d' : D}
theorem dT2_eq {z} (h : dT2 d = some z) : d = eT2 eA eA z := by
  unfold dT2 at h; split at h <;> cases h; rfl
theorem dT3_eq {z} (h : dT3 d = some z) : d = eT3 eA eA eA z := by
  unfold dT3 at h; split at h <;> cases h; rfl
theorem dT4_eq {z} (h : dT4 d = some z) : d = eT4 eA eA eA eA z := by
  unfold dT4 at h; split at h <;> cases h; rfl
theorem dT5_eq {z} (h : dT5 d = some z) : d = eT5 eA eA eA eA eA z := by
  unfold dT5 at h; split at h <;> cases h; rfl
theorem ev_deq (e : d = d') (h : Ev p f Γ (.own (.fz d)) Γ') : Ev p f Γ (.own (.fz d')) Γ' := e ▸ h
theorem mapA (ds : List D) : ds.map eA = ds := by
  have : (eA : D → D) = id := rfl
  rw [this, List.map_id]
theorem si_any {ds : List D} (h : dSeq d = some ds) : (OD.fz (eA d)).sitems = some (ds.map eA) := by
  rw [mapA]
  cases d <;> first | (cases h; done) | exact h
theorem g_ixA {i : Int} {x : D} (h : dIx d i = some x) : gIx (.own (.fz (eA d)), .own (.fz (.int i))) = some (.own (oF eA x)) := by
  have e : dIx d i = some x := h
  cases d <;> first | (cases h; done) | (show (atI _ i).map _ = _; unfold dIx at e; dsimp only at e; rw [e]; rfl)
def strO (i : Int) : Option Str := if i.natAbs.log2 < 1920 then some (toString i) else none
theorem g_str {i : Int} {t : Str} (h : strO i = some t) : gStr [.own (.fz (.int i))] = some (.own (.fz (.str t))) := by
  unfold strO at h
  split at h
  · rename_i hl
    cases h
    show (if i.natAbs.log2 < 1920 then some (RV.own (.fz (.str (toString i)))) else none) = _
    rw [if_pos hl]
  · cases h
end
section
variable {get : Env → Option OD} {put : Env → OD → Env} {fk : Env → O RV} {Γ Γ' : Ctx} {o o' : OD} {os os' : List OD} {k : Int} {j : Nat}
theorem pls_tup (h : PlS get put Γ (.tup os) (.tup os') Γ') (hk : Ev false fk Γ (.own (.fz (.int k))) Γ) (hj : ixN os.length k = some j) (hx : os[j]? = some o) (ho : os.set j o' = os') (hn : notUn o = true) : PlS (xGet get fk) (xPut get put fk) Γ o o' Γ' := fun env q => by
  obtain ⟨h1, h2⟩ := h env q
  have ek : fk env = .ok (.own (.fz (.int k))) := by
    rcases hk env q with ⟨z, _⟩ | ⟨z, _⟩
    · exact z
    · cases z
  refine ⟨?_, ?_⟩
  · unfold xGet
    rw [h1]
    dsimp only
    rw [ek]
    dsimp only [RV.od]
    rw [hj]
    dsimp only
    rw [hx]
    cases o <;> first | rfl | cases hn
  · unfold xPut
    rw [h1]
    dsimp only
    rw [ek]
    dsimp only [RV.od]
    rw [hj]
    dsimp only
    rw [ho]
    exact h2
end
end Tl
/-! sums over a tuple of ints -/
namespace Tl
open PySem PySem.Spec L2
section
variable {prog : Program} {w : World} {A : Around} {E : Value → Shared → Prop} {s : Shared} {l : Addr} {its : List Value} {ns : List Int} {Q : Value → Shared → Prop}
theorem sum_intTupG {xs : Array (Int × Tok)} (hh : A.handled = none) (hl : s.heap.IsTuple l (intItems xs))
    (h : ∀ h' tk t', (∀ b o, s.heap.get? b = some o → h'.get? b = some o) → Q (.int (preSum (numAt xs) xs.size) t') { s with heap := h', toks := tk }) :
    wpAny (model prog w) A (call (.builtin "sum") [.ref l]) Q E s := by
  have hlt : l < s.heap.objs.size := by obtain ⟨_, e, _⟩ := hl; exact Heap.lt_size e
  refine call_sum_walkG (wpAny_pyIter_tuple hl ?_)
  refine ⟨_, _, _, _, _, _, numAt xs, rfl, Walks.tuple (A := A.in1) hh _ l (Nat.ne_of_lt hlt) (intItems xs), ⟨⟨_, Heap.get?_push_size _ rfl, rfl, rfl⟩, hl.push _⟩, fun b hb => ?_, (fun _ _ => intItems_at), fun h' tk t' hk => ?_⟩
  · show b < (s.heap.push _).objs.size
    rw [Heap.size_push]
    rcases List.mem_cons.mp hb with rfl | hb
    · exact Nat.lt_succ_self _
    · rcases List.mem_cons.mp hb with rfl | hb
      · exact Nat.lt_succ_of_lt hlt
      · cases hb
  · have := h h' tk t' fun b o e => hk b o (fun m => Nat.lt_irrefl _ ((List.mem_singleton.mp m) ▸ Heap.lt_size e)) (Heap.get?_push_of_some _ e)
    simpa [intItems] using this
theorem sum_rawT (hh : A.handled = none) (hl : s.heap.IsTuple l its.toArray) (hi : PyProof.Rows.IntsAre its ns)
    (h : ∀ h' tk t', (∀ b o, s.heap.get? b = some o → h'.get? b = some o) → Q (.int ns.sum t') { s with heap := h', toks := tk }) : wpAny (model prog w) A (call (.builtin "sum") [.ref l]) Q E s := by
  obtain ⟨xs, e⟩ := hi.allInts.items
  have hn : numsOf (intItems xs).toList = ns := by rw [← e]; exact hi.numsOf
  rw [nums_intItems] at hn
  rw [e] at hl
  refine sum_intTupG hh hl fun h' tk t' hk => ?_
  have := h h' tk t' hk
  rw [preSum_eq, List.take_of_length_le (by simp), hn]; exact this
end
section
variable {X : Cx}
def rSumT (K : PySem.W.Frag) : List V → Hp → VK → Prop := fun vs H Q => ∃ (a : Addr) (ns : List Int), vs = [V.ref a] ∧ SqT K H a (ns.map V.int) ∧ Q (.int ns.sum) H
theorem cr_sumT (hc : X.calm = true) : CallR X (.builtin "sum") (rSumT X.K) := by
  intro pins s σ H vs us Q I r h
  obtain ⟨a, ns, rfl, hs, q⟩ := h
  obtain ⟨its, rv, hl, _⟩ := I.tuple hs
  rw [Vals.ref1 r]
  exact sum_rawT (I.ok.hd hc) hl rv.ints fun h' tk t' hk => ⟨.int _, H, I.kept hk, ⟨_, rfl⟩, q⟩
def gSumA (rs : List RV) : Option RV := match rs with
  | [r] => match r.od.sitems with
    | some ds => match dInts ds with
      | some ns => some (.own (.fz (.int ns.sum)))
      | none => none
    | none => none
  | _ => none
theorem b_sumA (hc : X.calm = true) : CallOk X (.builtin "sum") gSumA := by
  refine ⟨_, callR_or2 (cr_sum hc) (cr_sumT hc), fun B H G vs rs Q s h n q => ?_⟩
  dsimp only [gSumA] at q
  split at q
  · rename_i r
    obtain ⟨v, rfl, h2⟩ := lsR_one h
    split at q
    · rename_i ds e1
      obtain ⟨p, vs, rfl, a1, a2⟩ := rv_sitems s h2 e1
      split at q
      · rename_i ns e2
        rw [a2.dInts e2] at a1
        rcases a1 with a1 | a1
        · exact .inl ⟨p, ns, rfl, a1, VPost.fz q s .int⟩
        · exact .inr ⟨p, ns, rfl, a1, VPost.fz q s .int⟩
      · exact q.elim
    · exact q.elim
  · exact q.elim
theorem g_sumA {r : RV} {xs : List Int} (h : r.od.sitems = some (xs.map D.int)) : gSumA [r] = some (.own (.fz (.int xs.sum))) := by
  simp only [gSumA, h, dInts_id]
end
/-! pop of a list of owned things -/
section
variable {α : Type} {o : α → OD} {xs : List α}
theorem fzs_nz (hn : ∀ x, isFz (o x) = false) : ∀ {xs : List α}, xs ≠ [] → fzs (xs.map o) = none
  | [], h => (h rfl).elim
  | x :: xs, _ => by
    have := hn x
    show fzs (o x :: xs.map o) = none
    cases q : o x with
    | fz d => rw [q] at this; cases this
    | _ => rfl
theorem g_popO {z : α × List α} (hn : ∀ x, isFz (o x) = false) (h : popO xs = some z) : mPop (xs.map o) [] = some (o z.1, z.2.map o) := by
  unfold popO at h
  cases q : xs.getLast? with
  | none => rw [q] at h; cases h
  | some x =>
    rw [q] at h; cases h
    have hne : xs ≠ [] := by rintro rfl; cases q
    simp only [mPop, fzs_nz hn hne]
    have : (xs.map o)[(xs.map o).length - 1]? = some (o x) := by
      rw [← List.getLast?_eq_getElem?, List.getLast?_map, q]; rfl
    rw [this]
    simp only [← List.map_dropLast]
end
/-! a thing or None, owned, handed to a reader -/
section
variable {γ : Type} {o : γ → OD} {q : Option γ} {Γ : Ctx}
def rvOp (o : γ → OD) : Option γ → RV
  | none => .own (.fz .non)
  | some x => .view (o x)
theorem rvOp_od : (rvOp o q).od = oOp o q := by cases q <;> rfl
theorem ev_varQo (i : Nat) (h : Γ[i]? = some (some (oOp o q))) (hp : ∀ v, plainO (o v) = true) : Ev false (eVar i) Γ (rvOp o q) Γ := by
  cases q with
  | none => exact ev_varF i h
  | some v => exact ev_varQ i h rfl (hp v)
theorem lkn {ars : List AR} (h : (hasIo ars || hasTmp ars) = false) : (looks ars && (hasIo ars || hasTmp ars)) = false := by rw [h]; simp
end
theorem frzO_Op {α : Type} {o : α → OD} {e : α → D} (h : FzO o e) {x : Option α} (hp : ∀ v, (match o v with | .ins _ _ => false | .fzi _ _ => false | _ => true) = true) : frzO (oOp o x) = some (.fz (eOp e x)) := by
  cases x with
  | none => show (frz (.fz .non)).map OD.fz = _; rw [frz_fz]; rfl
  | some v => exact frzO_O h (hp v)
end Tl
/-! in a tuple of plain data of any depth -/
namespace Tl
open PySem PySem.Spec L2
def rInDp (K : PySem.W.Frag) (neg : Bool) : R2 := fun x y H Q => ∃ d ds, Dp K H x d ∧ Dp K H y (.tuple ds) ∧ SeqAt.shaped d = true ∧ SeqAt.shaped (.list ds) = true ∧ Q (.bl (if neg then !ds.any fun z => PyData.eqv z d else ds.any fun z => PyData.eqv z d)) H
def gInDp (p : RV × RV) : Option RV := match p.1.od.plain, p.2.od.titems with
  | some d, some ds => if dOk d = true ∧ dOk (.lst ds) = true then some (.b (ds.any fun z => dEq z d)) else none
  | _, _ => none
def gNinDp (p : RV × RV) : Option RV := match p.1.od.plain, p.2.od.titems with
  | some d, some ds => if dOk d = true ∧ dOk (.lst ds) = true then some (.b (!ds.any fun z => dEq z d)) else none
  | _, _ => none
section
variable {X : Cx}
theorem op_inDp (hu : X.A.units + 65 < cLine) : OpR X (compareOp .In) (rInDp X.K false) := by
  intro pins s σ H x y v u Q I rx ry h
  obtain ⟨d, ds, hd, he, sd, se, q⟩ := h
  obtain ⟨as, r1⟩ := Dp.reads I d x v hd rx
  obtain ⟨bs, r2⟩ := Dp.reads I (.tuple ds) y u he ry
  exact SeqAt.in_tuple_reads r2 r1 (SeqAt.canLay_of_shaped se) (SeqAt.canLay_of_shaped sd) (PyProof.Rows.room_in_shaped sd hu) ⟨.bl _, H, I, rfl, q⟩
theorem op_ninDp (hu : X.A.units + 65 < cLine) : OpR X (compareOp .NotIn) (rInDp X.K true) := by
  intro pins s σ H x y v u Q I rx ry h
  obtain ⟨d, ds, hd, he, sd, se, q⟩ := h
  obtain ⟨as, r1⟩ := Dp.reads I d x v hd rx
  obtain ⟨bs, r2⟩ := Dp.reads I (.tuple ds) y u he ry
  exact SeqAt.notIn_tuple_reads r2 r1 (SeqAt.canLay_of_shaped se) (SeqAt.canLay_of_shaped sd) (PyProof.Rows.room_in_shaped sd hu) ⟨.bl _, H, I, rfl, q⟩
theorem rv_tdp {K : PySem.W.Frag} {mg : Str → Option Value} {B H : Hp} {G : List Addr} {v : V} {r : RV} {ds : List D} (s : Same B H) (h : rvR K mg B H G v r) (e : r.od.titems = some ds) (l : (pd (.lst ds)).canLay0 = true) : Dp K H v (.tuple (pdL ds)) := by
  obtain ⟨p, vs, rfl, h1, h2⟩ := rv_titems s h e
  exact .tup h1 (RepL.dp s h2 l)
theorem c_inDp (hu : X.A.units + 65 < cLine) : CmpOk X .In gInDp := by
  refine ⟨_, op_inDp hu, ?_⟩
  rintro B H G ⟨x, y⟩ ⟨r1, r2⟩ Q s ⟨G1, G2, _, h1, h2⟩ n q
  dsimp only [gInDp] at q h1 h2 ⊢
  split at q
  · rename_i d ds e1 e2
    split at q
    · rename_i hk
      refine ⟨pd d, pdL ds, rv_dp s h1 e1 (canLay d hk.1), rv_tdp s h2 e2 (canLay _ hk.2), hk.1, hk.2, ?_⟩
      rw [any_pd]
      exact VPost.fz q s .bl
    · exact q.elim
  · exact q.elim
theorem c_ninDp (hu : X.A.units + 65 < cLine) : CmpOk X .NotIn gNinDp := by
  refine ⟨_, op_ninDp hu, ?_⟩
  rintro B H G ⟨x, y⟩ ⟨r1, r2⟩ Q s ⟨G1, G2, _, h1, h2⟩ n q
  dsimp only [gNinDp] at q h1 h2 ⊢
  split at q
  · rename_i d ds e1 e2
    split at q
    · rename_i hk
      refine ⟨pd d, pdL ds, rv_dp s h1 e1 (canLay d hk.1), rv_tdp s h2 e2 (canLay _ hk.2), hk.1, hk.2, ?_⟩
      rw [any_pd]
      exact VPost.fz q s .bl
    · exact q.elim
  · exact q.elim
end
section
variable {α : Type} [DecidableEq α] {n : Nat} {e : α → D} {r u : RV} {xs : List α}
theorem g_inDp (h : EqE n e) (hn : n ≤ 63) {a : α} (h1 : r.od.plain = some (e a)) (h2 : u.od.titems = some (xs.map e)) : gInDp (r, u) = some (.own (.fz (.bl (decide (a ∈ xs))))) := by
  simp only [gInDp, h1, h2]
  rw [if_pos ⟨(h.sh a).ok (by omega), ((q_L h).sh xs).ok (by omega)⟩, any_map h]
theorem g_ninDp (h : EqE n e) (hn : n ≤ 63) {a : α} (h1 : r.od.plain = some (e a)) (h2 : u.od.titems = some (xs.map e)) : gNinDp (r, u) = some (.own (.fz (.bl (decide (a ∉ xs))))) := by
  simp only [gNinDp, h1, h2]
  rw [if_pos ⟨(h.sh a).ok (by omega), ((q_L h).sh xs).ok (by omega)⟩, any_map h]
  show some (RV.b (!decide (a ∈ xs))) = _
  simp
theorem g_inDpX (h : EqE n e) (hn : n ≤ 63) {a : α} {i : Decidable (a ∈ xs)} (h1 : r.od.plain = some (e a)) (h2 : u.od.titems = some (xs.map e)) : gInDp (r, u) = some (.own (.fz (.bl (@decide (a ∈ xs) i)))) := by
  rw [g_inDp h hn h1 h2]
  congr
theorem g_ninDpX (h : EqE n e) (hn : n ≤ 63) {a : α} {i : Decidable (a ∉ xs)} (h1 : r.od.plain = some (e a)) (h2 : u.od.titems = some (xs.map e)) : gNinDp (r, u) = some (.own (.fz (.bl (@decide (a ∉ xs) i)))) := by
  rw [g_ninDp h hn h1 h2]
  congr
end
/-! a list of owned rows, lent -/
theorem ev_lendNO {α β : Type} {o : α → OD} {e : α → D} {xs : List α} {Γ Γ' : Ctx} (i : Nat) {nf : β → Bool} {f : Env → O β} {z : β} (hz : FzO o e) (h : Γ[i]? = some (some (.lst (xs.map o)))) (k : Ev false f (Γ.set i (some (.fz (.lst (xs.map e))))) z Γ') (hn : nf z = true) : Ev false (lendE i nf f) Γ z Γ := fun env q => by
  have g := q.get h
  rcases k _ (q.set (i := i) (o := .fz (.lst (xs.map e)))) with ⟨k1, k2⟩ | ⟨k0, _⟩
  · exact .inl ⟨by simp only [lendE, g, frzL_O hz, k1, hn, if_true], q⟩
  · cases k0
/-! name = [..] with a lent list -/
section
variable {X : Cx} {W : WX} {io : List Nat} {elt tg iter : Expr} {ifs : List Expr} {pos : Pos}
theorem s_setLcL (i j : Nat) {y : Str} {py spos : Pos} {scope : Scope} {own : List (Str × Nat)} {f : Env → O (List D)} {g : D → Env → Option Env} {tt : Env → O Bool} {fe : Env → O RV} {todo : List Nat} (hc : X.calm = true) (hN : X.N.Nodup) (hi : PIr X W tg iter f) (ok : blkC X.N X.env.scope scope own = true) (htv : (todo.all fun i => (own.map (·.2)).contains i) = true)
    (hg : ∀ i, PCt (Blk X scope i) todo tg g) (ht : ∀ i, PTsr (Blk X scope i) W0 ifs tt) (he : ∀ i, PEr (Blk X scope i) W0 elt fe)
    (hsw : swapsWith (.ListComp elt [⟨tg, iter, ifs, 0⟩] scope pos) (some (.Name y py)) spos.line X.env = pure true)
    (hy : X.N[i]? = some y := by rfl) (hyl : X.env.scope.names.lookup y = some .local := by rfl) (hio : io.contains i = false := by rfl) (hs : ∀ x, foldedSetIterable iter X.env x = pure x := by intro _; rfl) :
    PSr X W io (.Assign [.Name y py] (.ListComp elt [⟨tg, iter, ifs, 0⟩] scope pos) spos) (sAsg (lendE j RV.nf (eLc f g tt fe (own.map (·.2)))) (gSet i)) := by
  obtain ⟨wi, hi, ki⟩ := hi
  obtain ⟨tb, tt', te, h1, h2, h3, k1, k2, k3⟩ := lc_parts hg ht he
  have k0 : EOk X W (rvR X.K X.mg) (tLc wi tb tt' te (own.map (·.2))) (eLc f g tt fe (own.map (·.2))) := EOk.lc (fun i m => by have := List.all_eq_true.mp htv i m; simpa using this) ki k1 k2 k3
  have k : EOk X W (rvR X.K X.mg) (tLc wi tb tt' te (own.map (·.2))) (lendE j RV.nf (eLc f g tt fe (own.map (·.2)))) := EOk.lend j (fun B H G x r L r1 n hk => by
    cases r with
    | view o => cases n
    | own o => exact Own.less hk (show Own X.K X.mg B H G x o from r1) n) k0
  refine ⟨_, ps_setLc hc hN hy hyl hsw hi (blkOk_by ok) (fun s H C cl fp => h1 (s, H, C, cl, fp)) (fun s H C cl fp => h2 (s, H, C, cl, fp)) (fun s H C cl fp => h3 (s, H, C, cl, fp)) hs, fun B H F σ env D S q => k B H F σ env _ S ?_⟩
  dsimp only [sAsg, sE] at q
  generalize lendE j RV.nf (eLc f g tt fe (own.map (·.2))) env = z at q
  cases z with
  | bad => exact q
  | exc c e => exact fun B' H' F' S' f' => q B' H' F' σ S' f' Agree.refl
  | ok r =>
    cases r with
    | view o => exact q.elim
    | own o =>
      intro v B' H' G r s n f
      dsimp only [kAsg, gSet] at q
      split at q
      · rename_i e3
        split at e3
        · rename_i hl
          cases e3
          obtain ⟨F2, h1, h2, h3⟩ := store_ok (io := io) (S.pure s f).sl s r (nodup_new (fun a m => (S.sl.there a m).2) S.nd n f) hl hio
          exact q B' H' F2 _ h1 (f.wide0.trans h2) h3
        · cases e3
      · exact q.elim
  | eff r e =>
    cases r with
    | view o => exact q.elim
    | own o =>
      intro v B' H' G F' r l s n f
      dsimp only [kAsg, gSet] at q
      split at q
      · rename_i e3
        split at e3
        · rename_i hl
          cases e3
          obtain ⟨F2, h1, h2, h3⟩ := store_ok (io := io) l s r n hl hio
          exact q B' H' F2 _ h1 (f.trans h2) h3
        · cases e3
      · exact q.elim
end
end Tl
/-! a statement with a list lent: the list is plain while it runs, and owned again behind it -/
namespace Tl
open PySem PySem.Spec L2
def keepN (o : OD) : OD := if nfo o = true then o else .un
def mend (i : Nat) (os : List OD) (env : Env) : Env := (env.map keepN).set i (.lst os)
def sLend (i : Nat) (f : Env → SO) : Env → SO := fun env => match env[i]? with
  | some (.lst os) => match frzL os with
    | some ds => match f (env.set i (.fz (.lst ds))) with
      | .nx e => .nx (mend i os e)
      | .rt o e => if nfo o = true then .rt o (mend i os e) else .bad
      | _ => .bad
    | none => .bad
  | some (.fz _) => f env
  | _ => .bad
section
variable {K : PySem.W.Frag} {mg : Str → Option Value} {B H : Hp}
theorem Slots.lessN {L : List Addr} {F : List Addr} {σ : St} {env : Env} (x : Slots K mg B H F σ env) (k : ∀ a ∈ L, ∀ u, B a = some u → noTup u = true) : ∃ F2, Slots K mg (less B L) H F2 σ (env.map keepN) ∧ F2.Sublist F := by
  induction x with
  | nil => exact ⟨[], .nil, List.Sublist.refl _⟩
  | @un F x σ e h ih =>
    obtain ⟨F2, h2, s2⟩ := ih
    exact ⟨F2, .un h2, s2⟩
  | @cons F G v o σ e r h ih =>
    obtain ⟨F2, h2, s2⟩ := ih
    by_cases c : nfo o = true
    · exact ⟨F ++ F2, by
        show Slots K mg (less B L) H (F ++ F2) (some v :: σ) (keepN o :: e.map keepN)
        rw [show keepN o = o from if_pos c]
        exact .cons (Own.less k r c) h2, (List.Sublist.refl F).append s2⟩
    · exact ⟨F2, by
        show Slots K mg (less B L) H F2 (some v :: σ) (keepN o :: e.map keepN)
        rw [show keepN o = .un from if_neg c]
        exact .un h2, s2.trans (List.sublist_append_right F G)⟩
/-- the slot is owned again -/
theorem mended {F Fi Fr F' F'' G : List Addr} {σ σ' : St} {env' : Env} {i : Nat} {v : V} {os : List OD} {B' H' : Hp} (sub : Same B H) (h1 : σ[i]? = some (some v)) (h2 : Own K mg B H Fi v (.lst os)) (h4 : F.Perm (Fi ++ Fr)) (nd : F.Nodup) (c2 : F'.Perm Fr)
    (sl : Slots K mg B' H' F'' σ' env') (s' : Same B' H') (n' : (G ++ F'').Nodup) (fr : Frm (more B H Fi) H F' B' H' (G ++ F'')) (ag : σ'[i]? = σ[i]?) :
    (∀ a ∈ Fi, ∀ u, B' a = some u → noTup u = true) ∧ ∃ F3, Slots K mg (less B' Fi) H' F3 σ' (mend i os env') ∧ Same (less B' Fi) H' ∧ (G ++ F3).Nodup ∧ Frm B H F (less B' Fi) H' (G ++ F3) := by
  obtain ⟨s1, s2, _⟩ := frm_more (K := K) (mg := mg) (G := Fi) sub h2.there
  have ndp := List.nodup_append.mp (h4.nodup_iff.mp nd)
  have inL : ∀ a ∈ Fi, ∀ u, B' a = some u → noTup u = true := fun a m u z => by
    obtain ⟨w, e5, e6⟩ := Own.kind h2 a m
    rw [fr.sB a w (by rw [more_in m]; exact e5)] at z
    cases z; exact e6
  obtain ⟨F2, k1, k2⟩ := sl.lessN inL
  have hil : i < σ'.length := by
    have : σ'[i]? = some (some v) := ag.trans h1
    exact (List.getElem?_eq_some_iff.mp this).1
  have hin : i < (env'.map keepN).length := by rw [← k1.len]; exact hil
  obtain ⟨F2', k3, k4⟩ := k1.drop1 i (some v)
  have es : σ'.set i (some v) = σ' := by
    refine List.ext_getElem? fun j => ?_
    rw [List.getElem?_set]
    split
    · rename_i e; subst e; exact (ag.trans h1).symm
    · rfl
  rw [es] at k3
  have notF' : ∀ a ∈ Fi, a ∉ F' := fun a m z => ndp.2.2 a m a (c2.mem_iff.mp z) rfl
  have own : Own K mg (less B' Fi) H' Fi v (.lst os) := Own.mono (fun a u z => by
      have m : a ∉ Fi := fun m => by rw [(h2.there a m).1] at z; cases z
      rw [less_out m]
      exact fr.sB a u (s1 a u z)) h2 fun a m => ⟨fun u z => fr.keep a u z (notF' a m), less_in m⟩
  obtain ⟨F3, q1, q2⟩ := k3.put (by rw [List.getElem?_set_self hin]) (ag.trans h1) own
  rw [List.set_set] at q1
  have inG : ∀ a, a ∈ G ++ F'' → a ∉ Fi := fun a m mi => by
    rcases fr.fr a m with z | z
    · exact notF' a mi z
    · obtain ⟨_, u, e⟩ := h2.there a mi
      rw [z] at e; cases e
  have subF : ∀ a, a ∈ F2' → a ∈ F'' := fun a m => k2.subset (k4.subset m)
  have nG := List.nodup_append.mp n'
  have nF2 : F2'.Nodup := (k4.trans k2).nodup nG.2.1
  refine ⟨inL, F3, q1, fun a u z => ?_, ?_, ⟨fun a u z => ?_, fun a u z m => ?_, fun a u z m b => ?_, fun a m => ?_⟩⟩
  · by_cases m : a ∈ Fi
    · rw [less_in m] at z; cases z
    · rw [less_out m] at z; exact s' a u z
  · rw [List.nodup_append]
    refine ⟨nG.1, q2.nodup_iff.mpr (List.nodup_append.mpr ⟨ndp.1, nF2, fun a m b z e => ?_⟩), fun a m b z e => ?_⟩
    · subst e
      exact inG a (List.mem_append_right _ (subF a z)) m
    · subst e
      rcases List.mem_append.mp (q2.mem_iff.mp z) with z | z
      · exact inG a (List.mem_append_left _ m) z
      · exact nG.2.2 a m a (subF a z) rfl
  · have m : a ∉ Fi := fun m => by rw [(h2.there a m).1] at z; cases z
    rw [less_out m]
    exact fr.sB a u (s1 a u z)
  · exact fr.keep a u z fun mm => m (h4.mem_iff.mpr (List.mem_append_right _ (c2.mem_iff.mp mm)))
  · have ml : a ∉ Fi := fun mm => m (h4.mem_iff.mpr (List.mem_append_left _ mm))
    rw [less_out ml]
    refine fr.forg a u z (fun mm => m (h4.mem_iff.mpr (List.mem_append_right _ (c2.mem_iff.mp mm)))) ?_
    rw [more_out ml]; exact b
  · rcases List.mem_append.mp m with m | m
    · rcases fr.fr a (List.mem_append_left _ m) with z | z
      · exact .inl (h4.mem_iff.mpr (List.mem_append_right _ (c2.mem_iff.mp z)))
      · exact .inr z
    · rcases List.mem_append.mp (q2.mem_iff.mp m) with m | m
      · exact .inl (h4.mem_iff.mpr (List.mem_append_left _ m))
      · rcases fr.fr a (List.mem_append_right _ (subF a m)) with z | z
        · exact .inl (h4.mem_iff.mpr (List.mem_append_right _ (c2.mem_iff.mp z)))
        · exact .inr z
end
section
variable {X : Cx} {W : WX} {io : List Nat} {st : Stmt}
theorem s_lend (i : Nat) {f : Env → SO} (h : PSr X W (i :: io) st f) : PSr X W io st (sLend i f) := by
  obtain ⟨t, h, k⟩ := h
  refine ⟨t, h, fun B H F σ env D S q => ?_⟩
  have up : ∀ {σ' : St}, Agree (i :: io) σ σ' → Agree io σ σ' := fun g j m => g j (List.mem_cons_of_mem _ m)
  unfold sLend at q
  split at q
  · rename_i os e
    split at q
    · rename_i ds e2
      obtain ⟨v, Fi, Fr, h1, h2, h3, h4⟩ := S.sl.take e (fun z => by cases z)
      obtain ⟨s1, s2, f0⟩ := frm_more (K := X.K) (mg := X.mg) (G := Fi) S.sub h2.there
      have ef : frz (.lst os) = some (.lst ds) := by rw [frz_lst, e2]; rfl
      have rp : Rep X.K (more B H Fi) v (.lst ds) := h2.frz s1 ef fun a m u z => by rw [more_in m]; exact z
      have nd := List.nodup_append.mp (h4.nodup_iff.mp S.nd)
      have sl := f0.slots h3 fun a m z => nd.2.2 a z a m rfl
      obtain ⟨F', c1, c2⟩ := sl.put (by rw [List.getElem?_set_self]; exact (List.getElem?_eq_some_iff.mp e).1) h1 (.fz rp)
      rw [List.set_set] at c1
      have c2 : F'.Perm Fr := c2
      refine k (more B H Fi) H F' σ _ D ⟨s2, c1, c2.nodup_iff.mpr nd.2.1⟩ ?_
      generalize f (env.set i (.fz (.lst ds))) = z at q
      cases z with
      | nx e' =>
        intro B' H' F'' σ' S' fr g
        obtain ⟨_, F3, q1, q2, q3, q4⟩ := mended (G := []) S.sub h1 h2 h4 S.nd c2 S'.sl S'.sub S'.nd fr (g i List.mem_cons_self)
        exact q (less B' Fi) H' F3 σ' ⟨q2, q1, q3⟩ q4 (up g)
      | rt o e' =>
        dsimp only at q
        split at q
        · rename_i hn
          intro u B' H' G F'' σ' r S' s' n' fr g
          obtain ⟨inL, F3, q1, q2, q3, q4⟩ := mended (G := G) S.sub h1 h2 h4 S.nd c2 S' s' n' fr (g i List.mem_cons_self)
          exact q u (less B' Fi) H' G F3 σ' (Own.less inL r hn) q1 q2 q3 q4 (up g)
        · exact q.elim
      | bk _ => exact q.elim
      | ct _ => exact q.elim
      | exc _ _ => exact q.elim
      | bad => exact q.elim
    · exact q.elim
  · refine k B H F σ env D S ?_
    generalize f env = z at q
    cases z with
    | bad => exact q
    | rt o e' => exact fun u B' H' G F'' σ' a b c d fr g => q u B' H' G F'' σ' a b c d fr (up g)
    | nx e' => exact fun B' H' F'' σ' a fr g => q B' H' F'' σ' a fr (up g)
    | bk e' => exact fun B' H' F'' σ' a fr g => q B' H' F'' σ' a fr (up g)
    | ct e' => exact fun B' H' F'' σ' a fr g => q B' H' F'' σ' a fr (up g)
    | exc c e' => exact fun B' H' F'' σ' a fr g => q B' H' F'' σ' a fr (up g)
  · exact q.elim
end
end Tl
namespace Tl
open PySem PySem.Spec L2
/-- what is known of the slots when the list is owned again -/
inductive MendC : Ctx → Ctx → Prop where
  | nil : MendC [] []
  | drop {x Γ Γ'} : MendC Γ Γ' → MendC (x :: Γ) (none :: Γ')
  | keep {o Γ Γ'} : nfo o = true → MendC Γ Γ' → MendC (some o :: Γ) (some o :: Γ')
theorem MendC.fits {Γ Γ' : Ctx} (h : MendC Γ Γ') : ∀ {env : Env}, Fits Γ env → Fits Γ' (env.map keepN) := by
  induction h with
  | nil => intro env w; cases w; exact .nil
  | @drop x Γ Γ' _ ih =>
    intro env w
    cases w with
    | un w => exact .un (ih w)
    | cons w => exact .un (ih w)
  | @keep o Γ Γ' hn _ ih =>
    intro env w
    cases w with
    | cons w =>
      show Fits _ (keepN o :: _)
      rw [show keepN o = o from if_pos hn]
      exact .cons (ih w)
theorem none_fits : ∀ {Γ : Ctx} {env env' : Env}, Γ.all Option.isNone = true → Fits Γ env → env'.length = env.length → Fits Γ env'
  | _, _, env', _, .nil, hl => by
    cases env' with
    | nil => exact .nil
    | cons _ _ => simp at hl
  | _, _, env', h, .un w, hl => by
    cases env' with
    | nil => simp at hl
    | cons a t => exact .un (none_fits (by simpa using h) w (by simpa using hl))
  | _, _, _, h, .cons w, _ => by simp at h
theorem mend_len {i : Nat} {os : List OD} {env : Env} : (mend i os env).length = env.length := by simp [mend]
theorem seq_nx' {f : Env → SO} {env : Env} : sSeq f sNx env = f env := by
  unfold sSeq sNx
  cases f env <;> rfl
section
variable {α β σ T : Type} {eR : T → OD} {GF : T → Ctx}
def PQ (eR : T → OD) (GF : T → Ctx) (G : σ → Ctx) : σ ⊕ T → SO → Prop
  | .inl s, so => ∃ env, so = .nx env ∧ Fits (G s) env
  | .inr x, so => ∃ env, so = .rt (eR x) env ∧ Fits (GF x) env
theorem sk_lendX {f : Env → O (List D)} {tg : OD → Env → Option Env} {body rest : Env → SO} {p : Bool} {Γ Γ1 : Ctx} {eX : α → D} {ys : List α} {G G1 G2 : σ → Ctx} {Gb : α → σ → Ctx} {tb : α → σ → Option (LS σ T)} {s0 : σ} {k : σ → Option T} {o : β → OD} {e : β → D} {xs : List β} (i : Nat) (hz : FzO o e) (hi : Γ[i]? = some (some (.lst (xs.map o)))) (msk : List Bool)
    (h : Ev p f (Γ.set i (some (.fz (.lst (xs.map e))))) (ys.map eX) Γ1) (h0 : keep msk Γ1 = G s0) (ht : ∀ x s, Tg tg (.fz (eX x)) (G s) (Gb x s)) (hb : ∀ x s, Sk (PX G (PF eR GF)) body (Gb x s) (tb x s))
    (hn : ∀ x, nfo (eR x) = true) (ha : ∀ x, (GF x).all Option.isNone = true) (hm : ∀ s, MendC (G s) (G1 s)) (h2 : ∀ s, (G1 s).set i (some (.lst (xs.map o))) = G2 s) (hk : ∀ s, Sk (PF eR GF) rest (G2 s) (k s)) :
    Sk (PF eR GF) (sSeq (sLend i (sFor f tg body)) rest) Γ ((forX ys s0 tb).bind fun y => y.elim k fun r => some r) := by
  have base : Sk (PQ eR GF G) (sSeq (sFor f tg body) sNx) (Γ.set i (some (.fz (.lst (xs.map e))))) ((forX ys s0 tb).bind fun y => y.elim (fun s => some (Sum.inl s)) fun r => some (Sum.inr r)) :=
    sk_forX (P := PQ eR GF G) (PR := PF eR GF) (inj := Sum.inr) msk h h0 ht hb (fun r so hp hs => by
      obtain ⟨env, h1, h2⟩ := hp
      rcases h1 with h1 | ⟨h1, _⟩
      · exact ⟨env, h1, h2⟩
      · subst h1
        rcases hs with ⟨_, _, z⟩ | ⟨_, _, z⟩ <;> cases z) fun s x hx env w => by
      cases hx
      exact ⟨env, rfl, w⟩
  intro x hx env w
  have g := w.get hi
  have ez : frzL (xs.map o) = some (xs.map e) := frzL_O hz xs
  have w2 := w.set (i := i) (o := .fz (.lst (xs.map e)))
  cases ey : forX ys s0 tb with
  | none => rw [ey] at hx; cases hx
  | some y =>
    rw [ey, Option.bind_some] at hx
    cases y with
    | fin s =>
      obtain ⟨e', q1, q2⟩ := base (Sum.inl s) (by rw [ey]; rfl) _ w2
      rw [seq_nx'] at q1
      have es : sLend i (sFor f tg body) env = .nx (mend i (xs.map o) e') := by
        unfold sLend
        simp only [g, ez, q1]
      have f2 : Fits (G2 s) (mend i (xs.map o) e') := h2 s ▸ ((hm s).fits q2).set
      have := hk s x hx _ f2
      show PF eR GF x (sSeq (sLend i (sFor f tg body)) rest env)
      unfold sSeq
      rw [es]
      exact this
    | ret r =>
      have hr : r = x := by cases hx; rfl
      subst hr
      obtain ⟨e', q1, q2⟩ := base (Sum.inr r) (by rw [ey]; rfl) _ w2
      rw [seq_nx'] at q1
      have es : sLend i (sFor f tg body) env = .rt (eR r) (mend i (xs.map o) e') := by
        unfold sLend
        simp only [g, ez, q1, hn r, if_true]
      show PF eR GF r (sSeq (sLend i (sFor f tg body)) rest env)
      unfold sSeq
      rw [es]
      exact ⟨_, .inl rfl, none_fits (ha r) q2 mend_len⟩
end
section
variable {X : Cx} {W : WX} {e : Expr}
theorem t_lendB (i : Nat) {f : Env → O Bool} (h : PTr X W e f) : PTr X W e (lendE i (fun _ => true) f) := by
  obtain ⟨t, h, k⟩ := h
  exact ⟨t, h, EOk.lend i (fun B H G x r L r1 n hk => r1) k⟩
end
end Tl
/-! list(zip(a, b)): the pairs are kept -/
namespace TlZl
open PySem PySem.Calls PyProof.Rows
theorem zip_nolen : typeLookup (.type "zip") "__len__" = pure none := am_miss_of_fast (by decide +kernel)
theorem zip_nohint : typeLookup (.type "zip") "__length_hint__" = pure none := am_miss_of_fast (by decide +kernel)

structure ZSt (z TI TO i1 i2 l1 l2 S : Addr) (xs ys : Array Value) (i : Nat) (h : Heap) : Prop where
  ti : IsPair h TI (.ref i1) (.ref i2)
  h1 : h.IsListIter i1 l1 i
  h2 : h.IsListIter i2 l2 i
  l1 : h.IsList l1 xs
  l2 : h.IsList l2 ys
  zz : (IsZip h z TI TO .none ∧ ∃ a b, IsPair h TO a b) ∨ ∃ T f oT, IsZipHeld h z TI TO T f ∧ h.get? T = some oT ∧ T ≠ z ∧ T ≠ i1 ∧ T ≠ i2 ∧ T ≠ S
structure Off (S z TI TO i1 i2 l1 l2 : Addr) : Prop where
  z : S ≠ z
  ti : S ≠ TI
  to : S ≠ TO
  i1 : S ≠ i1
  i2 : S ≠ i2
  l1 : S ≠ l1
  l2 : S ≠ l2
structure ZG (xs ys : Array Value) (lo : Addr) (h : Heap) (as : List Addr) : Prop where
  rise : as.Pairwise (· < ·)
  above : ∀ a ∈ as, lo ≤ a
  pairs : ∀ (j : Nat) (a : Addr), as[j]? = some a → ∃ x y, xs[j]? = some x ∧ ys[j]? = some y ∧ IsPair h a x y
section
variable {prog : Program} {w : World} {A : Around} {E : Value → Shared → Prop} {s : Shared} {R : Result → Shared → Prop}
variable {z TI TO i1 i2 l1 l2 S : Addr} {xs ys : Array Value} {i : Nat} {h h' : Heap}
theorem ZG.there {lo : Addr} {as : List Addr} (g : ZG xs ys lo h as) {a : Addr} (ha : a ∈ as) : a < h.objs.size := by
  obtain ⟨j, hj⟩ := List.mem_iff_getElem?.mp ha
  obtain ⟨_, _, _, _, e⟩ := g.pairs j a hj
  exact Heap.lt_size e
theorem ZSt.keep (o : Off S z TI TO i1 i2 l1 l2) (st : ZSt z TI TO i1 i2 l1 l2 S xs ys i h) (hk : ∀ b o, b ≠ S → h.get? b = some o → h'.get? b = some o) : ZSt z TI TO i1 i2 l1 l2 S xs ys i h' := by
  obtain ⟨hTI, h1, h2, hl1, hl2, hz⟩ := st
  refine ⟨hk _ _ (Ne.symm o.ti) hTI, h1.at fun q e => hk _ q (Ne.symm o.i1) e, h2.at fun q e => hk _ q (Ne.symm o.i2) e, hl1.at fun q e => hk _ q (Ne.symm o.l1) e, hl2.at fun q e => hk _ q (Ne.symm o.l2) e, ?_⟩
  rcases hz with ⟨hz, a, b, hTO⟩ | ⟨T, f, oT, hz, hT, r1, r2, r3, r4⟩
  · exact .inl ⟨hk _ _ (Ne.symm o.z) hz, a, b, hk _ _ (Ne.symm o.to) hTO⟩
  · exact .inr ⟨T, f, oT, hk _ _ (Ne.symm o.z) hz, hk _ _ r4 hT, r1, r2, r3, r4⟩
theorem ZSt.type (st : ZSt z TI TO i1 i2 l1 l2 S xs ys i s.heap) : s.TypeIs (.ref z) "zip" := by
  rcases st.zz with ⟨hz, _⟩ | ⟨_, _, _, hz, _⟩
  · exact ⟨_, hz, rfl⟩
  · exact ⟨_, hz, rfl⟩
theorem z_item (D : ZipApart z TI TO i1 i2 l1 l2) (st : ZSt z TI TO i1 i2 l1 l2 S xs ys i s.heap) (hS : S < s.heap.objs.size) (hi : i < min xs.size ys.size) {Q : Option Value → Shared → Prop}
    (hQ : ∀ x y h', xs[i]? = some x → ys[i]? = some y → ZSt z TI TO i1 i2 l1 l2 S xs ys (i + 1) h' → IsPair h' s.heap.objs.size x y → h'.objs.size = s.heap.objs.size + 1 →
      (∀ c o, c ∉ [z, TO, i1, i2] → s.heap.get? c = some o → h'.get? c = some o) → Q (some (.ref s.heap.objs.size)) { s with heap := h' }) :
    wpAny (model prog w) A (pyNext (.ref z)) Q E s := by
  obtain ⟨hTI, h1, h2, hl1, hl2, hz⟩ := st
  have hix : i < xs.size := Nat.lt_of_lt_of_le hi (Nat.min_le_left ..)
  have hiy : i < ys.size := Nat.lt_of_lt_of_le hi (Nat.min_le_right ..)
  have ex := Array.getElem?_eq_getElem hix
  have ey := Array.getElem?_eq_getElem hiy
  have lt : ∀ {c o}, s.heap.get? c = some o → s.heap.objs.size ≠ c := fun e => Nat.ne_of_gt (Heap.lt_size e)
  have n1 : s.heap.objs.size ≠ i1 := let ⟨_, e, _⟩ := h1; lt e
  have n2 : s.heap.objs.size ≠ i2 := let ⟨_, e, _⟩ := h2; lt e
  rcases hz with ⟨hz, a, b, hTO⟩ | ⟨T, f, oT, hz, hT, r1, r2, r3, r4⟩
  · refine wpAny_pyNext_zip_item D hz hTI hTO h1 h2 hl1 hl2 ex ey fun h' a1 a2 a3 a4 a5 a6 hk => ?_
    exact hQ _ _ h' ex ey
      ⟨hk _ _ D.TIz D.TITO D.TIi1 D.TIi2 hTI, a3, a4, hl1.at fun o e => hk _ o D.l1z D.l1TO D.l1i1 D.l1i2 e, hl2.at fun o e => hk _ o D.l2z D.l2TO D.l2i1 D.l2i2 e,
        .inr ⟨s.heap.objs.size, false, _, a1, a5, lt hz, n1, n2, Nat.ne_of_gt hS⟩⟩ a5 a6
      fun c o hc e => hk c o (fun x => hc (by simp [x])) (fun x => hc (by simp [x])) (fun x => hc (by simp [x])) (fun x => hc (by simp [x])) e
  · refine wpAny_pyNext_zip_item_held D hz hT hTI h1 h2 hl1 hl2 ex ey fun h' a1 a3 a4 a5 a6 hk => ?_
    exact hQ _ _ h' ex ey
      ⟨hk _ _ D.TIz D.TIi1 D.TIi2 hTI, a3, a4, hl1.at fun o e => hk _ o D.l1z D.l1i1 D.l1i2 e, hl2.at fun o e => hk _ o D.l2z D.l2i1 D.l2i2 e,
        .inr ⟨T, true, oT, a1, hk _ _ r1 r2 r3 hT, r1, r2, r3, r4⟩⟩ a5 a6
      fun c o hc e => hk c o (fun x => hc (by simp [x])) (fun x => hc (by simp [x])) (fun x => hc (by simp [x])) e
theorem z_done (hh : A.handled = none) (D : ZipApart z TI TO i1 i2 l1 l2) (st : ZSt z TI TO i1 i2 l1 l2 S xs ys (min xs.size ys.size) s.heap) {Q : Option Value → Shared → Prop}
    (hQ : ∀ h', (∀ c o, c ∉ [z, TO, i1, i2] → s.heap.get? c = some o → h'.get? c = some o) → Q none { s with heap := h' }) :
    wpAny (model prog w) A (pyNext (.ref z)) Q E s := by
  obtain ⟨hTI, h1, h2, hl1, hl2, hz⟩ := st
  have hend : xs[min xs.size ys.size]? = none ∨ ys[min xs.size ys.size]? = none := by
    rcases Nat.le_total xs.size ys.size with h | h
    · exact .inl (Array.getElem?_eq_none (by rw [Nat.min_eq_left h]; exact Nat.le_refl _))
    · exact .inr (Array.getElem?_eq_none (by rw [Nat.min_eq_right h]; exact Nat.le_refl _))
  rcases hz with ⟨hz, a, b, hTO⟩ | ⟨T, f, oT, hz, hT, r1, r2, r3, r4⟩
  · exact wpAny_pyNext_zip_end hh D hz hTI hTO h1 h2 hl1 hl2 hend fun h' hk => hQ h' fun c o hc e => hk c o (fun x => hc (by simp [x])) (fun x => hc (by simp [x])) (fun x => hc (by simp [x])) (fun x => hc (by simp [x])) e
  · exact wpAny_pyNext_zip_end_held hh D hz hT hTI h1 h2 hl1 hl2 hend fun h' hk => hQ h' fun c o hc e => hk c o (fun x => hc (by simp [x])) (fun x => hc (by simp [x])) (fun x => hc (by simp [x])) e
theorem z_loop (hh : A.handled = none) (D : ZipApart z TI TO i1 i2 l1 l2) (o : Off S z TI TO i1 i2 l1 l2) (hn : min xs.size ys.size ≤ sizeLine) (res : Value) {hB : Heap} {lo : Nat}
    (hlo : ∀ c ∈ [S, z, TO, i1, i2], c < lo)
    (hR : ∀ h' tk acc c as, (∀ b o, b ∉ [S, z, TO, i1, i2] → hB.get? b = some o → h'.get? b = some o) → h'.get? S = some { cls := .type "list", dict := none, data := .seq acc c, slots := #[] } →
      as.length = min xs.size ys.size → ZG xs ys lo h' as → acc.toList = as.map Value.ref → R (.ok (.ret res)) { s with heap := h', toks := tk }) :
    ∀ (k i : Nat) (h : Heap) (tk c : Nat) (acc : Array Value) (as : List Addr), min xs.size ys.size - i = k → i ≤ min xs.size ys.size → ZSt z TI TO i1 i2 l1 l2 S xs ys i h →
      (∀ b o, b ∉ [S, z, TO, i1, i2] → hB.get? b = some o → h.get? b = some o) →
      h.get? S = some { cls := .type "list", dict := none, data := .seq acc c, slots := #[] } → acc.toList = as.map Value.ref → as.length = i → ZG xs ys lo h as → lo ≤ h.objs.size →
      codeAny (model prog w) A (.builtin "list.extend.loop" ⟨[.ref S, .ref z, res], []⟩) R { s with heap := h, toks := tk } := by
  have nS : S ∉ [z, TO, i1, i2] := by simp only [List.mem_cons, List.not_mem_nil, or_false, not_or]; exact ⟨o.z, o.to, o.i1, o.i2⟩
  have nin : ∀ b, b ∉ [S, z, TO, i1, i2] → b ∉ [z, TO, i1, i2] := fun b hb q => hb (List.mem_cons_of_mem _ q)
  have hi_ge : ∀ a, lo ≤ a → a ∉ [z, TO, i1, i2] := fun a ha q => absurd (hlo a (List.mem_cons_of_mem _ q)) (Nat.not_lt.mpr ha)
  have hi_S : ∀ a, lo ≤ a → a ≠ S := fun a ha q => absurd (hlo a (by rw [q]; exact List.mem_cons_self)) (Nat.not_lt.mpr ha)
  intro k
  induction k with
  | zero =>
    intro i h tk c acc as hk hi hst hkeep hS hacc hal hG hIs
    have hin : i = min xs.size ys.size := by omega
    subst hin
    refine codeAny_builtin PySem.F.entry_extend_loop ?_
    rw [Around.under_plainId PySem.F.plain_extend_loop _]
    show wpAny _ A.in1 (pyNext (.ref z) >>= _) _ _ _
    refine wpAny_bind (z_done (s := { s with heap := h, toks := tk }) (A := A.in1) hh D hst fun h' he => ?_)
    refine wpAny_pure (hR h' tk acc c as (fun b q h1 e => he b q (nin b h1) (hkeep b q h1 e)) (he S _ nS hS) hal ⟨hG.rise, hG.above, fun j a hj => ?_⟩ hacc)
    obtain ⟨x, y, e1, e2, e3⟩ := hG.pairs j a hj
    exact ⟨x, y, e1, e2, he a _ (hi_ge a (hG.above a (List.mem_of_getElem? hj))) e3⟩
  | succ k ih =>
    intro i h tk c acc as hk hi hst hkeep hS hacc hal hG hIs
    have hlt : i < min xs.size ys.size := by omega
    have hsz : acc.size = i := by rw [← Array.length_toList, hacc, List.length_map, hal]
    refine codeAny_builtin PySem.F.entry_extend_loop ?_
    rw [Around.under_plainId PySem.F.plain_extend_loop _]
    show wpAny _ A.in1 (pyNext (.ref z) >>= _) _ _ _
    refine wpAny_bind (z_item (s := { s with heap := h, toks := tk }) (S := S) D hst (Heap.lt_size hS) hlt fun x y h' ex ey hst' ht hz hkp => ?_)
    dsimp only at ht hz hkp ⊢
    have hS' := hkp S _ nS hS
    have up : ∀ b o, b ≠ S → h'.get? b = some o → (h'.update S (Obj.mapSeq (·.push (Value.ref h.objs.size)))).get? b = some o := fun b o hb e => (Heap.get?_update_other _ _ (Ne.symm hb)).trans e
    show wpAny _ A.in1 (updateSeq S (·.push (Value.ref h.objs.size)) >>= _) _ _ _
    refine wpAny_bind ?_
    refine wpAny_updateSeq hS' rfl (wpAny_pure ⟨plainId_quiet PySem.F.plain_extend_loop _, ih (i + 1) _ tk _ (acc.push (Value.ref h.objs.size)) (as ++ [h.objs.size]) (by omega) hlt (hst'.keep o up)
      (fun b q h1 e => up b q (fun e' => h1 (by rw [e']; exact List.mem_cons_self)) (hkp b q (nin b h1) (hkeep b q h1 e))) (Heap.get?_update_self _ hS' rfl) (by rw [Array.toList_push, hacc, List.map_append]; rfl) (by rw [List.length_append, hal]; rfl) ⟨?_, ?_, ?_⟩ ?_⟩) (by rw [hsz]; omega) (by show (acc.push (Value.ref h.objs.size)).size ≤ sizeLine + 1; rw [Array.size_push, hsz]; omega)
    · refine List.pairwise_append.mpr ⟨hG.rise, List.pairwise_singleton _ _, fun a ha b hb => ?_⟩
      rw [List.mem_singleton.mp hb]
      exact hG.there ha
    · intro a ha
      rcases List.mem_append.mp ha with ha | ha
      · exact hG.above a ha
      · rw [List.mem_singleton.mp ha]; exact hIs
    · intro j a hj
      by_cases hja : j < as.length
      · rw [List.getElem?_append_left hja] at hj
        obtain ⟨x', y', e1, e2, e3⟩ := hG.pairs j a hj
        have ha := hG.above a (List.mem_of_getElem? hj)
        exact ⟨x', y', e1, e2, up a _ (hi_S a ha) (hkp a _ (hi_ge a ha) e3)⟩
      · have hj' : j = as.length := by
          have := (List.getElem?_eq_some_iff.mp hj).1
          rw [List.length_append, List.length_singleton] at this
          omega
        subst hj'
        rw [List.getElem?_append_right (Nat.le_refl _), Nat.sub_self] at hj
        cases hj
        rw [hal]
        exact ⟨x, y, ex, ey, up _ _ (Nat.ne_of_gt (Heap.lt_size hS)) ht⟩
    · rw [Heap.size_update, hz]; omega
/-- list(it), it a new zip of two lists -/
theorem list_of_zip {Q : Value → Shared → Prop} (hh : A.handled = none) (D : ZipApart z TI TO i1 i2 l1 l2) (hz : IsZip s.heap z TI TO .none) (hTI : IsPair s.heap TI (.ref i1) (.ref i2)) {a b : Value} (hTO : IsPair s.heap TO a b)
    (h1 : s.heap.IsListIter i1 l1 0) (h2 : s.heap.IsListIter i2 l2 0) (hl1 : s.heap.IsList l1 xs) (hl2 : s.heap.IsList l2 ys) (hn : min xs.size ys.size ≤ sizeLine)
    (hQ : ∀ h' tk acc c as, (∀ b o, b ∉ [z, TO, i1, i2] → s.heap.get? b = some o → h'.get? b = some o) → h'.get? s.heap.objs.size = some { cls := .type "list", dict := none, data := .seq acc c, slots := #[] } →
      as.length = min xs.size ys.size → ZG xs ys (s.heap.objs.size + 1) h' as → acc.toList = as.map Value.ref → Q (.ref s.heap.objs.size) { s with heap := h', toks := tk }) :
    wpAny (model prog w) A (call (.type "list") [.ref z]) Q E s := by
  obtain ⟨S, eS⟩ : ∃ S, S = s.heap.objs.size := ⟨_, rfl⟩
  have lz : z < S := eS ▸ Heap.lt_size hz
  have lTI : TI < S := eS ▸ Heap.lt_size hTI
  have lTO : TO < S := eS ▸ Heap.lt_size hTO
  have li1 : i1 < S := let ⟨_, e, _⟩ := h1; eS ▸ Heap.lt_size e
  have li2 : i2 < S := let ⟨_, e, _⟩ := h2; eS ▸ Heap.lt_size e
  have ll1 : l1 < S := let ⟨_, e, _⟩ := hl1; eS ▸ Heap.lt_size e
  have ll2 : l2 < S := let ⟨_, e, _⟩ := hl2; eS ▸ Heap.lt_size e
  have off : Off S z TI TO i1 i2 l1 l2 := ⟨Nat.ne_of_gt lz, Nat.ne_of_gt lTI, Nat.ne_of_gt lTO, Nat.ne_of_gt li1, Nat.ne_of_gt li2, Nat.ne_of_gt ll1, Nat.ne_of_gt ll2⟩
  have st : ZSt z TI TO i1 i2 l1 l2 S xs ys 0 s.heap := ⟨hTI, h1, h2, hl1, hl2, .inl ⟨hz, _, _, hTO⟩⟩
  refine callType_codes (Q₁ := fun ob s₁ => ob = .ref S ∧ s₁ = { s with heap := s.heap.push { cls := .type "list", data := .seq #[] } }) PySem.F.called_list (PySem.F.typeCall_list_1 _) PySem.F.entry_list_init (code_list_new _ ⟨by rw [eS], rfl⟩) fun ob s₁ h₁ => ?_
  obtain ⟨rfl, rfl⟩ := h₁
  have a0 : (s.heap.push { cls := .type "list", data := .seq #[] }).get? S = some { cls := .type "list", data := .seq #[] } := by rw [eS]; exact Heap.get?_push_size _ rfl
  have z0 : (s.heap.push { cls := .type "list", data := .seq #[] }).objs.size = S + 1 := by rw [Heap.size_push, eS]
  have k0 : ∀ b o, b ≠ S → s.heap.get? b = some o → (s.heap.push { cls := .type "list", data := .seq #[] }).get? b = some o := fun b o _ e => Heap.get?_push_of_some _ e
  obtain ⟨G, eG⟩ : ∃ G, G = s.heap.push { cls := .type "list", data := .seq #[] } := ⟨_, rfl⟩
  rw [← eG] at a0 z0 k0 ⊢
  refine ⟨⟨_, a0, rfl⟩, PySem.F.args_list_init_2 _ _, ?_⟩
  show wpAny _ _ (do let old ← Builtin.List.listItems (.ref S); Builtin.List.listUpdate (.ref S) (fun _ => #[]); letGo old.toList.reverse; Builtin.List.listExtendWith (.ref S) (.ref z) .none) _ _ _
  refine wpAny_bind (listItems_at (a := S) a0 rfl ?_)
  refine wpAny_bind (listUpdate_at (a := S) a0 rfl ?_ (Nat.zero_le _) (Nat.zero_le _))
  refine wpAny_bind (wpAny_letGo ?_)
  have a1 := Heap.get?_update_self (Obj.mapSeq (fun _ => (#[] : Array Value))) a0 rfl
  have k1 : ∀ b o, b ≠ S → s.heap.get? b = some o → (G.update S (Obj.mapSeq (fun _ => (#[] : Array Value)))).get? b = some o :=
    fun b o nb e => (Heap.get?_update_other _ _ (Ne.symm nb)).trans (k0 b o nb e)
  have z1 : (G.update S (Obj.mapSeq (fun _ => (#[] : Array Value)))).objs.size = S + 1 := by rw [Heap.size_update, z0]
  obtain ⟨G1, eG1⟩ : ∃ G1, G1 = G.update S (Obj.mapSeq (fun _ => (#[] : Array Value))) := ⟨_, rfl⟩
  rw [← eG1] at a1 k1 z1 ⊢
  have st1 : ZSt z TI TO i1 i2 l1 l2 S xs ys 0 G1 := st.keep off k1
  have hz1 : IsZip G1 z TI TO .none := k1 _ _ (Ne.symm off.z) hz
  have hT : ({ s with heap := G1 } : Shared).TypeIs (.ref z) "zip" := st1.type
  have q1 : Builtin.List.listSameRef (.ref S) (.ref z) = false := by simp [Builtin.List.listSameRef, off.z]
  unfold Builtin.List.listExtendWith
  refine wpAny_bind (wpAny_typeOf (s := { s with heap := G1 }) hT ?_)
  rw [if_neg (by rw [q1]; decide)]
  refine wpAny_bind (wpAny_pyIter_zip (s := { s with heap := G1 }) hz1 ?_)
  refine wpAny_bind (wpAny_holding ?_)
  unfold Builtin.List.listLengthHint
  refine wpAny_bind (wpAny_specialOf (s := { s with heap := G1 }) hT zip_nolen ?_)
  show wpAny _ _ (specialOf (Value.ref z) (Str.ofString "__length_hint__") >>= _) _ _ _
  refine wpAny_bind (wpAny_specialOf (s := { s with heap := G1 }) hT zip_nohint ?_)
  refine wpAny_pure ?_
  show wpAny _ _ (rule "list.extend.makes-room" >>= fun _ => Builtin.List.listTouch (.ref S) >>= fun _ =>
    again (.builtin "list.extend.loop" ⟨[.ref S, .ref z, .none], []⟩)) _ _ _
  refine wpAny_bind (wpAny_rule ?_)
  refine wpAny_bind ?_
  show wpAny _ _ (updateSeq S (·.push .none) >>= fun _ => updateSeq S (·.pop)) _ _ _
  refine wpAny_bind (wpAny_updateSeq a1 rfl ?_)
  have a2 := Heap.get?_update_self (Obj.mapSeq (·.push Value.none)) a1 rfl
  refine wpAny_updateSeq (hz := by seq_fits) a2 rfl ?_
  have a3 := Heap.get?_update_self (Obj.mapSeq (·.pop)) a2 rfl
  have k2 : ∀ b o, b ≠ S → G1.get? b = some o → ((G1.update S (Obj.mapSeq (·.push Value.none))).update S (Obj.mapSeq (·.pop))).get? b = some o :=
    fun b o hb e => (Heap.get?_update_other _ _ (Ne.symm hb)).trans ((Heap.get?_update_other _ _ (Ne.symm hb)).trans e)
  have z2 : ((G1.update S (Obj.mapSeq (·.push Value.none))).update S (Obj.mapSeq (·.pop))).objs.size = S + 1 := by rw [Heap.size_update, Heap.size_update, z1]
  have st2 := st1.keep off k2
  obtain ⟨G2, eG2⟩ : ∃ G2, G2 = (G1.update S (Obj.mapSeq (·.push Value.none))).update S (Obj.mapSeq (·.pop)) := ⟨_, rfl⟩
  rw [← eG2] at a3 k2 z2 st2 ⊢
  refine wpAny_pure ⟨plainId_quiet PySem.F.plain_extend_loop _, z_loop (s := s) (A := A.in1) hh D off hn .none (hB := s.heap) (lo := S + 1) (fun c hc => ?_) (fun h' tk acc c as hk hS hl hG ha => ?_) _ 0 G2 s.toks _ #[] [] rfl (Nat.zero_le _) st2 (fun b o hb e => ?_) a3 rfl rfl
    ⟨List.Pairwise.nil, (fun _ q => nomatch q), (fun j a q => by simp at q)⟩ (by rw [z2]; exact Nat.le_refl _)⟩
  · simp only [List.mem_cons, List.not_mem_nil, or_false] at hc
    rcases hc with e | e | e | e | e
    · rw [e]; exact Nat.lt_succ_self S
    · rw [e]; exact Nat.lt_succ_of_lt lz
    · rw [e]; exact Nat.lt_succ_of_lt lTO
    · rw [e]; exact Nat.lt_succ_of_lt li1
    · rw [e]; exact Nat.lt_succ_of_lt li2
  · rw [eS] at hS hG ⊢
    refine ⟨rfl, hQ h' tk acc c as (fun b o hb e => hk b o (fun q => ?_) e) hS hl hG ha⟩
    rcases List.mem_cons.mp q with q | q
    · exact absurd (Heap.lt_size e) (by rw [q, eS]; exact Nat.lt_irrefl _)
    · exact hb q
  · have hb' : b ≠ S := fun q => hb (by rw [q]; exact List.mem_cons_self)
    exact k2 b o hb' (k1 b o hb' e)
end
end TlZl

namespace Tl
open PySem PySem.Spec L2
open PyProof.Rows (Call_ args_cons args_nil)
theorem Inv.many {X : Cx} {pins : List (Addr × Obj)} {σ : St} {H H' : Hp} {s : Shared} {h' : Heap} {t' : Nat} {ch : List Addr} (I : Inv X pins σ H s) (k : ∀ b o, b ∉ ch → s.heap.get? b = some o → h'.get? b = some o) (hf : ∀ b ∈ ch, FpOk X pins H b)
    (ext : ∀ b u, H b = some u → H' b = some u) (fresh : ∀ b u, H' b = some u → H b = none → s.heap.objs.size ≤ b) (new : ∀ b u, H' b = some u → H b = none → ObjOk X.prog X.w H' h' b u) : Inv X pins σ H' { s with heap := h', toks := t' } := by
  have nit : ∀ b u, H b = some u → b ∉ ch := fun b u e z => by
    have q := (hf b z).1
    rw [q] at e; cases e
  refine I.step (g' := s.gens) (d' := s.drawn) (ch := ch) (fun b hb => ⟨(hf b hb).2.2.2.1, (hf b hb).2.1, (hf b hb).2.2.2.2.1, (hf b hb).2.2.2.2.2⟩) (fun b o _ _ hc e _ => k b o hc e) (fun b o _ _ hc e _ => ⟨o.slots, k b o hc e⟩)
    (fun b o _ e n => ?_) (fun b o hc e => ⟨o, k b o hc e⟩) (fun b xs e => ext b _ e) (fun b o u e => ext b _ e) (fun b ps e => ⟨#[], ?_⟩) (fun m hm => ?_) (fun b u e => ?_) I.bare
  · cases q : H' b with
    | none => rfl
    | some u => exact absurd (Heap.lt_size e) (Nat.not_lt.mpr (fresh b u q n))
  · rw [ext b _ e]; simp
  · obtain ⟨o, es, ep, ho, r⟩ := hm
    exact ⟨o, es, ep, k _ o (fun z => (hf _ z).2.1 rfl) ho, r⟩
  · cases q : H b with
    | none => exact new b u e q
    | some u' =>
      have : u = u' := by rw [ext b _ q] at e; exact (Option.some.inj e).symm
      subst this
      refine (I.hok b u q).stay (fun c v hc q' => k c v ?_ q') (fun c q' => ext c _ q') fun c xs q' => ext c _ q'
      rcases hc with z | z
      · rw [z]; exact nit b u q
      · exact nit c _ z
def tListZip (K : PySem.W.Frag) (ta : TA) : TE := fun σ H Q => ta σ H fun vs H1 => ∃ (a b : Addr) (xs ys : List V), vs = [.ref a, .ref b] ∧ SqL K H1 a xs ∧ SqL K H1 b ys ∧
  ∀ (l : Addr) (as : List Addr) (H2 : Hp), (∀ c u, H1 c = some u → H2 c = some u) → H1 l = none → H2 l = some (.lst (as.map V.ref)) → as.length = min xs.length ys.length →
    (∀ (j : Nat) (a : Addr), as[j]? = some a → ∃ x y, xs[j]? = some x ∧ ys[j]? = some y ∧ H1 a = none ∧ H2 a = some (.tup [x, y])) → l ∉ as → Q (.ref l) H2
def newH (H : Hp) (l : Addr) (as : List Addr) (xs ys : List V) : Hp := fun c => if c = l then some (.lst (as.map V.ref)) else if c ∈ as then (match xs[as.idxOf c]?, ys[as.idxOf c]? with | some x, some y => some (.tup [x, y]) | _, _ => none) else H c
theorem vals_ref : ∀ (as : List Addr), Vals (as.map V.ref) (as.map Value.ref)
  | [] => .nil
  | _ :: as => .cons rfl (vals_ref as)
section
variable {X : Cx} {W : WX} {e e2 : Expr} {ta : TA} {p p2 pos pos2 : Pos}
theorem pe_listZip (hc : X.calm = true) (hg : Gl X "list") (hm : X.mg "list" = none) (hg2 : Gl X "zip") (hm2 : X.mg "zip" = none) (ha : PA X [e, e2] ta)
    (hs : starEach [e, e2] X.env = (false, eval e X.env) :: starEach [e2] X.env) (hpl : (backTo pos2 (starEach [e2] X.env)).any (·.1) = false)
    (hs2 : starEach [.Call (.Name "zip" p2) [e, e2] [] pos2] X.env = (false, eval (.Call (.Name "zip" p2) [e, e2] [] pos2) X.env) :: starEach [] X.env) :
    PE X (.Call (.Name "list" p) [.Call (.Name "zip" p2) [e, e2] [] pos2] [] pos) (tListZip X.K ta) := by
  refine ⟨fun pn s σ H Q I h => ?_⟩
  refine Call_ (ld_blt I hg hm PyProof.Rows.boot_list (PyProof.Rows.callWith_type1 (args_cons (Call_ (ld_blt I hg2 hm2 PyProof.Rows.boot_zip (PyProof.Rows.callWith_type1 (thn (ha.run pos2 pn s σ H _ I h) fun us s1 ⟨vs, H1, I1, r1, q1⟩ => ?_) hs hpl))) hs2) hs2 rfl))
  obtain ⟨a, b, xs, ys, ex, hqx, hqy, q⟩ := q1
  subst ex
  cases r1 with
  | cons r rr =>
    cases rr with
    | cons r' rr =>
      cases rr
      cases r
      cases r'
      obtain ⟨its, rv, p1, hz1⟩ := I1.list hqx
      obtain ⟨its2, rv2, p2, hz2⟩ := I1.list hqy
      refine call_zip_2 p1.isList p2.isList fun h' hz hTI hTO h1 h2 hsz hk => args_nil ?_
      have I2 : Inv X pn σ H1 { s1 with heap := h' } := I1.kept (t' := s1.toks) hk
      have hl1 : h'.IsList a its.toArray := p1.isList.at fun o e => hk _ o e
      have hl2 : h'.IsList b its2.toArray := p2.isList.at fun o e => hk _ o e
      have ln1 : its.toArray.size = xs.length := by rw [List.size_toArray]; exact rv.length.symm
      have ln2 : its2.toArray.size = ys.length := by rw [List.size_toArray]; exact rv2.length.symm
      have hn : min its.toArray.size its2.toArray.size ≤ sizeLine := by rw [ln1]; exact Nat.le_trans (Nat.min_le_left _ _) hz1
      refine TlZl.list_of_zip (s := { s1 with heap := h' }) (I1.ok.hd hc) (PySem.W.ktu_apart s1.heap.objs.size a b p1.lt p2.lt) hz hTI hTO h1 h2 hl1 hl2 hn fun g tk acc c as hk3 hS hl hG hacc => ?_
      dsimp only at hk3 hS hG ⊢
      have ge : ∀ x, h'.objs.size ≤ x → H1 x = none := fun x hx => I2.hok.fresh hx
      have nd : as.Nodup := hG.rise.imp Nat.ne_of_lt
      have hL : h'.objs.size ∉ as := fun z => absurd (hG.above _ z) (Nat.not_le.mpr (Nat.lt_succ_self _))
      have geA : ∀ x ∈ as, h'.objs.size ≤ x := fun x hx => Nat.le_of_succ_le (hG.above x hx)
      have prs : ∀ j x, as[j]? = some x → ∃ u v u' v', xs[j]? = some u ∧ ys[j]? = some v ∧ RelV u u' ∧ RelV v v' ∧ PySem.IsPair g x u' v' ∧ newH H1 h'.objs.size as xs ys x = some (.tup [u, v]) := fun j x hj => by
        obtain ⟨u', v', e1, e2, e3⟩ := hG.pairs j x hj
        rw [List.getElem?_toArray] at e1 e2
        have j1 : j < xs.length := by rw [rv.length]; exact (List.getElem?_eq_some_iff.mp e1).1
        have j2 : j < ys.length := by rw [rv2.length]; exact (List.getElem?_eq_some_iff.mp e2).1
        obtain ⟨w1, f1, g1⟩ := rv.get (List.getElem?_eq_getElem j1)
        obtain ⟨w2, f2, g2⟩ := rv2.get (List.getElem?_eq_getElem j2)
        rw [e1] at f1; cases f1
        rw [e2] at f2; cases f2
        refine ⟨_, _, _, _, List.getElem?_eq_getElem j1, List.getElem?_eq_getElem j2, g1, g2, e3, ?_⟩
        have hm := List.mem_of_getElem? hj
        have ne : x ≠ h'.objs.size := fun z => hL (z ▸ hm)
        obtain ⟨hj1, hj2⟩ := List.getElem?_eq_some_iff.mp hj
        have ix : as.idxOf x = j := by rw [← hj2]; exact nd.idxOf_getElem j hj1
        unfold newH
        rw [if_neg ne, if_pos hm, ix, List.getElem?_eq_getElem j1, List.getElem?_eq_getElem j2]
      have nL : newH H1 h'.objs.size as xs ys h'.objs.size = some (.lst (as.map V.ref)) := by unfold newH; rw [if_pos rfl]
      have ext : ∀ x u, H1 x = some u → newH H1 h'.objs.size as xs ys x = some u := fun x u e => by
        have h1 : x ≠ h'.objs.size := fun z => by rw [z, ge _ (Nat.le_refl _)] at e; cases e
        have h2 : x ∉ as := fun z => by rw [ge _ (geA x z)] at e; cases e
        unfold newH; rw [if_neg h1, if_neg h2]; exact e
      have whr : ∀ x u, newH H1 h'.objs.size as xs ys x = some u → H1 x = none → x = h'.objs.size ∨ x ∈ as := fun x u e n => by
        by_cases h1 : x = h'.objs.size
        · exact .inl h1
        · by_cases h2 : x ∈ as
          · exact .inr h2
          · unfold newH at e; rw [if_neg h1, if_neg h2, n] at e; cases e
      have fp : ∀ x ∈ [s1.heap.objs.size + 4, s1.heap.objs.size + 3, s1.heap.objs.size, s1.heap.objs.size + 1], FpOk X pn H1 x := fun x hx => by
        have hle : s1.heap.objs.size ≤ x := by
          simp only [List.mem_cons, List.not_mem_nil, or_false] at hx
          rcases hx with z | z | z | z
          · rw [z]; exact Nat.le_add_right _ _
          · rw [z]; exact Nat.le_add_right _ _
          · rw [z]; exact Nat.le_refl _
          · rw [z]; exact Nat.le_add_right _ _
        exact I1.fpOk hle (I1.hok.fresh hle)
      have I3 : Inv X pn σ (newH H1 h'.objs.size as xs ys) { s1 with heap := g, toks := tk } := by
        refine Inv.many (s := { s1 with heap := h' }) (t' := tk) I2 (fun x o hx e => hk3 x o hx e) fp ext (fun x u e n => ?_) fun x u e n => ?_
        · rcases whr x u e n with z | z
          · rw [z]; exact Nat.le_refl _
          · exact geA x z
        · rcases whr x u e n with z | z
          · subst z
            rw [nL] at e
            cases e
            refine ⟨by rw [List.length_map, hl]; exact hn, acc.toList, c, ?_, by rw [Array.toArray_toList]; exact hS⟩
            rw [hacc]; exact vals_ref as
          · obtain ⟨j, hj⟩ := List.mem_iff_getElem?.mp z
            obtain ⟨u1, v1, u2, v2, _, _, g1, g2, g3, g4⟩ := prs j x hj
            rw [g4] at e
            cases e
            exact ⟨by show 2 ≤ sizeLine; decide, [u2, v2], .cons g1 (.cons g2 .nil), ⟨_, g3, rfl, _, rfl⟩⟩
      refine ⟨.ref h'.objs.size, _, I3, rfl, q h'.objs.size as _ ext (ge _ (Nat.le_refl _)) nL (by rw [hl, ln1, ln2]) (fun j x hj => ?_) hL⟩
      obtain ⟨u1, v1, u2, v2, z1, z2, _, _, _, g4⟩ := prs j x hj
      exact ⟨u1, v1, z1, z2, ge _ (geA x (List.mem_of_getElem? hj)), g4⟩
theorem repL_of {K : PySem.W.Frag} {B : Hp} : ∀ {vs : List V} {ds : List D}, vs.length = ds.length → (∀ (i : Nat) (v : V) (d : D), vs[i]? = some v → ds[i]? = some d → Rep K B v d) → RepL K B vs ds
  | [], [], _, _ => .nil
  | v :: vs, d :: ds, hl, h => .cons (h 0 v d rfl rfl) (repL_of (by simpa using hl) fun i v d h1 h2 => h (i + 1) v d h1 h2)
  | [], _ :: _, hl, _ => by simp at hl
  | _ :: _, [], hl, _ => by simp at hl
def gLZ (p : RV × RV) : Option RV := match p.1.od.items, p.2.od.items with
  | some ds, some es => some (.own (.lst ((zipD ds es).map .fz)))
  | _, _ => none
theorem r_listZip {fa fb : Env → O RV} (hc : X.calm = true) (hm : X.mg "list" = none) (hm2 : X.mg "zip" = none) (ha : PEr X W e fa) (hb : PEr X W e2 fb) (hg : Gl X "list" := by rfl) (hg2 : Gl X "zip" := by rfl)
    (hs0 : starEach [e, e2] X.env = (false, eval e X.env) :: starEach [e2] X.env := by rfl) (hs1 : starEach [e2] X.env = (false, eval e2 X.env) :: starEach [] X.env := by rfl) (hpl : (backTo pos2 (starEach [e2] X.env)).any (·.1) = false := by rfl)
    (hs2 : starEach [.Call (.Name "zip" p2) [e, e2] [] pos2] X.env = (false, eval (.Call (.Name "zip" p2) [e, e2] [] pos2) X.env) :: starEach [] X.env := by rfl) :
    PEr X W (.Call (.Name "list" p) [.Call (.Name "zip" p2) [e, e2] [] pos2] [] pos) (Tl.e2 gLZ fa fb) := by
  obtain ⟨ta, ha, ka⟩ := ha
  obtain ⟨tb, hb, kb⟩ := hb
  have k2 : EOk X W (prR (rvR X.K X.mg) (rvR X.K X.mg)) (fun σ H Q => ta σ H fun x H1 => tb σ H1 fun y H2 => Q (x, y) H2) (fun env => (fa env).andThen RV.safe env (fun _ e => fb e) Prod.mk) :=
    EOk.andThen (jx := Prod.mk) (jb := Prod.mk) (R'' := prR (rvR X.K X.mg) (rvR X.K X.mg)) (u := fun _ => tb) stb_rv stb_rv (fun _ _ G1 G2 _ _ _ _ a b => ⟨G1, G2, rfl, a, b⟩) ka fun _ _ _ => kb
  refine ⟨_, pe_listZip hc hg hm hg2 hm2 (pa_cons ha (pa_cons hb pa_nil hs1) hs0) hs0 hpl hs2, EOk.map (r := fun (v : V × V) (H1 : Hp) (Q : VK) => ∃ (a b : Addr) (xs ys : List V), [v.1, v.2] = [.ref a, .ref b] ∧ SqL X.K H1 a xs ∧ SqL X.K H1 b ys ∧
    ∀ (l : Addr) (as : List Addr) (H2 : Hp), (∀ c u, H1 c = some u → H2 c = some u) → H1 l = none → H2 l = some (.lst (as.map V.ref)) → as.length = min xs.length ys.length →
    (∀ (j : Nat) (a : Addr), as[j]? = some a → ∃ x y, xs[j]? = some x ∧ ys[j]? = some y ∧ H1 a = none ∧ H2 a = some (.tup [x, y])) → l ∉ as → Q (.ref l) H2) k2 fun B H G v r Q s h n q => ?_⟩
  obtain ⟨x, y⟩ := v
  obtain ⟨r1, r2⟩ := r
  obtain ⟨G1, G2, e, h1, h2⟩ := h
  dsimp only at h1 h2
  dsimp only [gLZ] at q
  cases e1 : r1.od.items with
  | none => rw [e1] at q; exact q.elim
  | some ds =>
    cases e2 : r2.od.items with
    | none => rw [e1, e2] at q; exact q.elim
    | some es =>
      rw [e1, e2] at q
      obtain ⟨a, xs, rfl, a1, a2⟩ := rv_items s h1 e1
      obtain ⟨b, ys, rfl, b1, b2⟩ := rv_items s h2 e2
      refine ⟨a, b, xs, ys, rfl, a1, b1, fun l as H2 ext hl hL ln pr nl => ?_⟩
      obtain ⟨B', eB⟩ : ∃ B' : Hp, B' = fun c => if c ∈ as then H2 c else B c := ⟨_, rfl⟩
      have inA : ∀ c, c ∈ as → B' c = H2 c := fun c h => by rw [eB]; exact if_pos h
      have outA : ∀ c, c ∉ as → B' c = B c := fun c h => by rw [eB]; exact if_neg h
      have newA : ∀ c ∈ as, H c = none := fun c hc => by
        obtain ⟨j, hj⟩ := List.mem_iff_getElem?.mp hc
        obtain ⟨_, _, _, _, z, _⟩ := pr j c hj
        exact z
      have sb : Same B B' := fun c u e => by rw [outA c fun z => by have := s c u e; rw [newA c z] at this; cases this]; exact e
      have s' : Same B' H2 := fun c u e => by
        by_cases hc : c ∈ as
        · rw [inA c hc] at e; exact e
        · rw [outA c hc] at e; exact ext c u (s c u e)
      have rl : RepL X.K B' (as.map V.ref) (zipD ds es) := by
        refine repL_of (by rw [List.length_map, ln, zipD_len, a2.length, b2.length]) fun i v d hv hd => ?_
        obtain ⟨d1, d2, f1, f2, rfl⟩ := zipD_get hd
        obtain ⟨v1, g1, w1⟩ := a2.get f1
        obtain ⟨v2, g2, w2⟩ := b2.get f2
        rw [List.getElem?_map] at hv
        cases ea : as[i]? with
        | none => rw [ea] at hv; cases hv
        | some c =>
          rw [ea] at hv; cases hv
          obtain ⟨x1, y1, k1, k2, _, k4⟩ := pr i c ea
          rw [g1] at k1; cases k1
          rw [g2] at k2; cases k2
          exact .tup (.inl (.inl (by rw [inA c (List.mem_of_getElem? ea)]; exact k4))) (.cons (w1.mono sb) (.cons (w2.mono sb) .nil))
      have bl : B l = none := s.free hl
      refine q (.ref l) B' H2 [l] (.lst hL (by rw [outA l nl]; exact bl) rl.ownL) s' (by simp) ⟨sb, fun c u e _ => ext c u e, fun c u e _ z => ?_, fun c m => ?_⟩
      · rw [outA c fun z => by rw [newA c z] at e; cases e]; exact z
      · have : c = l := by simpa using m
        subst this; exact .inr hl
theorem g_LZ {α β : Type} {e : α → D} {e2 : β → D} {xs : List α} {ys : List β} {r u : RV} (h : r.od.items = some (xs.map e)) (h' : u.od.items = some (ys.map e2)) : gLZ (r, u) = some (.own (.lst ((xs.zip ys).map (oF (eT2 e e2))))) := by
  simp only [gLZ, h, h', zipD_map, List.map_map]; rfl
end
end Tl
/-! texts: walked, upper, join, split, f-strings; displays of dicts -/
namespace Tl
open PySem PySem.Spec L2
section
variable {X : Cx} {W : WX} {o e tg : Expr} {f fa fb : Env → O RV} {pos apos : Pos}
/-! ### a text walked -/
def signs (z : Str) : List Str := z.cps.toList.map fun c => ⟨#[c]⟩
theorem signs_get {z : Str} {i : Nat} {d : D} (h : ((signs z).map D.str)[i]? = some d) : i < z.cps.size ∧ ∃ c, z.cps[i]? = some c ∧ d = .str ⟨#[c]⟩ := by
  unfold signs at h
  rw [List.map_map, List.getElem?_map] at h
  cases e : z.cps.toList[i]? with
  | none => rw [e] at h; cases h
  | some c =>
    rw [e] at h; cases h
    have := (List.getElem?_eq_some_iff.mp e).1
    exact ⟨by simpa using this, c, by simpa using e, rfl⟩
theorem spec_str {K : PySem.W.Frag} {B : Hp} {z : Str} : Spec K B (Its z) ((signs z).map D.str) := fun B2 H2 s s2 => by
  refine ⟨fun i d e => ?_, ?_⟩
  · obtain ⟨h1, c, h2, rfl⟩ := signs_get e
    refine ⟨h1, fun x H3 y => ?_⟩
    obtain ⟨rfl, c', e', rfl⟩ := y
    rw [h2] at e'; cases e'
    exact ⟨B2, Frm.none, s2, .str⟩
  · show z.cps.size ≤ ((signs z).map D.str).length
    rw [List.length_map]; unfold signs; simp
def gSigns (r : RV) : Option (List D) := match r.od with
  | .fz (.str z) => some ((signs z).map D.str)
  | _ => none
theorem i_str (h : PEr X W e f) : PIr X W tg e (fun env => (f env).mapP gSigns) := by
  obtain ⟨t, h, k⟩ := h
  refine ⟨_, pi_str h, EOk.map (r := fun (x : V) (H1 : Hp) (R : It → Hp → Prop) => ∃ z, x = .str z ∧ R (Its z) H1) k fun B H G v r R s h n q => ?_⟩
  dsimp only [gSigns] at q
  split at q
  · rename_i z e
    have z1 := rv_fz h e
    cases z1
    exact ⟨z, rfl, VPost.it0 q s spec_str⟩
  · exact q.elim
/-! ### methods -/
def gUpper (r : RV) : Option RV := match r.od with
  | .fz (.str z) => if z.length ≤ 5592405 then some (.own (.fz (.str (Txt.upper z)))) else none
  | _ => none
theorem r_upper (h : PEr X W o f) (hbase : attributeBase o "upper" X.env (eval o X.env) = eval o X.env := by rfl) (hline : (apos.endLine == pos.line) = true := by rfl) :
    PEr X W (.Call (.Attribute o "upper" apos) [] [] pos) (e1 gUpper f) := by
  obtain ⟨t, h, k⟩ := h
  refine ⟨_, pe_upper h hbase hline, EOk.map (r := fun (x : V) (H1 : Hp) (Q : VK) => (∃ a, x = .str a) ∧ ∃ a, x = .str a ∧ ([] : List V) = [] ∧ a.length ≤ 5592405 ∧ Q (.str (Txt.upper a)) H1) k fun B H G v r Q s h n q => ?_⟩
  dsimp only [gUpper] at q
  split at q
  · rename_i z e
    have z1 := rv_fz h e
    cases z1
    split at q
    · rename_i hz
      exact ⟨⟨z, rfl⟩, z, rfl, rfl, hz, VPost.fz q s .str⟩
    · exact q.elim
  · exact q.elim
def dStrs : List D → Option (List Str)
  | [] => some []
  | .str z :: ds => match dStrs ds with
    | some ns => some (z :: ns)
    | none => none
  | _ :: _ => none
theorem dStrs_cons {z : Str} {ds : List D} : dStrs (.str z :: ds) = (dStrs ds).map (z :: ·) := by
  show (match dStrs ds with | some ns => some (z :: ns) | none => none) = _
  cases dStrs ds <;> rfl
theorem dStrs_map : ∀ {ys : List Str}, dStrs (ys.map D.str) = some ys
  | [] => rfl
  | y :: ys => by rw [List.map_cons, dStrs_cons, dStrs_map]; rfl
theorem RepL.dStrs {K : PySem.W.Frag} {B : Hp} {vs : List V} {ds : List D} {ns : List Str} (h : RepL K B vs ds) (e : Tl.dStrs ds = some ns) : vs = ns.map V.str := by
  induction vs generalizing ds ns with
  | nil => cases h; cases e; rfl
  | cons v vs ih =>
    cases h with
    | cons r t =>
      cases r <;> first
        | (cases e; done)
        | (rw [dStrs_cons] at e
           rename_i ds i
           cases q : Tl.dStrs ds with
           | none => rw [q] at e; cases e
           | some ns' => rw [q] at e; cases e; rw [ih t q]; rfl)
theorem repL_strs {K : PySem.W.Frag} {B : Hp} : ∀ ys : List Str, RepL K B (ys.map V.str) (ys.map D.str)
  | [] => .nil
  | _ :: ys => .cons .str (repL_strs ys)
def gJoin (a : Str) (r : RV) : Option RV := match r.od.items with
  | some ds => match dStrs ds with
    | some ys => if (ys.map (·.length)).sum + ys.length * a.length ≤ 16777216 then some (.own (.fz (.str (Txt.join a ys)))) else none
    | none => none
  | none => none
theorem r_join {a : Str} {j p} (he : PEr X W e fb) (hs : starEach [e] X.env = [(false, eval e X.env)] := by rfl) (hbase : attributeBase (.Constant (.str a) j p) "join" X.env (eval (.Constant (.str a) j p) X.env) = eval (.Constant (.str a) j p) X.env := by rfl) (hline : (apos.endLine == pos.line) = true := by rfl) :
    PEr X W (.Call (.Attribute (.Constant (.str a) j p) "join" apos) [e] [] pos) (e1 (gJoin a) fb) := by
  obtain ⟨tb, hb, kb⟩ := he
  refine ⟨_, pe_join (pe_str (x := a) (j := j) (pos := p)) hb hs hbase hline, ?_⟩
  have k2 := EOk.map (R' := rvR X.K X.mg) (g := gJoin a) (r := fun (y : V) (H2 : Hp) (Q : VK) => ∃ a' p, ∃ ys : List Str, V.str a = .str a' ∧ [y] = [.ref p] ∧ (SqL X.K H2 p (ys.map V.str) ∨ SqT X.K H2 p (ys.map V.str)) ∧
      (ys.map (·.length)).sum + ys.length * a'.length ≤ 16777216 ∧ Q (.str (Txt.join a' ys)) H2) kb fun B H G v r Q s h n q => by
    dsimp only [gJoin] at q
    cases e1 : r.od.items with
    | none => rw [e1] at q; exact q.elim
    | some ds =>
      rw [e1] at q
      dsimp only at q
      cases e2 : Tl.dStrs ds with
      | none => rw [e2] at q; exact q.elim
      | some ys =>
        rw [e2] at q
        dsimp only at q
        obtain ⟨b, xs, rfl, b1, b2⟩ := rv_items s h e1
        have := b2.dStrs e2
        subst this
        split at q
        · rename_i hz
          exact ⟨a, b, ys, rfl, rfl, .inl b1, hz, VPost.fz q s .str⟩
        · exact q.elim
  exact fun B H F σ env Q S q => ⟨⟨a, rfl⟩, k2 B H F σ env Q S q⟩
def gSplit (b : Str) (r : RV) : Option RV := match r.od with
  | .fz (.str a) => if (b.length == 0) = false ∧ a.length + 2 ≤ sizeLine then some (.own (.lst (((Txt.split a b).map D.str).map .fz))) else none
  | _ => none
theorem r_split {b : Str} {j p} (ho : PEr X W o fa) (hs : starEach [.Constant (.str b) j p] X.env = [(false, eval (.Constant (.str b) j p) X.env)] := by rfl) (hbase : attributeBase o "split" X.env (eval o X.env) = eval o X.env := by rfl) (hline : (apos.endLine == pos.line) = true := by rfl) :
    PEr X W (.Call (.Attribute o "split" apos) [.Constant (.str b) j p] [] pos) (e1 (gSplit b) fa) := by
  obtain ⟨ta, ha, ka⟩ := ho
  refine ⟨_, pe_split ha (pe_str (x := b) (j := j) (pos := p)) hs hbase hline, ?_⟩
  refine EOk.map (r := fun (x : V) (H1 : Hp) (Q : VK) => (∃ a, x = .str a) ∧ ∃ a b', x = .str a ∧ [V.str b] = [.str b'] ∧ (b'.length == 0) = false ∧ a.length + 2 ≤ sizeLine ∧ rNewStrs (Txt.split a b') H1 Q) ka fun B H G v r Q s h n q => ?_
  dsimp only [gSplit] at q
  split at q
  · rename_i a e
    have z1 := rv_fz h e
    cases z1
    split at q
    · rename_i hz
      exact ⟨⟨a, rfl⟩, a, b, rfl, rfl, hz.1, hz.2, fun p hp => VPost.lst q s (repL_strs _) hp⟩
    · exact q.elim
  · exact q.elim
/-! ### f-strings -/
def gFmt (r : RV) : Option RV := match r.od with
  | .fz (.str y) => if y.length ≤ sizeLine then some (.own (.fz (.str y))) else none
  | .fz (.int i) => if i.natAbs.log2 < 1920 then some (.own (.fz (.str (toString i)))) else none
  | _ => none
theorem r_fmt (he : PEr X W e f) : PEr X W (.FormattedValue e (-1) none pos) (e1 gFmt f) := by
  obtain ⟨t, h, k⟩ := he
  refine ⟨_, pe_fmt h, EOk.map (r := fun (x : V) (H1 : Hp) (Q : VK) => (∃ y : Str, x = .str y ∧ y.length ≤ sizeLine ∧ Q (.str y) H1) ∨ ∃ i : Int, x = .int i ∧ i.natAbs.log2 < 1920 ∧ Q (.str (toString i)) H1) k fun B H G v r Q s h n q => ?_⟩
  dsimp only [gFmt] at q
  split at q
  · rename_i y e
    have z1 := rv_fz h e
    cases z1
    split at q
    · rename_i hz; exact .inl ⟨y, rfl, hz, VPost.fz q s .str⟩
    · exact q.elim
  · rename_i i e
    have z1 := rv_fz h e
    cases z1
    split at q
    · rename_i hz; exact .inr ⟨i, rfl, hz, VPost.fz q s .str⟩
    · exact q.elim
  · exact q.elim
def gAcc (acc : Str) (r : RV) : Option Str := match r.od with
  | .fz (.str y) => if (acc ++ y).length ≤ sizeLine then some (acc ++ y) else none
  | _ => none
/-- the parts, one behind the other -/
def fJs : List (Env → O RV) → Str → Env → O Str
  | [], acc, _ => .ok acc
  | f :: fs, acc, env => (f env).andThen RV.safe env (fun r e => match gAcc acc r with
    | some a => fJs fs a e
    | none => .bad) fun _ y => y
def stR : Rl Str Str := fun _ _ G a b => G = [] ∧ a = b
theorem stb_st : Stb stR (fun _ => true) where
  there := fun B H G x a h => by obtain ⟨rfl, _⟩ := h; exact fun _ z => nomatch z
  keep := fun _ _ _ _ _ _ _ _ _ h _ _ _ => h
def PJr (X : Cx) (W : WX) (es : List Expr) (fs : List (Env → O RV)) : Prop := ∃ ts : List TE, L2.PJ X es ts ∧ ∀ acc, EOk X W stR (fun σ H Q => tJs ts acc σ H Q) (fJs fs acc)
theorem j_nil : PJr X W [] [] := ⟨[], .nil, fun acc B H F σ env Q S q => q acc B H [] ⟨rfl, rfl⟩ S.sub List.nodup_nil Frm.none⟩
theorem EOk.plainS {t : TX Str} {f : Env → O Str} (h : EOk X W (fun _ _ _ (a b : Str) => a = b) t f) : EOk X W stR t f := by
  intro B H F σ env Q S q
  refine h B H F σ env Q S ?_
  cases e : f env with
  | bad => rw [e] at q; exact q
  | exc c e1 => rw [e] at q; exact q
  | ok a =>
    rw [e] at q
    intro x B1 H1 G r1 s1 n1 f1
    exact q x B1 H1 [] ⟨rfl, r1⟩ s1 List.nodup_nil ⟨f1.sB, f1.keep, f1.forg, fun _ z => nomatch z⟩
  | eff a env1 =>
    rw [e] at q
    intro x B1 H1 G F1 r1 l1 s1 n1 f1
    exact q x B1 H1 [] F1 ⟨rfl, r1⟩ l1 s1 (List.nodup_append.mp n1).2.1 ⟨f1.sB, f1.keep, f1.forg, fun a z => f1.fr a (List.mem_append_right _ z)⟩
theorem j_cons {es : List Expr} {fs : List (Env → O RV)} (he : PEr X W e f) (hr : PJr X W es fs) : PJr X W (e :: es) (f :: fs) := by
  obtain ⟨t, h, k⟩ := he
  obtain ⟨ts, hs, ks⟩ := hr
  refine ⟨t :: ts, .cons h hs, fun acc => EOk.plainS ?_⟩
  refine EOk.andThen (R' := stR) (jx := fun (_ : V) (y : Str) => y) (jb := fun (_ : RV) (y : Str) => y) (u := fun x σ H Q => ∃ y : Str, x = .str y ∧ (acc ++ y).length ≤ sizeLine ∧ tJs ts (acc ++ y) σ H Q)
    stb_rv stb_st (fun _ _ _ _ _ _ _ _ _ b => b.2) k fun x r ⟨B0, H0, G0, r0⟩ => ?_
  intro B H F σ env Q S q
  cases e : gAcc acc r with
  | none => rw [e] at q; exact q.elim
  | some a =>
    rw [e] at q
    dsimp only at q
    unfold gAcc at e
    split at e
    · rename_i y ey
      have z1 := rv_fz r0 ey
      cases z1
      split at e
      · rename_i hz
        cases e
        exact ⟨y, rfl, hz, ks _ B H F σ env Q S q⟩
      · cases e
    · cases e
def gStrV (y : Str) : Option RV := some (.own (.fz (.str y)))
theorem r_joined {v1 v2 : Expr} {rest : List Expr} {fs : List (Env → O RV)} (h : PJr X W (v1 :: v2 :: rest) fs) : PEr X W (.JoinedStr (v1 :: v2 :: rest) pos) (fun env => (fJs fs Str.empty env).mapP gStrV) := by
  obtain ⟨ts, h, k⟩ := h
  exact ⟨_, pe_joined h, EOk.map (r := fun (x : Str) (H1 : Hp) (Q : VK) => Q (.str x) H1) (k Str.empty) fun B H G v r Q s h n q => by
    obtain ⟨_, rfl⟩ := h
    exact VPost.fz q s .str⟩
/-! ### a display of a dict -/
def flatP : List (V × V) → List V
  | [] => []
  | p :: ps => p.1 :: p.2 :: flatP ps
def unflat : List V → List (V × V)
  | x :: y :: r => (x, y) :: unflat r
  | _ => []
theorem unflat_flat : ∀ ps : List (V × V), unflat (flatP ps) = ps
  | [] => rfl
  | p :: ps => by
    show (p.1, p.2) :: unflat (flatP ps) = _
    rw [unflat_flat ps]
def PPr (X : Cx) (W : WX) (pos : Pos) (ks : List (Option Expr)) (vs : List Expr) (fr : Env → O (List RV)) : Prop := ∃ trs, PPs X pos ks vs trs ∧ EOk X W (lsR (rvR X.K X.mg)) (fun σ H Q => tPairs trs σ H fun ps H1 => Q (flatP ps) H1) fr
theorem d_nil : PPr X W pos [] [] aNil := ⟨[], pps_nil, fun B H F σ env Q S q => q [] B H [] .nil S.sub List.nodup_nil Frm.none⟩
theorem d_cons {k v : Expr} {ks : List (Option Expr)} {vs : List Expr} {fk fv : Env → O RV} {fr : Env → O (List RV)} (hk : PEr X W k fk) (hv : PEr X W v fv) (hr : PPr X W pos ks vs fr) : PPr X W pos (some k :: ks) (v :: vs) (aCons fk (aCons fv fr)) := by
  obtain ⟨tk, hk, kk⟩ := hk
  obtain ⟨tv, hv, kv⟩ := hv
  obtain ⟨trs, hr, kr⟩ := hr
  refine ⟨(tk, tv) :: trs, pps_cons hk hv hr, ?_⟩
  have z1 : EOk X W (lsR (rvR X.K X.mg)) (fun σ H Q => tv σ H fun y H1 => tPairs trs σ H1 fun ps H2 => Q (y :: flatP ps) H2) (aCons fv fr) :=
    EOk.andThen (jx := List.cons) (jb := List.cons) (u := fun _ σ H Q => tPairs trs σ H fun ps H1 => Q (flatP ps) H1) stb_rv (stb_ls stb_rv) (fun _ _ _ _ _ _ _ _ a b => .cons a b) kv fun _ _ _ => kr
  exact EOk.andThen (jx := List.cons) (jb := List.cons) (u := fun _ σ H Q => tv σ H fun y H1 => tPairs trs σ H1 fun ps H2 => Q (y :: flatP ps) H2) stb_rv (stb_ls stb_rv) (fun _ _ _ _ _ _ _ _ a b => .cons a b) kk fun _ _ _ => z1
def pairsK : List RV → Option (List (Key × OD))
  | [] => some []
  | [_] => none
  | k :: v :: r => match k.od, v, pairsK r with
    | .fz (.int i), .own o, some ps => some ((.inl i, o) :: ps)
    | .fz (.str x), .own o, some ps => some ((.inr x, o) :: ps)
    | _, _, _ => none
def gDisp (rs : List RV) : Option RV := match pairsK rs with
  | some ps => if ps.length ≤ 15 ∧ (ps.map (·.1)).Nodup then some (.own (.dK ps)) else none
  | none => none
theorem pairsK_inv {k v : RV} {r : List RV} {ps : List (Key × OD)} (h : pairsK (k :: v :: r) = some ps) :
    (∃ i o ps', k.od = .fz (.int i) ∧ v = .own o ∧ pairsK r = some ps' ∧ ps = (.inl i, o) :: ps') ∨ ∃ i o ps', k.od = .fz (.str i) ∧ v = .own o ∧ pairsK r = some ps' ∧ ps = (.inr i, o) :: ps' := by
  unfold pairsK at h
  split at h
  · cases h; exact .inl ⟨_, _, _, by assumption, rfl, by assumption, rfl⟩
  · cases h; exact .inr ⟨_, _, _, by assumption, rfl, by assumption, rfl⟩
  · cases h
theorem lsR_inv {α β : Type} {R : Rl α β} {B H : Hp} {G : List Addr} {x : α} {xs : List α} {rs : List β} (h : lsR R B H G (x :: xs) rs) : ∃ F G' r rs', G = F ++ G' ∧ rs = r :: rs' ∧ R B H F x r ∧ lsR R B H G' xs rs' := by
  cases h with
  | cons a b => exact ⟨_, _, _, _, rfl, rfl, a, b⟩
theorem pairs_rep {K : PySem.W.Frag} {mg : Str → Option Value} {B H : Hp} : ∀ (n : Nat) {G : List Addr} {qs : List (V × V)} {rs : List RV} {ps : List (Key × OD)}, rs.length ≤ n → lsR (rvR K mg) B H G (flatP qs) rs → pairsK rs = some ps →
    ∃ kvs : List (Key × V), qs = kvs.map (fun kv => (kV kv.1, kv.2)) ∧ kvs.map (·.1) = ps.map (·.1) ∧ OwnL K mg B H G (kvs.map (·.2)) (ps.map (·.2)) := by
  intro n
  induction n with
  | zero =>
    intro G qs rs ps hn h e
    cases rs with
    | cons r rs => simp at hn
    | nil =>
      cases e
      cases qs with
      | nil => cases h; exact ⟨[], rfl, rfl, .nil⟩
      | cons q qs => cases h
  | succ n ih =>
    intro G qs rs ps hn h e
    cases qs with
    | nil => cases h; cases e; exact ⟨[], rfl, rfl, .nil⟩
    | cons q qs =>
      obtain ⟨x, y⟩ := q
      have h : lsR (rvR K mg) B H G (x :: y :: flatP qs) rs := h
      obtain ⟨F1, G1, r1, rs1, rfl, rfl, h1, h3⟩ := lsR_inv h
      obtain ⟨F2, G2, r2, rs2, rfl, rfl, h2, h4⟩ := lsR_inv h3
      rcases pairsK_inv e with ⟨i, o, ps', ek, rfl, ep, rfl⟩ | ⟨i, o, ps', ek, rfl, ep, rfl⟩
      · have z1 := rv_fz h1 ek
        have z2 : F1 = [] := by
          cases r1 with
          | view o => exact h1.1
          | own o => have ek : o = .fz (.int i) := ek; subst ek; cases (show Own K mg B H F1 x (.fz (.int i)) from h1); rfl
        cases z1; subst z2
        obtain ⟨kvs, e1, e2, e3⟩ := ih (by simp at hn; omega) h4 ep
        exact ⟨(.inl i, y) :: kvs, by rw [e1]; rfl, by rw [List.map_cons, List.map_cons, e2], (OwnL.cons (show Own K mg B H F2 y o from h2) e3 : OwnL K mg B H (F2 ++ G2) (y :: kvs.map (·.2)) (o :: ps'.map (·.2)))⟩
      · have z1 := rv_fz h1 ek
        have z2 : F1 = [] := by
          cases r1 with
          | view o => exact h1.1
          | own o => have ek : o = .fz (.str i) := ek; subst ek; cases (show Own K mg B H F1 x (.fz (.str i)) from h1); rfl
        cases z1; subst z2
        obtain ⟨kvs, e1, e2, e3⟩ := ih (by simp at hn; omega) h4 ep
        exact ⟨(.inr i, y) :: kvs, by rw [e1]; rfl, by rw [List.map_cons, List.map_cons, e2], (OwnL.cons (show Own K mg B H F2 y o from h2) e3 : OwnL K mg B H (F2 ++ G2) (y :: kvs.map (·.2)) (o :: ps'.map (·.2)))⟩
theorem flat_of {K : PySem.W.Frag} {mg : Str → Option Value} {B H : Hp} : ∀ {rs : List RV} {G : List Addr} {vs : List V} {ps : List (Key × OD)}, lsR (rvR K mg) B H G vs rs → pairsK rs = some ps → ∃ qs, vs = flatP qs
  | [], _, _, _, h, _ => by cases h; exact ⟨[], rfl⟩
  | [_], _, _, _, _, e => nomatch e
  | k :: v :: rs, _, _, _, h, e => by
    cases h with
    | cons a h =>
      cases h with
      | cons b h =>
        unfold pairsK at e
        split at e
        · rename_i ep
          obtain ⟨qs, rfl⟩ := flat_of h ep
          exact ⟨(_, _) :: qs, rfl⟩
        · rename_i ep
          obtain ⟨qs, rfl⟩ := flat_of h ep
          exact ⟨(_, _) :: qs, rfl⟩
        · cases e
theorem putK_new {v : V} {k : Key} {kvs : List (Key × V)} (h : k ∉ kvs.map (·.1)) : putK kvs k v = kvs ++ [(k, v)] := by
  unfold putK
  rw [if_neg]
  intro z
  obtain ⟨x, hx, e⟩ := List.any_eq_true.mp z
  exact h (List.mem_map.mpr ⟨x, hx, by simpa using e⟩)
theorem merge_new : ∀ {more acc : List (Key × V)}, ((acc ++ more).map (·.1)).Nodup → mergeK acc more = acc ++ more
  | [], acc, _ => (List.append_nil acc).symm
  | p :: r, acc, h => by
    have n : p.1 ∉ acc.map (·.1) := by
      rw [List.map_append, List.map_cons] at h
      intro z
      exact (List.nodup_append.mp h).2.2 _ z _ List.mem_cons_self rfl
    have e : putK acc p.1 p.2 = acc ++ [p] := putK_new n
    show mergeK (putK acc p.1 p.2) r = _
    rw [e, merge_new (by simpa using h), List.append_assoc]; rfl
theorem r_disp {ks : List (Option Expr)} {vs : List Expr} {fr : Env → O (List RV)} (h : PPr X W pos ks vs fr) (hall : ks.all (·.isSome) = true := by rfl) (hl : ks.length = vs.length := by rfl) (h0 : ks ≠ [] := by exact nofun) (h15 : ks.length ≤ 15 := by exact by decide) :
    PEr X W (.Dict ks vs pos) (eL gDisp fr) := by
  obtain ⟨trs, h, k⟩ := h
  refine ⟨_, pe_disp h hall hl h0 h15, ?_⟩
  intro B H F σ env Q S q p hp
  have bp : B p = none := S.sub.free hp
  have f0 : Frm B H [] B (upd H p (.dK [])) [] := ⟨Same.refl _, fun a u e _ => by rw [upd_ne (ne_of_none e hp)]; exact e, fun _ _ _ _ b => b, fun _ z => nomatch z⟩
  have s0 : Same B (upd H p (.dK [])) := fun a u e => by rw [upd_ne (ne_of_none e bp)]; exact S.sub a u e
  have S1 : Sta X.K X.mg B (upd H p (.dK [])) F σ env := S.pure s0 f0
  have np : p ∉ F := fun z => by obtain ⟨_, u, e⟩ := S.sl.there p z; rw [hp] at e; cases e
  have f0F : Frm B H F B (upd H p (.dK [])) F := ⟨Same.refl _, fun a u e _ => by rw [upd_ne (ne_of_none e hp)]; exact e, fun _ _ _ _ b => b, fun _ z => .inl z⟩
  have cv : ∀ P : List (V × V) → Hp → Prop, tPairs trs σ (upd H p (.dK [])) (fun ps H1 => (fun xs H1 => P (unflat xs) H1) (flatP ps) H1) = tPairs trs σ (upd H p (.dK [])) P := fun P => by
    congr 1
    funext ps H1
    show P (unflat (flatP ps)) H1 = _
    rw [unflat_flat]
  obtain ⟨P, eP⟩ : ∃ P : List (V × V) → Hp → Prop, P = fun ps H2 => H2 p = some (.dK []) ∧ ∃ kvs : List (Key × V), ps = kvs.map (fun kv => (kV kv.1, kv.2)) ∧ kvs.length ≤ 15 ∧ Q (.ref p) (upd H2 p (.dK (mergeK [] kvs))) := ⟨_, rfl⟩
  show tPairs trs σ (upd H p (.dK [])) (fun ps H2 => H2 p = some (.dK []) ∧ ∃ kvs : List (Key × V), ps = kvs.map (fun kv => (kV kv.1, kv.2)) ∧ kvs.length ≤ 15 ∧ Q (.ref p) (upd H2 p (.dK (mergeK [] kvs))))
  rw [← eP, ← cv P]
  refine k B (upd H p (.dK [])) F σ env (fun xs H1 => P (unflat xs) H1) S1 ?_
  subst eP
  dsimp only [eL, O.mapP] at q
  -- the last step
  have fin : ∀ (vs1 : List V) (rs : List RV) (o : RV) (B1 H1 : Hp) (G F1 FF : List Addr), lsR (rvR X.K X.mg) B1 H1 G vs1 rs → Same B1 H1 → (G ++ F1).Nodup → p ∉ FF → Frm B (upd H p (.dK [])) FF B1 H1 (G ++ F1) → gDisp rs = some o →
      (∀ (kvs : List (Key × V)) (G1 : List Addr), rvR X.K X.mg B1 (upd H1 p (.dK kvs)) G1 (.ref p) o → Same B1 (upd H1 p (.dK kvs)) → (G1 ++ F1).Nodup → Frm B H FF B1 (upd H1 p (.dK kvs)) (G1 ++ F1) → (∀ a u, H1 a = some u → a ≠ p → upd H1 p (.dK kvs) a = some u) → p ∉ F1 → Q (.ref p) (upd H1 p (.dK kvs))) →
      H1 p = some (.dK []) ∧ ∃ kvs : List (Key × V), unflat vs1 = kvs.map (fun kv => (kV kv.1, kv.2)) ∧ kvs.length ≤ 15 ∧ Q (.ref p) (upd H1 p (.dK (mergeK [] kvs))) := by
    intro vs1 rs o B1 H1 G F1 FF r1 s1 n1 nF f1 eo fin
    have h1 : H1 p = some (.dK []) := f1.keep p _ upd_same nF
    have b1 : B1 p = none := f1.forg p _ upd_same nF bp
    have pG : p ∉ G ++ F1 := fun z => by
      rcases f1.fr p z with z | z
      · exact nF z
      · rw [upd_same] at z; cases z
    unfold gDisp at eo
    split at eo
    · rename_i ps ep
      split at eo
      · rename_i hz
        cases eo
        obtain ⟨qs, rfl⟩ : ∃ qs, vs1 = flatP qs := flat_of r1 ep
        obtain ⟨kvs, e1, e2, e3⟩ := pairs_rep _ (Nat.le_refl _) r1 ep
        have k15 : kvs.length ≤ 15 := by have := congrArg List.length e2; rw [List.length_map, List.length_map] at this; omega
        have nd : (kvs.map (·.1)).Nodup := by rw [e2]; exact hz.2
        refine ⟨h1, kvs, by rw [unflat_flat]; exact e1, k15, ?_⟩
        rw [merge_new (acc := []) (by simpa using nd), List.nil_append]
        have kp : ∀ a u, H1 a = some u → a ≠ p → upd H1 p (.dK kvs) a = some u := fun a u e n => by rw [upd_ne n]; exact e
        have pn : ∀ a u, H a = some u → a ≠ p := fun a u e n => by rw [n, hp] at e; cases e
        refine fin kvs (p :: G) (.dK upd_same b1 e2 (e3.mono (Same.refl _) fun a ha => ⟨fun u e => kp a u e fun z => pG (by rw [← z]; exact List.mem_append_left _ ha), (OwnL.there e3 a ha).1⟩)) (fun a u e => kp a u (s1 a u e) fun z => by rw [z, b1] at e; cases e) ?_ ⟨f1.sB, fun a u e n => ?_, fun a u e n z => ?_, fun a ha => ?_⟩ kp fun z => pG (List.mem_append_right _ z)
        · rw [List.cons_append]
          exact List.nodup_cons.mpr ⟨pG, n1⟩
        · exact kp a u (f1.keep a u (by rw [upd_ne (pn a u e)]; exact e) n) (pn a u e)
        · exact f1.forg a u (by rw [upd_ne (pn a u e)]; exact e) n z
        · rw [List.cons_append] at ha
          rcases List.mem_cons.mp ha with z | z
          · rw [z]; exact .inr hp
          · rcases f1.fr a z with y | y
            · exact .inl y
            · by_cases w : a = p
              · rw [w]; exact .inr hp
              · rw [upd_ne w] at y; exact .inr y
      · cases eo
    · cases eo
  cases e : fr env with
  | bad => rw [e] at q; exact q
  | exc c e1 =>
    rw [e] at q
    intro B1 H1 F1 S2 f1
    exact q B1 H1 F1 S2 (f0F.trans f1)
  | ok a =>
    rw [e] at q
    intro x B1 H1 G r1 s1 n1 f1
    dsimp only at q
    cases eo : gDisp a with
    | none => rw [eo] at q; exact q.elim
    | some o =>
      rw [eo] at q
      refine fin x a o B1 H1 G [] [] r1 s1 (by rw [List.append_nil]; exact n1) (fun z => nomatch z) (by rw [List.append_nil]; exact f1) eo fun kvs G1 ro so no fo _ _ => ?_
      rw [List.append_nil] at no fo
      exact q _ B1 _ G1 ro so no fo
  | eff a env1 =>
    rw [e] at q
    intro x B1 H1 G F1 r1 l1 s1 n1 f1
    dsimp only at q
    cases eo : gDisp a with
    | none => rw [eo] at q; exact q.elim
    | some o =>
      rw [eo] at q
      refine fin x a o B1 H1 G F1 F r1 s1 n1 np f1 eo fun kvs G1 ro so no fo kp pF => ?_
      exact q _ B1 _ G1 F1 ro (l1.mono (Same.refl _) fun a ha => ⟨fun u e => kp a u e fun z => pF (by rw [← z]; exact ha), (l1.there a ha).1⟩) so no fo
end
/-! ### typed -/
section
variable {α β : Type} {p1 p2 : Bool} {f fa : Env → O RV} {Γ Γ1 Γ' : Ctx} {r : RV}
theorem g_signs {z : Str} : gSigns (.own (.fz (.str z))) = some ((signs z).map D.str) := rfl
def dSgn : D → Option (List Str)
  | .str z => some (signs z)
  | _ => none
theorem g_signsA {d : D} {ys : List Str} (h : dSgn d = some ys) : gSigns (.own (.fz (eA d))) = some (ys.map D.str) := by
  cases d <;> first | (cases h; done) | (cases h; rfl)
def sixO (z : Str) (i : Int) : Option Str := if z.length ≤ sizeLine then (atI z.cps.toList i).map fun c => ⟨#[c]⟩ else none
theorem g_six {z y : Str} {i : Int} (h : sixO z i = some y) : gIx (.own (.fz (.str z)), .own (.fz (.int i))) = some (.own (.fz (.str y))) := by
  unfold sixO at h
  show (if z.length ≤ sizeLine then (atI z.cps.toList i).map fun c => RV.own (.fz (.str ⟨#[c]⟩)) else none) = _
  split at h
  · rename_i hl
    rw [if_pos hl]
    cases q : atI z.cps.toList i with
    | none => rw [q] at h; cases h
    | some c => rw [q] at h; cases h; rfl
  · cases h
def sslO (z : Str) (lo hi : Option Int) : Option Str := if z.length ≤ sizeLine then some (cutS z lo hi) else none
theorem g_ssl {z y : Str} {lo hi : Option Int} (h : sslO z lo hi = some y) : gSl ((.own (.fz (.str z)), lo), hi) = some (.own (.fz (.str y))) := by
  unfold sslO at h
  show (if z.length ≤ sizeLine then some (RV.own (.fz (.str (cutS z lo hi)))) else none) = _
  split at h
  · rename_i hl; cases h; rw [if_pos hl]
  · cases h
def lenSO (z : Str) : Option Int := if z.length ≤ sizeLine then some (z.length : Int) else none
theorem g_lenSt {z : Str} {n : Int} (h : lenSO z = some n) : gLen [.own (.fz (.str z))] = some (.own (.fz (.int n))) := by
  unfold lenSO at h
  split at h
  · rename_i hl
    cases h
    simp [gLen, OD.len, hl]
  · cases h
def sinO (x y : Str) : Bool := !(Builtin.Str.occurrences y x 0 y.length 1).isEmpty
theorem g_sin {x y : Str} : gIn (.own (.fz (.str x)), .own (.fz (.str y))) = some (.own (.fz (.bl (sinO x y)))) := rfl
theorem g_nsin {x y : Str} : gNotIn (.own (.fz (.str x)), .own (.fz (.str y))) = some (.own (.fz (.bl (!sinO x y)))) := rfl
def uppO (z : Str) : Option Str := if z.length ≤ 5592405 then some (Txt.upper z) else none
theorem g_upper {z y : Str} (h : uppO z = some y) : gUpper (.own (.fz (.str z))) = some (.own (.fz (.str y))) := by
  unfold uppO at h
  show (if z.length ≤ 5592405 then some (RV.own (.fz (.str (Txt.upper z)))) else none) = _
  split at h
  · rename_i hl; cases h; rw [if_pos hl]
  · cases h
def joinO (a : Str) (ys : List Str) : Option Str := if (ys.map (·.length)).sum + ys.length * a.length ≤ 16777216 then some (Txt.join a ys) else none
theorem g_join {a y : Str} {ys : List Str} (hr : r.od.items = some (ys.map D.str)) (h : joinO a ys = some y) : gJoin a r = some (.own (.fz (.str y))) := by
  unfold joinO at h
  unfold gJoin
  rw [hr]
  dsimp only
  rw [dStrs_map]
  dsimp only
  split at h
  · rename_i hl; cases h; rw [if_pos hl]
  · cases h
def splO (b a : Str) : Option (List Str) := if (b.length == 0) = false ∧ a.length + 2 ≤ sizeLine then some (Txt.split a b) else none
theorem g_split {a b : Str} {ys : List Str} (h : splO b a = some ys) : gSplit b (.own (.fz (.str a))) = some (.own (.lst (ys.map (oF D.str)))) := by
  unfold splO at h
  show (if (b.length == 0) = false ∧ a.length + 2 ≤ sizeLine then some (RV.own (.lst (((Txt.split a b).map D.str).map .fz))) else none) = _
  split at h
  · rename_i hl; cases h; rw [if_pos hl, List.map_map]; rfl
  · cases h
def fsO (z : Str) : Option Str := if z.length ≤ sizeLine then some z else none
theorem g_fmtS {z y : Str} (h : fsO z = some y) : gFmt (.own (.fz (.str z))) = some (.own (.fz (.str y))) := by
  unfold fsO at h
  show (if z.length ≤ sizeLine then some (RV.own (.fz (.str z))) else none) = _
  split at h
  · rename_i hl; cases h; rw [if_pos hl]
  · cases h
theorem g_fmtI {i : Int} {y : Str} (h : strO i = some y) : gFmt (.own (.fz (.int i))) = some (.own (.fz (.str y))) := by
  unfold strO at h
  show (if i.natAbs.log2 < 1920 then some (RV.own (.fz (.str (toString i)))) else none) = _
  split at h
  · rename_i hl; cases h; rw [if_pos hl]
  · cases h
def accO (acc y : Str) : Option Str := if (acc ++ y).length ≤ sizeLine then some (acc ++ y) else none
theorem ev_jnil {acc : Str} : Ev false (fJs [] acc) Γ acc Γ := fun env w => .inl ⟨rfl, w⟩
theorem ev_jcons {acc a y z : Str} {fs : List (Env → O RV)} (h : Ev p1 f Γ (.own (.fz (.str y))) Γ1) (e : accO acc y = some a) (h' : Ev p2 (fJs fs a) Γ1 z Γ') : Ev (p1 || p2) (fJs (f :: fs) acc) Γ z Γ' := by
  refine ev_then (x := RV.own (.fz (.str y))) (z := z) (safe := RV.safe) (k := fun r e => match gAcc acc r with | some a => fJs fs a e | none => .bad) (jn := fun _ y => y) h ?_ (by simp [RV.safe])
  have : gAcc acc (.own (.fz (.str y))) = some a := by
    unfold accO at e
    show (if (acc ++ y).length ≤ sizeLine then some (acc ++ y) else none) = _
    exact e
  intro env w
  show (_ ∧ _) ∨ _
  rw [this]
  exact h' env w
theorem ev_joined {fs : List (Env → O RV)} {z : Str} (h : Ev p1 (fJs fs Str.empty) Γ z Γ') : Ev p1 (fun env => (fJs fs Str.empty env).mapP gStrV) Γ (.own (.fz (.str z))) Γ' := ev_map h rfl
theorem frzO_D {ps : List (Key × OD)} {ds : List (Key × D)} (h : frzK ps = some ds) : frzO (.dK ps) = some (.fz (.dK ds)) := by
  show (frz (.dK ps)).map OD.fz = _
  unfold frz
  rw [h]; rfl
theorem g_disp1 {k v : D} {q : Key} (hk : (match k with | .int i => some (Sum.inl i) | .str x => some (Sum.inr x) | _ => none : Option Key) = some q := by rfl) : gDisp [.own (.fz k), .own (.fz v)] = some (.own (.dK [(q, .fz v)])) := by
  cases k <;> first | (cases hk; done) | (cases hk; rfl)
def dLenX : D → Option Int
  | .str z => lenSO z
  | d => dLen d
theorem g_lenX {d : D} {n : Int} (h : dLenX d = some n) : gLen [.own (.fz d)] = some (.own (.fz (.int n))) := by
  cases d <;> first | exact g_lenA h | exact g_lenSt h
def sadO (x y : Str) : Option Str := if x.length + y.length ≤ sizeLine then some (x ++ y) else none
theorem g_sad {x y z : Str} (h : sadO x y = some z) : gAdd (.own (.fz (.str x)), .own (.fz (.str y))) = some (.own (.fz (.str z))) := by
  unfold sadO at h
  show (if x.length + y.length ≤ sizeLine then some (RV.own (.fz (.str (x ++ y)))) else none) = _
  split at h
  · rename_i hl; cases h; rw [if_pos hl]
  · cases h
theorem frzK_nil : frzK [] = some [] := by unfold frzK; rfl
theorem frzK_cons {q : Key} {v : D} {ps : List (Key × OD)} {ds : List (Key × D)} (h : frzK ps = some ds) : frzK ((q, .fz v) :: ps) = some ((q, v) :: ds) := by
  unfold frzK
  rw [frz_fz, h]
end
end Tl
namespace Law
open PySem PySem.Spec L2 Tl
def topS (i : Nat) : Stmt := PySem.Challenge.pw_satchelmeet_k85_names.main.body.getD i (.Pass ⟨0, 0, 0, 0⟩)
theorem boot_len_ : bootBuiltins "len" = some (.builtin "len") := by decide +kernel
theorem boot_isinstance_ : bootBuiltins "isinstance" = some (.builtin "isinstance") := by decide +kernel
theorem boot_min_ : bootBuiltins "min" = some (.builtin "min") := by decide +kernel
theorem boot_max_ : bootBuiltins "max" = some (.builtin "max") := by decide +kernel
theorem boot_sum_ : bootBuiltins "sum" = some (.builtin "sum") := by decide +kernel
theorem boot_all_ : bootBuiltins "all" = some (.builtin "all") := by decide +kernel
theorem boot_any_ : bootBuiltins "any" = some (.builtin "any") := by decide +kernel
theorem boot_sorted_ : bootBuiltins "sorted" = some (.builtin "sorted") := by decide +kernel
theorem boot_list_ : bootBuiltins "list" = some (.type "list") := by decide +kernel
theorem boot_tuple_ : bootBuiltins "tuple" = some (.type "tuple") := by decide +kernel
theorem boot_int_ : bootBuiltins "int" = some (.type "int") := by decide +kernel
theorem boot_bool_ : bootBuiltins "bool" = some (.type "bool") := by decide +kernel
theorem boot_str_ : bootBuiltins "str" = some (.type "str") := by decide +kernel
theorem boot_dict_ : bootBuiltins "dict" = some (.type "dict") := by decide +kernel
theorem boot_ValueError_ : bootBuiltins "ValueError" = some (.type "ValueError") := by decide +kernel
def N_is_name : List Str := ["thing", "sign"]
def k_is_name_1 : Tl.Env → O RV :=
  (eLc (fun env => ((eVar 0) env).mapP gSigns) (cSet 1) bYes (e2 gIn (eVar 1) (eC (.str "abcdefghijklmnopqrstuvwxyz"))) [1])
def b_is_name : Tl.Env → SO :=
  (sSeq (sIf (bOr (bNot (tV (fun r => r.od.tru) (e1 (gIsi .str) (eVar 0)))) (bNot (tV RV.bool? (e3c (g2i fun i j => some (iLe i j)) (g2i fun i j => some (iLe i j)) (eC (.int 1)) (eL gLen (aCons (eVar 0) aNil)) (eC (.int 8))))))
  (sRet (eC (.bl false)))
  sNx)
  (sRet (eL (gBs fun bs => bs.all id) (aCons (lendE 0 RV.nf k_is_name_1) aNil))))
def m_is_name : List OD → FO := runB 1 [] b_is_name
def N__law_purse : List Str := ["_law_script", "_law_k", "_law_cell", "_law_left"]
def b__law_purse : Tl.Env → SO :=
  (sSeq (sAsg (eC (.int 0)) (gSet 2))
  (sSeq (sIf (tV RV.bool? (e2 (g2i fun i j => some (iLt i j)) (eVar 1) (eL gLen (aCons (eVar 0) aNil))))
  (sAsg (e2 gIx (eVar 0) (eVar 1)) (gSet 2))
  sNx)
  (sSeq (sAsg (eC (.int 0)) (gSet 3))
  (sSeq (sIf (tV RV.bool? (e2 (g2i fun i j => some (iLt i j)) (eVar 2) (eC (.int 0))))
  (sAsg (e2 (g2i fun i j => some (iSub i j)) (e1 gNeg (eC (.int 1))) (eVar 2)) (gSet 3))
  sNx)
  (sSeq (sIf (tV RV.bool? (e2 (g2i fun i j => some (iGe i j)) (eVar 2) (e2 (g2i iPow) (eC (.int 10)) (eC (.int 18)))))
  (sAsg (eFrz 2) (gSet 3))
  sNx)
  (sRet (eL gLst (aCons (eMove 3) (aCons (e2 (g2i iMod) (e2 gAdd (e2 gAdd (e2 gMul (eVar 2) (eC (.int 69))) (e2 gMul (eVar 1) (eC (.int 40503)))) (eC (.int 271))) (eC (.int 2147483647))) (aCons (eC (.int 0)) aNil))))))))))
def m__law_purse : List OD → FO := runB 2 [] b__law_purse
def N__law_take : List Str := ["_law_purse_here", "_law_many", "_law_digit", "_law_mixed"]
def b__law_take : Tl.Env → SO :=
  (sSeq (sIf (tV RV.bool? (e2 (g2i fun i j => some (iGt i j)) (e2 gIx (eVar 0) (eC (.int 0))) (eC (.int 0))))
  (sSeq (sAsg (e2 (g2i iMod) (e2 gIx (eVar 0) (eC (.int 0))) (eVar 1)) (gSet 2))
  (sSeq (sAsg (e2 (g2i iDiv) (e2 gIx (eVar 0) (eC (.int 0))) (eVar 1)) (gSub (vGet 0) (vPut 0) (eC (.int 0))))
  (sRet (eMove 2))))
  sNx)
  (sSeq (sAugS (vGet 0) (vPut 0) (eC (.int 2)) (fun i j => some (i + j)) (eC (.int 1)))
  (sSeq (sAsg (e2 (g2i iMod) (e2 gMul (e2 gAdd (e2 gIx (eVar 0) (eC (.int 1))) (e2 gMul (e2 gIx (eVar 0) (eC (.int 2))) (eC (.int 362437)))) (eC (.int 48271))) (eC (.int 2147483647))) (gSet 3))
  (sSeq (sAsg (e2 (g2i iMod) (e2 gAdd (e2 gAdd (e2 gMul (eVar 3) (eVar 3)) (e2 gMul (e2 gIx (eVar 0) (eC (.int 2))) (eC (.int 104729)))) (e2 gIx (eVar 0) (eC (.int 1)))) (eC (.int 2147483629))) (gSet 3))
  (sRet (e2 (g2i iMod) (e2 (g2i iDiv) (e2 (g2i iMod) (e2 gMul (eVar 3) (eC (.int 16807))) (eC (.int 2147483563))) (eC (.int 3))) (eVar 1)))))))
def m__law_take : List OD → FO := runB 2 [0] b__law_take
def N__law_word : List Str := ["_law_purse_here", "_law_found", "_law_k"]
def l__law_word_1 : Tl.Env → SO :=
  (sAsg (e2 gAdd (eVar 1) (e2 gIx (eC (.str "abcdefghijklmnopqrstuvwxyz")) (eCall m__law_take (cIo 0 (cVal (eC (.int 26)) cNil))))) (gSet 1))
def b__law_word : Tl.Env → SO :=
  (sSeq (sAsg (eC (.str "")) (gSet 1))
  (sSeq (sFor (fun env => ((aCons (e2 gAdd (eC (.int 1)) (eCall m__law_take (cIo 0 (cVal (eC (.int 8)) cNil)))) aNil) env).mapP gR1) (gSet 2) l__law_word_1)
  (sRet (eMove 1))))
def m__law_word : List OD → FO := runB 2 [0] b__law_word
def N__law_no_name : List Str := ["_law_purse_here", "_law_word_here", "_law_place", "_law_sign", "_law_spoiled", "_law_long", "_law_some"]
def b__law_no_name : Tl.Env → SO :=
  (sSeq (sAsg (eCall m__law_take (cIo 0 (cVal (eL gLen (aCons (eVar 1) aNil)) cNil))) (gSet 2))
  (sSeq (sAsg (e2 gIx (eL gLst (aCons (eC (.str "A")) (aCons (eC (.str "Z")) (aCons (eC (.str "0")) (aCons (eC (.str "9")) (aCons (eC (.str " ")) (aCons (eC (.str "\n")) (aCons (eC (.str "_")) (aCons (eC (.str "-")) (aCons (eC (.str ":")) (aCons (eC (.str "{")) (aCons (eC (.str "~")) aNil)))))))))))) (eCall m__law_take (cIo 0 (cVal (eC (.int 11)) cNil)))) (gSet 3))
  (sSeq (sAsg (e2 gAdd (e2 gAdd (eSl3 (eVar 1) pNo (pSo (eVar 2))) (eVar 3)) (eSl3 (eVar 1) (pSo (e2 gAdd (eVar 2) (eC (.int 1)))) pNo)) (gSet 4))
  (sSeq (sAsg (e2 gAdd (eSl3 (e2 gAdd (eVar 1) (eC (.str "abcdefgh"))) pNo (pSo (eC (.int 8)))) (eC (.str "a"))) (gSet 5))
  (sSeq (sAsg (eL gLst (aCons (eC (.str "")) (aCons (eFrz 5) (aCons (eFrz 4) (aCons (eFrz 4) (aCons (eFrz 4) (aCons (e2 gAdd (eVar 1) (eC (.str " "))) (aCons (eC (.int 7)) (aCons (eC (.bl true)) (aCons (eC .non) aNil)))))))))) (gSet 6))
  (sSeq (sAsg (e2 gAdd (eVar 6) (eL gLst (aCons (e1 gFrzX (eL gLst (aCons (eFrz 1) aNil))) (aCons (eL gTup (aCons (eFrz 1) aNil)) (aCons (e1 gFrzX (eL gDisp (aCons (eVar 1) (aCons (eC (.int 0)) aNil)))) (aCons (e1 gUpper (eVar 1)) aNil)))))) (gSet 6))
  (sRet (e2 gIx (eFrz 6) (eCall m__law_take (cIo 0 (cVal (eC (.int 13)) cNil)))))))))))
def m__law_no_name : List OD → FO := runB 5 [0] b__law_no_name
def N_law : List Str := ["_law_script", "_law_turn", "_law_k", "_law_purse_here", "_law_word_here"]
def l_law_1 : Tl.Env → SO :=
  (sSeq (sAsg (eCall m__law_purse (cVal (eVar 0) (cVal (eVar 2) cNil))) (gSet 3))
  (sSeq (sAsg (eCall m__law_word (cIo 3 cNil)) (gSet 4))
  (sSeq (sIf (tV RV.bool? (e2 gNotX (eCall m_is_name (cVal (eVar 4) cNil)) (eC (.bl true))))
  (sRet (eC (.bl false)))
  sNx)
  (sIf (tV RV.bool? (e2 gNotX (eCall m_is_name (cVal (eCall m__law_no_name (cIo 3 (cVal (eFrz 4) cNil))) cNil)) (eC (.bl false))))
  (sRet (eC (.bl false)))
  sNx))))
def l_law_2 : Tl.Env → SO :=
  (sFor (fun env => ((aCons (eL gMin (aCons (eL gMax (aCons (eL gLen (aCons (eVar 0) aNil)) (aCons (eC (.int 1)) aNil))) (aCons (eC (.int 40)) aNil))) aNil) env).mapP gR1) (gSet 2) l_law_1)
def b_law : Tl.Env → SO :=
  (sSeq (sFor (fun env => ((aCons (eC (.int 2)) aNil) env).mapP gR1) (gSet 1) l_law_2)
  (sRet (eC (.bl true))))
def m_law : List OD → FO := runB 4 [] b_law
end Law
set_option synthInstance.maxSize 2000
set_option synthInstance.maxHeartbeats 400000
namespace Law
open PySem PySem.Spec L2 Tl
def t_is_name (thing_ : D) : Option Bool :=
  (Option.bind (if (!((D.ty thing_).is .str)) then some true else (Option.bind (dLenX thing_) fun n1 =>
  some (!((decide ((1 : Int) ≤ n1)) && (decide (n1 ≤ (8 : Int))))))) fun b2 =>
  (if b2 then some false
  else (Option.bind (dSgn thing_) fun z3 =>
  (Option.bind (lcO z3 (fun x4 => some true) (fun x4 => some (sinO x4 ("abcdefghijklmnopqrstuvwxyz" : Str)))) fun l5 =>
  some (l5.all id)))))
set_option maxHeartbeats 800000 in
theorem S_is_name (thing_ : D) : Sk (PF (fun (z : Bool) => (oF D.bl) z) (fun (z : Bool) => [none, none])) b_is_name ((([(oF eA) thing_] ++ List.replicate 1 OD.un).map some)) (t_is_name thing_) :=
  ((sk_bind fun b2 hb2 => (sk_if (ev_wm (e := fun (z : (Bool)) => z) (G := fun (z : (Bool)) => [some ((oF eA) thing_), some .un]) hb2 (wm_or0 (ev_not (ev_tru (ev_e1 (ev_varF 0 rfl) isi_fz) rfl)) (fun _ => (wm_bind fun n1 hn1 => (wm_ret (ev_not (ev_bool (ev_ch ev_c (ev_eL (ev_cons (ev_varF 0 rfl) ev_nil rfl) (g_lenX hn1)) rfl g_le rfl (fun _ => ev_c) (fun _ => g_le))))))) rfl [true, true] rfl)) (fun _ => (sk_ret ev_c (pf_rt [false, false] rfl rfl))) (fun _ => (sk_nx (sk_last (sk_bind fun z3 hz3 => (sk_bind fun l5 hl5 => (sk_ret (ev_eL (ev_cons (ev_lendF 0 rfl (ev_lc (e := D.str) (o := (oF D.bl)) (Gb := fun x4 => [some ((oF eA) thing_), some ((oF D.str) x4)]) hl5 (ev_map (ev_varF 0 rfl) (g_signsA hz3)) rfl rfl (fun x4 => (cc_set 1)) (fun x4 => wm_yes) (fun x4 => (wm_ret (ev_e2 (ev_varF 1 rfl) ev_c rfl g_sin))))) ev_nil rfl) (g_all (it_L (e := D.bl) (xs := l5)))) (pf_rt [false, false] rfl rfl))))))))) : Sk (PF (fun (z : Bool) => (oF D.bl) z) (fun (z : Bool) => [none, none])) b_is_name [some ((oF eA) thing_), some .un] (t_is_name thing_))
theorem T_is_name {thing_ : D} {x : Bool} (h : t_is_name thing_ = some x) : m_is_name [(oF eA) thing_] = .ret ((oF D.bl) x) [(oF eA) thing_] :=
  run_tp (eR := fun (z : Bool) => (oF D.bl) z) (G := fun (z : Bool) => [none, none]) (S_is_name thing_) h rfl
def t__law_purse (script_ : (List Int)) (k_ : Int) : Option (List Int) :=
  (Option.bind (if (decide (k_ < (script_.length : Int))) then (Option.bind (ixO script_ k_) fun x1 =>
  some x1)
  else some (0 : Int) : Option Int) fun s2 =>
  (Option.bind (if (decide (s2 < (0 : Int))) then some ((-(1 : Int)) - s2)
  else some (0 : Int) : Option Int) fun s3 =>
  (Option.bind (powO (10 : Int) (18 : Int)) fun n4 =>
  (Option.bind (if (decide (n4 ≤ s2)) then some s2
  else some s3 : Option Int) fun s5 =>
  (Option.bind (mulO s2 (69 : Int)) fun n6 =>
  (Option.bind (mulO k_ (40503 : Int)) fun n7 =>
  (Option.bind (modO ((n6 + n7) + (271 : Int)) (2147483647 : Int)) fun n8 =>
  some [s5, n8, (0 : Int)])))))))
set_option maxHeartbeats 800000 in
theorem S__law_purse (script_ : (List Int)) (k_ : Int) : Sk (PF (fun (z : (List Int)) => (oL (oF D.int)) z) (fun (z : (List Int)) => [none, none, none, none])) b__law_purse ((([(oF eSc) script_, (oF D.int) k_] ++ List.replicate 2 OD.un).map some)) (t__law_purse script_ k_) :=
  ((sk_asg (Γ2 := [some ((oF eSc) script_), some ((oF D.int) k_), some ((oF D.int) (0 : Int)), some .un]) ev_c (tg_set 2 rfl) (sk_join (G := fun (z : Int) => [some ((oF eSc) script_), some ((oF D.int) k_), some ((oF D.int) z), some .un]) (sk_last (sk_if (ev_bool (ev_e2 (ev_varF 1 rfl) (ev_eL (ev_cons (ev_varF 0 rfl) ev_nil rfl) g_lenS) rfl g_lt)) (fun _ => ((sk_bind fun x1 hx1 => (sk_asg (Γ2 := [some ((oF eSc) script_), some ((oF D.int) k_), some ((oF D.int) x1), some .un]) (ev_e2 (ev_varF 0 rfl) (ev_varF 1 rfl) rfl (g_ixS hx1)) (tg_set 2 rfl) (sk_end (pj_nx [true, true, true, true] rfl)))))) (fun _ => ((sk_nx (sk_end (pj_nx [true, true, true, true] rfl))))))) (fun s2 => (sk_asg (Γ2 := [some ((oF eSc) script_), some ((oF D.int) k_), some ((oF D.int) s2), some ((oF D.int) (0 : Int))]) ev_c (tg_set 3 rfl) (sk_join (G := fun (z : Int) => [some ((oF eSc) script_), some ((oF D.int) k_), some ((oF D.int) s2), some ((oF D.int) z)]) (sk_last (sk_if (ev_bool (ev_e2 (ev_varF 2 rfl) ev_c rfl g_lt)) (fun _ => ((sk_asg (Γ2 := [some ((oF eSc) script_), some ((oF D.int) k_), some ((oF D.int) s2), some ((oF D.int) ((-(1 : Int)) - s2))]) (ev_e2 (ev_e1 ev_c g_neg) (ev_varF 2 rfl) rfl g_isub) (tg_set 3 rfl) (sk_end (pj_nx [true, true, true, true] rfl))))) (fun _ => ((sk_nx (sk_end (pj_nx [true, true, true, true] rfl))))))) (fun s3 => (sk_bind fun n4 hn4 => (sk_join (G := fun (z : Int) => [some ((oF eSc) script_), some ((oF D.int) k_), some ((oF D.int) s2), some ((oF D.int) z)]) (sk_last (sk_if (ev_bool (ev_e2 (ev_varF 2 rfl) (ev_e2 ev_c ev_c rfl (g_pow hn4)) rfl g_ge)) (fun _ => ((sk_asg (Γ2 := [some ((oF eSc) script_), some ((oF D.int) k_), some ((oF D.int) s2), some ((oF D.int) s2)]) (ev_frzF 2 rfl) (tg_set 3 rfl) (sk_end (pj_nx [true, true, true, true] rfl))))) (fun _ => ((sk_nx (sk_end (pj_nx [true, true, true, true] rfl))))))) (fun s5 => (sk_last (sk_bind fun n6 hn6 => (sk_bind fun n7 hn7 => (sk_bind fun n8 hn8 => (sk_ret (ev_eL (ev_cons (ev_move 3 rfl rfl) (ev_cons (ev_e2 (ev_e2 (ev_e2 (ev_e2 (ev_varF 2 rfl) ev_c rfl (g_mul hn6)) (ev_e2 (ev_varF 1 rfl) ev_c rfl (g_mul hn7)) rfl g_iadd) ev_c rfl g_iadd) ev_c rfl (g_mod hn8)) (ev_cons ev_c ev_nil rfl) rfl) rfl) g_l3) (pf_rt [false, false, false, false] rfl rfl))))))))))))))) : Sk (PF (fun (z : (List Int)) => (oL (oF D.int)) z) (fun (z : (List Int)) => [none, none, none, none])) b__law_purse [some ((oF eSc) script_), some ((oF D.int) k_), some .un, some .un] (t__law_purse script_ k_))
theorem T__law_purse {script_ : (List Int)} {k_ : Int} {x : (List Int)} (h : t__law_purse script_ k_ = some x) : m__law_purse [(oF eSc) script_, (oF D.int) k_] = .ret ((oL (oF D.int)) x) [(oF eSc) script_, (oF D.int) k_] :=
  run_tp (eR := fun (z : (List Int)) => (oL (oF D.int)) z) (G := fun (z : (List Int)) => [none, none, none, none]) (S__law_purse script_ k_) h rfl
def t__law_take (purse_here_ : (List Int)) (many_ : Int) : Option (Int × (List Int)) :=
  (Option.bind (ixO purse_here_ (0 : Int)) fun x1 =>
  (if (decide ((0 : Int) < x1)) then (Option.bind (ixO purse_here_ (0 : Int)) fun x2 =>
  (Option.bind (modO x2 many_) fun n3 =>
  (Option.bind (ixO purse_here_ (0 : Int)) fun x4 =>
  (Option.bind (divO x4 many_) fun n5 =>
  (Option.bind (setO purse_here_ (0 : Int) n5) fun s6 =>
  some (n3, s6))))))
  else (Option.bind (ixO purse_here_ (2 : Int)) fun x7 =>
  (Option.bind (setO purse_here_ (2 : Int) (x7 + (1 : Int))) fun s8 =>
  (Option.bind (ixO s8 (1 : Int)) fun x9 =>
  (Option.bind (ixO s8 (2 : Int)) fun x10 =>
  (Option.bind (mulO x10 (362437 : Int)) fun n11 =>
  (Option.bind (mulO (x9 + n11) (48271 : Int)) fun n12 =>
  (Option.bind (modO n12 (2147483647 : Int)) fun n13 =>
  (Option.bind (mulO n13 n13) fun n14 =>
  (Option.bind (ixO s8 (2 : Int)) fun x15 =>
  (Option.bind (mulO x15 (104729 : Int)) fun n16 =>
  (Option.bind (ixO s8 (1 : Int)) fun x17 =>
  (Option.bind (modO ((n14 + n16) + x17) (2147483629 : Int)) fun n18 =>
  (Option.bind (mulO n18 (16807 : Int)) fun n19 =>
  (Option.bind (modO n19 (2147483563 : Int)) fun n20 =>
  (Option.bind (divO n20 (3 : Int)) fun n21 =>
  (Option.bind (modO n21 many_) fun n22 =>
  some (n22, s8)))))))))))))))))))
set_option maxHeartbeats 800000 in
theorem S__law_take (purse_here_ : (List Int)) (many_ : Int) : Sk (PF (fun (z : (Int × (List Int))) => (oF D.int) z.1) (fun (z : (Int × (List Int))) => [some ((oL (oF D.int)) z.2), none, none, none])) b__law_take ((([(oL (oF D.int)) purse_here_, (oF D.int) many_] ++ List.replicate 2 OD.un).map some)) (t__law_take purse_here_ many_) :=
  ((sk_bind fun x1 hx1 => (sk_if (ev_bool (ev_e2 (ev_e2 (ev_varL 0 rfl) ev_c rfl (g_ixLF rfl hx1)) ev_c rfl g_gt)) (fun _ => (sk_assoc (sk_bind fun x2 hx2 => (sk_bind fun n3 hn3 => (sk_asg (Γ2 := [some ((oL (oF D.int)) purse_here_), some ((oF D.int) many_), some ((oF D.int) n3), some .un]) (ev_e2 (ev_e2 (ev_varL 0 rfl) ev_c rfl (g_ixLF rfl hx2)) (ev_varF 1 rfl) rfl (g_mod hn3)) (tg_set 2 rfl) (sk_assoc (sk_bind fun x4 hx4 => (sk_bind fun n5 hn5 => (sk_bind fun s6 hs6 => (sk_asg (Γ2 := [some ((oL (oF D.int)) s6), some ((oF D.int) many_), some ((oF D.int) n3), some .un]) (ev_e2 (ev_e2 (ev_varL 0 rfl) ev_c rfl (g_ixLF rfl hx4)) (ev_varF 1 rfl) rfl (g_div hn5)) (tg_sub (o := (oF D.int)) (v := n5) 0 rfl ev_c hs6) (sk_ret (ev_move 2 rfl rfl) (pf_rt [true, false, false, false] rfl rfl)))))))))))) (fun _ => (sk_nx (sk_bind fun x7 hx7 => (sk_bind fun s8 hs8 => (sk_augS 0 rfl ev_c ev_c hx7 rfl hs8 (sk_bind fun x9 hx9 => (sk_bind fun x10 hx10 => (sk_bind fun n11 hn11 => (sk_bind fun n12 hn12 => (sk_bind fun n13 hn13 => (sk_asg (Γ2 := [some ((oL (oF D.int)) s8), some ((oF D.int) many_), some .un, some ((oF D.int) n13)]) (ev_e2 (ev_e2 (ev_e2 (ev_e2 (ev_varL 0 rfl) ev_c rfl (g_ixLF rfl hx9)) (ev_e2 (ev_e2 (ev_varL 0 rfl) ev_c rfl (g_ixLF rfl hx10)) ev_c rfl (g_mul hn11)) rfl g_iadd) ev_c rfl (g_mul hn12)) ev_c rfl (g_mod hn13)) (tg_set 3 rfl) (sk_bind fun n14 hn14 => (sk_bind fun x15 hx15 => (sk_bind fun n16 hn16 => (sk_bind fun x17 hx17 => (sk_bind fun n18 hn18 => (sk_asg (Γ2 := [some ((oL (oF D.int)) s8), some ((oF D.int) many_), some .un, some ((oF D.int) n18)]) (ev_e2 (ev_e2 (ev_e2 (ev_e2 (ev_varF 3 rfl) (ev_varF 3 rfl) rfl (g_mul hn14)) (ev_e2 (ev_e2 (ev_varL 0 rfl) ev_c rfl (g_ixLF rfl hx15)) ev_c rfl (g_mul hn16)) rfl g_iadd) (ev_e2 (ev_varL 0 rfl) ev_c rfl (g_ixLF rfl hx17)) rfl g_iadd) ev_c rfl (g_mod hn18)) (tg_set 3 rfl) (sk_last (sk_bind fun n19 hn19 => (sk_bind fun n20 hn20 => (sk_bind fun n21 hn21 => (sk_bind fun n22 hn22 => (sk_ret (ev_e2 (ev_e2 (ev_e2 (ev_e2 (ev_varF 3 rfl) ev_c rfl (g_mul hn19)) ev_c rfl (g_mod hn20)) ev_c rfl (g_div hn21)) (ev_varF 1 rfl) rfl (g_mod hn22)) (pf_rt [true, false, false, false] rfl rfl)))))))))))))))))))))))))) : Sk (PF (fun (z : (Int × (List Int))) => (oF D.int) z.1) (fun (z : (Int × (List Int))) => [some ((oL (oF D.int)) z.2), none, none, none])) b__law_take [some ((oL (oF D.int)) purse_here_), some ((oF D.int) many_), some .un, some .un] (t__law_take purse_here_ many_))
theorem T__law_take {purse_here_ : (List Int)} {many_ : Int} {x : (Int × (List Int))} (h : t__law_take purse_here_ many_ = some x) : m__law_take [(oL (oF D.int)) purse_here_, (oF D.int) many_] = .ret ((oF D.int) x.1) [(oL (oF D.int)) x.2, (oF D.int) many_] :=
  run_tp (eR := fun (z : (Int × (List Int))) => (oF D.int) z.1) (G := fun (z : (Int × (List Int))) => [some ((oL (oF D.int)) z.2), none, none, none]) (S__law_take purse_here_ many_) h rfl
def t__law_word_l1 (x3 : Int) (q5 : (List Int)) (q6 : Str) : Option ((List Int) × Str) :=
  (Option.bind (t__law_take q5 (26 : Int)) fun v7 =>
  (Option.bind (sixO ("abcdefghijklmnopqrstuvwxyz" : Str) v7.1) fun t8 =>
  (Option.bind (sadO q6 t8) fun c9 =>
  some (v7.2, c9))))
def t__law_word (purse_here_ : (List Int)) : Option (Str × (List Int)) :=
  (Option.bind (t__law_take purse_here_ (8 : Int)) fun v1 =>
  (Option.bind (rg1 ((1 : Int) + v1.1)) fun r2 =>
  (Option.bind (forO r2 ((v1.2, ("" : Str)) : ((List Int) × Str)) (fun x3 (s4 : ((List Int) × Str)) => t__law_word_l1 x3 s4.1 s4.2)) fun s10 =>
  some (s10.2, s10.1))))
set_option maxHeartbeats 800000 in
theorem S__law_word (purse_here_ : (List Int)) : Sk (PF (fun (z : (Str × (List Int))) => (oF D.str) z.1) (fun (z : (Str × (List Int))) => [some ((oL (oF D.int)) z.2), none, none])) b__law_word ((([(oL (oF D.int)) purse_here_] ++ List.replicate 2 OD.un).map some)) (t__law_word purse_here_) :=
  ((sk_asg (Γ2 := [some ((oL (oF D.int)) purse_here_), some ((oF D.str) ("" : Str)), some .un]) ev_c (tg_set 1 rfl) (sk_bind fun v1 hv1 => (sk_bind fun r2 hr2 => (sk_for (eX := D.int) (G := fun (z : ((List Int) × Str)) => [some ((oL (oF D.int)) z.1), some ((oF D.str) z.2), none]) (Gb := fun x3 (s4 : ((List Int) × Str)) => [some ((oL (oF D.int)) s4.1), some ((oF D.str) s4.2), some ((oF D.int) x3)]) (s0 := ((v1.2, ("" : Str)) : ((List Int) × Str))) (tb := fun x3 (s4 : ((List Int) × Str)) => t__law_word_l1 x3 s4.1 s4.2) [true, true, false] (ev_map (ev_cons (ev_e2 ev_c (ev_call (ev_cio 0 rfl rfl (ev_cval ev_c ev_cnil rfl)) (.io rfl rfl (.rv rfl .nil)) (T__law_take  hv1) rfl rfl) rfl g_iadd) ev_nil rfl) (g_rg1 hr2)) rfl (fun x3 s4 => (tg_set 2 rfl)) (fun x3 s4 => (sk_last (sk_bind fun v7 hv7 => (sk_bind fun t8 ht8 => (sk_bind fun c9 hc9 => (sk_asg (Γ2 := [some ((oL (oF D.int)) v7.2), some ((oF D.str) c9), some ((oF D.int) x3)]) (ev_e2 (ev_varF 1 rfl) (ev_e2 ev_c (ev_call (ev_cio 0 rfl rfl (ev_cval ev_c ev_cnil rfl)) (.io rfl rfl (.rv rfl .nil)) (T__law_take  hv7) rfl rfl) rfl (g_six ht8)) rfl (g_sad hc9)) (tg_set 1 rfl) (sk_end (pl_nx [true, true, false] rfl)))))))) (fun s10 => (sk_last (sk_ret (ev_move 1 rfl rfl) (pf_rt [true, false, false] rfl rfl)))))))) : Sk (PF (fun (z : (Str × (List Int))) => (oF D.str) z.1) (fun (z : (Str × (List Int))) => [some ((oL (oF D.int)) z.2), none, none])) b__law_word [some ((oL (oF D.int)) purse_here_), some .un, some .un] (t__law_word purse_here_))
theorem T__law_word {purse_here_ : (List Int)} {x : (Str × (List Int))} (h : t__law_word purse_here_ = some x) : m__law_word [(oL (oF D.int)) purse_here_] = .ret ((oF D.str) x.1) [(oL (oF D.int)) x.2] :=
  run_tp (eR := fun (z : (Str × (List Int))) => (oF D.str) z.1) (G := fun (z : (Str × (List Int))) => [some ((oL (oF D.int)) z.2), none, none]) (S__law_word purse_here_) h rfl
def t__law_no_name (purse_here_ : (List Int)) (word_here_ : Str) : Option (D × (List Int)) :=
  (Option.bind (lenSO word_here_) fun n1 =>
  (Option.bind (t__law_take purse_here_ n1) fun v2 =>
  (Option.bind (t__law_take v2.2 (11 : Int)) fun v3 =>
  (Option.bind (ixO [("A" : Str), ("Z" : Str), ("0" : Str), ("9" : Str), (" " : Str), ("\n" : Str), ("_" : Str), ("-" : Str), (":" : Str), ("{" : Str), ("~" : Str)] v3.1) fun x4 =>
  (Option.bind (sslO word_here_ none (some v2.1)) fun t5 =>
  (Option.bind (sadO t5 x4) fun c6 =>
  (Option.bind (sslO word_here_ (some (v2.1 + (1 : Int))) none) fun t7 =>
  (Option.bind (sadO c6 t7) fun c8 =>
  (Option.bind (sadO word_here_ ("abcdefgh" : Str)) fun c9 =>
  (Option.bind (sslO c9 none (some (8 : Int))) fun t10 =>
  (Option.bind (sadO t10 ("a" : Str)) fun c11 =>
  (Option.bind (sadO word_here_ (" " : Str)) fun c12 =>
  (Option.bind (uppO word_here_) fun t13 =>
  (Option.bind (catO [(D.str ("" : Str)), (D.str c11), (D.str c8), (D.str c8), (D.str c8), (D.str c12), (D.int (7 : Int)), (D.bl true), (eN ())] ([((eLs D.str) [word_here_]), ((eT1 D.str) word_here_), (D.dK [(.inr word_here_, D.int (0 : Int))]), (D.str t13)])) fun c14 =>
  (Option.bind (t__law_take v3.2 (13 : Int)) fun v15 =>
  (Option.bind (ixO c14 v15.1) fun x16 =>
  some (x16, v15.2)))))))))))))))))
set_option maxHeartbeats 800000 in
theorem S__law_no_name (purse_here_ : (List Int)) (word_here_ : Str) : Sk (PF (fun (z : (D × (List Int))) => (oF eA) z.1) (fun (z : (D × (List Int))) => [some ((oL (oF D.int)) z.2), none, none, none, none, none, none])) b__law_no_name ((([(oL (oF D.int)) purse_here_, (oF D.str) word_here_] ++ List.replicate 5 OD.un).map some)) (t__law_no_name purse_here_ word_here_) :=
  ((sk_bind fun n1 hn1 => (sk_bind fun v2 hv2 => (sk_asg (Γ2 := [some ((oL (oF D.int)) v2.2), some ((oF D.str) word_here_), some ((oF D.int) v2.1), some .un, some .un, some .un, some .un]) (ev_call (ev_cio 0 rfl rfl (ev_cval (ev_eL (ev_cons (ev_varF 1 rfl) ev_nil rfl) (g_lenSt hn1)) ev_cnil rfl)) (.io rfl rfl (.rv rfl .nil)) (T__law_take  hv2) rfl rfl) (tg_set 2 rfl) (sk_bind fun v3 hv3 => (sk_bind fun x4 hx4 => (sk_asg (Γ2 := [some ((oL (oF D.int)) v3.2), some ((oF D.str) word_here_), some ((oF D.int) v2.1), some ((oF D.str) x4), some .un, some .un, some .un]) (ev_e2 (ev_eL (ev_cons ev_c (ev_cons ev_c (ev_cons ev_c (ev_cons ev_c (ev_cons ev_c (ev_cons ev_c (ev_cons ev_c (ev_cons ev_c (ev_cons ev_c (ev_cons ev_c (ev_cons ev_c ev_nil rfl) rfl) rfl) rfl) rfl) rfl) rfl) rfl) rfl) rfl) rfl) g_l11) (ev_call (ev_cio 0 rfl rfl (ev_cval ev_c ev_cnil rfl)) (.io rfl rfl (.rv rfl .nil)) (T__law_take  hv3) rfl rfl) rfl (g_ixLF rfl hx4)) (tg_set 3 rfl) (sk_bind fun t5 ht5 => (sk_bind fun c6 hc6 => (sk_bind fun t7 ht7 => (sk_bind fun c8 hc8 => (sk_asg (Γ2 := [some ((oL (oF D.int)) v3.2), some ((oF D.str) word_here_), some ((oF D.int) v2.1), some ((oF D.str) x4), some ((oF D.str) c8), some .un, some .un]) (ev_e2 (ev_e2 (ev_sl (ev_varF 1 rfl) ev_pno (ev_pso (ev_varF 2 rfl)) rfl (g_ssl ht5)) (ev_varF 3 rfl) rfl (g_sad hc6)) (ev_sl (ev_varF 1 rfl) (ev_pso (ev_e2 (ev_varF 2 rfl) ev_c rfl g_iadd)) ev_pno rfl (g_ssl ht7)) rfl (g_sad hc8)) (tg_set 4 rfl) (sk_bind fun c9 hc9 => (sk_bind fun t10 ht10 => (sk_bind fun c11 hc11 => (sk_asg (Γ2 := [some ((oL (oF D.int)) v3.2), some ((oF D.str) word_here_), some ((oF D.int) v2.1), some ((oF D.str) x4), some ((oF D.str) c8), some ((oF D.str) c11), some .un]) (ev_e2 (ev_sl (ev_e2 (ev_varF 1 rfl) ev_c rfl (g_sad hc9)) ev_pno (ev_pso ev_c) rfl (g_ssl ht10)) ev_c rfl (g_sad hc11)) (tg_set 5 rfl) (sk_bind fun c12 hc12 => (sk_asg (Γ2 := [some ((oL (oF D.int)) v3.2), some ((oF D.str) word_here_), some ((oF D.int) v2.1), some ((oF D.str) x4), some ((oF D.str) c8), some ((oF D.str) c11), some ((oL (oF eA)) [(D.str ("" : Str)), (D.str c11), (D.str c8), (D.str c8), (D.str c8), (D.str c12), (D.int (7 : Int)), (D.bl true), (eN ())])]) (ev_eL (ev_cons ev_c (ev_cons (ev_frzF 5 rfl) (ev_cons (ev_frzF 4 rfl) (ev_cons (ev_frzF 4 rfl) (ev_cons (ev_frzF 4 rfl) (ev_cons (ev_e2 (ev_varF 1 rfl) ev_c rfl (g_sad hc12)) (ev_cons ev_c (ev_cons ev_c (ev_cons ev_c ev_nil rfl) rfl) rfl) rfl) rfl) rfl) rfl) rfl) rfl) g_l9) (tg_set 6 rfl) (sk_bind fun t13 ht13 => (sk_bind fun c14 hc14 => (sk_asg (Γ2 := [some ((oL (oF D.int)) v3.2), some ((oF D.str) word_here_), some ((oF D.int) v2.1), some ((oF D.str) x4), some ((oF D.str) c8), some ((oF D.str) c11), some ((oL (oF eA)) c14)]) (ev_e2 (ev_varL 6 rfl) (ev_eL (ev_cons (ev_frzX (ev_eL (ev_cons (ev_frzF 1 rfl) ev_nil rfl) g_l1) (frzO_L (e := D.str) (xs := [word_here_]))) (ev_cons (ev_eL (ev_cons (ev_frzF 1 rfl) ev_nil rfl) g_tp1) (ev_cons (ev_frzX (ev_eL (ev_cons (ev_varF 1 rfl) (ev_cons ev_c ev_nil rfl) rfl) (g_disp1 (k := D.str word_here_) (v := D.int (0 : Int)))) (frzO_D (frzK_cons frzK_nil))) (ev_cons (ev_e1 (ev_varF 1 rfl) (g_upper ht13)) ev_nil rfl) rfl) rfl) rfl) g_l4) rfl (g_catL (li_L (e := eA) (xs := [(D.str ("" : Str)), (D.str c11), (D.str c8), (D.str c8), (D.str c8), (D.str c12), (D.int (7 : Int)), (D.bl true), (eN ())])) (li_L (e := eA) (xs := [((eLs D.str) [word_here_]), ((eT1 D.str) word_here_), (D.dK [(.inr word_here_, D.int (0 : Int))]), (D.str t13)])) hc14)) (tg_set 6 rfl) (sk_last (sk_bind fun v15 hv15 => (sk_bind fun x16 hx16 => (sk_ret (ev_e2 (ev_frz 6 rfl) (ev_call (ev_cio 0 rfl rfl (ev_cval ev_c ev_cnil rfl)) (.io rfl rfl (.rv rfl .nil)) (T__law_take  hv15) rfl rfl) rfl (g_ixF hx16)) (pf_rt [true, false, false, false, false, false, false] rfl rfl))))))))))))))))))))))))) : Sk (PF (fun (z : (D × (List Int))) => (oF eA) z.1) (fun (z : (D × (List Int))) => [some ((oL (oF D.int)) z.2), none, none, none, none, none, none])) b__law_no_name [some ((oL (oF D.int)) purse_here_), some ((oF D.str) word_here_), some .un, some .un, some .un, some .un, some .un] (t__law_no_name purse_here_ word_here_))
theorem T__law_no_name {purse_here_ : (List Int)} {word_here_ : Str} {x : (D × (List Int))} (h : t__law_no_name purse_here_ word_here_ = some x) : m__law_no_name [(oL (oF D.int)) purse_here_, (oF D.str) word_here_] = .ret ((oF eA) x.1) [(oL (oF D.int)) x.2, (oF D.str) word_here_] :=
  run_tp (eR := fun (z : (D × (List Int))) => (oF eA) z.1) (G := fun (z : (D × (List Int))) => [some ((oL (oF D.int)) z.2), none, none, none, none, none, none]) (S__law_no_name purse_here_ word_here_) h rfl
def t_law_l1 (script_ : (List Int)) (x5 : Int) : Option (LS Unit Bool) :=
  (Option.bind (t__law_purse script_ x5) fun v7 =>
  (Option.bind (t__law_word v7) fun v8 =>
  (Option.bind (t_is_name (D.str v8.1)) fun v9 =>
  (if (!decide (v9 = true)) then some (.ret false)
  else (Option.bind (t__law_no_name v8.2 v8.1) fun v10 =>
  (Option.bind (t_is_name v10.1) fun v11 =>
  (if (!decide (v11 = false)) then some (.ret false)
  else some (.go ()))))))))
def t_law_l2 (script_ : (List Int)) (x2 : Int) : Option (LS Unit Bool) :=
  (Option.bind (rg1 (min (max (script_.length : Int) (1 : Int)) (40 : Int))) fun r4 =>
  (Option.bind (forX r4 (() : Unit) (fun x5 (s6 : Unit) => t_law_l1 script_ x5)) fun y => y.elim (fun s12 =>
  some (.go ()))
  (fun r => some (LS.ret r))))
def t_law (script_ : (List Int)) : Option Bool :=
  (Option.bind (rg1 (2 : Int)) fun r1 =>
  (Option.bind (forX r1 (() : Unit) (fun x2 (s3 : Unit) => t_law_l2 script_ x2)) fun y => y.elim (fun s13 =>
  some true)
  (fun r => some r)))
set_option maxHeartbeats 800000 in
theorem S_law (script_ : (List Int)) : Sk (PF (fun (z : Bool) => (oF D.bl) z) (fun (z : Bool) => [none, none, none, none, none])) b_law ((([(oF eSc) script_] ++ List.replicate 4 OD.un).map some)) (t_law script_) :=
  ((sk_bind fun r1 hr1 => (sk_forX (eX := D.int) (G := fun (z : Unit) => [some ((oF eSc) script_), none, none, none, none]) (PR := PF (fun (z : Bool) => (oF D.bl) z) (fun (z : Bool) => [none, none, none, none, none])) (Gb := fun x2 (s3 : Unit) => [some ((oF eSc) script_), some ((oF D.int) x2), none, none, none]) (s0 := (() : Unit)) (tb := fun x2 (s3 : Unit) => t_law_l2 script_ x2) (inj := fun r => r) [true, false, false, false, false] (ev_map (ev_cons ev_c ev_nil rfl) (g_rg1 hr1)) rfl (fun x2 s3 => (tg_set 1 rfl)) (fun x2 s3 => (sk_last (sk_bind fun r4 hr4 => (sk_forX (eX := D.int) (G := fun (z : Unit) => [some ((oF eSc) script_), some ((oF D.int) x2), none, none, none]) (PR := PF (fun (z : Bool) => (oF D.bl) z) (fun (z : Bool) => [none, none, none, none, none])) (Gb := fun x5 (s6 : Unit) => [some ((oF eSc) script_), some ((oF D.int) x2), some ((oF D.int) x5), none, none]) (s0 := (() : Unit)) (tb := fun x5 (s6 : Unit) => t_law_l1 script_ x5) (inj := fun r => (LS.ret r)) [true, true, false, false, false] (ev_map (ev_cons (ev_eL (ev_cons (ev_eL (ev_cons (ev_eL (ev_cons (ev_varF 0 rfl) ev_nil rfl) g_lenS) (ev_cons ev_c ev_nil rfl) rfl) g_max) (ev_cons ev_c ev_nil rfl) rfl) g_min) ev_nil rfl) (g_rg1 hr4)) rfl (fun x5 s6 => (tg_set 2 rfl)) (fun x5 s6 => (sk_bind fun v7 hv7 => (sk_asg (Γ2 := [some ((oF eSc) script_), some ((oF D.int) x2), some ((oF D.int) x5), some ((oL (oF D.int)) v7), none]) (ev_call (ev_cval (ev_varF 0 rfl) (ev_cval (ev_varF 2 rfl) ev_cnil rfl) rfl) (.rv rfl (.rv rfl .nil)) (T__law_purse  hv7) rfl rfl) (tg_set 3 rfl) (sk_bind fun v8 hv8 => (sk_asg (Γ2 := [some ((oF eSc) script_), some ((oF D.int) x2), some ((oF D.int) x5), some ((oL (oF D.int)) v8.2), some ((oF D.str) v8.1)]) (ev_call (ev_cio 3 rfl rfl ev_cnil) (.io rfl rfl .nil) (T__law_word  hv8) rfl rfl) (tg_set 4 rfl) (sk_bind fun v9 hv9 => (sk_if (ev_bool (ev_e2 (ev_call (ev_cval (ev_varF 4 rfl) ev_cnil rfl) (.rv rfl .nil) (T_is_name  (thing_ := (D.str v8.1)) hv9) rfl rfl) ev_c rfl x_notB)) (fun _ => (sk_ret ev_c (px_rt (pf_rt [false, false, false, false, false] rfl rfl)))) (fun _ => (sk_nx (sk_last (sk_bind fun v10 hv10 => (sk_bind fun v11 hv11 => (sk_if (ev_bool (ev_e2 (ev_call (ev_cval (ev_call (ev_cio 3 rfl rfl (ev_cval (ev_frzF 4 rfl) ev_cnil rfl)) (.io rfl rfl (.rv rfl .nil)) (T__law_no_name  hv10) rfl rfl) ev_cnil rfl) (.rv rfl .nil) (T_is_name  hv11) rfl rfl) ev_c rfl x_notB)) (fun _ => (sk_ret ev_c (px_rt (pf_rt [false, false, false, false, false] rfl rfl)))) (fun _ => (sk_nx (sk_end (px_nx [true, true, false, false, false] rfl))))))))))))))))) (fun _ _ a b => ⟨a, b⟩) (fun s12 => (sk_end (px_nx [true, false, false, false, false] rfl))))))) (fun _ _ a _ => a) (fun s13 => (sk_last (sk_ret ev_c (pf_rt [false, false, false, false, false] rfl rfl)))))) : Sk (PF (fun (z : Bool) => (oF D.bl) z) (fun (z : Bool) => [none, none, none, none, none])) b_law [some ((oF eSc) script_), some .un, some .un, some .un, some .un] (t_law script_))
theorem T_law {script_ : (List Int)} {x : Bool} (h : t_law script_ = some x) : m_law [(oF eSc) script_] = .ret ((oF D.bl) x) [(oF eSc) script_] :=
  run_tp (eR := fun (z : Bool) => (oF D.bl) z) (G := fun (z : Bool) => [none, none, none, none, none]) (S_law script_) h rfl
end Law
namespace Law
open PySem PySem.Spec L2 Tl

/-! ### the purse of numbers -/
def IsP (p : List Int) : Prop := ∃ l c t : Int, p = [l, c, t] ∧ 0 ≤ l
theorem take_ok {p : List Int} (h : IsP p) {n : Int} (h0 : 0 < n) (h1 : n < 340282366920938463463374607431768211456) : ∃ v q, t__law_take p n = some (v, q) ∧ 0 ≤ v ∧ v < n ∧ IsP q := by
  obtain ⟨l, c, t, rfl, hl⟩ := h
  have m1 : ∀ x : Int, -18446744073709551616 < x % 2147483647 ∧ x % 2147483647 < 18446744073709551616 := fun x => by omega
  by_cases h : 0 < l
  · refine ⟨l % n, [l / n, c, t], by simp [t__law_take, h, h0, h1], Int.emod_nonneg _ (by omega), Int.emod_lt_of_pos _ h0, _, _, _, rfl, Int.ediv_nonneg (by omega) (by omega)⟩
  · refine ⟨_, [l, c, t + 1], by simp [t__law_take, h, h0, h1, m1]; rfl, Int.emod_nonneg _ (by omega), Int.emod_lt_of_pos _ h0, _, _, _, rfl, hl⟩
theorem purse_ok (ns : List Int) {k : Int} (h0 : 0 ≤ k) : ∃ p, t__law_purse ns k = some p ∧ IsP p := by
  have key : ∀ (x s3 : Int), 0 ≤ s3 → ∃ p, (Option.bind (powO (10 : Int) (18 : Int)) fun n4 => (Option.bind (if (decide (n4 ≤ x)) then some x else some s3 : Option Int) fun s5 => (Option.bind (mulO x (69 : Int)) fun n6 => (Option.bind (mulO k (40503 : Int)) fun n7 => (Option.bind (modO ((n6 + n7) + (271 : Int)) (2147483647 : Int)) fun n8 => some [s5, n8, (0 : Int)]))))) = some p ∧ IsP p := fun x s3 hs => by
    by_cases h : 1000000000000000000 ≤ x
    · exact ⟨[x, _, 0], by simp [h]; rfl, x, _, _, rfl, by omega⟩
    · exact ⟨[s3, _, 0], by simp [h]; rfl, s3, _, _, rfl, hs⟩
  have k2 : ∀ x : Int, ∃ p, (Option.bind (if (decide (x < (0 : Int))) then some ((-(1 : Int)) - x) else some (0 : Int) : Option Int) fun s3 => (Option.bind (powO (10 : Int) (18 : Int)) fun n4 => (Option.bind (if (decide (n4 ≤ x)) then some x else some s3 : Option Int) fun s5 => (Option.bind (mulO x (69 : Int)) fun n6 => (Option.bind (mulO k (40503 : Int)) fun n7 => (Option.bind (modO ((n6 + n7) + (271 : Int)) (2147483647 : Int)) fun n8 => some [s5, n8, (0 : Int)])))))) = some p ∧ IsP p := fun x => by
    by_cases h : x < 0
    · simpa [h] using key x (-1 - x) (by omega)
    · simpa [h] using key x 0 (by omega)
  unfold t__law_purse
  by_cases h : k < ns.length
  · obtain ⟨x, e, _⟩ := ixO_ok h0 h
    simpa only [h, decide_true, if_true, e, Option.bind_some] using k2 x
  · simpa only [h, decide_false, Bool.false_eq_true, if_false, Option.bind_some] using k2 0
end Law
namespace Law
open PySem PySem.Spec L2 Tl
/-! ### texts, plainly: lists of signs -/
abbrev sg (z : Str) : List Nat := z.cps.toList
theorem sg_len (z : Str) : z.length = (sg z).length := by show z.cps.size = _; simp
theorem sg_add (x y : Str) : sg (x ++ y) = sg x ++ sg y := by
  show (x.cps ++ y.cps).toList = _
  simp
theorem sg_cut (z : Str) (lo hi : Option Int) : sg (cutS z lo hi) = cutL (sg z) lo hi := by
  show (List.toArray _).toList = _
  rw [sg_len]
  rfl
theorem big_line {n : Nat} (h : n ≤ 1000000) : n ≤ sizeLine := sizeLine_big h
theorem sad_e {x y : Str} (h : (sg x).length + (sg y).length ≤ 1000000) : sadO x y = some (x ++ y) := by
  unfold sadO
  rw [if_pos (by rw [sg_len, sg_len]; exact big_line h)]
theorem ssl_e {z : Str} {lo hi : Option Int} (h : (sg z).length ≤ 1000000) : sslO z lo hi = some (cutS z lo hi) := by
  unfold sslO
  rw [if_pos (by rw [sg_len]; exact big_line h)]
theorem lenS_e {z : Str} (h : (sg z).length ≤ 1000000) : lenSO z = some ((sg z).length : Int) := by
  unfold lenSO
  rw [if_pos (by rw [sg_len]; exact big_line h), sg_len]
theorem six_e {z : Str} {i : Int} (h : (sg z).length ≤ 1000000) (h0 : 0 ≤ i) (h1 : i < (sg z).length) : ∃ c, c ∈ sg z ∧ sixO z i = some ⟨#[c]⟩ ∧ (sg z)[i.toNat]? = some c := by
  have hi : i.toNat < (sg z).length := by omega
  refine ⟨(sg z)[i.toNat], List.getElem_mem hi, ?_, List.getElem?_eq_getElem hi⟩
  unfold sixO
  rw [if_pos (by rw [sg_len]; exact big_line h)]
  have : atI (sg z) i = some (sg z)[i.toNat] := by
    have := ixO_nn (xs := sg z) h0 h1
    rw [List.getElem?_eq_getElem hi] at this
    exact this
  rw [this]; rfl
theorem sin_one (c : Nat) (z : Str) : sinO ⟨#[c]⟩ z = decide (c ∈ sg z) := PySem.StrLaws.found_one z c
theorem signs_e (z : Str) : signs z = (sg z).map fun c => ⟨#[c]⟩ := rfl
end Law
namespace Law
open PySem PySem.Spec L2 Tl
abbrev SMALL : Str := ("abcdefghijklmnopqrstuvwxyz" : Str)
theorem small_sg : sg SMALL = (List.range 26).map (· + 97) := by decide +kernel
theorem small_iff {c : Nat} : c ∈ sg SMALL ↔ 97 ≤ c ∧ c ≤ 122 := by
  rw [small_sg, List.mem_map]
  constructor
  · rintro ⟨k, hk, rfl⟩
    have := List.mem_range.mp hk
    omega
  · intro h
    exact ⟨c - 97, List.mem_range.mpr (by omega), by omega⟩
def lowB (c : Nat) : Bool := decide (97 ≤ c ∧ c ≤ 122)
theorem name_str {z : Str} (h : (sg z).length ≤ 1000) : t_is_name (.str z) = some (decide (1 ≤ (sg z).length ∧ (sg z).length ≤ 8) && (sg z).all lowB) := by
  unfold t_is_name
  have e1 : dLenX (.str z) = some ((sg z).length : Int) := lenS_e (by omega)
  have e2 : dSgn (.str z) = some (signs z) := rfl
  have e3 : ((D.ty (.str z)).is .str) = true := rfl
  rw [e3]
  simp only [Bool.not_true, Bool.false_eq_true, if_false, e1, e2, Option.bind_some]
  have e4 : lcO (signs z) (fun _ => some true) (fun x4 => some (sinO x4 SMALL)) = some ((sg z).map lowB) := by
    rw [lcO_all (f := fun x4 : Str => sinO x4 SMALL) (by rw [signs_e, List.length_map]; omega), signs_e, List.map_map]
    congr 1
    refine List.map_congr_left fun c _ => ?_
    show sinO ⟨#[c]⟩ SMALL = lowB c
    rw [sin_one]
    unfold lowB
    rw [Bool.eq_iff_iff, decide_eq_true_iff, decide_eq_true_iff, small_iff]
  by_cases hl : 1 ≤ (sg z).length ∧ (sg z).length ≤ 8
  · have l1 : (1 : Int) ≤ ((sg z).length : Int) := by omega
    have l2 : ((sg z).length : Int) ≤ 8 := by omega
    simp only [l1, l2, decide_true, Bool.and_self, Bool.not_true, Bool.false_eq_true, if_false, e4, Option.bind_some, hl, and_self, Bool.true_and]
    rw [List.all_map]; rfl
  · have l1 : ¬ ((1 : Int) ≤ ((sg z).length : Int) ∧ ((sg z).length : Int) ≤ 8) := by omega
    have : (decide ((1 : Int) ≤ ((sg z).length : Int)) && decide (((sg z).length : Int) ≤ 8)) = false := by
      rw [← Bool.decide_and, decide_eq_false_iff_not]; exact l1
    rw [this, decide_eq_false hl, Bool.false_and]
    rfl
/-- what is no text is no name -/
theorem name_not {d : D} (h : (D.ty d).is .str = false) : t_is_name d = some false := by
  unfold t_is_name
  rw [h]; rfl
/-- a name -/
structure Word (w : Str) : Prop where
  l0 : 1 ≤ (sg w).length
  l1 : (sg w).length ≤ 8
  low : ∀ c ∈ sg w, 97 ≤ c ∧ c ≤ 122
theorem word_ok {p : List Int} (hp : IsP p) : ∃ w q, t__law_word p = some (w, q) ∧ Word w ∧ IsP q := by
  obtain ⟨v, q, e1, v0, v1, h1⟩ := take_ok hp (n := 8) (by decide) (by decide)
  have es0 : sg (q, ("" : Str)).2 = [] := (by decide +kernel : sg ("" : Str) = [])
  obtain ⟨s, es, a1, a2, a3⟩ := forO_inv (P := fun i (s : List Int × Str) => IsP s.1 ∧ (sg s.2).length = i ∧ ∀ c ∈ sg s.2, 97 ≤ c ∧ c ≤ 122) (f := fun x3 (s4 : ((List Int) × Str)) => t__law_word_l1 x3 s4.1 s4.2) ((List.range (1 + v).toNat).map fun k : Nat => (k : Int)) (q, ("" : Str)) 0 ⟨h1, by rw [es0]; rfl, by rw [es0]; exact nofun⟩ fun i x s hx ⟨b1, b2, b3⟩ => by
    have hi : i < (1 + v).toNat := by have := (List.getElem?_eq_some_iff.mp hx).1; simpa using this
    rw [Nat.zero_add] at b2 ⊢
    obtain ⟨u, q2, e2, u0, u1, h2⟩ := take_ok b1 (n := 26) (by decide) (by decide)
    have sl : (sg SMALL).length = 26 := by rw [small_sg]; rfl
    obtain ⟨c, hc, e3, _⟩ := six_e (z := SMALL) (by omega) u0 (by rw [sl]; exact u1)
    refine ⟨(q2, s.2 ++ ⟨#[c]⟩), ?_, h2, by show (sg (s.2 ++ _)).length = _; rw [sg_add, List.length_append, b2]; rfl, fun d hd => ?_⟩
    · unfold t__law_word_l1
      rw [e2, Option.bind_some, e3, Option.bind_some, sad_e (by rw [b2]; show i + 1 ≤ _; omega), Option.bind_some]
    · have hd : d ∈ sg (s.2 ++ ⟨#[c]⟩) := hd
      rw [sg_add] at hd
      rcases List.mem_append.mp hd with hd | hd
      · exact b3 d hd
      · have : d = c := by simpa using hd
        rw [this]; exact small_iff.mp hc
  have ln : ((List.range (1 + v).toNat).map fun k : Nat => (k : Int)).length = (1 + v).toNat := by simp
  rw [ln, Nat.zero_add] at a2
  refine ⟨s.2, s.1, ?_, ⟨by omega, by omega, a3⟩, a1⟩
  unfold t__law_word
  rw [e1, Option.bind_some, rg1_e (by omega) (by omega), Option.bind_some, es, Option.bind_some]
theorem all_bad {l : List Nat} {c : Nat} (h : c ∈ l) (hc : lowB c = false) : l.all lowB = false := by
  rw [Bool.eq_false_iff]
  intro z
  have := List.all_eq_true.mp z c h
  rw [hc] at this; cases this
theorem name_bad {z : Str} {c : Nat} (hl : (sg z).length ≤ 1000) (h : c ∈ sg z) (hc : lowB c = false) : t_is_name (.str z) = some false := by
  rw [name_str hl, all_bad h hc, Bool.and_false]
theorem name_long {z : Str} (hl : (sg z).length ≤ 1000) (h : 8 < (sg z).length) : t_is_name (.str z) = some false := by
  have : ¬ (1 ≤ (sg z).length ∧ (sg z).length ≤ 8) := by omega
  rw [name_str hl, decide_eq_false this, Bool.false_and]
def SIGNS : List Str := [("A" : Str), ("Z" : Str), ("0" : Str), ("9" : Str), (" " : Str), ("\n" : Str), ("_" : Str), ("-" : Str), (":" : Str), ("{" : Str), ("~" : Str)]
theorem sign_bad : ∀ s ∈ SIGNS, ∃ c, sg s = [c] ∧ lowB c = false := by
  intro s hs
  have : (SIGNS.all fun s => match sg s with | [c] => !lowB c | _ => false) = true := by decide +kernel
  have := List.all_eq_true.mp this s hs
  cases q : sg s with
  | nil => rw [q] at this; cases this
  | cons c t =>
    cases t with
    | nil => rw [q] at this; exact ⟨c, rfl, by simpa using this⟩
    | cons _ _ => rw [q] at this; cases this
theorem cut_le {z : Str} {lo hi : Option Int} : (sg (cutS z lo hi)).length ≤ (sg z).length := by
  have := cutS_length z lo hi
  rwa [sg_len, sg_len] at this
theorem no_name_ok {p : List Int} (hp : IsP p) {w : Str} (W : Word w) : ∃ d q, t__law_no_name p w = some (d, q) ∧ t_is_name d = some false ∧ IsP q := by
  have l0 := W.l0; have l1 := W.l1
  obtain ⟨v, q1, e1, v0, v1, h1⟩ := take_ok hp (n := ((sg w).length : Int)) (by omega) (by omega)
  obtain ⟨u, q2, e2, u0, u1, h2⟩ := take_ok h1 (n := 11) (by decide) (by decide)
  obtain ⟨s, e3, hs⟩ := ixO_ok (xs := SIGNS) u0 (show u < (11 : Int) from u1)
  obtain ⟨c, sc, hc⟩ := sign_bad s hs
  have sl : (sg s).length = 1 := by rw [sc]; rfl
  obtain ⟨P, eP⟩ : ∃ P, P = cutS w none (some v) := ⟨_, rfl⟩
  obtain ⟨R, eR⟩ : ∃ R, R = cutS w (some (v + 1)) none := ⟨_, rfl⟩
  have lP : (sg P).length ≤ 8 := by rw [eP]; exact Nat.le_trans cut_le l1
  have lR : (sg R).length ≤ 8 := by rw [eR]; exact Nat.le_trans cut_le l1
  have lA : (sg ("abcdefgh" : Str)).length = 8 := by decide +kernel
  have la : (sg ("a" : Str)).length = 1 := by decide +kernel
  have lb : sg (" " : Str) = [32] := by decide +kernel
  obtain ⟨L, eL⟩ : ∃ L, L = cutS (w ++ ("abcdefgh" : Str)) none (some 8) := ⟨_, rfl⟩
  have lwA : (sg (w ++ ("abcdefgh" : Str))).length = (sg w).length + 8 := by rw [sg_add, List.length_append, lA]
  have lL : (sg L).length = 8 := by
    rw [eL, sg_cut, cut_some0 (by decide), List.length_take, lwA]
    show min 8 _ = 8
    omega
  have lup : (sg (Txt.upper w)) = (sg w).map PyProof.Rows.up1 := by
    rw [PyProof.Rows.upper_ascii fun c hc => by have := W.low c hc; omega]
    show (Array.map _ _).toList = _
    simp
  obtain ⟨X, eX⟩ : ∃ X : List D, X = [(D.str ("" : Str)), (D.str (L ++ ("a" : Str))), (D.str (P ++ s ++ R)), (D.str (P ++ s ++ R)), (D.str (P ++ s ++ R)), (D.str (w ++ (" " : Str))), (D.int (7 : Int)), (D.bl true), (eN ())] ++ [((eLs D.str) [w]), ((eT1 D.str) w), (D.dK [(.inr w, D.int (0 : Int))]), (D.str (Txt.upper w))] := ⟨_, rfl⟩
  have bad : ∀ d ∈ X, t_is_name d = some false := by
    rw [eX]
    intro d hd
    have spo : t_is_name (.str (P ++ s ++ R)) = some false := name_bad (c := c) (by rw [sg_add, sg_add, List.length_append, List.length_append]; omega) (by rw [sg_add, sg_add, sc]; simp) hc
    simp only [List.cons_append, List.nil_append, List.mem_cons, List.not_mem_nil, or_false] at hd
    rcases hd with rfl | rfl | rfl | rfl | rfl | rfl | rfl | rfl | rfl | rfl | rfl | rfl | rfl
    · decide +kernel
    · exact name_long (by rw [sg_add, List.length_append]; omega) (by rw [sg_add, List.length_append]; omega)
    · exact spo
    · exact spo
    · exact spo
    · exact name_bad (c := 32) (by rw [sg_add, List.length_append, lb]; show _ + 1 ≤ _; omega) (by rw [sg_add, lb]; simp) (by decide)
    · exact name_not rfl
    · exact name_not rfl
    · exact name_not rfl
    · exact name_not rfl
    · exact name_not rfl
    · exact name_not rfl
    · cases q : sg w with
      | nil => rw [q] at l0; simp at l0
      | cons a t =>
        have ha := W.low a (by rw [q]; simp)
        refine name_bad (c := PyProof.Rows.up1 a) (by rw [lup, List.length_map]; omega) (by rw [lup, q]; simp) ?_
        unfold lowB PyProof.Rows.up1
        rw [if_pos ha]
        simp; omega
  obtain ⟨t, q3, e4, t0, t1, h3⟩ := take_ok h2 (n := 13) (by decide) (by decide)
  have lX : X.length = 13 := by rw [eX]; rfl
  obtain ⟨d, e5, hd⟩ := ixO_ok (xs := X) t0 (by rw [lX]; exact t1)
  refine ⟨d, q3, ?_, bad d hd, h3⟩
  unfold t__law_no_name
  have e6 : catO [(D.str ("" : Str)), (D.str (L ++ ("a" : Str))), (D.str (P ++ s ++ R)), (D.str (P ++ s ++ R)), (D.str (P ++ s ++ R)), (D.str (w ++ (" " : Str))), (D.int (7 : Int)), (D.bl true), (eN ())] [((eLs D.str) [w]), ((eT1 D.str) w), (D.dK [(.inr w, D.int (0 : Int))]), (D.str (Txt.upper w))] = some X := by
    rw [eX]; exact catO_e (by show 9 + 4 ≤ 1000000; omega)
  have eu : uppO w = some (Txt.upper w) := by
    unfold uppO
    rw [if_pos (by rw [sg_len]; omega)]
  rw [lenS_e (by omega), Option.bind_some, e1, Option.bind_some]
  dsimp only
  rw [e2, Option.bind_some]
  dsimp only
  rw [show ([("A" : Str), ("Z" : Str), ("0" : Str), ("9" : Str), (" " : Str), ("\n" : Str), ("_" : Str), ("-" : Str), (":" : Str), ("{" : Str), ("~" : Str)] : List Str) = SIGNS from rfl, e3, Option.bind_some, ssl_e (by omega), Option.bind_some, ← eP, sad_e (by omega), Option.bind_some, ssl_e (by omega), Option.bind_some, ← eR, sad_e (by rw [sg_add, List.length_append]; omega), Option.bind_some,
    sad_e (by omega), Option.bind_some, ssl_e (by omega), Option.bind_some, ← eL, sad_e (by omega), Option.bind_some, sad_e (by rw [lb]; show _ + 1 ≤ _; omega), Option.bind_some, eu, Option.bind_some, e6, Option.bind_some, e4, Option.bind_some]
  dsimp only
  rw [e5, Option.bind_some]
theorem turn_ok (ns : List Int) {x : Int} (hx : 0 ≤ x) : t_law_l1 ns x = some (.go ()) := by
  obtain ⟨p, ep, hp⟩ := purse_ok ns hx
  obtain ⟨w, q, ew, W, hq⟩ := word_ok hp
  obtain ⟨d, q2, ed, nd, _⟩ := no_name_ok hq W
  have nw : t_is_name (.str w) = some true := by
    rw [name_str (by have := W.l1; omega)]
    have := W.l0; have := W.l1
    have a : (sg w).all lowB = true := List.all_eq_true.mpr fun c hc => by unfold lowB; exact decide_eq_true (W.low c hc)
    rw [a, Bool.and_true, decide_eq_true]
    omega
  unfold t_law_l1
  rw [ep, Option.bind_some, ew, Option.bind_some]
  dsimp only
  rw [nw, Option.bind_some, if_neg (by simp), ed, Option.bind_some]
  dsimp only
  rw [nd, Option.bind_some, if_neg (by simp)]
theorem round_ok (ns : List Int) (x : Int) : t_law_l2 ns x = some (.go ()) := by
  unfold t_law_l2
  rw [rg1_e (by omega) (by omega), Option.bind_some]
  obtain ⟨s, es, _⟩ := forX_all (R := Bool) (P := fun _ : Unit => True) (f := fun x s => t_law_l1 ns x) ((List.range (min (max (ns.length : Int) (1 : Int)) (40 : Int)).toNat).map fun k : Nat => (k : Int)) () trivial fun x hx s _ => ⟨(), turn_ok ns (by obtain ⟨k, _, rfl⟩ := List.mem_map.mp hx; omega), trivial⟩
  rw [es]; rfl
theorem law_typed (ns : List Int) : t_law ns = some true := by
  unfold t_law
  rw [rg1_e (by omega) (by omega), Option.bind_some]
  obtain ⟨s, es, _⟩ := forX_all (R := Bool) (P := fun _ : Unit => True) (f := fun x s => t_law_l2 ns x) ((List.range (2 : Int).toNat).map fun k : Nat => (k : Int)) () trivial fun x hx s _ => ⟨(), round_ok ns x, trivial⟩
  rw [es]; rfl
theorem law_ok : ∀ ns : List Int, ns.length ≤ 63 → ∃ r, m_law [scr ns] = .ret (.fz (.bl true)) r := fun ns _ => ⟨_, T_law (law_typed ns)⟩
end Law
namespace Law
open PySem PySem.Spec L2 Tl
abbrev st_is_name : Stmt := topS 3
theorem sc_is_name : FnScope N_is_name ["thing"] (defScope st_is_name) := ⟨rfl, rfl, rfl, by decide +kernel, rfl, by decide +kernel, by decide +kernel⟩
structure Z_is_name (P : Program) (w : World) (K : PySem.W.Frag) (mg : Str → Option Value) (base : Heap) : Prop where
  one : True
  b_isinstance : mg "isinstance" = none
  b_str : mg "str" = none
  b_len : mg "len" = none
  b_all : mg "all" = none
  c_MOST_SIGNS : Const mg "MOST_SIGNS" (.int 8)
  c_SMALL : Const mg "SMALL" (.str "abcdefghijklmnopqrstuvwxyz")

set_option maxHeartbeats 4000000 in
theorem cal_is_name {P : Program} {w : World} {K : PySem.W.Frag} {mg : Str → Option Value} {base : Heap} (A : FunAt K mg "is_name" st_is_name ["thing"]) (Z : Z_is_name P w K mg base) : Cal P w K mg base "is_name" ["thing"] 1 1 m_is_name :=
  cal_of A sc_is_name rfl rfl rfl fun f cdv A outer s H E hr tk hp => by
    have nd := sc_is_name.nd
    unfold b_is_name k_is_name_1
    exact (ss_cons (s_if (t_w (w_or (t_not (t_val (r_isi .str (by decide) Z.b_isinstance boot_isinstance_ Z.b_str boot_str_ (r_var 0)))) (w_or1 (t_not (t_chain c_le c_le r_int (r_cb b_len Z.b_len boot_len_ (r_acons (r_var 0) r_anil)) (r_const_int Z.c_MOST_SIGNS))))))
  (ss_one (s_ret r_bl))
  ss_nil)
  (ss_one (s_ret (r_cb (b_all rfl) Z.b_all boot_all_ (r_acons (r_lend 0 (r_lc (own := [("sign", 1)]) rfl nd (i_str (r_var 0)) (by show blkC N_is_name (defScope st_is_name) _ [("sign", 1)] = true; decide +kernel) rfl (fun _ => (ct_name 1 nd)) (fun _ => ts_nil) (fun _ => (r_c (c_in (hu65 hr)) (r_var 1) (r_const_str Z.c_SMALL))))) r_anil)))))
abbrev st__law_purse : Stmt := topS 5
theorem sc__law_purse : FnScope N__law_purse ["_law_script", "_law_k"] (defScope st__law_purse) := ⟨rfl, rfl, rfl, by decide +kernel, rfl, by decide +kernel, by decide +kernel⟩
structure Z__law_purse (P : Program) (w : World) (K : PySem.W.Frag) (mg : Str → Option Value) (base : Heap) : Prop where
  one : True
  b_len : mg "len" = none

set_option maxHeartbeats 4000000 in
theorem cal__law_purse {P : Program} {w : World} {K : PySem.W.Frag} {mg : Str → Option Value} {base : Heap} (A : FunAt K mg "_law_purse" st__law_purse ["_law_script", "_law_k"]) (Z : Z__law_purse P w K mg base) : Cal P w K mg base "_law_purse" ["_law_script", "_law_k"] 1 2 m__law_purse :=
  cal_of A sc__law_purse rfl rfl rfl fun f cdv A outer s H E hr tk hp => by
    have nd := sc__law_purse.nd
    unfold b__law_purse
    exact (ss_cons (s_set 2 nd r_int)
  (ss_cons (s_if (t_c c_lt (r_var 1) (r_cb b_len Z.b_len boot_len_ (r_acons (r_var 0) r_anil)))
  (ss_one (s_set 2 nd (r_ix (r_var 0) (r_var 1))))
  ss_nil)
  (ss_cons (s_set 3 nd r_int)
  (ss_cons (s_if (t_c c_lt (r_var 2) r_int)
  (ss_one (s_set 3 nd (r_sub (r_neg r_int) (r_var 2))))
  ss_nil)
  (ss_cons (s_if (t_c c_ge (r_var 2) (r_pow r_int r_int))
  (ss_one (s_set 3 nd (r_frz 2)))
  ss_nil)
  (ss_one (s_ret (r_lst (r_acons (r_move 3) (r_acons (r_mod (r_add (r_add (r_mul (r_var 2) r_int) (r_mul (r_var 1) r_int)) r_int) r_int) (r_acons r_int r_anil)))))))))))
abbrev st__law_take : Stmt := topS 6
theorem sc__law_take : FnScope N__law_take ["_law_purse_here", "_law_many"] (defScope st__law_take) := ⟨rfl, rfl, rfl, by decide +kernel, rfl, by decide +kernel, by decide +kernel⟩
structure Z__law_take (P : Program) (w : World) (K : PySem.W.Frag) (mg : Str → Option Value) (base : Heap) : Prop where
  one : True

set_option maxHeartbeats 4000000 in
theorem cal__law_take {P : Program} {w : World} {K : PySem.W.Frag} {mg : Str → Option Value} {base : Heap} (A : FunAt K mg "_law_take" st__law_take ["_law_purse_here", "_law_many"]) (Z : Z__law_take P w K mg base) : Cal P w K mg base "_law_take" ["_law_purse_here", "_law_many"] 1 2 m__law_take :=
  cal_of A sc__law_take rfl rfl rfl fun f cdv A outer s H E hr tk hp => by
    have nd := sc__law_take.nd
    unfold b__law_take
    exact (ss_cons (s_if (t_c c_gt (r_ix (r_var 0) r_int) r_int)
  (ss_cons (s_set 2 nd (r_mod (r_ix (r_var 0) r_int) (r_var 1)))
  (ss_cons (s_asg (r_div (r_ix (r_var 0) r_int) (r_var 1)) (g_sub (W := fun cls d _ H => E cls d H) (p_var 0) r_int))
  (ss_one (s_ret (r_move 2)))))
  ss_nil)
  (ss_cons (s_augS io_add (p_var 0) r_int r_int)
  (ss_cons (s_set 3 nd (r_mod (r_mul (r_add (r_ix (r_var 0) r_int) (r_mul (r_ix (r_var 0) r_int) r_int)) r_int) r_int))
  (ss_cons (s_set 3 nd (r_mod (r_add (r_add (r_mul (r_var 3) (r_var 3)) (r_mul (r_ix (r_var 0) r_int) r_int)) (r_ix (r_var 0) r_int)) r_int))
  (ss_one (s_ret (r_mod (r_div (r_mod (r_mul (r_var 3) r_int) r_int) r_int) (r_var 1))))))))
abbrev st__law_word : Stmt := topS 7
theorem sc__law_word : FnScope N__law_word ["_law_purse_here"] (defScope st__law_word) := ⟨rfl, rfl, rfl, by decide +kernel, rfl, by decide +kernel, by decide +kernel⟩
structure Z__law_word (P : Program) (w : World) (K : PySem.W.Frag) (mg : Str → Option Value) (base : Heap) : Prop where
  one : True
  f__law_take : Cal P w K mg base "_law_take" ["_law_purse_here", "_law_many"] 1 2 m__law_take
  b_range : mg "range" = none

set_option maxHeartbeats 4000000 in
theorem cal__law_word {P : Program} {w : World} {K : PySem.W.Frag} {mg : Str → Option Value} {base : Heap} (A : FunAt K mg "_law_word" st__law_word ["_law_purse_here"]) (Z : Z__law_word P w K mg base) : Cal P w K mg base "_law_word" ["_law_purse_here"] 2 1 m__law_word :=
  cal_of A sc__law_word rfl rfl rfl fun f cdv A outer s H E hr tk hp => by
    have nd := sc__law_word.nd
    unfold b__law_word l__law_word_1
    exact (ss_cons (s_set 1 nd r_str)
  (ss_cons (s_for hp rfl (i_range1 Z.b_range (r_acons (r_add r_int (r_fn Z.f__law_take tk hr (by decide) (ca_io 0 (ca_val r_int ca_nil)) (cl_io (cl_val cl_nil)))) r_anil)) (g_name 2 nd)
  (ss_one (s_set 1 nd (r_add (r_var 1) (r_ix r_str (r_fn Z.f__law_take tk hr (by decide) (ca_io 0 (ca_val r_int ca_nil)) (cl_io (cl_val cl_nil))))))))
  (ss_one (s_ret (r_move 1)))))
abbrev st__law_no_name : Stmt := topS 8
theorem sc__law_no_name : FnScope N__law_no_name ["_law_purse_here", "_law_word_here"] (defScope st__law_no_name) := ⟨rfl, rfl, rfl, by decide +kernel, rfl, by decide +kernel, by decide +kernel⟩
structure Z__law_no_name (P : Program) (w : World) (K : PySem.W.Frag) (mg : Str → Option Value) (base : Heap) : Prop where
  one : True
  f__law_take : Cal P w K mg base "_law_take" ["_law_purse_here", "_law_many"] 1 2 m__law_take
  b_len : mg "len" = none

set_option maxHeartbeats 4000000 in
theorem cal__law_no_name {P : Program} {w : World} {K : PySem.W.Frag} {mg : Str → Option Value} {base : Heap} (A : FunAt K mg "_law_no_name" st__law_no_name ["_law_purse_here", "_law_word_here"]) (Z : Z__law_no_name P w K mg base) : Cal P w K mg base "_law_no_name" ["_law_purse_here", "_law_word_here"] 2 2 m__law_no_name :=
  cal_of A sc__law_no_name rfl rfl rfl fun f cdv A outer s H E hr tk hp => by
    have nd := sc__law_no_name.nd
    unfold b__law_no_name
    exact (ss_cons (s_set 2 nd (r_fn Z.f__law_take tk hr (by decide) (ca_io 0 (ca_val (r_cb b_len Z.b_len boot_len_ (r_acons (r_var 1) r_anil)) ca_nil)) (cl_io (cl_val cl_nil))))
  (ss_cons (s_set 3 nd (r_ix (r_lst (r_acons r_str (r_acons r_str (r_acons r_str (r_acons r_str (r_acons r_str (r_acons r_str (r_acons r_str (r_acons r_str (r_acons r_str (r_acons r_str (r_acons r_str r_anil)))))))))))) (r_fn Z.f__law_take tk hr (by decide) (ca_io 0 (ca_val r_int ca_nil)) (cl_io (cl_val cl_nil)))))
  (ss_cons (s_set 4 nd (r_add (r_add (r_slice (r_var 1) po_no (po_so (r_var 2))) (r_var 3)) (r_slice (r_var 1) (po_so (r_add (r_var 2) r_int)) po_no)))
  (ss_cons (s_set 5 nd (r_add (r_slice (r_add (r_var 1) r_str) po_no (po_so r_int)) r_str))
  (ss_cons (s_set 6 nd (r_lst (r_acons r_str (r_acons (r_frz 5) (r_acons (r_frz 4) (r_acons (r_frz 4) (r_acons (r_frz 4) (r_acons (r_add (r_var 1) r_str) (r_acons r_int (r_acons r_bl (r_acons r_non r_anil)))))))))))
  (ss_cons (s_set 6 nd (r_add (r_var 6) (r_lst (r_acons (r_frzX (r_lst (r_acons (r_frz 1) r_anil))) (r_acons (r_tup (r_acons (r_frz 1) r_anil)) (r_acons (r_frzX (r_disp (d_cons (r_var 1) r_int d_nil))) (r_acons (r_upper (r_var 1)) r_anil)))))))
  (ss_one (s_ret (r_ix (r_frz 6) (r_fn Z.f__law_take tk hr (by decide) (ca_io 0 (ca_val r_int ca_nil)) (cl_io (cl_val cl_nil))))))))))))
abbrev st_law : Stmt := topS 9
theorem sc_law : FnScope N_law ["_law_script"] (defScope st_law) := ⟨rfl, rfl, rfl, by decide +kernel, rfl, by decide +kernel, by decide +kernel⟩
structure Z_law (P : Program) (w : World) (K : PySem.W.Frag) (mg : Str → Option Value) (base : Heap) : Prop where
  one : True
  f__law_purse : Cal P w K mg base "_law_purse" ["_law_script", "_law_k"] 1 2 m__law_purse
  f__law_word : Cal P w K mg base "_law_word" ["_law_purse_here"] 2 1 m__law_word
  f_is_name : Cal P w K mg base "is_name" ["thing"] 1 1 m_is_name
  f__law_no_name : Cal P w K mg base "_law_no_name" ["_law_purse_here", "_law_word_here"] 2 2 m__law_no_name
  b_range : mg "range" = none
  b_min : mg "min" = none
  b_max : mg "max" = none
  b_len : mg "len" = none

set_option maxHeartbeats 4000000 in
theorem ok_law {P : Program} {w : World} {K : PySem.W.Frag} {mg : Str → Option Value} {base : Heap} {f : Addr} {fd : FuncData} (F : Fun K "law" "law" st_law f fd) (Z : Z_law P w K mg base) : FnOk P w K mg base (L2.CX P w) 3 f fd ["_law_script"] (spOf K mg 1 m_law) :=
  ok_of F sc_law rfl rfl rfl fun f cdv A outer s H E hr tk hp => by
    have nd := sc_law.nd
    unfold b_law l_law_2 l_law_1
    exact (ss_cons (s_for hp rfl (i_range1 Z.b_range (r_acons r_int r_anil)) (g_name 1 nd)
  (ss_one (s_for hp rfl (i_range1 Z.b_range (r_acons (r_cb (b_min rfl) Z.b_min boot_min_ (r_acons (r_cb (b_max rfl) Z.b_max boot_max_ (r_acons (r_cb b_len Z.b_len boot_len_ (r_acons (r_var 0) r_anil)) (r_acons r_int r_anil))) (r_acons r_int r_anil))) r_anil)) (g_name 2 nd)
  (ss_cons (s_set 3 nd (r_fn Z.f__law_purse tk hr (by decide) (ca_val (r_var 0) (ca_val (r_var 2) ca_nil)) (cl_val (cl_val cl_nil))))
  (ss_cons (s_set 4 nd (r_fn Z.f__law_word tk hr (by decide) (ca_io 3 ca_nil) (cl_io cl_nil)))
  (ss_cons (s_if (t_c c_notX (r_fn Z.f_is_name tk hr (by decide) (ca_val (r_var 4) ca_nil) (cl_val cl_nil)) r_bl)
  (ss_one (s_ret r_bl))
  ss_nil)
  (ss_one (s_if (t_c c_notX (r_fn Z.f_is_name tk hr (by decide) (ca_val (r_fn Z.f__law_no_name tk hr (by decide) (ca_io 3 (ca_val (r_frz 4) ca_nil)) (cl_io (cl_val cl_nil))) ca_nil) (cl_val cl_nil)) r_bl)
  (ss_one (s_ret r_bl))
  ss_nil))))))))
  (ss_one (s_ret r_bl)))
theorem all_law {P : Program} {w : World} {K : PySem.W.Frag} {mg : Str → Option Value} {fa : Addr} (hfa : mg "law" = some (.ref fa))
    (A_is_name : FunAt K mg "is_name" st_is_name ["thing"])
    (A__law_purse : FunAt K mg "_law_purse" st__law_purse ["_law_script", "_law_k"])
    (A__law_take : FunAt K mg "_law_take" st__law_take ["_law_purse_here", "_law_many"])
    (A__law_word : FunAt K mg "_law_word" st__law_word ["_law_purse_here"])
    (A__law_no_name : FunAt K mg "_law_no_name" st__law_no_name ["_law_purse_here", "_law_word_here"])
    (A_law : LawAt K mg "law" st_law "_law_script")
    (B_isinstance : mg "isinstance" = none)
    (B_str : mg "str" = none)
    (B_len : mg "len" = none)
    (B_all : mg "all" = none)
    (B_range : mg "range" = none)
    (B_min : mg "min" = none)
    (B_max : mg "max" = none)
    (C_MOST_SIGNS : Const mg "MOST_SIGNS" (.int 8))
    (C_SMALL : Const mg "SMALL" (.str "abcdefghijklmnopqrstuvwxyz")) :
    ∃ fd : FuncData, (∀ (s : Shared) (u : Value), BindsTo s fd ⟨[u], []⟩ [("_law_script", u)]) ∧ ∀ base : Heap, K.In base → base.Ns mainGlobals mg → FnOk P w K mg base (L2.CX P w) 3 fa fd ["_law_script"] (spOf K mg 1 m_law) := by
  refine law_end (R := fun base fa fd => FnOk P w K mg base (L2.CX P w) 3 fa fd ["_law_script"] (spOf K mg 1 m_law)) hfa A_law fun base f fd F => ?_
  have D_is_name : Cal P w K mg base "is_name" _ _ _ m_is_name := cal_is_name A_is_name ⟨trivial, B_isinstance, B_str, B_len, B_all, C_MOST_SIGNS, C_SMALL⟩
  have D__law_purse : Cal P w K mg base "_law_purse" _ _ _ m__law_purse := cal__law_purse A__law_purse ⟨trivial, B_len⟩
  have D__law_take : Cal P w K mg base "_law_take" _ _ _ m__law_take := cal__law_take A__law_take ⟨trivial⟩
  have D__law_word : Cal P w K mg base "_law_word" _ _ _ m__law_word := cal__law_word A__law_word ⟨trivial, D__law_take, B_range⟩
  have D__law_no_name : Cal P w K mg base "_law_no_name" _ _ _ m__law_no_name := cal__law_no_name A__law_no_name ⟨trivial, D__law_take, B_len⟩
  exact ok_law F ⟨trivial, D__law_purse, D__law_word, D_is_name, D__law_no_name, B_range, B_min, B_max, B_len⟩
end Law
open PySem PySem.W PyProof.Rows
set_option maxRecDepth 100000 in
set_option maxHeartbeats 0 in
theorem PySem.Challenge.cw_satchelmeet_k85_names_holds : PySem.Challenge.rw_satchelmeet_k85_names.Holds := by
  w_on; o_law; k_head; (case hw => w_witness2)
  k_fill
  refine Tl.walk_law (l := PySem.Challenge.rw_satchelmeet_k85_names) (n := 63) (k := 3) (x := "_law_script") (Fm := Law.m_law) rfl (by decide) rfl ⟨rfl, by decide, by decide⟩ (fun w h Y => PySem.W.kIn_of Y) ?F Law.law_ok
  case F =>
    intro w mg fa h KX G hmg
    refine' Law.all_law hmg ?A_is_name ?A__law_purse ?A__law_take ?A__law_word ?A__law_no_name ?A_law ?B_isinstance ?B_str ?B_len ?B_all ?B_range ?B_min ?B_max ?C_MOST_SIGNS ?C_SMALL
    (case A_is_name => refine' Tl.fun_at KX G ?a ?l ?c ?k (fun _ _ _ _ _ _ us hl => match us, hl with | [_], _ => rfl); (case a => k_is); (case l => k_is); (case c => k_is); (case k => k_is))
    (case A__law_purse => refine' Tl.fun_at KX G ?a ?l ?c ?k (fun _ _ _ _ _ _ us hl => match us, hl with | [_, _], _ => rfl); (case a => k_is); (case l => k_is); (case c => k_is); (case k => k_is))
    (case A__law_take => refine' Tl.fun_at KX G ?a ?l ?c ?k (fun _ _ _ _ _ _ us hl => match us, hl with | [_, _], _ => rfl); (case a => k_is); (case l => k_is); (case c => k_is); (case k => k_is))
    (case A__law_word => refine' Tl.fun_at KX G ?a ?l ?c ?k (fun _ _ _ _ _ _ us hl => match us, hl with | [_], _ => rfl); (case a => k_is); (case l => k_is); (case c => k_is); (case k => k_is))
    (case A__law_no_name => refine' Tl.fun_at KX G ?a ?l ?c ?k (fun _ _ _ _ _ _ us hl => match us, hl with | [_, _], _ => rfl); (case a => k_is); (case l => k_is); (case c => k_is); (case k => k_is))
    (case A_law => refine' Tl.law_at KX G ?a ?l ?c ?k (fun s v => .of_eq rfl); (case a => k_is); (case l => k_is); (case c => k_is); (case k => k_is))
    (case B_isinstance => refine' PySem.W.mg_none_of KX G ?z; (case z => k_is))
    (case B_str => refine' PySem.W.mg_none_of KX G ?z; (case z => k_is))
    (case B_len => refine' PySem.W.mg_none_of KX G ?z; (case z => k_is))
    (case B_all => refine' PySem.W.mg_none_of KX G ?z; (case z => k_is))
    (case B_range => refine' PySem.W.mg_none_of KX G ?z; (case z => k_is))
    (case B_min => refine' PySem.W.mg_none_of KX G ?z; (case z => k_is))
    (case B_max => refine' PySem.W.mg_none_of KX G ?z; (case z => k_is))
    (case C_MOST_SIGNS => refine' Tl.const_int KX G ?z; (case z => k_is))
    (case C_SMALL => refine' Tl.const_str KX G ?z; (case z => k_is))
