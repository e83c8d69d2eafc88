import PyProof.Rows.All
import Wide.All
import OpenK.AllK
import Wide.FinOn
import KE.KStateDown
import HandS.ForMost
import HandS.More
import HandS.Exc
import HandS.WordsExc
import HandS.Defaults
import HandS.HeadHook1
import KE.DataEq
import KE.DataCmp
import KE.LtData
import KE.DataMinMax
import KE.DataAny
import KE.DataIsa
import HandS.TupAny
import HandS.TupMul
import HandS.Style
import KE.KRevSl
import HandS.Walk
import HandS.Zip
import HandS.Iter
import HandS.List
import HandS.Comp
import HandS.Call
import PyProof.CallFns
import PyProof.ReprRoads
import HandS.Ends
import HandS.Head0
import HandS.Head1
import HandS.Head2
import HandS.HeadEnd
import HandS.HeadHook2
import PySem.Challenge.RW_setinlines_k61_tables_of_sixty_cells
import Lean
section
set_option Elab.async false
set_option linter.all false
set_option maxRecDepth 100000
namespace DV
open PySem PySem.Spec PyProof.Rows L2
/-! ### data, outcomes -/
abbrev D := PyData
mutual
def imm : D → Bool
  | .none => true
  | .bool _ => true
  | .int _ => true
  | .str _ => true
  | .tuple l => immL l
  | .list _ => false
  | .dict _ => false
def immL : List D → Bool
  | [] => true
  | d :: ds => imm d && immL ds
end
structure Exc where
  cls : Str
  fld : Str
  arg : V
inductive R (α : Type) where
  | no | ok (a : α) | ex (c : Exc)
def R.bind {α β : Type} : R α → (α → R β) → R β
  | .no, _ => .no
  | .ok a, f => f a
  | .ex c, _ => .ex c
inductive Slot where
  | dead | own (d : D) | view (d : D)
abbrev Env := List Slot
def Env.at (env : Env) (i : Nat) : Slot := env.getD i .dead
abbrev Ev := Env → R (D × Env)
def keyD : Key → D
  | .inl i => .int i
  | .inr s => .str s
/-! ### what stands in the heap -/
abbrev Frag := PySem.W.Frag
def MutO : HO → Prop
  | .lst _ => True
  | .dK _ => True
  | .dT _ => True
  | _ => False
def Pl (H : Hp) (a : Addr) : Prop := ∃ o, H a = some o ∧ MutO o
mutual
inductive Rep (K : Frag) (H : Hp) : V → D → List Addr → Prop
  | non : Rep K H .non .none []
  | bl (b : Bool) : Rep K H (.bl b) (.bool b) []
  | int (i : Int) : Rep K H (.int i) (.int i) []
  | str (s : Str) : Rep K H (.str s) (.str s) []
  | tup {a vs ds g} : SqT K H a vs → RepL K H vs ds g → Rep K H (.ref a) (.tuple ds) g
  | lst {a vs ds g} : H a = some (.lst vs) → RepL K H vs ds g → Rep K H (.ref a) (.list ds) (a :: g)
  | dK {a g} {kvs : List (Key × V)} {es : List (D × D)} : Rd H a (.dK kvs) → RepE K H kvs es g → Rep K H (.ref a) (.dict es) (a :: g)
  | dT {a g} {kvs : List (List Key × V)} {es : List (D × D)} : Rd H a (.dT kvs) → RepF K H kvs es g → Rep K H (.ref a) (.dict es) (a :: g)
inductive RepL (K : Frag) (H : Hp) : List V → List D → List Addr → Prop
  | nil : RepL K H [] [] []
  | cons {v vs d ds g h} : Rep K H v d g → RepL K H vs ds h → RepL K H (v :: vs) (d :: ds) (g ++ h)
inductive RepE (K : Frag) (H : Hp) : List (Key × V) → List (D × D) → List Addr → Prop
  | nil : RepE K H [] [] []
  | cons {k v kvs d es g h} : Rep K H v d g → RepE K H kvs es h → RepE K H ((k, v) :: kvs) ((keyD k, d) :: es) (g ++ h)
inductive RepF (K : Frag) (H : Hp) : List (List Key × V) → List (D × D) → List Addr → Prop
  | nil : RepF K H [] [] []
  | cons {k v kvs d es g h} : Rep K H v d g → RepF K H kvs es h → RepF K H ((k, v) :: kvs) ((.tuple (k.map keyD), d) :: es) (g ++ h)
end
section
variable {K : Frag} {H H' : Hp}
theorem Rd.stay {M : Addr → Prop} (hM : ∀ a, M a → Pl H a) (hx : ∀ b o, H b = some o → ¬ M b → H' b = some o) {a : Addr} {u : HO} (h : Rd H a u) (n : ¬ M a) : Rd H' a u := by
  rcases h with h | ⟨o, h⟩
  · exact .inl (hx _ _ h n)
  · exact .inr ⟨o, hx _ _ h n⟩
theorem SqT.stay {M : Addr → Prop} (hM : ∀ a, M a → Pl H a) (hx : ∀ b o, H b = some o → ¬ M b → H' b = some o) {a : Addr} {vs : List V} (h : SqT K H a vs) : SqT K H' a vs := by
  rcases h with h | h
  · refine .inl (Rd.stay hM hx h fun m => ?_)
    obtain ⟨o, e, mo⟩ := hM a m
    rcases h with h | ⟨ob, h⟩
    · rw [h] at e; cases e; exact mo
    · rw [h] at e; cases e; exact mo
  · exact .inr h
mutual
theorem Rep.stay {M : Addr → Prop} (hM : ∀ a, M a → Pl H a) (hx : ∀ b o, H b = some o → ¬ M b → H' b = some o) : ∀ (d : D) (v : V) (g : List Addr), Rep K H v d g → (∀ a ∈ g, ¬ M a) → Rep K H' v d g
  | .none, _, _, h, _ => by cases h; exact .non
  | .bool b, _, _, h, _ => by cases h; exact .bl b
  | .int i, _, _, h, _ => by cases h; exact .int i
  | .str s, _, _, h, _ => by cases h; exact .str s
  | .tuple ds, _, _, h, n => by
    cases h with
    | tup hq hl => exact .tup (SqT.stay hM hx hq) (RepL.stay hM hx ds _ _ hl n)
  | .list ds, _, _, h, n => by
    cases h with
    | lst hq hl => exact .lst (hx _ _ hq (n _ List.mem_cons_self)) (RepL.stay hM hx ds _ _ hl fun a ha => n a (List.mem_cons_of_mem _ ha))
  | .dict es, _, _, h, n => by
    cases h with
    | dK hq hl => exact .dK (Rd.stay hM hx hq (n _ List.mem_cons_self)) (RepE.stay hM hx es _ _ hl fun a ha => n a (List.mem_cons_of_mem _ ha))
    | dT hq hl => exact .dT (Rd.stay hM hx hq (n _ List.mem_cons_self)) (RepF.stay hM hx es _ _ hl fun a ha => n a (List.mem_cons_of_mem _ ha))
theorem RepL.stay {M : Addr → Prop} (hM : ∀ a, M a → Pl H a) (hx : ∀ b o, H b = some o → ¬ M b → H' b = some o) : ∀ (ds : List D) (vs : List V) (g : List Addr), RepL K H vs ds g → (∀ a ∈ g, ¬ M a) → RepL K H' vs ds g
  | [], _, _, h, _ => by cases h; exact .nil
  | d :: ds, _, _, h, n => by
    cases h with
    | cons h1 h2 => exact .cons (Rep.stay hM hx d _ _ h1 fun a ha => n a (List.mem_append_left _ ha)) (RepL.stay hM hx ds _ _ h2 fun a ha => n a (List.mem_append_right _ ha))
theorem RepE.stay {M : Addr → Prop} (hM : ∀ a, M a → Pl H a) (hx : ∀ b o, H b = some o → ¬ M b → H' b = some o) : ∀ (es : List (D × D)) (vs : List (Key × V)) (g : List Addr), RepE K H vs es g → (∀ a ∈ g, ¬ M a) → RepE K H' vs es g
  | [], _, _, h, _ => by cases h; exact .nil
  | (k, d) :: es, _, _, h, n => by
    cases h with
    | cons h1 h2 => exact .cons (Rep.stay hM hx d _ _ h1 fun a ha => n a (List.mem_append_left _ ha)) (RepE.stay hM hx es _ _ h2 fun a ha => n a (List.mem_append_right _ ha))
theorem RepF.stay {M : Addr → Prop} (hM : ∀ a, M a → Pl H a) (hx : ∀ b o, H b = some o → ¬ M b → H' b = some o) : ∀ (es : List (D × D)) (vs : List (List Key × V)) (g : List Addr), RepF K H vs es g → (∀ a ∈ g, ¬ M a) → RepF K H' vs es g
  | [], _, _, h, _ => by cases h; exact .nil
  | (k, d) :: es, _, _, h, n => by
    cases h with
    | cons h1 h2 => exact .cons (Rep.stay hM hx d _ _ h1 fun a ha => n a (List.mem_append_left _ ha)) (RepF.stay hM hx es _ _ h2 fun a ha => n a (List.mem_append_right _ ha))
end
theorem rd_there {a : Addr} {u : HO} (h : Rd H a u) : ∃ o, H a = some o := by
  rcases h with h | ⟨o, h⟩
  · exact ⟨_, h⟩
  · exact ⟨_, h⟩
mutual
/-- the footprint stands -/
theorem Rep.there : ∀ (d : D) (v : V) (g : List Addr), Rep K H v d g → ∀ a ∈ g, ∃ o, H a = some o
  | .none, _, _, h => by cases h; intro a ha; cases ha
  | .bool b, _, _, h => by cases h; intro a ha; cases ha
  | .int i, _, _, h => by cases h; intro a ha; cases ha
  | .str s, _, _, h => by cases h; intro a ha; cases ha
  | .tuple ds, _, _, h => by
    cases h with
    | tup hq hl => exact RepL.there ds _ _ hl
  | .list ds, _, _, h => by
    cases h with
    | lst hq hl =>
      intro a ha
      rcases List.mem_cons.mp ha with rfl | ha
      · exact ⟨_, hq⟩
      · exact RepL.there ds _ _ hl a ha
  | .dict es, _, _, h => by
    cases h with
    | dK hq hl =>
      intro a ha
      rcases List.mem_cons.mp ha with rfl | ha
      · exact rd_there hq
      · exact RepE.there es _ _ hl a ha
    | dT hq hl =>
      intro a ha
      rcases List.mem_cons.mp ha with rfl | ha
      · exact rd_there hq
      · exact RepF.there es _ _ hl a ha
theorem RepL.there : ∀ (ds : List D) (vs : List V) (g : List Addr), RepL K H vs ds g → ∀ a ∈ g, ∃ o, H a = some o
  | [], _, _, h => by cases h; intro a ha; cases ha
  | d :: ds, _, _, h => by
    cases h with
    | cons h1 h2 =>
      intro a ha
      rcases List.mem_append.mp ha with ha | ha
      · exact Rep.there d _ _ h1 a ha
      · exact RepL.there ds _ _ h2 a ha
theorem RepE.there : ∀ (es : List (D × D)) (vs : List (Key × V)) (g : List Addr), RepE K H vs es g → ∀ a ∈ g, ∃ o, H a = some o
  | [], _, _, h => by cases h; intro a ha; cases ha
  | (k, d) :: es, _, _, h => by
    cases h with
    | cons h1 h2 =>
      intro a ha
      rcases List.mem_append.mp ha with ha | ha
      · exact Rep.there d _ _ h1 a ha
      · exact RepE.there es _ _ h2 a ha
theorem RepF.there : ∀ (es : List (D × D)) (vs : List (List Key × V)) (g : List Addr), RepF K H vs es g → ∀ a ∈ g, ∃ o, H a = some o
  | [], _, _, h => by cases h; intro a ha; cases ha
  | (k, d) :: es, _, _, h => by
    cases h with
    | cons h1 h2 =>
      intro a ha
      rcases List.mem_append.mp ha with ha | ha
      · exact Rep.there d _ _ h1 a ha
      · exact RepF.there es _ _ h2 a ha
end
mutual
theorem Rep.fp_imm : ∀ (d : D) (v : V) (g : List Addr), Rep K H v d g → imm d = true → g = []
  | .none, _, _, h, _ => by cases h; rfl
  | .bool b, _, _, h, _ => by cases h; rfl
  | .int i, _, _, h, _ => by cases h; rfl
  | .str s, _, _, h, _ => by cases h; rfl
  | .tuple ds, _, _, h, i => by
    cases h with
    | tup hq hl => exact RepL.fp_imm ds _ _ hl (by simpa [imm] using i)
  | .list ds, _, _, h, i => by simp [imm] at i
  | .dict es, _, _, h, i => by simp [imm] at i
theorem RepL.fp_imm : ∀ (ds : List D) (vs : List V) (g : List Addr), RepL K H vs ds g → immL ds = true → g = []
  | [], _, _, h, _ => by cases h; rfl
  | d :: ds, _, _, h, i => by
    cases h with
    | cons h1 h2 =>
      have i' : imm d = true ∧ immL ds = true := by simpa [immL] using i
      rw [Rep.fp_imm d _ _ h1 i'.1, RepL.fp_imm ds _ _ h2 i'.2]
      rfl
end
theorem Rep.same (s : Same H H') {d : D} {v : V} {g : List Addr} (h : Rep K H v d g) : Rep K H' v d g :=
  Rep.stay (M := fun _ => False) (fun _ z => z.elim) (fun b o e _ => s b o e) d v g h fun _ _ z => z
theorem RepL.same (s : Same H H') {d : List D} {v : List V} {g : List Addr} (h : RepL K H v d g) : RepL K H' v d g :=
  RepL.stay (M := fun _ => False) (fun _ z => z.elim) (fun b o e _ => s b o e) d v g h fun _ _ z => z
theorem RepL.length : ∀ {ds : List D} {vs : List V} {g : List Addr}, RepL K H vs ds g → vs.length = ds.length
  | [], _, _, h => by cases h; rfl
  | d :: ds, _, _, h => by
    cases h with
    | cons h1 h2 => simp [RepL.length h2]
theorem RepL.get : ∀ {ds : List D} {vs : List V} {g : List Addr} {i : Nat} {d : D}, RepL K H vs ds g → ds[i]? = some d → ∃ v gi, vs[i]? = some v ∧ Rep K H v d gi ∧ (∀ a ∈ gi, a ∈ g) ∧ (g.Nodup → gi.Nodup)
  | [], _, _, _, _, h, e => by cases h; simp at e
  | d :: ds, _, _, 0, x, h, e => by
    cases h with
    | cons h1 h2 =>
      simp at e; subst e
      exact ⟨_, _, rfl, h1, fun a ha => List.mem_append_left _ ha, fun n => (List.nodup_append.mp n).1⟩
  | d :: ds, _, _, i + 1, x, h, e => by
    cases h with
    | cons h1 h2 =>
      obtain ⟨v, gi, e1, r, s, n⟩ := RepL.get (i := i) h2 (by simpa using e)
      exact ⟨v, gi, by simpa using e1, r, fun a ha => List.mem_append_right _ (s a ha), fun nd => n (List.nodup_append.mp nd).2.1⟩
theorem RepL.append : ∀ {ds es : List D} {vs us : List V} {g h : List Addr}, RepL K H vs ds g → RepL K H us es h → RepL K H (vs ++ us) (ds ++ es) (g ++ h)
  | [], _, _, _, _, _, r, q => by cases r; exact q
  | d :: ds, _, _, _, _, _, r, q => by
    cases r with
    | cons h1 h2 =>
      rw [List.append_assoc]
      exact .cons h1 (RepL.append h2 q)
theorem immL_append : ∀ {xs ys : List D}, immL (xs ++ ys) = (immL xs && immL ys)
  | [], _ => by simp [immL]
  | x :: xs, ys => by simp [immL, immL_append (xs := xs), Bool.and_assoc]
theorem immL_get : ∀ {xs : List D} {i : Nat} {d : D}, immL xs = true → xs[i]? = some d → imm d = true
  | [], _, _, _, e => by simp at e
  | x :: xs, 0, d, h, e => by
    simp at e; subst e
    exact (by simpa [immL] using h : imm x = true ∧ immL xs = true).1
  | x :: xs, i + 1, d, h, e => immL_get (xs := xs) (i := i) (by simpa [immL] using h : imm x = true ∧ immL xs = true).2 (by simpa using e)
end
/-! ### the slots -/
abbrev Fs := Nat → List Addr
def SlotOk (K : Frag) (W : Addr → Prop) (H : Hp) (σ : L2.St) (fs : Fs) (i : Nat) : Slot → Prop
  | .dead => fs i = []
  | .own d => ∃ v, σ[i]? = some (some v) ∧ Rep K H v d (fs i)
  | .view d => fs i = [] ∧ ∃ v g, σ[i]? = some (some v) ∧ Rep K H v d g ∧ ∀ a ∈ g, W a
structure RepEnv (K : Frag) (W : Addr → Prop) (H : Hp) (σ : L2.St) (env : Env) (fs : Fs) : Prop where
  slot : ∀ i, SlotOk K W H σ fs i (env.at i)
  disj : ∀ i j a, a ∈ fs i → a ∈ fs j → i = j
  nd : ∀ i, (fs i).Nodup
  pl : ∀ i, ∀ a ∈ fs i, Pl H a
  off : ∀ i, ∀ a ∈ fs i, ¬ W a
  wt : ∀ a, W a → ∃ o, H a = some o
def Ext (H H' : Hp) (fs : Fs) : Prop := ∀ b o, H b = some o → (∀ i, b ∉ fs i) → H' b = some o
def Sub (H : Hp) (fs : Fs) (g : List Addr) : Prop := ∀ a ∈ g, (∃ j, a ∈ fs j) ∨ H a = none
theorem Ext.refl {H : Hp} {fs : Fs} : Ext H H fs := fun _ _ e _ => e
theorem Ext.of {H H' : Hp} {fs : Fs} (s : Same H H') : Ext H H' fs := fun b o e _ => s b o e
theorem Ext.trans {H H1 H2 : Hp} {fs fs1 : Fs} (a : Ext H H1 fs) (s : ∀ i, Sub H fs (fs1 i)) (b : Ext H1 H2 fs1) : Ext H H2 fs := fun x o e n =>
  b x o (a x o e n) fun i hi => by
    rcases s i x hi with ⟨j, hj⟩ | z
    · exact n j hj
    · rw [e] at z; cases z
theorem Sub.trans {H H1 : Hp} {fs fs1 : Fs} {g : List Addr} (a : Ext H H1 fs) (s : ∀ i, Sub H fs (fs1 i)) (b : Sub H1 fs1 g) : Sub H fs g := fun x hx => by
  rcases b x hx with ⟨j, hj⟩ | z
  · exact s j x hj
  · cases q : H x with
    | none => exact .inr rfl
    | some o =>
      by_cases n : ∀ i, x ∉ fs i
      · rw [a x o q n] at z; cases z
      · exact .inl (by simpa using n)
theorem Sub.self {H : Hp} {fs : Fs} {i : Nat} : Sub H fs (fs i) := fun a ha => .inl ⟨i, ha⟩
/-- what changes: p, nothing does -/
structure Step (K : Frag) (W : Addr → Prop) (p : Bool) (H : Hp) (env : Env) (fs : Fs) (H' : Hp) (σ : L2.St) (env' : Env) (fs' : Fs) : Prop where
  ext : Ext H H' fs
  renv : RepEnv K W H' σ env' fs'
  sub : ∀ i, Sub H fs (fs' i)
  pure : p = true → Same H H' ∧ env' = env ∧ fs' = fs
  vw : ∀ j d, env'.at j = .view d → env.at j = .view d
/-- the value is one's own -/
structure Own (H : Hp) (fs : Fs) (H' : Hp) (fs' : Fs) (g : List Addr) : Prop where
  nd : g.Nodup
  apart : ∀ a ∈ g, ∀ i, a ∉ fs' i
  pl : ∀ a ∈ g, Pl H' a
  sub : Sub H fs g
/-- what an expression leaves: p, nothing is changed; o, the value is one's own -/
structure Post (K : Frag) (W : Addr → Prop) (p o : Bool) (H : Hp) (env : Env) (fs : Fs) (H' : Hp) (σ : L2.St) (env' : Env) (fs' : Fs) (v : V) (d : D) (g : List Addr) : Prop where
  step : Step K W p H env fs H' σ env' fs'
  rep : Rep K H' v d g
  own : o = true → Own H fs H' fs' g
structure PostL (K : Frag) (W : Addr → Prop) (p o : Bool) (H : Hp) (env : Env) (fs : Fs) (H' : Hp) (σ : L2.St) (env' : Env) (fs' : Fs) (v : List V) (d : List D) (g : List Addr) : Prop where
  step : Step K W p H env fs H' σ env' fs'
  rep : RepL K H' v d g
  own : o = true → Own H fs H' fs' g
/-- what is said of an exception that leaves -/
def ExP (K : Frag) (E : XK) (c : Exc) (H : Hp) (fs : Fs) : Prop := ∀ H' ad, Ext H H' fs → H' ad = none → E (.ref (He.ga K c.cls)) (some ad) (upd H' ad (.xd [(c.fld, c.arg)]))
def tD (K : Frag) (E : XK) (p o : Bool) (f : Ev) : TE := fun σ H Q => ∃ env fs W, RepEnv K W H σ env fs ∧ match f env with
  | .no => False
  | .ex c => ExP K E c H fs
  | .ok (d, env') => ∀ v H' fs' g, Post K W p o H env fs H' σ env' fs' v d g → Q v H'
def DE (X : Cx) (E : XK) (p o : Bool) (e : Expr) (f : Ev) : Prop := PE X e (tD X.K E p o f)
theorem PE.mono {X : Cx} {e : Expr} {t t' : TE} (h : PE X e t) (m : ∀ σ H Q, t' σ H Q → t σ H Q) : PE X e t' := ⟨fun pins s σ H Q I w => h.run pins s σ H Q I (m σ H Q w)⟩
section
variable {K : Frag} {W : Addr → Prop} {H H' H1 H2 : Hp} {σ : L2.St} {env env' : Env} {fs fs' fs1 : Fs}
theorem RepEnv.same (h : RepEnv K W H σ env fs) (s : Same H H') : RepEnv K W H' σ env fs where
  slot := fun i => by
    have q := h.slot i
    cases e : env.at i with
    | dead => rw [e] at q; exact q
    | own d =>
      rw [e] at q
      obtain ⟨v, e1, r⟩ := q
      exact ⟨v, e1, r.same s⟩
    | view d =>
      rw [e] at q
      obtain ⟨z, v, g, e1, r, n⟩ := q
      exact ⟨z, v, g, e1, r.same s, n⟩
  disj := h.disj
  nd := h.nd
  pl := fun i a ha => let ⟨o, e, m⟩ := h.pl i a ha; ⟨o, s a o e, m⟩
  off := h.off
  wt := fun a ha => let ⟨o, e⟩ := h.wt a ha; ⟨o, s a o e⟩
/-- a value that stands apart from the slots' own objects stays -/
theorem Rep.ext (h : RepEnv K W H σ env fs) (x : Ext H H' fs) {v : V} {d : D} {g : List Addr} (r : Rep K H v d g) (n : ∀ a ∈ g, ∀ i, a ∉ fs i) : Rep K H' v d g :=
  Rep.stay (M := fun a => ∃ i, a ∈ fs i) (fun a ⟨i, ha⟩ => h.pl i a ha) (fun b o e nb => x b o e fun i hi => nb ⟨i, hi⟩) d v g r fun a ha ⟨i, hi⟩ => n a ha i hi
theorem RepL.ext (h : RepEnv K W H σ env fs) (x : Ext H H' fs) {v : List V} {d : List D} {g : List Addr} (r : RepL K H v d g) (n : ∀ a ∈ g, ∀ i, a ∉ fs i) : RepL K H' v d g :=
  RepL.stay (M := fun a => ∃ i, a ∈ fs i) (fun a ⟨i, ha⟩ => h.pl i a ha) (fun b o e nb => x b o e fun i hi => nb ⟨i, hi⟩) d v g r fun a ha ⟨i, hi⟩ => n a ha i hi
/-- .. and stays apart -/
theorem apart_ext (x : Ext H H' fs) (s : ∀ i, Sub H fs (fs' i)) {g : List Addr} (t : ∀ a ∈ g, ∃ o, H a = some o) (n : ∀ a ∈ g, ∀ i, a ∉ fs i) : ∀ a ∈ g, ∀ i, a ∉ fs' i := fun a ha i hi => by
  rcases s i a hi with ⟨j, hj⟩ | z
  · exact n a ha j hj
  · obtain ⟨o, e⟩ := t a ha
    rw [e] at z; cases z
theorem pl_ext (x : Ext H H' fs) {g : List Addr} (p : ∀ a ∈ g, Pl H a) (n : ∀ a ∈ g, ∀ i, a ∉ fs i) : ∀ a ∈ g, Pl H' a := fun a ha => let ⟨o, e, m⟩ := p a ha; ⟨o, x a o e (n a ha), m⟩
end
end DV
end
section
set_option Elab.async false
set_option linter.all false
set_option maxRecDepth 100000
namespace DV
open PySem PySem.Spec PyProof.Rows L2
section
variable {K : Frag} {W : Addr → Prop} {E : XK} {H H' H1 H2 H3 : Hp} {σ σ1 : L2.St} {env env' env1 env2 env3 : Env} {fs fs' fs1 fs2 fs3 : Fs} {p p1 p2 p3 o o1 o2 : Bool}
theorem Step.refl (h : RepEnv K W H σ env fs) : Step K W p H env fs H σ env fs := ⟨Ext.refl, h, fun _ => Sub.self, fun _ => ⟨fun _ _ e => e, rfl, rfl⟩, fun _ _ e => e⟩
theorem Step.same (h : RepEnv K W H σ env fs) (s : Same H H') : Step K W p H env fs H' σ env fs := ⟨Ext.of s, h.same s, fun _ => Sub.self, fun _ => ⟨s, rfl, rfl⟩, fun _ _ e => e⟩
theorem Step.trans (a : Step K W p1 H env fs H1 σ1 env1 fs1) (b : Step K W p2 H1 env1 fs1 H2 σ env2 fs2) : Step K W (p1 && p2) H env fs H2 σ env2 fs2 where
  ext := a.ext.trans a.sub b.ext
  renv := b.renv
  sub := fun i => Sub.trans a.ext a.sub (b.sub i)
  pure := fun h => by
    have h' : p1 = true ∧ p2 = true := by simpa using h
    obtain ⟨s1, e1, f1⟩ := a.pure h'.1
    obtain ⟨s2, e2, f2⟩ := b.pure h'.2
    exact ⟨fun x o e => s2 x o (s1 x o e), e2.trans e1, f2.trans f1⟩
  vw := fun j d e => a.vw j d (b.vw j d e)
theorem Step.weak (a : Step K W p1 H env fs H1 σ env1 fs1) (h : p = true → p1 = true) : Step K W p H env fs H1 σ env1 fs1 := ⟨a.ext, a.renv, a.sub, fun z => a.pure (h z), a.vw⟩
theorem Step.and_same (a : Step K W p H env fs H1 σ env1 fs1) (s : Same H1 H') : Step K W p H env fs H' σ env1 fs1 := by
  have := a.trans (Step.same (p := true) a.renv s)
  rwa [Bool.and_true] at this
theorem Own.after {g : List Addr} (w : Own H fs H1 fs1 g) (b : Step K W p H1 env1 fs1 H2 σ env2 fs2) (t : ∀ a ∈ g, ∃ o, H1 a = some o) : Own H fs H2 fs2 g :=
  ⟨w.nd, apart_ext b.ext b.sub t w.apart, pl_ext b.ext w.pl w.apart, w.sub⟩
theorem Own.before {g : List Addr} (a : Step K W p H env fs H1 σ env1 fs1) (w : Own H1 fs1 H2 fs2 g) : Own H fs H2 fs2 g := ⟨w.nd, w.apart, w.pl, Sub.trans a.ext a.sub w.sub⟩
theorem Rep.after {v : V} {d : D} {g : List Addr} (h : RepEnv K W H1 σ1 env1 fs1) (r : Rep K H1 v d g) (w : o = true → Own H fs H1 fs1 g) (b : Step K W p H1 env1 fs1 H2 σ env2 fs2) (c : (o || p) = true) : Rep K H2 v d g := by
  rcases Bool.or_eq_true _ _ ▸ c with c | c
  · exact Rep.ext h b.ext r (w c).apart
  · exact r.same (b.pure c).1
theorem RepL.after {v : List V} {d : List D} {g : List Addr} (h : RepEnv K W H1 σ1 env1 fs1) (r : RepL K H1 v d g) (w : o = true → Own H fs H1 fs1 g) (b : Step K W p H1 env1 fs1 H2 σ env2 fs2) (c : (o || p) = true) : RepL K H2 v d g := by
  rcases Bool.or_eq_true _ _ ▸ c with c | c
  · exact RepL.ext h b.ext r (w c).apart
  · exact r.same (b.pure c).1
theorem ExP.before {c : Exc} (x : ExP K E c H fs) (a : Step K W p H env fs H1 σ env1 fs1) : ExP K E c H1 fs1 := fun H' ad e n => x H' ad (a.ext.trans a.sub e) n
/-- a value that has just come -/
structure Fresh (K : Frag) (H : Hp) (v : V) (H' : Hp) (d : D) (g : List Addr) : Prop where
  same : Same H H'
  rep : Rep K H' v d g
  nd : g.Nodup
  new : ∀ a ∈ g, H a = none
  pl : ∀ a ∈ g, Pl H' a
theorem Fresh.scal {v : V} {d : D} (r : Rep K H v d []) : Fresh K H v H d [] := ⟨fun _ _ e => e, r, .nil, fun _ z => (nomatch z), fun _ z => (nomatch z)⟩
theorem same_upd {q : Addr} {u : HO} (h : H q = none) : Same H (upd H q u) := fun b x e => by
  rw [upd_ne (ne_of_none e h)]
  exact e
theorem Fresh.tup {vs : List V} {ds : List D} {q : Addr} (r : RepL K H vs ds []) (h : H q = none) : Fresh K H (.ref q) (upd H q (.tup vs)) (.tuple ds) [] :=
  ⟨same_upd h, .tup (.inl (.inl upd_same)) (r.same (same_upd h)), .nil, fun _ z => (nomatch z), fun _ z => (nomatch z)⟩
theorem Fresh.lst {vs : List V} {ds : List D} {q : Addr} (r : RepL K H vs ds []) (h : H q = none) : Fresh K H (.ref q) (upd H q (.lst vs)) (.list ds) [q] :=
  ⟨same_upd h, .lst upd_same (r.same (same_upd h)), by simp, fun a z => by simp at z; subst z; exact h, fun a z => by simp at z; subst z; exact ⟨_, upd_same, trivial⟩⟩
theorem Fresh.own {v : V} {d : D} {g : List Addr} (f : Fresh K H v H' d g) (h : RepEnv K W H σ env fs) : Own H fs H' fs g :=
  ⟨f.nd, fun a ha i hi => (by
    obtain ⟨o, e, _⟩ := h.pl i a hi
    rw [f.new a ha] at e
    cases e), f.pl, fun a ha => .inr (f.new a ha)⟩
/-- .. behind what changed -/
theorem Post.fresh {v : V} {d : D} {g : List Addr} (a : Step K W p H env fs H1 σ env1 fs1) (f : Fresh K H1 v H' d g) : Post K W p o H env fs H' σ env1 fs1 v d g :=
  ⟨a.and_same f.same, f.rep, fun _ => Own.before a (f.own a.renv)⟩
def R.of {α : Type} : Option α → R α
  | some a => .ok a
  | none => .no
/-! ### two operands -/
def eBin (F : D → D → Option D) (f g : Ev) : Ev := fun env => (f env).bind fun x => (g x.2).bind fun y => (R.of (F x.1 y.1)).bind fun r => .ok (r, y.2)
def rD2 (K : Frag) (F : D → D → Option D) : R2 := fun x y H Q => ∃ d e g1 g2 r, Rep K H x d g1 ∧ Rep K H y e g2 ∧ F d e = some r ∧ ∀ v H' g, Fresh K H v H' r g → Q v H'
theorem tD_bin {F : D → D → Option D} {f g : Ev} {Q : VK} (c : (o1 || p2) = true) (h : tD K E (p1 && p2) true (eBin F f g) σ H Q) : tD K E p1 o1 f σ H fun x H1 => tD K E p2 o2 g σ H1 fun y H2 => rD2 K F x y H2 Q := by
  obtain ⟨env, fs, W, he, h⟩ := h
  refine ⟨env, fs, W, he, ?_⟩
  unfold eBin at h
  cases e1 : f env with
  | no => rw [e1] at h; exact h
  | ex c => rw [e1] at h; exact h
  | ok x =>
    obtain ⟨d1, env1⟩ := x
    rw [e1] at h
    intro v1 H1 fs1 g1 P1
    refine ⟨env1, fs1, W, P1.step.renv, ?_⟩
    cases e2 : g env1 with
    | no => simp only [R.bind, e2] at h
    | ex c => simp only [R.bind, e2] at h; exact h.before P1.step
    | ok y =>
      obtain ⟨d2, env2⟩ := y
      intro v2 H2 fs2 g2 P2
      have r1 : Rep K H2 v1 d1 g1 := Rep.after P1.step.renv P1.rep P1.own P2.step c
      cases e3 : F d1 d2 with
      | none => simp [R.bind, e2, e3, R.of] at h
      | some r =>
        simp only [R.bind, e2, e3, R.of] at h
        exact ⟨d1, d2, g1, g2, r, r1, P2.rep, e3, fun v H' g fr => h v H' fs2 g (Post.fresh (P1.step.trans P2.step) fr)⟩
/-- one operand -/
def eUn (F : D → Option D) (f : Ev) : Ev := fun env => (f env).bind fun x => (R.of (F x.1)).bind fun r => .ok (r, x.2)
def rD1 (K : Frag) (F : D → Option D) : V → Hp → VK → Prop := fun x H Q => ∃ d g1 r, Rep K H x d g1 ∧ F d = some r ∧ ∀ v H' g, Fresh K H v H' r g → Q v H'
theorem tD_un {F : D → Option D} {f : Ev} {Q : VK} (h : tD K E p true (eUn F f) σ H Q) : tD K E p o1 f σ H fun x H1 => rD1 K F x H1 Q := by
  obtain ⟨env, fs, W, he, h⟩ := h
  refine ⟨env, fs, W, he, ?_⟩
  unfold eUn at h
  cases e1 : f env with
  | no => rw [e1] at h; exact h
  | ex c => rw [e1] at h; exact h
  | ok x =>
    obtain ⟨d1, env1⟩ := x
    rw [e1] at h
    intro v1 H1 fs1 g1 P1
    cases e3 : F d1 with
    | none => simp [R.bind, e3, R.of] at h
    | some r =>
      simp only [R.bind, e3, R.of] at h
      exact ⟨d1, g1, r, P1.rep, e3, fun v H' g fr => h v H' fs1 g (Post.fresh P1.step fr)⟩
/-! ### arguments -/
abbrev EvA := Env → R (List D × Env)
def tDA (K : Frag) (E : XK) (p o : Bool) (f : EvA) : TA := fun σ H Q => ∃ env fs W, RepEnv K W H σ env fs ∧ match f env with
  | .no => False
  | .ex c => ExP K E c H fs
  | .ok (ds, env') => ∀ vs H' fs' g, PostL K W p o H env fs H' σ env' fs' vs ds g → Q vs H'
def DA (X : Cx) (E : XK) (p o : Bool) (es : List Expr) (f : EvA) : Prop := PA X es (tDA X.K E p o f)
def aNil : EvA := fun env => .ok ([], env)
def aCons (f : Ev) (g : EvA) : EvA := fun env => (f env).bind fun x => (g x.2).bind fun y => .ok (x.1 :: y.1, y.2)
theorem PA.mono {X : Cx} {es : List Expr} {t t' : TA} (h : PA X es t) (m : ∀ σ H Q, t' σ H Q → t σ H Q) : PA X es t' := ⟨fun pos pins s σ H Q I w => h.run pos pins s σ H Q I (m σ H Q w)⟩
theorem Own.nil {H' : Hp} {fs' : Fs} : Own H fs H' fs' [] := ⟨.nil, fun _ z => (nomatch z), fun _ z => (nomatch z), fun _ z => (nomatch z)⟩
theorem Own.append {g1 g2 : List Addr} (w1 : Own H fs H2 fs2 g1) (w2 : Own H fs H2 fs2 g2) (d : ∀ a ∈ g1, a ∉ g2) : Own H fs H2 fs2 (g1 ++ g2) :=
  ⟨List.nodup_append.mpr ⟨w1.nd, w2.nd, fun a ha b hb e => d a ha (e ▸ hb)⟩, fun a ha => (List.mem_append.mp ha).elim (w1.apart a) (w2.apart a), fun a ha => (List.mem_append.mp ha).elim (w1.pl a) (w2.pl a), fun a ha => (List.mem_append.mp ha).elim (w1.sub a) (w2.sub a)⟩
variable {X : Cx}
theorem da_nil : DA X E true true [] aNil := PA.mono pa_nil fun σ H Q ⟨env, fs, W, he, h⟩ => h [] H fs [] ⟨Step.refl he, .nil, fun _ => Own.nil⟩
theorem da_cons {e : Expr} {es : List Expr} {f : Ev} {g : EvA} (he : DE X E p1 o1 e f) (hs : DA X E p2 o2 es g) (c : (o1 || p2) = true := by rfl) (hq : starEach (e :: es) X.env = (false, eval e X.env) :: starEach es X.env := by rfl) :
    DA X E (p1 && p2) (o1 && o2) (e :: es) (aCons f g) := by
  refine PA.mono (pa_cons he hs hq) fun σ H Q ⟨env, fs, W, hr, h⟩ => ?_
  refine ⟨env, fs, W, hr, ?_⟩
  unfold aCons at h
  cases e1 : f env with
  | no => rw [e1] at h; exact h
  | ex c => rw [e1] at h; exact h
  | ok x =>
    obtain ⟨d1, env1⟩ := x
    rw [e1] at h
    intro v1 H1 fs1 g1 P1
    refine ⟨env1, fs1, W, P1.step.renv, ?_⟩
    cases e2 : g env1 with
    | no => simp only [R.bind, e2] at h
    | ex c => simp only [R.bind, e2] at h; exact h.before P1.step
    | ok y =>
      obtain ⟨ds, env2⟩ := y
      intro vs H2 fs2 g2 P2
      simp only [R.bind, e2] at h
      have r1 : Rep X.K H2 v1 d1 g1 := Rep.after P1.step.renv P1.rep P1.own P2.step c
      refine h (v1 :: vs) H2 fs2 (g1 ++ g2) ⟨P1.step.trans P2.step, .cons r1 P2.rep, fun ho => ?_⟩
      have ho' : o1 = true ∧ o2 = true := by simpa using ho
      have w1 := P1.own ho'.1
      have w2 := P2.own ho'.2
      have t1 := Rep.there _ _ _ P1.rep
      refine Own.append (w1.after P2.step t1) (Own.before P1.step w2) fun a ha hb => ?_
      rcases w2.sub a hb with ⟨j, hj⟩ | z
      · exact w1.apart a ha j hj
      · obtain ⟨o, e⟩ := t1 a ha
        rw [e] at z; cases z
/-! ### names, constants -/
def eC (d : D) : Ev := fun env => .ok (d, env)
theorem de_const {e : Expr} {v : V} {d : D} (h : PE X e (tC v)) (r : ∀ K H, Rep K H v d []) : DE X E true true e (eC d) :=
  PE.mono h fun σ H Q ⟨env, fs, W, he, h⟩ => h v H fs [] ⟨Step.refl he, r _ _, fun _ => Own.nil⟩
theorem de_int {i : Int} {j pos} : DE X E true true (.Constant (.int i) j pos) (eC (.int i)) := de_const pe_int fun _ _ => .int i
theorem de_bl {b : Bool} {j pos} : DE X E true true (.Constant (.bool b) j pos) (eC (.bool b)) := de_const pe_bl fun _ _ => .bl b
theorem de_non {j pos} : DE X E true true (.Constant .none j pos) (eC .none) := de_const pe_non fun _ _ => .non
theorem de_str {x : Str} {j pos} : DE X E true true (.Constant (.str x) j pos) (eC (.str x)) := de_const pe_str fun _ _ => .str x
theorem de_gint {x : Str} {i : Int} {pos : Pos} {t : Tok} (hg : Gl X x) (hm : X.mg x = some (.int i t)) (hd : (x == ("__debug__" : Str)) = false := by decide) : DE X E true true (.Name x pos) (eC (.int i)) := de_const (pe_glob (v := .int i) hg hm ⟨t, rfl⟩ hd) fun _ _ => .int i
theorem de_gstr {x : Str} {z : Str} {pos : Pos} {t : Tok} (hg : Gl X x) (hm : X.mg x = some (.str z t)) (hd : (x == ("__debug__" : Str)) = false := by decide) : DE X E true true (.Name x pos) (eC (.str z)) := de_const (pe_glob (v := .str z) hg hm ⟨t, rfl⟩ hd) fun _ _ => .str z
/-- a slot, read -/
def Slot.get : Slot → R D
  | .dead => .no
  | .own d => .ok d
  | .view d => .ok d
def eRead (i : Nat) : Ev := fun env => (env.at i).get.bind fun d => .ok (d, env)
theorem de_read {i : Nat} {x : Str} {pos : Pos} (hN : X.N[i]? = some x := by rfl) (hv : Vis X.env.scope x := by first | exact .inl rfl | exact .inr (.inl rfl) | exact .inr (.inr rfl)) (hd : (x == ("__debug__" : Str)) = false := by decide) (hcd : (x == ("__classdict__" : Str)) = false := by decide) :
    DE X E true false (.Name x pos) (eRead i) := by
  refine PE.mono (pe_var hN hv hd hcd) fun σ H Q ⟨env, fs, W, he, h⟩ => ?_
  have q := he.slot i
  unfold eRead at h
  cases e : env.at i with
  | dead => rw [e] at h; exact h.elim
  | own d =>
    rw [e] at h q
    obtain ⟨v, e1, r⟩ := q
    exact ⟨v, e1, h v H fs _ ⟨Step.refl he, r, fun z => (nomatch z)⟩⟩
  | view d =>
    rw [e] at h q
    obtain ⟨_, v, g, e1, r, _⟩ := q
    exact ⟨v, e1, h v H fs _ ⟨Step.refl he, r, fun z => (nomatch z)⟩⟩
/-- data that can't change are one's own -/
def eImm (f : Ev) : Ev := fun env => (f env).bind fun x => if imm x.1 = true then .ok x else .no
theorem de_imm {e : Expr} {f : Ev} (h : DE X E p o e f) : DE X E p true e (eImm f) := by
  refine PE.mono h fun σ H Q ⟨env, fs, W, he, h⟩ => ⟨env, fs, W, he, ?_⟩
  unfold eImm at h
  cases e1 : f env with
  | no => rw [e1] at h; exact h
  | ex c => rw [e1] at h; exact h
  | ok x =>
    obtain ⟨d, env1⟩ := x
    rw [e1] at h
    intro v H' fs' g P
    by_cases hi : imm d = true
    · simp only [R.bind, hi, if_true] at h
      refine h v H' fs' g ⟨P.step, P.rep, fun _ => ?_⟩
      rw [Rep.fp_imm _ _ _ P.rep hi]
      exact Own.nil
    · simp [R.bind, hi] at h
theorem de_weak {e : Expr} {f : Ev} (h : DE X E p o e f) : DE X E p false e f := by
  refine PE.mono h fun σ H Q ⟨env, fs, W, he, h⟩ => ⟨env, fs, W, he, ?_⟩
  cases e1 : f env with
  | no => rw [e1] at h; exact h
  | ex c => rw [e1] at h; exact h
  | ok x =>
    rw [e1] at h
    exact fun v H' fs' g P => h v H' fs' g ⟨P.step, P.rep, fun z => (nomatch z)⟩
/-! ### an operation by values -/
def OpD (X : Cx) (f : Value → Value → Sem Value) (F : D → D → Option D) : Prop := OpR X f (rD2 X.K F)
theorem de_op {a b : Expr} {op : Operator} {F : D → D → Option D} {f g : Ev} {pos : Pos} (ho : OpD X (binaryOp op) F) (ha : DE X E p1 o1 a f) (hb : DE X E p2 o2 b g) (c : (o1 || p2) = true := by rfl) : DE X E (p1 && p2) true (.BinOp a op b pos) (eBin F f g) :=
  PE.mono (pe_op ho ha hb) fun σ H Q h => tD_bin c h
theorem de_cmp {a b : Expr} {op : CmpOp} {F : D → D → Option D} {f g : Ev} {pos : Pos} (ho : OpD X (compareOp op) F) (ha : DE X E p1 o1 a f) (hb : DE X E p2 o2 b g) (hm : behindInMarks op b = false := by first | exact nobehind _ (by decide) (by decide) | rfl) (c : (o1 || p2) = true := by rfl) : DE X E (p1 && p2) true (.Compare a [op] [b] pos) (eBin F f g) :=
  PE.mono (pe_cmpR ho ha hb hm) fun σ H Q h => tD_bin c h
theorem de_un {a : Expr} {op : UnaryOp} {F : D → Option D} {f : Ev} {pos : Pos} (ho : UnR X (unaryOp op) (rD1 X.K F)) (ha : DE X E p o a f) : DE X E p true (.UnaryOp op a pos) (eUn F f) :=
  PE.mono (pe_un ho ha) fun σ H Q h => tD_un h
/-! ### a call of a builtin by values -/
def eCall (F : List D → Option D) (f : EvA) : Ev := fun env => (f env).bind fun x => (R.of (F x.1)).bind fun r => .ok (r, x.2)
def rDn (K : Frag) (F : List D → Option D) : List V → Hp → VK → Prop := fun vs H Q => ∃ ds g1 r, RepL K H vs ds g1 ∧ F ds = some r ∧ ∀ v H' g, Fresh K H v H' r g → Q v H'
theorem tD_call {F : List D → Option D} {f : EvA} {Q : VK} (h : tD K E p true (eCall F f) σ H Q) : tDA K E p o1 f σ H fun x H1 => rDn K F x H1 Q := by
  obtain ⟨env, fs, W, he, h⟩ := h
  refine ⟨env, fs, W, he, ?_⟩
  unfold eCall at h
  cases e1 : f env with
  | no => rw [e1] at h; exact h
  | ex c => rw [e1] at h; exact h
  | ok x =>
    obtain ⟨d1, env1⟩ := x
    rw [e1] at h
    intro v1 H1 fs1 g1 P1
    cases e3 : F d1 with
    | none => simp [R.bind, e3, R.of] at h
    | some r =>
      simp only [R.bind, e3, R.of] at h
      exact ⟨d1, g1, r, P1.rep, e3, fun v H' g fr => h v H' fs1 g (Post.fresh P1.step fr)⟩
theorem de_callB {F : List D → Option D} {f : EvA} {id : String} {x : Str} {e : Expr} {es : List Expr} {q pos : Pos} (hc : CallR X (.builtin id) (rDn X.K F)) (hm : X.mg x = none) (ha : DA X E p o (e :: es) f) (hg : Gl X x := by rfl) (hv : bootBuiltins x = some (.builtin id) := by decide +kernel) (hn : x ≠ "__name__" := by decide) (hdb : (x == ("__debug__" : Str)) = false := by decide)
    (hs : starEach (e :: es) X.env = (false, eval e X.env) :: starEach es X.env := by rfl) (hpl : (backTo pos (starEach es X.env)).any (·.1) = false := by rfl) : DE X E p true (.Call (.Name x q) (e :: es) [] pos) (eCall F f) :=
  PE.mono (pe_callB hc hg hm hv ha hn hdb hs hpl) fun σ H Q h => tD_call h
theorem de_callT {F : List D → Option D} {f : EvA} {T : String} {x : Str} {e : Expr} {es : List Expr} {q pos : Pos} (hc : CallR X (.type T) (rDn X.K F)) (hm : X.mg x = none) (ha : DA X E p o (e :: es) f) (hg : Gl X x := by rfl) (hv : bootBuiltins x = some (.type T) := by decide +kernel) (hn : x ≠ "__name__" := by decide) (hdb : (x == ("__debug__" : Str)) = false := by decide)
    (hs : starEach (e :: es) X.env = (false, eval e X.env) :: starEach es X.env := by rfl) (hpl : (backTo pos (starEach es X.env)).any (·.1) = false := by rfl) : DE X E p true (.Call (.Name x q) (e :: es) [] pos) (eCall F f) :=
  PE.mono (pe_callTy hc hg hm hv ha hn hdb hs hpl) fun σ H Q h => tD_call h
/-! ### displays -/
def eTup (f : EvA) : Ev := fun env => (f env).bind fun x => if x.1.length ≤ 1000 then .ok (.tuple x.1, x.2) else .no
def eLst (f : EvA) : Ev := fun env => (f env).bind fun x => if x.1.length ≤ 1000 then .ok (.list x.1, x.2) else .no
theorem le_line {n : Nat} (h : n ≤ 1000) : n ≤ sizeLine := by rw [sizeLine_eq]; omega
theorem Own.same {g : List Addr} (w : Own H fs H1 fs1 g) (s : Same H1 H') : Own H fs H' fs1 g := ⟨w.nd, w.apart, fun a ha => let ⟨o, e, m⟩ := w.pl a ha; ⟨o, s a o e, m⟩, w.sub⟩
theorem de_tup {es : List Expr} {f : EvA} {x1 pos} (h : DA X E p o es f) : DE X E p o (.Tuple es x1 pos) (eTup f) := by
  refine PE.mono (pe_tup h) fun σ H Q ⟨env, fs, W, he, h⟩ => ⟨env, fs, W, he, ?_⟩
  unfold eTup at h
  cases e1 : f env with
  | no => rw [e1] at h; exact h
  | ex c => rw [e1] at h; exact h
  | ok x =>
    obtain ⟨ds, env1⟩ := x
    rw [e1] at h
    intro vs H' fs' g P
    by_cases hi : ds.length ≤ 1000
    · simp only [R.bind, hi, if_true] at h
      refine ⟨by rw [RepL.length P.rep]; exact le_line hi, fun q hq => ?_⟩
      have s : Same H' (upd H' q (.tup vs)) := same_upd hq
      exact h (.ref q) _ fs' g ⟨P.step.and_same s, .tup (.inl (.inl upd_same)) (P.rep.same s), fun z => (P.own z).same s⟩
    · simp [R.bind, hi] at h
theorem de_lst {es : List Expr} {f : EvA} {pos} (h : DA X E p o es f) : DE X E p o (.List es pos) (eLst f) := by
  refine PE.mono (pe_lst h) fun σ H Q ⟨env, fs, W, he, h⟩ => ⟨env, fs, W, he, ?_⟩
  unfold eLst at h
  cases e1 : f env with
  | no => rw [e1] at h; exact h
  | ex c => rw [e1] at h; exact h
  | ok x =>
    obtain ⟨ds, env1⟩ := x
    rw [e1] at h
    intro vs H' fs' g P
    by_cases hi : ds.length ≤ 1000
    · simp only [R.bind, hi, if_true] at h
      refine ⟨by rw [RepL.length P.rep]; exact le_line hi, fun q hq => ?_⟩
      have s : Same H' (upd H' q (.lst vs)) := same_upd hq
      refine h (.ref q) _ fs' (q :: g) ⟨P.step.and_same s, .lst upd_same (P.rep.same s), fun z => ?_⟩
      have w := (P.own z).same s
      have nq : ∀ i, q ∉ fs' i := fun i hi => by
        obtain ⟨o, e, _⟩ := P.step.renv.pl i q hi
        rw [hq] at e; cases e
      have ng : q ∉ g := fun hi => by
        obtain ⟨o, e⟩ := RepL.there _ _ _ P.rep q hi
        rw [hq] at e; cases e
      refine ⟨List.nodup_cons.mpr ⟨ng, w.nd⟩, fun a ha => ?_, fun a ha => ?_, fun a ha => ?_⟩
      · rcases List.mem_cons.mp ha with rfl | ha
        · exact nq
        · exact w.apart a ha
      · rcases List.mem_cons.mp ha with rfl | ha
        · exact ⟨_, upd_same, trivial⟩
        · exact w.pl a ha
      · rcases List.mem_cons.mp ha with rfl | ha
        · by_cases n : ∀ i, a ∉ fs i
          · cases e : H a with
            | none => exact .inr rfl
            | some o => rw [P.step.ext a o e n] at hq; cases hq
          · exact .inl (by simpa using n)
        · exact w.sub a ha
    · simp [R.bind, hi] at h
end
end DV
end
section
set_option Elab.async false
set_option linter.all false
set_option maxRecDepth 100000
namespace DV
open PySem PySem.Spec PyProof.Rows L2
section
variable {K : Frag} {H H' : Hp}
mutual
theorem rep_dp : ∀ (d : D) (v : V) (g : List Addr), Rep K H v d g → d.plain = true → Dp K H v d
  | .none, _, _, h, _ => by cases h; exact .non
  | .bool b, _, _, h, _ => by cases h; exact .bl b
  | .int i, _, _, h, _ => by cases h; exact .int i
  | .str s, _, _, h, _ => by cases h; exact .str s
  | .tuple ds, _, _, h, p => by
    cases h with
    | tup hq hl => exact .tup hq (repL_dp ds _ _ hl (by simpa [PyData.plain] using p))
  | .list ds, _, _, h, p => by
    cases h with
    | lst hq hl => exact .lst (SqL.of hq) (repL_dp ds _ _ hl (by simpa [PyData.plain] using p))
  | .dict es, _, _, h, p => by simp [PyData.plain] at p
theorem repL_dp : ∀ (ds : List D) (vs : List V) (g : List Addr), RepL K H vs ds g → PyData.plainAll ds = true → DpAll K H vs ds
  | [], _, _, h, _ => by cases h; exact .nil
  | d :: ds, _, _, h, p => by
    have p' : d.plain = true ∧ PyData.plainAll ds = true := by simpa [PyData.plainAll] using p
    cases h with
    | cons h1 h2 => exact .cons (rep_dp d _ _ h1 p'.1) (repL_dp ds _ _ h2 p'.2)
end
mutual
theorem plain_imm : ∀ d : D, imm d = true → d.plain = true
  | .none, _ => rfl
  | .bool _, _ => rfl
  | .int _, _ => rfl
  | .str _, _ => rfl
  | .tuple ds, h => by
    have h' : immL ds = true := by simpa [imm] using h
    simpa [PyData.plain] using plainAll_imm ds h'
  | .list _, h => by simp [imm] at h
  | .dict _, h => by simp [imm] at h
theorem plainAll_imm : ∀ ds : List D, immL ds = true → PyData.plainAll ds = true
  | [], _ => rfl
  | d :: ds, h => by
    have h' : imm d = true ∧ immL ds = true := by simpa [immL] using h
    simp [PyData.plainAll, plain_imm d h'.1, plainAll_imm ds h'.2]
end
theorem RepL.ints : ∀ {ns : List Int} {vs : List V} {g : List Addr}, RepL K H vs (ns.map PyData.int) g → vs = ns.map V.int ∧ g = []
  | [], _, _, h => by cases h; exact ⟨rfl, rfl⟩
  | n :: ns, _, _, h => by
    cases h with
    | cons h1 h2 =>
      cases h1
      obtain ⟨e, f⟩ := RepL.ints h2
      exact ⟨by rw [e]; rfl, by rw [f]; rfl⟩
theorem RepL.bools : ∀ {ns : List Bool} {vs : List V} {g : List Addr}, RepL K H vs (ns.map PyData.bool) g → vs = ns.map V.bl ∧ g = []
  | [], _, _, h => by cases h; exact ⟨rfl, rfl⟩
  | n :: ns, _, _, h => by
    cases h with
    | cons h1 h2 =>
      cases h1
      obtain ⟨e, f⟩ := RepL.bools h2
      exact ⟨by rw [e]; rfl, by rw [f]; rfl⟩
/-- a list's data, if all are ints (bools) -/
def ints? : List D → Option (List Int)
  | [] => some []
  | .int i :: ds => (ints? ds).map (i :: ·)
  | _ => none
def bools? : List D → Option (List Bool)
  | [] => some []
  | .bool i :: ds => (bools? ds).map (i :: ·)
  | _ => none
theorem ints_some : ∀ {ds : List D} {ns : List Int}, ints? ds = some ns → ds = ns.map PyData.int
  | [], ns, h => by simp [ints?] at h; subst h; rfl
  | .int i :: ds, ns, h => by
    simp only [ints?, Option.map_eq_some_iff] at h
    obtain ⟨ms, h1, rfl⟩ := h
    rw [ints_some h1]; rfl
  | .none :: _, _, h => by simp [ints?] at h
  | .bool _ :: _, _, h => by simp [ints?] at h
  | .str _ :: _, _, h => by simp [ints?] at h
  | .list _ :: _, _, h => by simp [ints?] at h
  | .tuple _ :: _, _, h => by simp [ints?] at h
  | .dict _ :: _, _, h => by simp [ints?] at h
theorem bools_some : ∀ {ds : List D} {ns : List Bool}, bools? ds = some ns → ds = ns.map PyData.bool
  | [], ns, h => by simp [bools?] at h; subst h; rfl
  | .bool i :: ds, ns, h => by
    simp only [bools?, Option.map_eq_some_iff] at h
    obtain ⟨ms, h1, rfl⟩ := h
    rw [bools_some h1]; rfl
  | .none :: _, _, h => by simp [bools?] at h
  | .int _ :: _, _, h => by simp [bools?] at h
  | .str _ :: _, _, h => by simp [bools?] at h
  | .list _ :: _, _, h => by simp [bools?] at h
  | .tuple _ :: _, _, h => by simp [bools?] at h
  | .dict _ :: _, _, h => by simp [bools?] at h
@[simp] theorem ints_map : ∀ (ns : List Int), ints? (ns.map PyData.int) = some ns
  | [] => rfl
  | n :: ns => by simp [ints?, ints_map ns]
@[simp] theorem bools_map : ∀ (ns : List Bool), bools? (ns.map PyData.bool) = some ns
  | [] => rfl
  | n :: ns => by simp [bools?, bools_map ns]
end
section
variable {X : Cx} {pins : List (Addr × Obj)} {σ : L2.St} {H : Hp} {s : Shared}
theorem rep_reads (I : Inv X pins σ H s) {d : D} {v : V} {u : Value} {g : List Addr} (h : Rep X.K H v d g) (p : d.plain = true) (r : RelV v u) : ∃ as, Reads s.heap u d as := Dp.reads I d v u (rep_dp d v g h p) r
theorem repL_reads (I : Inv X pins σ H s) {d : List D} {v : List V} {u : List Value} {g : List Addr} (h : RepL X.K H v d g) (p : PyData.plainAll d = true) (r : Vals v u) : ∃ as, ReadsAll s.heap u d as := Dp.readsAll I d v u (repL_dp d v g h p) r
/-! ### what stands between two values -/
def eqD (d e : D) : Option D := if d.plain = true ∧ e.plain = true ∧ d.depth ≤ 60 then some (.bool (PyData.eqv d e)) else none
def neD (d e : D) : Option D := if d.plain = true ∧ e.plain = true ∧ d.depth ≤ 60 then some (.bool (!PyData.eqv d e)) else none
theorem op_eqV (hu : X.A.units + 64 < cLine) : OpD X (compareOp .Eq) eqD := by
  rintro pins s σ H x y v u Q I rx ry ⟨d, e, g1, g2, r, hd, he, hF, q⟩
  unfold eqD at hF
  split at hF
  · rename_i hp
    cases hF
    obtain ⟨as, r1⟩ := rep_reads I hd hp.1 rx
    obtain ⟨bs, r2⟩ := rep_reads I he hp.2.1 ry
    exact PySem.SeqAt.eq_plain r1 r2 hp.1 hp.2.1 (by have := Nat.min_le_left d.depth e.depth; omega) ⟨.bl _, H, I, rfl, q _ _ _ (.scal (.bl _))⟩
  · cases hF
theorem op_neV (hu : X.A.units + 64 < cLine) : OpD X (compareOp .NotEq) neD := by
  rintro pins s σ H x y v u Q I rx ry ⟨d, e, g1, g2, r, hd, he, hF, q⟩
  unfold neD at hF
  split at hF
  · rename_i hp
    cases hF
    obtain ⟨as, r1⟩ := rep_reads I hd hp.1 rx
    obtain ⟨bs, r2⟩ := rep_reads I he hp.2.1 ry
    exact PySem.SeqAt.ne_plain r1 r2 hp.1 hp.2.1 (by have := Nat.min_le_left d.depth e.depth; omega) ⟨.bl _, H, I, rfl, q _ _ _ (.scal (.bl _))⟩
  · cases hF
def notNone : D → Bool
  | .none => false
  | _ => true
theorem ne_none {d : D} (h : notNone d = true) : d ≠ .none := fun e => by subst e; cases h
def cmpD (f : D → D → Bool) (d e : D) : Option D := if d.plain = true ∧ e.plain = true ∧ d.depth ≤ 60 ∧ PySem.W.alike d e = true ∧ notNone d = true then some (.bool (f d e)) else none
def ltD : D → D → Option D := cmpD fun d e => PySem.W.dataLt d e
def gtD : D → D → Option D := cmpD fun d e => PySem.W.dataLt e d
def leD : D → D → Option D := cmpD fun d e => !PySem.W.dataLt e d
def geD : D → D → Option D := cmpD fun d e => !PySem.W.dataLt d e
theorem op_cmpV {op : CmpOp} {f : D → D → Bool} (hu : X.A.units + 64 < cLine)
    (rule : ∀ (da db : D) (A : Around) (s : Shared) (a b : Value) (as bs : List Addr), Reads s.heap a da as → Reads s.heap b db bs → PySem.W.alike da db = true → da ≠ .none → A.units + min da.depth db.depth < cLine →
      ∀ (prog : Program) (w : World) (E : Value → Shared → Prop) (Q : Value → Shared → Prop), Q (.bool (f da db)) s → wpAny (model prog w) A (compareOp op a b) Q E s) : OpD X (compareOp op) (cmpD f) := by
  rintro pins s σ H x y v u Q I rx ry ⟨d, e, g1, g2, r, hd, he, hF, q⟩
  unfold cmpD at hF
  split at hF
  · rename_i hp
    cases hF
    obtain ⟨as, r1⟩ := rep_reads I hd hp.1 rx
    obtain ⟨bs, r2⟩ := rep_reads I he hp.2.1 ry
    exact rule d e X.A s v u as bs r1 r2 hp.2.2.2.1 (ne_none hp.2.2.2.2) (by have := Nat.min_le_left d.depth e.depth; omega) X.prog X.w _ _ ⟨.bl _, H, I, rfl, q _ _ _ (.scal (.bl _))⟩
  · cases hF
theorem op_ltV (hu : X.A.units + 64 < cLine) : OpD X (compareOp .Lt) ltD := op_cmpV hu fun da db A s a b as bs r1 r2 h n z prog w E Q q => PySem.W.rcLt_alike da db A s a b as bs r1 r2 h n z prog w E Q q
theorem op_gtV (hu : X.A.units + 64 < cLine) : OpD X (compareOp .Gt) gtD := op_cmpV hu fun da db A s a b as bs r1 r2 h n z prog w E Q q => PySem.W.rcGt_alike da db A s a b as bs r1 r2 h n z prog w E Q q
theorem op_leV (hu : X.A.units + 64 < cLine) : OpD X (compareOp .LtE) leD := op_cmpV hu fun da db A s a b as bs r1 r2 h n z prog w E Q q => PySem.W.rcLe_alike da db A s a b as bs r1 r2 h n z prog w E Q q
theorem op_geV (hu : X.A.units + 64 < cLine) : OpD X (compareOp .GtE) geD := op_cmpV hu fun da db A s a b as bs r1 r2 h n z prog w E Q q => PySem.W.rcGe_alike da db A s a b as bs r1 r2 h n z prog w E Q q
def isnD (d e : D) : Option D := match d, e with
  | .none, .none => some (.bool true)
  | _, .none => some (.bool false)
  | _, _ => none
def notnD (d e : D) : Option D := match d, e with
  | .none, .none => some (.bool false)
  | _, .none => some (.bool true)
  | _, _ => none
theorem op_isnV : OpD X (compareOp .Is) isnD := by
  rintro pins s σ H x y v u Q I rx ry ⟨d, e, g1, g2, r, hd, he, hF, q⟩
  have ee : e = .none := by
    unfold isnD at hF
    split at hF <;> first | rfl | cases hF
  subst ee
  cases he
  refine op_isN pins s σ H x .non v u Q I rx ry ⟨rfl, ?_⟩
  cases hd <;> (simp only [isnD, Option.some.injEq] at hF; subst hF; exact q _ _ _ (.scal (.bl _)))
theorem op_notnV : OpD X (compareOp .IsNot) notnD := by
  rintro pins s σ H x y v u Q I rx ry ⟨d, e, g1, g2, r, hd, he, hF, q⟩
  have ee : e = .none := by
    unfold notnD at hF
    split at hF <;> first | rfl | cases hF
  subst ee
  cases he
  refine op_notN pins s σ H x .non v u Q I rx ry ⟨rfl, ?_⟩
  cases hd <;> (simp only [notnD, Option.some.injEq] at hF; subst hF; exact q _ _ _ (.scal (.bl _)))
def inD (d e : D) : Option D := match e with
  | .list xs => if d.plain = true ∧ PyData.plainAll xs = true ∧ d.depth ≤ 60 then some (.bool (xs.any fun y => PyData.eqv y d)) else none
  | .tuple xs => if d.plain = true ∧ PyData.plainAll xs = true ∧ d.depth ≤ 60 then some (.bool (xs.any fun y => PyData.eqv y d)) else none
  | _ => none
def ninD (d e : D) : Option D := match e with
  | .list xs => if d.plain = true ∧ PyData.plainAll xs = true ∧ d.depth ≤ 60 then some (.bool (!xs.any fun y => PyData.eqv y d)) else none
  | .tuple xs => if d.plain = true ∧ PyData.plainAll xs = true ∧ d.depth ≤ 60 then some (.bool (!xs.any fun y => PyData.eqv y d)) else none
  | _ => none
theorem op_inV (hu : X.A.units + 64 < cLine) : OpD X (compareOp .In) inD := by
  rintro pins s σ H x y v u Q I rx ry ⟨d, e, g1, g2, r, hd, he, hF, q⟩
  unfold inD at hF
  split at hF
  · split at hF
    · rename_i xs hp
      cases hF
      obtain ⟨as, r1⟩ := rep_reads I hd hp.1 rx
      obtain ⟨bs, r2⟩ := rep_reads I he (by simpa [PyData.plain] using hp.2.1) ry
      exact PySem.SeqAt.in_list_data r2 r1 hp.2.1 hp.1 (by have := Nat.min_le_right (PyData.depthAll xs) d.depth; omega) ⟨.bl _, H, I, rfl, q _ _ _ (.scal (.bl _))⟩
    · cases hF
  · split at hF
    · rename_i xs hp
      cases hF
      obtain ⟨as, r1⟩ := rep_reads I hd hp.1 rx
      obtain ⟨bs, r2⟩ := rep_reads I he (by simpa [PyData.plain] using hp.2.1) ry
      exact PySem.SeqAt.in_tuple_data r2 r1 hp.2.1 hp.1 (by have := Nat.min_le_right (PyData.depthAll xs) d.depth; omega) ⟨.bl _, H, I, rfl, q _ _ _ (.scal (.bl _))⟩
    · cases hF
  · cases hF
theorem op_ninV (hu : X.A.units + 64 < cLine) : OpD X (compareOp .NotIn) ninD := by
  rintro pins s σ H x y v u Q I rx ry ⟨d, e, g1, g2, r, hd, he, hF, q⟩
  unfold ninD at hF
  split at hF
  · split at hF
    · rename_i xs hp
      cases hF
      obtain ⟨as, r1⟩ := rep_reads I hd hp.1 rx
      obtain ⟨bs, r2⟩ := rep_reads I he (by simpa [PyData.plain] using hp.2.1) ry
      exact PySem.SeqAt.notIn_list_data r2 r1 hp.2.1 hp.1 (by have := Nat.min_le_right (PyData.depthAll xs) d.depth; omega) ⟨.bl _, H, I, rfl, q _ _ _ (.scal (.bl _))⟩
    · cases hF
  · split at hF
    · rename_i xs hp
      cases hF
      obtain ⟨as, r1⟩ := rep_reads I hd hp.1 rx
      obtain ⟨bs, r2⟩ := rep_reads I he (by simpa [PyData.plain] using hp.2.1) ry
      exact PySem.SeqAt.notIn_tuple_data r2 r1 hp.2.1 hp.1 (by have := Nat.min_le_right (PyData.depthAll xs) d.depth; omega) ⟨.bl _, H, I, rfl, q _ _ _ (.scal (.bl _))⟩
    · cases hF
  · cases hF
/-! ### arithmetic -/
def addD : D → D → Option D
  | .int i, .int j => some (.int (i + j))
  | .str a, .str b => if a.length + b.length ≤ 16000000 then some (.str (a ++ b)) else none
  | .tuple xs, .tuple ys => if immL xs = true ∧ immL ys = true ∧ xs.length + ys.length ≤ 16000000 then some (.tuple (xs ++ ys)) else none
  | .list xs, .list ys => if immL xs = true ∧ immL ys = true ∧ xs.length + ys.length ≤ 16000000 then some (.list (xs ++ ys)) else none
  | _, _ => none
theorem in_line {n : Nat} (h : n ≤ 16000000) : n ≤ sizeLine := by rw [sizeLine_eq]; omega
theorem op_addV : OpD X (binaryOp .Add) addD := by
  rintro pins s σ H x y v u Q I rx ry ⟨d, e, g1, g2, r, hd, he, hF, q⟩
  unfold addD at hF
  split at hF
  · cases hF
    cases hd
    cases he
    exact op_add pins s σ H _ _ v u Q I rx ry ⟨_, _, rfl, rfl, q _ _ _ (.scal (.int _))⟩
  · split at hF
    · rename_i hp
      cases hF
      cases hd
      cases he
      exact op_add_str pins s σ H _ _ v u Q I rx ry ⟨_, _, rfl, rfl, in_line hp, q _ _ _ (.scal (.str _))⟩
    · cases hF
  · split at hF
    · rename_i xs ys hp
      cases hF
      cases hd with
      | tup h1 l1 =>
        cases he with
        | tup h2 l2 =>
          have f1 := RepL.fp_imm _ _ _ l1 hp.1
          have f2 := RepL.fp_imm _ _ _ l2 hp.2.1
          subst f1 f2
          have n1 := RepL.length l1
          have n2 := RepL.length l2
          refine op_catA pins s σ H _ _ v u Q I rx ry ⟨_, _, _, _, rfl, rfl, h1, h2, in_line (by omega), fun z => ?_, fun _ z => ?_, fun _ _ p hp => q _ _ _ (.tup (RepL.append l1 l2) hp)⟩
          · subst z
            cases l1
            exact q _ _ _ (.scal (.tup h2 l2))
          · subst z
            cases l2
            rw [List.append_nil] at q
            exact q _ _ _ (.scal (.tup h1 l1))
    · cases hF
  · split at hF
    · rename_i xs ys hp
      cases hF
      cases hd with
      | lst h1 l1 =>
        cases he with
        | lst h2 l2 =>
          have f1 := RepL.fp_imm _ _ _ l1 hp.1
          have f2 := RepL.fp_imm _ _ _ l2 hp.2.1
          subst f1 f2
          have n1 := RepL.length l1
          have n2 := RepL.length l2
          exact op_cat pins s σ H _ _ v u Q I rx ry ⟨_, _, _, _, rfl, rfl, h1, h2, in_line (by omega), fun p hp => q _ _ _ (.lst (RepL.append l1 l2) hp)⟩
    · cases hF
  · cases hF
def subD : D → D → Option D
  | .int i, .int j => some (.int (i - j))
  | _, _ => none
theorem op_subV : OpD X (binaryOp .Sub) subD := by
  rintro pins s σ H x y v u Q I rx ry ⟨d, e, g1, g2, r, hd, he, hF, q⟩
  unfold subD at hF
  split at hF
  · cases hF
    cases hd
    cases he
    exact op_sub pins s σ H _ _ v u Q I rx ry ⟨_, _, rfl, rfl, q _ _ _ (.scal (.int _))⟩
  · cases hF
theorem RepL.rep {vs : List V} {ds : List D} (h : RepL X.K H vs ds []) : ∀ k : Nat, RepL X.K H (List.replicate k vs).flatten (List.replicate k ds).flatten []
  | 0 => .nil
  | k + 1 => by
    rw [List.replicate_succ, List.replicate_succ, List.flatten_cons, List.flatten_cons]
    exact RepL.append h (RepL.rep h k)
instance (i j : Int) : Decidable (CMul i j) := by unfold CMul; exact inferInstance
def mulD : D → D → Option D
  | .int i, .int j => if CMul i j then some (.int (i * j)) else none
  | .list xs, .int k => if immL xs = true ∧ xs.length * k.toNat ≤ 16000000 ∧ -(2 ^ 63) ≤ k ∧ k < 2 ^ 63 then some (.list (List.replicate k.toNat xs).flatten) else none
  | .tuple xs, .int k => if immL xs = true ∧ xs ≠ [] ∧ xs.length ≤ 1000 ∧ 1 ≤ k ∧ k ≤ 1000 then some (.tuple (List.replicate k.toNat xs).flatten) else none
  | _, _ => none
theorem tuple_once (l : Addr) (items : Array Value) (n : Nat) (dd : Option Addr) (sl : Array (Option Value)) (u : Tok) :
    Meets (Builtin.«tuple.__mul__» ⟨[.ref l, .int 1 u], []⟩) (fun _ R s => s.heap.get? l = some { cls := .type "tuple", dict := dd, data := .seq items n, slots := sl } ∧ R (.ok (.ret (Value.ref l))) s) :=
  .of_wp fun prog w A R s h => by
    obtain ⟨hp, g, d, tk, os⟩ := s
    obtain ⟨hl, h⟩ := h
    have f1 := AutoSeq1.idx_int
    have c1 : (items.isEmpty || (1 : Int) == 1) = true := by simp
    wp_walk using wpAny_loadPart' hl
    exact ⟨_, rfl, h⟩
theorem op_once : OpR X (binaryOp .Mult) (fun x y H Q => ∃ l xs, x = .ref l ∧ y = .int 1 ∧ SqT X.K H l xs ∧ Q x H) := by
  rintro pins s σ H x y v u Q I rx ry ⟨l, xs, rfl, rfl, hT, q⟩
  cases rx
  obtain ⟨t, rfl⟩ := ry
  obtain ⟨its, r, ⟨⟨cls, dd, data, sl⟩, ho, hc, n, hd⟩, hs⟩ := I.tuple hT
  simp only at hc hd
  subst hc hd
  exact wpAny_binaryOp_repeat_ref (T := "tuple") (U := "int") (by decide) ⟨_, ho, rfl⟩ (fun s' => typeIs_int s' 1 t) noFill_tuple_mul F.fills_int_mul F.slot_int_rmul repeat_tuple F.slot_int_index.lookup
    (call_meets F.slot_int_rmul (typeIs_int s 1 t) F.entry_int_rmul (F.args_int_rmul_2 _ _) (int_rmul_tuple 1 t l its.toArray n dd sl)
      ⟨ho, rfl, ⟨_, ho, rfl⟩, call_meets F.slot_tuple_mul ⟨_, ho, rfl⟩ F.entry_tuple_mul (F.args_tuple_mul_2 _ _) (tuple_once l its.toArray n dd sl t) ⟨ho, .ref l, H, I, rfl, q⟩⟩)
theorem op_mulV : OpD X (binaryOp .Mult) mulD := by
  rintro pins s σ H x y v u Q I rx ry ⟨d, e, g1, g2, r, hd, he, hF, q⟩
  unfold mulD at hF
  split at hF
  · split at hF
    · rename_i hp
      cases hF
      cases hd
      cases he
      exact op_mul pins s σ H _ _ v u Q I rx ry ⟨_, _, rfl, rfl, hp, q _ _ _ (.scal (.int _))⟩
    · cases hF
  · split at hF
    · rename_i xs k hp
      cases hF
      cases he
      cases hd with
      | lst h1 l1 =>
        have f1 := RepL.fp_imm _ _ _ l1 hp.1
        subst f1
        have n1 := RepL.length l1
        exact op_rep pins s σ H _ _ v u Q I rx ry ⟨_, _, _, rfl, rfl, h1, hp.2.2.1, hp.2.2.2, in_line (by rw [n1]; exact hp.2.1), fun p hp => q _ _ _ (.lst (RepL.rep l1 _) hp)⟩
    · cases hF
  · split at hF
    · rename_i xs k hp
      cases hF
      cases he
      cases hd with
      | tup h1 l1 =>
        have f1 := RepL.fp_imm _ _ _ l1 hp.1
        subst f1
        have n1 := RepL.length l1
        have hne : ∀ {vs : List V}, RepL X.K H vs xs [] → vs ≠ [] := fun {vs} l z => by
          subst z
          have := RepL.length l
          exact hp.2.1 (List.length_eq_zero_iff.mp this.symm)
        by_cases k1 : k = 1
        · subst k1
          refine op_once pins s σ H _ _ v u Q I rx ry ⟨_, _, rfl, rfl, h1, q _ _ [] (.scal ?_)⟩
          have : (List.replicate (1 : Int).toNat xs).flatten = xs := by simp
          rw [this]
          exact .tup h1 l1
        · exact op_repT pins s σ H _ _ v u Q I rx ry ⟨_, _, _, rfl, rfl, h1, hne l1, by omega, hp.2.2.2.2, by omega, fun p hp => q _ _ _ (.tup (RepL.rep l1 _) hp)⟩
    · cases hF
  · cases hF
instance (i j : Int) : Decidable (CDiv i j) := by unfold CDiv; exact inferInstance
def fdivD : D → D → Option D
  | .int i, .int j => if CDiv i j then some (.int (i / j)) else none
  | _, _ => none
theorem op_fdivV : OpD X (binaryOp .FloorDiv) fdivD := by
  rintro pins s σ H x y v u Q I rx ry ⟨d, e, g1, g2, r, hd, he, hF, q⟩
  unfold fdivD at hF
  split at hF
  · split at hF
    · rename_i hp
      cases hF
      cases hd
      cases he
      exact op_fdiv pins s σ H _ _ v u Q I rx ry ⟨_, _, rfl, rfl, hp, q _ _ _ (.scal (.int _))⟩
    · cases hF
  · cases hF
def modD : D → D → Option D
  | .int i, .int j => if 0 < j then some (.int (i % j)) else none
  | _, _ => none
theorem op_modV : OpD X (binaryOp .Mod) modD := by
  rintro pins s σ H x y v u Q I rx ry ⟨d, e, g1, g2, r, hd, he, hF, q⟩
  unfold modD at hF
  split at hF
  · split at hF
    · rename_i hp
      cases hF
      cases hd
      cases he
      exact op_mod pins s σ H _ _ v u Q I rx ry ⟨_, _, rfl, rfl, hp, q _ _ _ (.scal (.int _))⟩
    · cases hF
  · cases hF
def negD : D → Option D
  | .int i => some (.int (-i))
  | _ => none
theorem un_negV : UnR X (unaryOp .USub) (rD1 X.K negD) := by
  rintro pins s σ H x v Q I rx ⟨d, g1, r, hd, hF, q⟩
  unfold negD at hF
  split at hF
  · cases hF
    cases hd
    exact un_neg pins s σ H _ v Q I rx ⟨_, rfl, q _ _ _ (.scal (.int _))⟩
  · cases hF
/-! ### calls -/
theorem repL_one {ds : List D} {d : D} {vs : List V} {g : List Addr} (h : RepL X.K H vs ds g) (e : ds = [d]) : ∃ v, vs = [v] ∧ Rep X.K H v d g := by
  subst e
  cases h with
  | cons h1 h2 =>
    cases h2
    exact ⟨_, rfl, by simpa using h1⟩
theorem repL_two {ds : List D} {d e : D} {vs : List V} {g : List Addr} (h : RepL X.K H vs ds g) (z : ds = [d, e]) : ∃ v w g1 g2, vs = [v, w] ∧ Rep X.K H v d g1 ∧ Rep X.K H w e g2 := by
  subst z
  cases h with
  | cons h1 h2 =>
    cases h2 with
    | cons h2 h3 =>
      cases h3
      exact ⟨_, _, _, _, rfl, h1, h2⟩
def lenD : List D → Option D
  | [.list xs] => some (.int xs.length)
  | [.tuple xs] => some (.int xs.length)
  | [.str z] => if z.length ≤ 16000000 then some (.int z.length) else none
  | _ => none
theorem cr_lenV : CallR X (.builtin "len") (rDn X.K lenD) := by
  rintro pins s σ H xs us Q I r ⟨ds, g, res, hr, hF, q⟩
  unfold lenD at hF
  split at hF
  · cases hF
    obtain ⟨v, rfl, h⟩ := repL_one hr rfl
    cases h with
    | lst h1 l1 =>
      refine call_len_seq pins s σ H _ us Q I r ⟨_, _, rfl, .inl (SqL.of h1), ?_⟩
      rw [RepL.length l1]
      exact q _ _ _ (.scal (.int _))
  · cases hF
    obtain ⟨v, rfl, h⟩ := repL_one hr rfl
    cases h with
    | tup h1 l1 =>
      refine call_len_seq pins s σ H _ us Q I r ⟨_, _, rfl, .inr h1, ?_⟩
      rw [RepL.length l1]
      exact q _ _ _ (.scal (.int _))
  · split at hF
    · rename_i hp
      cases hF
      obtain ⟨v, rfl, h⟩ := repL_one hr rfl
      cases h
      exact call_len_str pins s σ H _ us Q I r ⟨_, rfl, in_line hp, q _ _ _ (.scal (.int _))⟩
    · cases hF
  · cases hF
def absD : List D → Option D
  | [.int i] => some (.int (if i < 0 then -i else i))
  | _ => none
theorem cr_absV : CallR X (.builtin "abs") (rDn X.K absD) := by
  rintro pins s σ H xs us Q I r ⟨ds, g, res, hr, hF, q⟩
  unfold absD at hF
  split at hF
  · cases hF
    obtain ⟨v, rfl, h⟩ := repL_one hr rfl
    cases h
    exact call_abs pins s σ H _ us Q I r ⟨_, rfl, q _ _ _ (.scal (.int _))⟩
  · cases hF
def intD : List D → Option D
  | [.int i] => some (.int i)
  | [.bool b] => some (.int (if b then 1 else 0))
  | _ => none
theorem cr_intV : CallR X (.type "int") (rDn X.K intD) := by
  rintro pins s σ H xs us Q I r ⟨ds, g, res, hr, hF, q⟩
  unfold intD at hF
  split at hF
  · cases hF
    obtain ⟨v, rfl, h⟩ := repL_one hr rfl
    cases h
    exact call_int1 pins s σ H _ us Q I r (.inl ⟨_, rfl, q _ _ _ (.scal (.int _))⟩)
  · cases hF
    obtain ⟨v, rfl, h⟩ := repL_one hr rfl
    cases h
    exact call_int1 pins s σ H _ us Q I r (.inr ⟨_, rfl, q _ _ _ (.scal (.int _))⟩)
  · cases hF
def tupleD : List D → Option D
  | [.list xs] => if immL xs = true then some (.tuple xs) else none
  | [.tuple xs] => if immL xs = true then some (.tuple xs) else none
  | _ => none
theorem cr_tupleV : CallR X (.type "tuple") (rDn X.K tupleD) := by
  rintro pins s σ H xs us Q I r ⟨ds, g, res, hr, hF, q⟩
  unfold tupleD at hF
  split at hF
  · split at hF
    · rename_i hp
      cases hF
      obtain ⟨v, rfl, h⟩ := repL_one hr rfl
      cases h with
      | lst h1 l1 =>
        have f1 := RepL.fp_imm _ _ _ l1 hp
        subst f1
        exact call_tuple_of pins s σ H _ us Q I r ⟨_, _, rfl, .inl ⟨SqL.of h1, fun p hp => q _ _ _ (.tup l1 hp)⟩⟩
    · cases hF
  · split at hF
    · rename_i hp
      cases hF
      obtain ⟨v, rfl, h⟩ := repL_one hr rfl
      cases h with
      | tup h1 l1 =>
        have f1 := RepL.fp_imm _ _ _ l1 hp
        subst f1
        exact call_tuple_of pins s σ H _ us Q I r ⟨_, _, rfl, .inr ⟨h1, q _ _ _ (.scal (.tup h1 l1))⟩⟩
    · cases hF
  · cases hF
def listD : List D → Option D
  | [.list xs] => if immL xs = true then some (.list xs) else none
  | [.tuple xs] => if immL xs = true then some (.list xs) else none
  | _ => none
theorem cr_listV : CallR X (.type "list") (rDn X.K listD) := by
  rintro pins s σ H xs us Q I r ⟨ds, g, res, hr, hF, q⟩
  unfold listD at hF
  split at hF
  · split at hF
    · rename_i hp
      cases hF
      obtain ⟨v, rfl, h⟩ := repL_one hr rfl
      cases h with
      | lst h1 l1 =>
        have f1 := RepL.fp_imm _ _ _ l1 hp
        subst f1
        exact call_list_of pins s σ H _ us Q I r ⟨_, _, rfl, .inl (SqL.of h1), fun p hp => q _ _ _ (.lst l1 hp)⟩
    · cases hF
  · split at hF
    · rename_i hp
      cases hF
      obtain ⟨v, rfl, h⟩ := repL_one hr rfl
      cases h with
      | tup h1 l1 =>
        have f1 := RepL.fp_imm _ _ _ l1 hp
        subst f1
        exact call_list_of pins s σ H _ us Q I r ⟨_, _, rfl, .inr h1, fun p hp => q _ _ _ (.lst l1 hp)⟩
    · cases hF
  · cases hF
def allD : List D → Option D
  | [.list xs] => (bools? xs).map fun bs => .bool (bs.all id)
  | _ => none
def anyD : List D → Option D
  | [.list xs] => (bools? xs).map fun bs => .bool (bs.any id)
  | _ => none
theorem cr_allV (hc : X.calm = true) : CallR X (.builtin "all") (rDn X.K allD) := by
  rintro pins s σ H xs us Q I r ⟨ds, g, res, hr, hF, q⟩
  unfold allD at hF
  split at hF
  · rename_i ys
    obtain ⟨bs, hb, rfl⟩ := Option.map_eq_some_iff.mp hF
    obtain ⟨v, rfl, h⟩ := repL_one hr rfl
    rw [bools_some hb] at h
    cases h with
    | lst h1 l1 =>
      obtain ⟨e, f⟩ := RepL.bools l1
      subst e
      exact cr_all hc pins s σ H _ us Q I r ⟨_, _, rfl, SqL.of h1, q _ _ _ (.scal (.bl _))⟩
  · cases hF
theorem cr_anyV (hc : X.calm = true) : CallR X (.builtin "any") (rDn X.K anyD) := by
  rintro pins s σ H xs us Q I r ⟨ds, g, res, hr, hF, q⟩
  unfold anyD at hF
  split at hF
  · rename_i ys
    obtain ⟨bs, hb, rfl⟩ := Option.map_eq_some_iff.mp hF
    obtain ⟨v, rfl, h⟩ := repL_one hr rfl
    rw [bools_some hb] at h
    cases h with
    | lst h1 l1 =>
      obtain ⟨e, f⟩ := RepL.bools l1
      subst e
      exact cr_any hc pins s σ H _ us Q I r ⟨_, _, rfl, SqL.of h1, q _ _ _ (.scal (.bl _))⟩
  · cases hF
end
end DV
end
section
set_option Elab.async false
set_option linter.all false
set_option maxRecDepth 100000
namespace DV
open PySem PySem.Spec PyProof.Rows L2
section
variable {X : Cx} {E : XK} {p p1 p2 p3 pt o o1 o2 o3 : Bool}
/-! ### tests -/
abbrev Et := Env → R (Bool × Env)
def tDT (K : Frag) (E : XK) (p : Bool) (f : Et) : TT := fun σ H Q => ∃ env fs W, RepEnv K W H σ env fs ∧ match f env with
  | .no => False
  | .ex c => ExP K E c H fs
  | .ok (b, env') => ∀ H' fs', Step K W p H env fs H' σ env' fs' → Q b H'
def DT (X : Cx) (E : XK) (p : Bool) (e : Expr) (f : Et) : Prop := PT X e (tDT X.K E p f)
def DW (X : Cx) (E : XK) (p : Bool) (e : Expr) (f : Et) : Prop := PW X e (tDT X.K E p f)
theorem PT.mono {e : Expr} {t t' : TT} (h : PT X e t) (m : ∀ σ H Q, t' σ H Q → t σ H Q) : PT X e t' := ⟨fun pins s σ H Q I w => h.run pins s σ H Q I (m σ H Q w)⟩
theorem PW.mono {e : Expr} {t t' : TT} (h : PW X e t) (m : ∀ σ H Q, t' σ H Q → t σ H Q) : PW X e t' := ⟨fun wh pins s σ H Q I w => h.run wh pins s σ H Q I (m σ H Q w)⟩
def eT (f : Ev) : Et := fun env => (f env).bind fun x => match x.1 with
  | .bool b => .ok (b, x.2)
  | _ => .no
theorem tD_T {f : Ev} {σ : L2.St} {H : Hp} {Q : Bool → Hp → Prop} (h : tDT X.K E p (eT f) σ H Q) : tD X.K E p o f σ H fun x H1 => ∃ c, x = .bl c ∧ Q c H1 := by
  obtain ⟨env, fs, W, he, h⟩ := h
  refine ⟨env, fs, W, he, ?_⟩
  unfold eT at h
  cases e1 : f env with
  | no => rw [e1] at h; exact h
  | ex c => rw [e1] at h; exact h
  | ok x =>
    obtain ⟨d, env1⟩ := x
    rw [e1] at h
    intro v H' fs' g P
    cases d with
    | bool b =>
      have r := P.rep
      cases r
      exact ⟨b, rfl, h H' fs' P.step⟩
    | _ => exact (show False from h).elim
theorem dt_val {e : Expr} {f : Ev} (h : DE X E p o e f) (he : ∀ whole, isTrue e X.env whole = (do let v ← whole; standAt e.pos; holding [v] (truthy v)) := by intro _; rfl) : DT X E p e (eT f) :=
  PT.mono (pt_val h he) fun σ H Q z => tD_T z
theorem dt_cmp {a b : Expr} {op : CmpOp} {F : D → D → Option D} {f g : Ev} {pos : Pos} (ho : OpD X (compareOp op) F) (ha : DE X E p1 o1 a f) (hb : DE X E p2 o2 b g) (hm : behindInMarks op b = false := by first | exact nobehind _ (by decide) (by decide) | rfl) (c : (o1 || p2) = true := by rfl) : DT X E (p1 && p2) (.Compare a [op] [b] pos) (eT (eBin F f g)) := by
  refine PT.mono (pt_cmpR ho ha hb hm) fun σ H Q z => ?_
  exact tD_bin c (tD_T z)
/-- a value's truth -/
def truthD : D → Option Bool
  | .none => some false
  | .bool b => some b
  | .int i => some (i != 0)
  | .str z => if z.length ≤ 16000000 then some ((z.length : Int) != 0) else none
  | .list xs => some !xs.isEmpty
  | .tuple xs => some !xs.isEmpty
  | .dict _ => none
def eTru (f : Ev) : Et := fun env => (f env).bind fun x => (R.of (truthD x.1)).bind fun b => .ok (b, x.2)
theorem isEmpty_len {α β : Type} {xs : List α} {ys : List β} (h : xs.length = ys.length) : xs.isEmpty = ys.isEmpty := by
  cases xs <;> cases ys <;> simp_all
theorem tD_Tru {f : Ev} {σ : L2.St} {H : Hp} {Q : Bool → Hp → Prop} (h : tDT X.K E p (eTru f) σ H Q) : tD X.K E p o f σ H fun x H1 => ∃ k, TruV X.K x H1 k ∧ Q k H1 := by
  obtain ⟨env, fs, W, he, h⟩ := h
  refine ⟨env, fs, W, he, ?_⟩
  unfold eTru at h
  cases e1 : f env with
  | no => rw [e1] at h; exact h
  | ex c => rw [e1] at h; exact h
  | ok x =>
    obtain ⟨d, env1⟩ := x
    rw [e1] at h
    intro v H' fs' g P
    cases e3 : truthD d with
    | none => simp [R.bind, e3, R.of] at h
    | some b =>
      simp only [R.bind, e3, R.of] at h
      refine ⟨b, ?_, h H' fs' P.step⟩
      have r := P.rep
      cases r with
      | non =>
        cases e3
        exact (rfl : false = false)
      | bl c => simp [truthD] at e3; exact e3.symm
      | int i => simp only [truthD, Option.some.injEq] at e3; exact e3.symm
      | str z =>
        simp only [truthD] at e3
        split at e3
        · rename_i hz
          cases e3
          exact ⟨in_line hz, rfl⟩
        · cases e3
      | tup h1 l1 =>
        simp only [truthD, Option.some.injEq] at e3
        subst e3
        exact .inr (.inl ⟨_, h1, by rw [isEmpty_len (RepL.length l1)]⟩)
      | lst h1 l1 =>
        simp only [truthD, Option.some.injEq] at e3
        subst e3
        exact .inl ⟨_, SqL.of h1, by rw [isEmpty_len (RepL.length l1)]⟩
      | dK h1 l1 => simp [truthD] at e3
      | dT h1 l1 => simp [truthD] at e3
theorem dt_truth {e : Expr} {f : Ev} (h : DE X E p o e f) (he : ∀ whole, isTrue e X.env whole = (do let v ← whole; standAt e.pos; holding [v] (truthy v)) := by intro _; rfl) : DT X E p e (eTru f) :=
  PT.mono (pt_truth h he) fun σ H Q z => tD_Tru z
theorem dt_w {e : Expr} {f : Et} (h : DW X E p e f) : DT X E p e f := PW.pt h
def tAndE (f g : Et) : Et := fun env => (f env).bind fun x => if x.1 = true then g x.2 else .ok (false, x.2)
def tOrE (f g : Et) : Et := fun env => (f env).bind fun x => if x.1 = true then .ok (true, x.2) else g x.2
def tNotE (f : Et) : Et := fun env => (f env).bind fun x => .ok (!x.1, x.2)
theorem dt_not {a : Expr} {f : Et} {pos : Pos} (h : DT X E p a f) : DT X E p (.UnaryOp .Not a pos) (tNotE f) := by
  refine PT.mono (pt_not h) fun σ H Q ⟨env, fs, W, he, z⟩ => ⟨env, fs, W, he, ?_⟩
  unfold tNotE at z
  cases e1 : f env with
  | no => rw [e1] at z; exact z
  | ex c => rw [e1] at z; exact z
  | ok x => rw [e1] at z; exact z
theorem dw_and1 {a : Expr} {f : Et} {pos : Pos} (h : DT X E p a f) : DW X E p (.BoolOp .And [a] pos) f := pw_and1 h
theorem dw_or1 {a : Expr} {f : Et} {pos : Pos} (h : DT X E p a f) : DW X E p (.BoolOp .Or [a] pos) f := pw_or1 h
/-- the second one is asked where the first one says c -/
def tOn (c : Bool) (f g : Et) : Et := fun env => (f env).bind fun x => if x.1 = c then g x.2 else .ok (!c, x.2)
theorem tDT_and {f g : Et} {σ : L2.St} {H : Hp} {Q : Bool → Hp → Prop} {c : Bool} (h : tDT X.K E (p1 && p2) (tOn c f g) σ H Q) :
    tDT X.K E p1 f σ H fun b H1 => if b = c then tDT X.K E p2 g σ H1 Q else Q (!c) H1 := by
  obtain ⟨env, fs, W, he, h⟩ := h
  refine ⟨env, fs, W, he, ?_⟩
  unfold tOn at h
  cases e1 : f env with
  | no => rw [e1] at h; exact h
  | ex c => rw [e1] at h; exact h
  | ok x =>
    obtain ⟨b, env1⟩ := x
    rw [e1] at h
    intro H1 fs1 S1
    by_cases hb : b = c
    · rw [if_pos hb]
      refine ⟨env1, fs1, W, S1.renv, ?_⟩
      simp only [R.bind, hb, if_true] at h
      cases e2 : g env1 with
      | no => rw [e2] at h; exact h
      | ex c => rw [e2] at h; exact h.before S1
      | ok y =>
        rw [e2] at h
        exact fun H2 fs2 S2 => h H2 fs2 (S1.trans S2)
    · rw [if_neg hb]
      simp only [R.bind, hb, if_false] at h
      refine h H1 fs1 (S1.weak fun z => ?_)
      cases p1
      · cases z
      · rfl
theorem dw_and {a b : Expr} {rest : List Expr} {f g : Et} {pos : Pos} (ha : DT X E p1 a f) (hb : DW X E p2 (.BoolOp .And (b :: rest) pos) g) : DW X E (p1 && p2) (.BoolOp .And (a :: b :: rest) pos) (tAndE f g) := by
  refine PW.mono (pw_and ha hb) fun σ H Q z => ?_
  have z' : tDT X.K E (p1 && p2) (tOn true f g) σ H Q := z
  exact tDT_and z'
theorem dw_or {a b : Expr} {rest : List Expr} {f g : Et} {pos : Pos} (ha : DT X E p1 a f) (hb : DW X E p2 (.BoolOp .Or (b :: rest) pos) g) : DW X E (p1 && p2) (.BoolOp .Or (a :: b :: rest) pos) (tOrE f g) := by
  refine PW.mono (pw_or ha hb) fun σ H Q z => ?_
  have z' : tDT X.K E (p1 && p2) (tOn false f g) σ H Q := by
    obtain ⟨env, fs, W, he, h⟩ := z
    refine ⟨env, fs, W, he, ?_⟩
    have e : tOn false f g env = tOrE f g env := by
      unfold tOrE tOn
      cases f env with
      | no => rfl
      | ex c => rfl
      | ok x =>
        obtain ⟨b, env1⟩ := x
        cases b <;> rfl
    rw [e]
    exact h
  obtain ⟨env, fs, W, he, h⟩ := tDT_and z'
  refine ⟨env, fs, W, he, ?_⟩
  cases e1 : f env with
  | no => rw [e1] at h; exact h
  | ex c => rw [e1] at h; exact h
  | ok x =>
    obtain ⟨b, env1⟩ := x
    rw [e1] at h
    intro H1 fs1 S1
    have q := h H1 fs1 S1
    cases b
    · exact q
    · exact q
/-! ### and, or, not as values of truth; a if t else b -/
def eAnd (f g : Ev) : Ev := fun env => (f env).bind fun x => match x.1 with
  | .bool b => if b = true then g x.2 else .ok (.bool false, x.2)
  | _ => .no
def eOr (f g : Ev) : Ev := fun env => (f env).bind fun x => match x.1 with
  | .bool b => if b = true then .ok (.bool true, x.2) else g x.2
  | _ => .no
theorem Post.scal {K : Frag} {W : Addr → Prop} {H H1 : Hp} {σ : L2.St} {env env1 : Env} {fs fs1 : Fs} {v : V} {d : D} (S : Step K W p H env fs H1 σ env1 fs1) (r : Rep K H1 v d []) : Post K W p o H env fs H1 σ env1 fs1 v d [] := ⟨S, r, fun _ => Own.nil⟩
theorem Post.after {K : Frag} {W : Addr → Prop} {H H1 H2 : Hp} {σ : L2.St} {env env1 env2 : Env} {fs fs1 fs2 : Fs} {v : V} {d : D} {g : List Addr} (S : Step K W p1 H env fs H1 σ env1 fs1) (P : Post K W p2 o1 H1 env1 fs1 H2 σ env2 fs2 v d g) (hp : p = true → p1 = true ∧ p2 = true) (ho : o = true → o1 = true) : Post K W p o H env fs H2 σ env2 fs2 v d g :=
  ⟨(S.trans P.step).weak fun z => by
    obtain ⟨a, b⟩ := hp z
    rw [a, b]
    rfl, P.rep, fun z => Own.before S (P.own (ho z))⟩
theorem and_l (h : (p1 && p2) = true) : p1 = true := by cases p1 <;> simp_all
theorem and_r (h : (p1 && p2) = true) : p2 = true := by cases p1 <;> simp_all
theorem de_and1 {a : Expr} {op} {f : Ev} {pos : Pos} (h : DE X E p o a f) : DE X E p o (.BoolOp op [a] pos) f := pe_one h
theorem de_and {a b : Expr} {rest : List Expr} {f g : Ev} {pos : Pos} (ha : DE X E p1 o1 a f) (hb : DE X E p2 o2 (.BoolOp .And (b :: rest) pos) g) : DE X E (p1 && p2) o2 (.BoolOp .And (a :: b :: rest) pos) (eAnd f g) := by
  refine PE.mono (pe_and ha hb) fun σ H Q ⟨env, fs, W, he, h⟩ => ⟨env, fs, W, he, ?_⟩
  unfold eAnd at h
  cases e1 : f env with
  | no => rw [e1] at h; exact h
  | ex c => rw [e1] at h; exact h
  | ok x =>
    obtain ⟨d, env1⟩ := x
    rw [e1] at h
    intro v H1 fs1 g1 P1
    cases d with
    | bool b =>
      have r := P1.rep
      cases r
      refine ⟨b, rfl, ?_⟩
      cases b with
      | false =>
        rw [if_neg Bool.false_ne_true]
        exact h (.bl false) H1 fs1 [] (Post.scal (P1.step.weak and_l) (.bl _))
      | true =>
        rw [if_pos rfl]
        refine ⟨env1, fs1, W, P1.step.renv, ?_⟩
        simp only [R.bind, if_true] at h
        cases e2 : g env1 with
        | no => rw [e2] at h; exact h
        | ex c => rw [e2] at h; exact h.before P1.step
        | ok y =>
          rw [e2] at h
          exact fun v2 H2 fs2 g2 P2 => h v2 H2 fs2 g2 (Post.after P1.step P2 (fun z => ⟨and_l z, and_r z⟩) fun z => z)
    | _ => exact (show False from h).elim
theorem de_or {a b : Expr} {rest : List Expr} {f g : Ev} {pos : Pos} (ha : DE X E p1 o1 a f) (hb : DE X E p2 o2 (.BoolOp .Or (b :: rest) pos) g) : DE X E (p1 && p2) o2 (.BoolOp .Or (a :: b :: rest) pos) (eOr f g) := by
  refine PE.mono (pe_or ha hb) fun σ H Q ⟨env, fs, W, he, h⟩ => ⟨env, fs, W, he, ?_⟩
  unfold eOr at h
  cases e1 : f env with
  | no => rw [e1] at h; exact h
  | ex c => rw [e1] at h; exact h
  | ok x =>
    obtain ⟨d, env1⟩ := x
    rw [e1] at h
    intro v H1 fs1 g1 P1
    cases d with
    | bool b =>
      have r := P1.rep
      cases r
      refine ⟨b, rfl, ?_⟩
      cases b with
      | true =>
        rw [if_pos rfl]
        exact h (.bl true) H1 fs1 [] (Post.scal (P1.step.weak and_l) (.bl _))
      | false =>
        rw [if_neg Bool.false_ne_true]
        refine ⟨env1, fs1, W, P1.step.renv, ?_⟩
        simp only [R.bind, Bool.false_eq_true, if_false] at h
        cases e2 : g env1 with
        | no => rw [e2] at h; exact h
        | ex c => rw [e2] at h; exact h.before P1.step
        | ok y =>
          rw [e2] at h
          exact fun v2 H2 fs2 g2 P2 => h v2 H2 fs2 g2 (Post.after P1.step P2 (fun z => ⟨and_l z, and_r z⟩) fun z => z)
    | _ => exact (show False from h).elim
def notD : D → Option D
  | .bool b => some (.bool !b)
  | _ => none
theorem de_not {a : Expr} {f : Ev} {pos : Pos} (h : DE X E p o a f) : DE X E p true (.UnaryOp .Not a pos) (eUn notD f) := by
  refine PE.mono (pe_not h) fun σ H Q z => ?_
  obtain ⟨env, fs, W, he, q⟩ := tD_un (o1 := o) z
  refine ⟨env, fs, W, he, ?_⟩
  cases e1 : f env with
  | no => rw [e1] at q; exact q
  | ex c => rw [e1] at q; exact q
  | ok x =>
    rw [e1] at q
    intro v H1 fs1 g1 P1
    obtain ⟨d, g2, r, hd, hF, hq⟩ := q v H1 fs1 g1 P1
    unfold notD at hF
    split at hF
    · cases hF
      cases hd
      exact ⟨_, rfl, hq _ _ _ (.scal (.bl _))⟩
    · cases hF
def eIf (t : Et) (f g : Ev) : Ev := fun env => (t env).bind fun x => if x.1 = true then f x.2 else g x.2
theorem de_if {c a b : Expr} {t : Et} {f g : Ev} {pos : Pos} (hc : DT X E pt c t) (ha : DE X E p1 o1 a f) (hb : DE X E p2 o2 b g) : DE X E (pt && (p1 && p2)) (o1 && o2) (.IfExp c a b pos) (eIf t f g) := by
  refine PE.mono (pe_ifExp hc ha hb) fun σ H Q ⟨env, fs, W, he, h⟩ => ⟨env, fs, W, he, ?_⟩
  unfold eIf at h
  cases e1 : t env with
  | no => rw [e1] at h; exact h
  | ex c => rw [e1] at h; exact h
  | ok x =>
    obtain ⟨d, env1⟩ := x
    rw [e1] at h
    intro H1 fs1 S1
    cases d with
    | true =>
      rw [if_pos rfl]
      refine ⟨env1, fs1, W, S1.renv, ?_⟩
      simp only [R.bind, if_true] at h
      cases e2 : f env1 with
      | no => rw [e2] at h; exact h
      | ex c => rw [e2] at h; exact h.before S1
      | ok y =>
        rw [e2] at h
        exact fun v2 H2 fs2 g2 P2 => h v2 H2 fs2 g2 (Post.after S1 P2 (fun z => ⟨and_l z, and_l (and_r z)⟩) and_l)
    | false =>
      rw [if_neg Bool.false_ne_true]
      refine ⟨env1, fs1, W, S1.renv, ?_⟩
      simp only [R.bind, Bool.false_eq_true, if_false] at h
      cases e2 : g env1 with
      | no => rw [e2] at h; exact h
      | ex c => rw [e2] at h; exact h.before S1
      | ok y =>
        rw [e2] at h
        exact fun v2 H2 fs2 g2 P2 => h v2 H2 fs2 g2 (Post.after S1 P2 (fun z => ⟨and_l z, and_r (and_r z)⟩) and_r)
/-! ### subscripts -/
def ixD : D → D → Option D
  | .list xs, .int i => atI xs i
  | .tuple xs, .int i => atI xs i
  | .str z, .int i => if z.length ≤ 16000000 then (atI z.cps.toList i).map fun c => .str ⟨#[c]⟩ else none
  | _, _ => none
theorem atI_some {α : Type} {xs : List α} {i : Int} {v : α} (h : atI xs i = some v) : ∃ j, ixN xs.length i = some j ∧ xs[j]? = some v := by
  unfold atI at h
  cases e : ixN xs.length i with
  | none => rw [e] at h; cases h
  | some j => rw [e] at h; exact ⟨j, rfl, h⟩
theorem atI_of {α : Type} {xs : List α} {i : Int} {j : Nat} {v : α} (h : ixN xs.length i = some j) (e : xs[j]? = some v) : atI xs i = some v := by
  unfold atI
  rw [h]
  exact e
theorem RepL.atI {K : Frag} {H : Hp} {ds : List D} {vs : List V} {g : List Addr} {i : Int} {d : D} (h : RepL K H vs ds g) (e : L2.atI ds i = some d) : ∃ v gi, L2.atI vs i = some v ∧ Rep K H v d gi ∧ (∀ a ∈ gi, a ∈ g) ∧ (g.Nodup → gi.Nodup) := by
  obtain ⟨j, e1, e2⟩ := atI_some e
  obtain ⟨v, gi, e3, r, s, n⟩ := RepL.get h e2
  exact ⟨v, gi, atI_of (by rw [RepL.length h]; exact e1) e3, r, s, n⟩
def eIx (f g : Ev) : Ev := fun env => (f env).bind fun x => (g x.2).bind fun y => (R.of (ixD x.1 y.1)).bind fun r => .ok (r, y.2)
theorem Own.part {H H' : Hp} {fs fs' : Fs} {g gi : List Addr} (w : Own H fs H' fs' g) (s : ∀ a ∈ gi, a ∈ g) (n : g.Nodup → gi.Nodup) : Own H fs H' fs' gi := ⟨n w.nd, fun a ha => w.apart a (s a ha), fun a ha => w.pl a (s a ha), fun a ha => w.sub a (s a ha)⟩
theorem de_ix {a b : Expr} {f g : Ev} {pos : Pos} (ha : DE X E p1 o1 a f) (hb : DE X E p2 o2 b g) (hs : PlainIx b := by exact fun _ _ => rfl) (c : (o1 || p2) = true := by rfl) : DE X E (p1 && p2) o1 (.Subscript a b pos) (eIx f g) := by
  refine PE.mono (pe_ix ix_seq ha hb hs) fun σ H Q ⟨env, fs, W, he, h⟩ => ⟨env, fs, W, he, ?_⟩
  unfold eIx at h
  cases e1 : f env with
  | no => rw [e1] at h; exact h
  | ex c => rw [e1] at h; exact h
  | ok x =>
    obtain ⟨d1, env1⟩ := x
    rw [e1] at h
    intro v1 H1 fs1 g1 P1
    refine ⟨env1, fs1, W, P1.step.renv, ?_⟩
    cases e2 : g env1 with
    | no => simp only [R.bind, e2] at h
    | ex c => simp only [R.bind, e2] at h; exact h.before P1.step
    | ok y =>
      obtain ⟨d2, env2⟩ := y
      intro v2 H2 fs2 g2 P2
      have r1 : Rep X.K H2 v1 d1 g1 := Rep.after P1.step.renv P1.rep P1.own P2.step c
      have S := P1.step.trans P2.step
      cases e3 : ixD d1 d2 with
      | none => simp [R.bind, e2, e3, R.of] at h
      | some r =>
        simp only [R.bind, e2, e3, R.of] at h
        have r2 := P2.rep
        have t1 := Rep.there _ _ _ P1.rep
        unfold ixD at e3
        split at e3
        · cases r2
          cases r1 with
          | lst h1 l1 =>
            obtain ⟨v, gi, e4, rr, ss, nn⟩ := RepL.atI l1 e3
            exact .inl ⟨_, _, _, v, rfl, rfl, SqL.of h1, e4, h v H2 fs2 gi ⟨S, rr, fun z => Own.part ((P1.own z).after P2.step t1) (fun a ha => List.mem_cons_of_mem _ (ss a ha)) fun n => nn (List.nodup_cons.mp n).2⟩⟩
        · cases r2
          cases r1 with
          | tup h1 l1 =>
            obtain ⟨v, gi, e4, rr, ss, nn⟩ := RepL.atI l1 e3
            exact .inr (.inl ⟨_, _, _, v, rfl, rfl, h1, e4, h v H2 fs2 gi ⟨S, rr, fun z => Own.part ((P1.own z).after P2.step t1) ss nn⟩⟩)
        · split at e3
          · rename_i hz
            obtain ⟨cc, ec, rfl⟩ := Option.map_eq_some_iff.mp e3
            cases r2
            cases r1
            exact .inr (.inr ⟨_, _, _, rfl, rfl, in_line hz, ec, h _ H2 fs2 [] (Post.scal S (.str _))⟩)
          · cases e3
        · cases e3
/-! ### isinstance -/
def rIsV (K : Frag) (n : String) (F : D → Bool) : List V → Hp → VK → Prop := fun vs H Q => ∃ v d g, vs = [v, .ty n] ∧ Rep K H v d g ∧ d.plain = true ∧ Q (.bl (F d)) H
theorem cr_isV {n : String} {F : D → Bool} (rule : ∀ {prog : Program} {w : World} {A : Around} {E : Value → Shared → Prop} {s : Shared} {v : Value} {d : D} {as : List Addr} {Q : Value → Shared → Prop}, Reads s.heap v d as → (∀ tk, s.toks ≤ tk → Q (.bool (F d)) { s with toks := tk }) →
    wpAny (model prog w) A (call (.builtin "isinstance") [v, .type n]) Q E s) : CallR X (.builtin "isinstance") (rIsV X.K n F) := by
  rintro pins s σ H xs us Q I r ⟨v, d, g, rfl, hr, hp, q⟩
  obtain ⟨u1, u2, rfl, r1, r2⟩ := vals2 r
  obtain rfl : u2 = Value.type n := r2
  obtain ⟨as, rd⟩ := rep_reads I hr hp r1
  exact rule rd fun tk _ => ⟨.bl _, H, I.tok tk, rfl, q⟩
def eIs (F : D → Bool) (f : Ev) : Ev := fun env => (f env).bind fun x => if x.1.plain = true then .ok (.bool (F x.1), x.2) else .no
theorem de_isV {n : String} {F : D → Bool} {e : Expr} {f : Ev} {T : Str} {q p3 pos : Pos} (hc : CallR X (.builtin "isinstance") (rIsV X.K n F)) (hm : X.mg "isinstance" = none) (hm2 : X.mg T = none) (hv2 : bootBuiltins T = some (.type n)) (he : DE X E p o e f) (hg : Gl X "isinstance" := by rfl) (hg2 : Gl X T := by rfl) (hn2 : T ≠ "__name__" := by decide) (hd2 : (T == ("__debug__" : Str)) = false := by decide)
    (hs : starEach (e :: [.Name T p3]) X.env = (false, eval e X.env) :: starEach [.Name T p3] X.env := by rfl) (hs2 : starEach (Expr.Name T p3 :: []) X.env = (false, eval (.Name T p3) X.env) :: starEach [] X.env := by rfl) (hpl : (backTo pos (starEach [.Name T p3] X.env)).any (·.1) = false := by rfl) :
    DE X E p true (.Call (.Name "isinstance" q) [e, .Name T p3] [] pos) (eIs F f) := by
  refine PE.mono (pe_callB hc hg hm (by decide +kernel) (pa_cons he (pa_cons (pe_bltn (v := .ty n) hg2 hm2 hv2 rfl hn2 hd2) pa_nil hs2) hs) (by decide) (by decide) hs hpl) fun σ H Q ⟨env, fs, W, hr, h⟩ => ⟨env, fs, W, hr, ?_⟩
  unfold eIs at h
  cases e1 : f env with
  | no => rw [e1] at h; exact h
  | ex c => rw [e1] at h; exact h
  | ok x =>
    obtain ⟨d, env1⟩ := x
    rw [e1] at h
    intro v H1 fs1 g1 P1
    by_cases hp : d.plain = true
    · simp only [R.bind, hp, if_true] at h
      exact ⟨v, d, g1, rfl, P1.rep, hp, h _ H1 fs1 [] (Post.scal P1.step (.bl _))⟩
    · simp [R.bind, hp] at h
end
end DV
end
section
set_option Elab.async false
set_option linter.all false
set_option maxRecDepth 100000
namespace DV
open PySem PySem.Spec PyProof.Rows L2
section
variable {X : Cx} {E : XK} {o o1 : Bool}
/-! ### chains of comparisons; all operands are pure -/
abbrev Ec := D → Env → R (Bool × Env)
def boolOf : Option D → Option Bool
  | some (.bool b) => some b
  | _ => none
theorem boolOf_some {d : Option D} {b : Bool} (h : boolOf d = some b) : d = some (.bool b) := by
  unfold boolOf at h
  split at h
  · cases h; rfl
  · cases h
def cGen (F : D → D → Option D) (g : Ev) (k : Bool → Ec) : Ec := fun d env => (g env).bind fun y => (R.of (boolOf (F d y.1))).bind fun b => k b y.1 y.2
def cLast (F : D → D → Option D) (g : Ev) : Ec := cGen F g fun b _ env => .ok (b, env)
def cLink (F : D → D → Option D) (g : Ev) (k : Ec) : Ec := cGen F g fun b e env => if b = true then k e env else .ok (false, env)
def tCh (K : Frag) (E : XK) (f : Ec) (x : V) (σ : L2.St) (H : Hp) (Q : Bool → Hp → Prop) : Prop := ∃ env fs W d g, RepEnv K W H σ env fs ∧ Rep K H x d g ∧ match f d env with
  | .no => False
  | .ex c => ExP K E c H fs
  | .ok (b, env') => ∀ H' fs', Step K W true H env fs H' σ env' fs' → Q b H'
def DCt (X : Cx) (E : XK) (ops : List CmpOp) (es : List Expr) (f : Ec) : Prop :=
  ∀ (pos : Pos) (pins : List (Addr × Obj)) (s : Shared) (σ : L2.St) (H : Hp) (x : V) (v : Value) (Q : Bool → Hp → Prop), Inv X pins σ H s → RelV x v → tCh X.K E f x σ H Q →
    wpAny (model X.prog X.w) X.A (testChain pos v ops (evalEach es X.env)) (TP X pins σ Q) X.xe s
def DCv (X : Cx) (E : XK) (ops : List CmpOp) (es : List Expr) (f : Ec) : Prop :=
  ∀ (pos : Pos) (pins : List (Addr × Obj)) (s : Shared) (σ : L2.St) (H : Hp) (x : V) (v : Value) (Q : Bool → Hp → Prop), Inv X pins σ H s → RelV x v → tCh X.K E f x σ H Q →
    wpAny (model X.prog X.w) X.A (compareChain pos v ops (evalEach es X.env)) (EP X pins σ fun z H' => ∃ b, z = .bl b ∧ Q b H') X.xe s
/-- what the last link (and each) reads -/
theorem tCh_bin {F : D → D → Option D} {g : Ev} {k : Bool → Ec} {x : V} {σ : L2.St} {H : Hp} {Q : Bool → Hp → Prop} (h : tCh X.K E (cGen F g k) x σ H Q) :
    tD X.K E true o g σ H fun y H1 => rD2 X.K F x y H1 fun z H2 => ∃ b, z = .bl b ∧ tCh X.K E (k b) y σ H2 Q := by
  obtain ⟨env, fs, W, d, gg, he, hx, h⟩ := h
  refine ⟨env, fs, W, he, ?_⟩
  unfold cGen at h
  cases e1 : g env with
  | no => rw [e1] at h; exact h
  | ex c => rw [e1] at h; exact h
  | ok y =>
    obtain ⟨e, env1⟩ := y
    rw [e1] at h
    intro w H1 fs1 g1 P1
    obtain ⟨s1, ee, ef⟩ := P1.step.pure rfl
    subst ee ef
    cases hb : boolOf (F d e) with
    | none => simp [R.bind, hb, R.of] at h
    | some b =>
      simp only [R.bind, hb, R.of] at h
      refine ⟨d, e, gg, g1, .bool b, hx.same s1, P1.rep, boolOf_some hb, fun z H2 g2 fr => ?_⟩
      have rz := fr.rep
      cases rz
      refine ⟨b, rfl, env1, fs1, W, e, g1, P1.step.renv.same fr.same, P1.rep.same fr.same, ?_⟩
      cases e2 : k b e env1 with
      | no => rw [e2] at h; exact h
      | ex c => rw [e2] at h; exact h.before (P1.step.and_same fr.same)
      | ok q =>
        rw [e2] at h
        exact fun H' fs' S => h H' fs' ((P1.step.and_same fr.same).trans S)
theorem tCh_ok {b : Bool} {y : V} {σ : L2.St} {H : Hp} {Q : Bool → Hp → Prop} (h : tCh X.K E (fun _ env => .ok (b, env)) y σ H Q) : Q b H := by
  obtain ⟨env, fs, W, d, gg, he, hx, h⟩ := h
  exact h H fs (Step.refl he)
theorem dct_last {op : CmpOp} {b : Expr} {F : D → D → Option D} {g : Ev} (ho : OpD X (compareOp op) F) (hb : DE X E true o b g) : DCt X E [op] [b] (cLast F g) := by
  intro pos pins s σ H x v Q I r h
  refine test_last (thn (hb.run pins s σ H _ I (tCh_bin h)) fun u s2 ⟨y, H2, I2, r2, q2⟩ => ?_)
  refine thn (ho pins s2 σ H2 x y v u _ I2 r r2 q2) fun d s3 ⟨z, H3, I3, r3, k, e, q3⟩ => ?_
  subst e
  cases r3
  exact wpAny_truthy_bool ⟨H3, I3, tCh_ok q3⟩
theorem dct_link {op op' : CmpOp} {ops : List CmpOp} {b c : Expr} {es : List Expr} {F : D → D → Option D} {g : Ev} {k : Ec} (ho : OpD X (compareOp op) F) (hb : DE X E true o b g) (hk : DCt X E (op' :: ops) (c :: es) k) : DCt X E (op :: op' :: ops) (b :: c :: es) (cLink F g k) := by
  intro pos pins s σ H x v Q I r h
  refine test_link (thn (hb.run pins s σ H _ I (tCh_bin h)) fun u s2 ⟨y, H2, I2, r2, q2⟩ => ?_)
  refine thn (ho pins s2 σ H2 x y v u _ I2 r r2 q2) fun d s3 ⟨z, H3, I3, r3, kk, e, q3⟩ => ?_
  subst e
  cases r3
  refine wpAny_truthy_bool ?_
  cases kk with
  | false => exact ite_ff ⟨H3, I3, tCh_ok q3⟩
  | true => exact ite_tt (hk pos pins s3 σ H3 y u Q I3 r2 q3)
theorem dcv_last {op : CmpOp} {b : Expr} {F : D → D → Option D} {g : Ev} (ho : OpD X (compareOp op) F) (hb : DE X E true o b g) : DCv X E [op] [b] (cLast F g) := by
  intro pos pins s σ H x v Q I r h
  refine chain_last (thn (hb.run pins s σ H _ I (tCh_bin h)) fun u s2 ⟨y, H2, I2, r2, q2⟩ => ?_)
  refine thn (ho pins s2 σ H2 x y v u _ I2 r r2 q2) fun d s3 ⟨z, H3, I3, r3, k, e, q3⟩ => ?_
  subst e
  exact ⟨.bl k, H3, I3, r3, k, rfl, tCh_ok q3⟩
theorem dcv_link {op op' : CmpOp} {ops : List CmpOp} {b c : Expr} {es : List Expr} {F : D → D → Option D} {g : Ev} {k : Ec} (ho : OpD X (compareOp op) F) (hb : DE X E true o b g) (hk : DCv X E (op' :: ops) (c :: es) k) : DCv X E (op :: op' :: ops) (b :: c :: es) (cLink F g k) := by
  intro pos pins s σ H x v Q I r h
  refine chain_link (thn (hb.run pins s σ H _ I (tCh_bin h)) fun u s2 ⟨y, H2, I2, r2, q2⟩ => ?_)
  refine thn (ho pins s2 σ H2 x y v u _ I2 r r2 q2) fun d s3 ⟨z, H3, I3, r3, kk, e, q3⟩ => ?_
  subst e
  cases r3
  refine wpAny_truthy_bool ?_
  cases kk with
  | false => exact ite_ff ⟨.bl false, H3, I3, rfl, false, rfl, tCh_ok q3⟩
  | true => exact ite_tt (hk pos pins s3 σ H3 y u Q I3 r2 q3)
def tChain (f : Ev) (k : Ec) : Et := fun env => (f env).bind fun x => k x.1 x.2
def eChain (f : Ev) (k : Ec) : Ev := fun env => (f env).bind fun x => (k x.1 x.2).bind fun y => .ok (.bool y.1, y.2)
theorem dt_chain {a b c : Expr} {op op' : CmpOp} {ops : List CmpOp} {es : List Expr} {f : Ev} {k : Ec} {pos : Pos} (ha : DE X E true o a f) (hk : DCt X E (op :: op' :: ops) (b :: c :: es) k) (hm : lastMarks (op :: op' :: ops) (b :: c :: es) = false := by with_unfolding_all rfl) :
    DT X E true (.Compare a (op :: op' :: ops) (b :: c :: es) pos) (tChain f k) := by
  refine ⟨fun pins s σ H Q I ⟨env, fs, W, he, h⟩ => ?_⟩
  have z : tD X.K E true o f σ H fun x H1 => tCh X.K E k x σ H1 Q := by
    refine ⟨env, fs, W, he, ?_⟩
    unfold tChain at h
    cases e1 : f env with
    | no => rw [e1] at h; exact h
    | ex c => rw [e1] at h; exact h
    | ok x =>
      obtain ⟨d, env1⟩ := x
      rw [e1] at h
      intro v H1 fs1 g1 P1
      refine ⟨env1, fs1, W, d, g1, P1.step.renv, P1.rep, ?_⟩
      simp only [R.bind] at h
      cases e2 : k d env1 with
      | no => rw [e2] at h; exact h
      | ex c => rw [e2] at h; exact h.before P1.step
      | ok q =>
        rw [e2] at h
        exact fun H' fs' S => h H' fs' (P1.step.trans S)
  refine isTrue_chain (thn (ha.run pins s σ H _ I z) fun v s1 ⟨x, H1, I1, r1, q1⟩ => ?_) hm
  exact hk pos pins s1 σ H1 x v Q I1 r1 q1
theorem de_chain {a b c : Expr} {op op' : CmpOp} {ops : List CmpOp} {es : List Expr} {f : Ev} {k : Ec} {pos : Pos} (ha : DE X E true o a f) (hk : DCv X E (op :: op' :: ops) (b :: c :: es) k) (hm : lastMarks (op :: op' :: ops) (b :: c :: es) = false := by with_unfolding_all rfl) :
    DE X E true true (.Compare a (op :: op' :: ops) (b :: c :: es) pos) (eChain f k) := by
  refine ⟨fun pins s σ H Q I ⟨env, fs, W, he, h⟩ => ?_⟩
  have z : tD X.K E true o f σ H fun x H1 => tCh X.K E k x σ H1 fun bb H2 => Q (.bl bb) H2 := by
    refine ⟨env, fs, W, he, ?_⟩
    unfold eChain at h
    cases e1 : f env with
    | no => rw [e1] at h; exact h
    | ex c => rw [e1] at h; exact h
    | ok x =>
      obtain ⟨d, env1⟩ := x
      rw [e1] at h
      intro v H1 fs1 g1 P1
      refine ⟨env1, fs1, W, d, g1, P1.step.renv, P1.rep, ?_⟩
      simp only [R.bind] at h
      cases e2 : k d env1 with
      | no => rw [e2] at h; exact h
      | ex c => rw [e2] at h; exact h.before P1.step
      | ok q =>
        rw [e2] at h
        exact fun H' fs' S => h (.bl q.1) H' fs' [] (Post.scal (P1.step.trans S) (.bl _))
  refine Compare_chain (thn (ha.run pins s σ H _ I z) fun v s1 ⟨x, H1, I1, r1, q1⟩ => ?_) hm
  refine thn (hk pos pins s1 σ H1 x v _ I1 r1 q1) fun u s2 ⟨y, H2, I2, r2, b, e, q2⟩ => ?_
  subst e
  exact ⟨.bl b, H2, I2, r2, q2⟩
end
end DV
end
section
set_option Elab.async false
set_option linter.all false
set_option maxRecDepth 100000
namespace DV
open PySem PySem.Spec PyProof.Rows L2
section
variable {prog : Program} {w : World} {A : Around} {E : Value → Shared → Prop} {s : Shared}
theorem rev_pick (xs : List Value) : ((List.range xs.length).filterMap fun (m : Nat) => xs.toArray[(((xs.length : Int) - 1) + (m : Int) * (-1)).toNat]?) = xs.reverse := by
  have e : ∀ k, k ≤ xs.length → ((List.range k).filterMap fun (m : Nat) => xs.toArray[(((xs.length : Int) - 1) + (m : Int) * (-1)).toNat]?) = (xs.drop (xs.length - k)).reverse := by
    intro k
    induction k with
    | zero => intro _; simp
    | succ k ih =>
      intro hk
      rw [List.range_succ, List.filterMap_append, ih (by omega)]
      have hx : xs.length - (k + 1) < xs.length := by omega
      have e1 : (((xs.length : Int) - 1) + (k : Int) * (-1)).toNat = xs.length - (k + 1) := by omega
      have e2 : xs.drop (xs.length - (k + 1)) = xs[xs.length - (k + 1)] :: xs.drop (xs.length - k) := by
        rw [List.drop_eq_getElem_cons hx]
        congr 2
        omega
      rw [e2, List.reverse_cons]
      congr 1
      simp only [List.filterMap_cons, List.filterMap_nil, e1, List.getElem?_toArray, List.getElem?_eq_getElem hx]
  have := e xs.length (Nat.le_refl _)
  rw [this, Nat.sub_self, List.drop_zero]
theorem tuple_back {t sl : Addr} {its : List Value} {vs : Value} {Q : Value → Shared → Prop} (ht : IsTup s.heap t its.toArray) (hs : s.heap.IsSliceOf sl .none .none vs) (ps : IsPart vs (some (-1)))
    (h : Q (.ref s.heap.objs.size) { s with heap := s.heap.push { cls := .type "tuple", data := .seq its.reverse.toArray } }) (hz : its.length ≤ sizeLine) : wpAny (model prog w) A (getItem (.ref t) (.ref sl)) Q E s := by
  obtain ⟨os, hos, hcs, hds⟩ := id hs
  have hTs : s.TypeIs (.ref sl) "slice" := ⟨os, hos, hcs⟩
  have hfit : sizeOk (.seq its.reverse.toArray) := by
    show its.reverse.toArray.size ≤ sizeLine
    rw [List.size_toArray, List.length_reverse]; exact hz
  unfold getItem
  refine wpAny_holding ?_
  refine wpAny_bind (wpAny_sequenceKey ht.typeIs (by decide) ?_)
  refine wpAny_bind (wpAny_callSpecial?_slot (name := Str.ofString "__getitem__") ht.typeIs PyProof.Rows.slot_tuple_getitem
    (wpAny_call_entry PyProof.Rows.slot_tuple_getitem ht.typeIs PyProof.Rows.entry_tuple_getitem ?_ (PyProof.Rows.args_tuple_getitem _ _)))
  show wpAny _ _ (Builtin.Tuple.tupleItemsOf (.ref t) >>= _) _ _ s
  refine wpAny_bind (PyProof.Rows.tupleItemsOf_ ht (wpAny_bind (wpAny_typeOf hTs ?_)))
  rw [if_pos (by decide)]
  refine wpAny_bind ?_
  unfold Builtin.Slice.sliceApplied Builtin.Slice.sliceFields
  refine wpAny_bind (wpAny_bind (wpAny_field hos hds (x := .none) rfl (wpAny_bind (wpAny_field hos hds (x := .none) rfl (wpAny_bind (wpAny_field hos hds (x := vs) rfl (wpAny_pure ?_)))))))
  refine wpAny_bind (HT.slicePart_ ps ?_)
  show wpAny _ _ (if ((-1 : Int) == 0) = true then _ else _) _ _ s
  rw [if_neg (by decide)]
  refine wpAny_bind (slicePart_none (wpAny_bind (slicePart_none (wpAny_bind (wpAny_pure ?_)))))
  have en : Builtin.Slice.slicePlaces ((its.toArray.size : Int) - 1) (-1) (-1) = its.length := by
    unfold Builtin.Slice.slicePlaces
    rw [List.size_toArray]
    rw [if_neg (by decide)]
    by_cases c : ((its.length : Int) - 1) > -1
    · rw [if_pos c]
      have : ((its.length : Int) - 1 - -1 - 1) / (- -1) + 1 = its.length := by
        rw [show (- -1 : Int) = 1 from rfl, Int.ediv_one]
        omega
      rw [this]
      omega
    · rw [if_neg c]
      omega
  show wpAny _ _ (pure ((its.toArray.size : Int) - 1, (-1 : Int), Builtin.Slice.slicePlaces ((its.toArray.size : Int) - 1) (-1) (-1))) _ _ s
  rw [en]
  refine wpAny_pure ?_
  show wpAny _ _ (if (((its.toArray.size : Int) - 1) == 0 && (-1 : Int) == 1 && its.length == its.toArray.size) = true then _ else _) _ _ s
  rw [if_neg (by intro q; rw [Bool.and_eq_true, Bool.and_eq_true] at q; exact absurd q.1.2 (by decide))]
  have eq : ((List.range its.length).filterMap fun (m : Nat) => its.toArray[(((its.toArray.size : Int) - 1) + (m : Int) * (-1)).toNat]?).toArray = its.reverse.toArray := by
    have := rev_pick its
    rw [List.size_toArray, this]
  rw [eq]
  first
    | exact wpAny_bind (m := Builtin.Tuple.tupleExact _) (wpAny_newObj_type (wpAny_pure ⟨_, rfl, wpAny_pure h⟩) hfit)
    | exact wpAny_bind (m := Builtin.Tuple.tupleExact _) (wpAny_newObj_type (wpAny_bind (wpAny_pure (wpAny_pure ⟨_, rfl, wpAny_pure h⟩))) hfit)
    | exact wpAny_bind (wpAny_bind (m := Builtin.Tuple.tupleExact _) (wpAny_newObj_type (wpAny_pure (wpAny_pure ⟨_, rfl, wpAny_pure h⟩)) hfit))
    | exact wpAny_bind (wpAny_bind (m := Builtin.Tuple.tupleExact _) (wpAny_newObj_type (wpAny_pure ⟨_, rfl, wpAny_pure h⟩) hfit))
end
section
variable {X : Cx} {E : XK} {p p1 p2 p3 o o1 o2 o3 : Bool}
/-- xs[::-1]: of a list, of a tuple -/
def tRevA (K : Frag) (te : TE) : TE := fun σ H Q => te σ H fun x H1 => ∃ a xs, x = .ref a ∧ ((SqL K H1 a xs ∧ ∀ q, H1 q = none → Q (.ref q) (upd H1 q (.lst xs.reverse))) ∨ (SqT K H1 a xs ∧ ∀ q, H1 q = none → Q (.ref q) (upd H1 q (.tup xs.reverse))))
theorem pe_back {e : Expr} {te : TE} {k : Nat} {p1 p2 p3 pos : Pos} (he : PE X e te) : PE X (.Subscript e (.Slice none none (some (.UnaryOp .USub (.Constant (.int 1) k p1) p2)) p3) pos) (tRevA X.K te) := by
  refine ⟨fun pins s σ H Q I h => Subscript_ (thn (he.run pins s σ H _ I h) fun v s1 ⟨x, H1, I1, r1, a, xs, ex, q⟩ => ?_)⟩
  subst ex
  obtain rfl : v = Value.ref a := r1
  have hst : PO X (some (.UnaryOp .USub (.Constant (.int 1) k p1) p2)) (tPart (tUn (rU fun i => .int (-i)) (tC (.int 1)))) := po_some (pe_un un_neg pe_int)
  refine wpAny_Slice (thn (po_none.run pins s1 σ H1 (fun o H2 => o = none ∧ H2 = H1) I1 ⟨rfl, rfl⟩) fun vl s2 ⟨l, H2, I2, pl, el, e2⟩ => ?_)
  subst el e2
  refine thn (po_none.run pins s2 σ H2 (fun o H3 => o = none ∧ H3 = H2) I2 ⟨rfl, rfl⟩) fun vu s3 ⟨u, H3, I3, pu, eu, e3⟩ => ?_
  subst eu e3
  refine thn (hst.run pins s3 σ H3 (fun o H4 => o = some (-1) ∧ H4 = H3) I3 ⟨1, rfl, -1, rfl, rfl, rfl⟩) fun vt s4 ⟨o, H4, I4, ps, eo, e4⟩ => ?_
  subst eo e4
  have hI : Inv X pins σ H4 { s4 with heap := s4.heap.push { cls := .type "slice", data := .fields #[vl, vu, vt] } } := I4.kept (t' := s4.toks) fun b ob z => Heap.get?_push_of_some _ z
  show wpAny (model X.prog X.w) X.A (subscriptTail e (.Slice none none (some (.UnaryOp .USub (.Constant (.int 1) k p1) p2)) p3) (.ref a) (.ref s4.heap.objs.size)) (EP X pins σ Q) X.xe { s4 with heap := s4.heap.push { cls := .type "slice", data := .fields #[vl, vu, vt] } }
  rcases q with ⟨hx, q⟩ | ⟨hx, q⟩
  · obtain ⟨its, r, ht, hz⟩ := hI.list hx
    have hlen := r.length
    refine tail_any (ops := [.ref a, .ref s4.heap.objs.size]) ht.isList.typeIs (PySem.slot_list_getitem.lookup) ?_ (by with_unfolding_all rfl)
    refine wpAny_getItem_list_slice ht.isList (Heap.IsSliceOf.new _ vl vu vt) pl pu ps (by decide) ?_ (by rw [List.size_toArray]; omega)
    rw [PySem.W.krv_pick]
    exact ⟨.ref _, _, hI.laid (t' := s4.toks) (o := .lst xs.reverse) (fun b ob z => Heap.get?_push_of_some _ z) (Nat.le_refl _) ⟨by rw [List.length_reverse]; exact hz, _, 0, r.reverse, Heap.get?_push_size _ rfl⟩, rfl, q _ (hI.hok.fresh (Nat.le_refl _))⟩
  · obtain ⟨its, r, ht, hz⟩ := hI.tuple hx
    have hlen := r.length
    refine tail_any (ops := [.ref a, .ref s4.heap.objs.size]) ht.typeIs (PyProof.Rows.slot_tuple_getitem.lookup) ?_ (by with_unfolding_all rfl)
    cases pl
    cases pu
    refine tuple_back ht (Heap.IsSliceOf.new _ .none .none vt) ps ?_ (by omega)
    exact ⟨.ref _, _, hI.laid (t' := s4.toks) (o := .tup xs.reverse) (fun b ob z => Heap.get?_push_of_some _ z) (Nat.le_refl _) ⟨by rw [List.length_reverse]; exact hz, _, r.reverse, _, Heap.get?_push_size _ rfl, rfl, 0, rfl⟩, rfl, q _ (hI.hok.fresh (Nat.le_refl _))⟩
theorem RepL.part {K : Frag} {H : Hp} : ∀ {ds : List D} {vs : List V} {g : List Addr}, RepL K H vs ds g → g = [] → (RepL K H vs.reverse ds.reverse [] ∧ ∀ n, RepL K H (vs.take n) (ds.take n) [] ∧ RepL K H (vs.drop n) (ds.drop n) [])
  | [], _, _, h, e => by
    cases h
    refine ⟨.nil, fun n => ?_⟩
    rw [List.take_nil, List.take_nil, List.drop_nil, List.drop_nil]
    exact ⟨.nil, .nil⟩
  | d :: ds, _, _, h, e => by
    cases h with
    | cons h1 h2 =>
      obtain ⟨e1, e2⟩ := List.append_eq_nil_iff.mp e
      subst e1 e2
      obtain ⟨i1, i2⟩ := RepL.part h2 rfl
      refine ⟨?_, fun n => ?_⟩
      · rw [List.reverse_cons, List.reverse_cons]
        exact RepL.append i1 (.cons h1 .nil)
      · cases n with
        | zero => exact ⟨.nil, .cons h1 h2⟩
        | succ n => exact ⟨.cons h1 (i2 n).1, (i2 n).2⟩
def revD : D → Option D
  | .list xs => if immL xs = true then some (.list xs.reverse) else none
  | .tuple xs => if immL xs = true then some (.tuple xs.reverse) else none
  | _ => none
theorem de_rev {e : Expr} {f : Ev} {k : Nat} {q1 q2 q3 pos : Pos} (h : DE X E p o e f) : DE X E p true (.Subscript e (.Slice none none (some (.UnaryOp .USub (.Constant (.int 1) k q1) q2)) q3) pos) (eUn revD f) := by
  refine PE.mono (pe_back h) fun σ H Q z => ?_
  obtain ⟨env, fs, W, he, q⟩ := tD_un (o1 := o) z
  refine ⟨env, fs, W, he, ?_⟩
  cases e1 : f env with
  | no => rw [e1] at q; exact q
  | ex c => rw [e1] at q; exact q
  | ok x =>
    rw [e1] at q
    intro v H1 fs1 g1 P1
    obtain ⟨d, g2, r, hd, hF, hq⟩ := q v H1 fs1 g1 P1
    unfold revD at hF
    split at hF
    · split at hF
      · rename_i hi
        cases hF
        cases hd with
        | lst h1 l1 => exact ⟨_, _, rfl, .inl ⟨SqL.of h1, fun q nq => hq _ _ _ (.lst (RepL.part l1 (RepL.fp_imm _ _ _ l1 hi)).1 nq)⟩⟩
      · cases hF
    · split at hF
      · rename_i hi
        cases hF
        cases hd with
        | tup h1 l1 => exact ⟨_, _, rfl, .inr ⟨h1, fun q nq => hq _ _ _ (.tup (RepL.part l1 (RepL.fp_imm _ _ _ l1 hi)).1 nq)⟩⟩
      · cases hF
    · cases hF
/-! ### slices; the parts are pure -/
abbrev Eo := Env → R (Option Int × Env)
def tDO (K : Frag) (E : XK) (f : Eo) : TO := fun σ H Q => ∃ env fs W, RepEnv K W H σ env fs ∧ match f env with
  | .no => False
  | .ex c => ExP K E c H fs
  | .ok (b, env') => ∀ H' fs', Step K W true H env fs H' σ env' fs' → Q b H'
def DO (X : Cx) (E : XK) (e : Option Expr) (f : Eo) : Prop := PO X e (tDO X.K E f)
def oNone : Eo := fun env => .ok (none, env)
def oSome (f : Ev) : Eo := fun env => (f env).bind fun x => match x.1 with
  | .int i => .ok (some i, x.2)
  | _ => .no
theorem PO.mono {e : Option Expr} {t t' : TO} (h : PO X e t) (m : ∀ σ H Q, t' σ H Q → t σ H Q) : PO X e t' := ⟨fun pins s σ H Q I w => h.run pins s σ H Q I (m σ H Q w)⟩
theorem do_none : DO X E none oNone := PO.mono po_none fun σ H Q ⟨env, fs, W, he, h⟩ => h H fs (Step.refl he)
theorem do_some {e : Expr} {f : Ev} (h : DE X E true o e f) : DO X E (some e) (oSome f) := by
  refine PO.mono (po_some h) fun σ H Q ⟨env, fs, W, he, h⟩ => ⟨env, fs, W, he, ?_⟩
  unfold oSome at h
  cases e1 : f env with
  | no => rw [e1] at h; exact h
  | ex c => rw [e1] at h; exact h
  | ok x =>
    obtain ⟨d, env1⟩ := x
    rw [e1] at h
    intro v H1 fs1 g1 P1
    cases d with
    | int i =>
      have r := P1.rep
      cases r
      exact ⟨i, rfl, h H1 fs1 P1.step⟩
    | _ => exact (show False from h).elim
def cut {α : Type} (xs : List α) (lo hi : Option Int) : List α := (xs.drop (HT.sIx xs.length 0 lo)).take (HT.sIx xs.length xs.length hi - HT.sIx xs.length 0 lo)
def sliceD : D → Option Int → Option Int → Option D
  | .list xs, lo, hi => if immL xs = true then some (.list (cut xs lo hi)) else none
  | .tuple xs, lo, hi => if immL xs = true then some (.tuple (cut xs lo hi)) else none
  | .str z, lo, hi => if z.length ≤ 16000000 then some (.str (cutS z lo hi)) else none
  | _, _, _ => none
def eSl (f : Ev) (l u : Eo) : Ev := fun env => (f env).bind fun x => (l x.2).bind fun y => (u y.2).bind fun z => (R.of (sliceD x.1 y.1 z.1)).bind fun r => .ok (r, z.2)
theorem RepL.cut {K : Frag} {H : Hp} {ds : List D} {vs : List V} {g : List Addr} {lo hi : Option Int} (h : RepL K H vs ds g) (e : g = []) : RepL K H (cutV vs lo hi) (DV.cut ds lo hi) [] := by
  have n := RepL.length h
  unfold cutV DV.cut
  rw [n]
  exact ((RepL.part ((RepL.part h e).2 _).2 rfl).2 _).1
theorem cut_all {α : Type} {xs : List α} {lo hi : Option Int} (h : HT.sIx xs.length 0 lo = 0 ∧ HT.sIx xs.length xs.length hi = xs.length) : cut xs lo hi = xs := by
  unfold cut
  rw [h.1, h.2]
  simp
theorem de_slice {e : Expr} {lo hi : Option Expr} {f : Ev} {l u : Eo} {q2 pos : Pos} (he : DE X E p o e f) (hl : DO X E lo l) (hu : DO X E hi u) : DE X E p true (.Subscript e (.Slice lo hi none q2) pos) (eSl f l u) := by
  refine PE.mono (pe_slice ((sl_list (X := X)).or ((sl_tupA (X := X)).or (sl_str (X := X)))) he hl hu) fun σ H Q ⟨env, fs, W, he, h⟩ => ⟨env, fs, W, he, ?_⟩
  unfold eSl at h
  cases e1 : f env with
  | no => rw [e1] at h; exact h
  | ex c => rw [e1] at h; exact h
  | ok x =>
    obtain ⟨d, env1⟩ := x
    rw [e1] at h
    intro v H1 fs1 g1 P1
    refine ⟨env1, fs1, W, P1.step.renv, ?_⟩
    simp only [R.bind] at h
    cases e2 : l env1 with
    | no => rw [e2] at h; exact h
    | ex c => rw [e2] at h; exact h.before P1.step
    | ok y =>
      obtain ⟨a, env2⟩ := y
      rw [e2] at h
      intro H2 fs2 S2
      refine ⟨env2, fs2, W, S2.renv, ?_⟩
      have S := P1.step.trans S2
      simp only [R.bind] at h
      cases e3 : u env2 with
      | no => rw [e3] at h; exact h
      | ex c => rw [e3] at h; exact h.before S
      | ok z =>
        obtain ⟨b, env3⟩ := z
        rw [e3] at h
        intro H3 fs3 S3
        have S' : Step X.K W p H env fs H3 σ env3 fs3 := (S.trans S3).weak fun z => by rw [z]; rfl
        have r : Rep X.K H3 v d g1 := (P1.rep.same (S2.pure rfl).1).same (S3.pure rfl).1
        simp only [R.bind] at h
        cases e4 : sliceD d a b with
        | none => simp [e4, R.of] at h
        | some res =>
          simp only [e4, R.of] at h
          unfold sliceD at e4
          split at e4
          · split at e4
            · rename_i hi
              cases e4
              cases r with
              | lst h1 l1 => exact .inl ⟨_, _, rfl, SqL.of h1, fun q nq => h _ _ fs3 _ (Post.fresh S' (.lst (RepL.cut l1 (RepL.fp_imm _ _ _ l1 hi)) nq))⟩
            · cases e4
          · split at e4
            · rename_i xs _ _ hi
              cases e4
              cases r with
              | tup h1 l1 =>
                have f1 := RepL.fp_imm _ _ _ l1 hi
                have n1 := RepL.length l1
                refine .inr (.inl ⟨_, _, rfl, h1, fun hw => ?_, fun _ q nq => h _ _ fs3 _ (Post.fresh S' (.tup (RepL.cut l1 f1) nq))⟩)
                rw [n1] at hw
                refine h _ _ fs3 _ (Post.fresh S' (.scal ?_))
                rw [cut_all hw]
                subst f1
                exact .tup h1 l1
            · cases e4
          · split at e4
            · rename_i hz
              cases e4
              cases r
              exact .inr (.inr ⟨_, rfl, in_line hz, h _ _ fs3 _ (Post.scal S' (.str _))⟩)
            · cases e4
          · cases e4
/-! ### sums, least, greatest -/
def sumD : List D → Option D
  | [.list xs] => (ints? xs).map fun ns => .int ns.sum
  | [.tuple xs] => (ints? xs).map fun ns => .int ns.sum
  | _ => none
theorem sum_tup {prog : Program} {w : World} {A : Around} {Z : Value → Shared → Prop} {s : Shared} {a : Addr} {its : List Value} {ns : List Int} {Q : Value → Shared → Prop} (hh : A.handled = none) (hl : IsTup s.heap a its.toArray) (hi : IntsAre its ns)
    (h : ∀ h' tk t', (∀ b o, s.heap.get? b = some o → h'.get? b = some o) → Q (.int ns.sum t') { s with heap := h', toks := tk }) : wpAny (model prog w) A (call (.builtin "sum") [.ref a]) Q Z s := by
  obtain ⟨xs, e⟩ := hi.allInts.items
  have hn : numsOf (intItems xs).toList = ns := by rw [← e]; exact hi.numsOf
  rw [nums_intItems] at hn
  rw [e] at hl
  have hlt : a < s.heap.objs.size := hl.lt
  have ht : s.heap.IsTuple a (intItems xs) := hl
  refine call_sum_walkG (wpAny_pyIter_tuple ht ?_)
  refine ⟨_, _, _, _, _, _, numAt xs, rfl, Walks.tuple (A := A.in1) hh _ a (Nat.ne_of_lt hlt) (intItems xs), ⟨⟨_, Heap.get?_push_size _ rfl, rfl, rfl⟩, ht.push _⟩, fun b hb => ?_, (fun _ _ => intItems_at), fun h' tk t' hk => ?_⟩
  · show b < (s.heap.push _).objs.size
    rw [Heap.size_push]
    rcases List.mem_cons.mp hb with e | hb
    · rw [e]
      exact Nat.lt_succ_self _
    · have : b = a := by simpa using hb
      rw [this]
      exact Nat.lt_succ_of_lt hlt
  · have := h h' tk t' fun b o eo => hk b o (fun hm => by
      have : b = s.heap.objs.size := by simpa using hm
      exact absurd (this ▸ Heap.lt_size eo) (Nat.lt_irrefl _)) (Heap.get?_push_of_some _ eo)
    rw [← hn] at this
    rw [preSum_eq, List.take_of_length_le (by simp [intItems])]
    exact this
theorem cr_sumV (hc : X.calm = true) : CallR X (.builtin "sum") (rDn X.K sumD) := by
  rintro pins s σ H xs us Q I r ⟨ds, g, res, hr, hF, q⟩
  unfold sumD at hF
  split at hF
  · obtain ⟨ns, hb, rfl⟩ := Option.map_eq_some_iff.mp hF
    obtain ⟨v, rfl, h⟩ := repL_one hr rfl
    rw [ints_some hb] at h
    cases h with
    | lst h1 l1 =>
      obtain ⟨e, f⟩ := RepL.ints l1
      subst e
      exact cr_sum hc pins s σ H _ us Q I r ⟨_, _, rfl, SqL.of h1, q _ _ _ (.scal (.int _))⟩
  · obtain ⟨ns, hb, rfl⟩ := Option.map_eq_some_iff.mp hF
    obtain ⟨v, rfl, h⟩ := repL_one hr rfl
    rw [ints_some hb] at h
    cases h with
    | tup h1 l1 =>
      obtain ⟨e, f⟩ := RepL.ints l1
      subst e
      obtain ⟨its, rv, ht, _⟩ := I.tuple h1
      rw [Vals.ref1 r]
      exact sum_tup (I.ok.hd hc) ht rv.ints fun h' tk t' hk => ⟨.int _, H, I.kept hk, ⟨_, rfl⟩, q _ _ _ (.scal (.int _))⟩
  · cases hF
theorem rep_of_reads {pins : List (Addr × Obj)} {σ : L2.St} {H : Hp} {s : Shared} (I : Inv X pins σ H s) {ds : List D} {vs : List V} {us : List Value} {g : List Addr} (h : RepL X.K H vs ds g) (hi : immL ds = true) (rv : Vals vs us) {i : Nat} {u : Value} {d : D} {as : List Addr} (e : us[i]? = some u) (rd : Reads s.heap u d as) :
    ∃ v, RelV v u ∧ Rep X.K H v d [] := by
  have n1 := RepL.length h
  have n2 := rv.length
  have hlt : i < ds.length := by
    have := (List.getElem?_eq_some_iff.mp e).1
    omega
  obtain ⟨v, gi, e1, r, _, _⟩ := RepL.get h (List.getElem?_eq_getElem hlt)
  have im := immL_get hi (List.getElem?_eq_getElem hlt)
  obtain ⟨u', e2, ru⟩ := rv.get e1
  rw [e] at e2
  cases e2
  obtain ⟨bs, rb⟩ := rep_reads I r (plain_imm _ im) ru
  have z := PySem.SeqAt.plain_unique _ _ _ _ _ (plain_imm _ im) rb rd
  subst z
  have f := Rep.fp_imm _ _ _ r im
  subst f
  exact ⟨v, ru, r⟩
open Classical in
noncomputable def minD1 : List D → Option D
  | [.list (x :: xs)] => if immL (x :: xs) = true ∧ PySem.W.AlikeAll (x :: xs) ∧ PyData.depthAll (x :: xs) ≤ 60 then some (PySem.W.minD x xs) else none
  | [.tuple (x :: xs)] => if immL (x :: xs) = true ∧ PySem.W.AlikeAll (x :: xs) ∧ PyData.depthAll (x :: xs) ≤ 60 then some (PySem.W.minD x xs) else none
  | [.int i, .int j] => some (.int (if j < i then j else i))
  | _ => none
open Classical in
noncomputable def maxD1 : List D → Option D
  | [.list (x :: xs)] => if immL (x :: xs) = true ∧ PySem.W.AlikeAll (x :: xs) ∧ PyData.depthAll (x :: xs) ≤ 60 then some (PySem.W.maxD x xs) else none
  | [.tuple (x :: xs)] => if immL (x :: xs) = true ∧ PySem.W.AlikeAll (x :: xs) ∧ PyData.depthAll (x :: xs) ≤ 60 then some (PySem.W.maxD x xs) else none
  | [.int i, .int j] => some (.int (if j > i then j else i))
  | _ => none
theorem cr_minV (hc : X.calm = true) (hu : X.A.units + 64 < cLine) : CallR X (.builtin "min") (rDn X.K minD1) := by
  rintro pins s σ H xs us Q I r ⟨ds, g, res, hr, hF, q⟩
  unfold minD1 at hF
  split at hF
  · split at hF
    · rename_i hi
      cases hF
      obtain ⟨v, rfl, h⟩ := repL_one hr rfl
      cases h with
      | lst h1 l1 =>
        obtain ⟨its, rv, ht, _⟩ := I.list (SqL.of h1)
        rw [Vals.ref1 r]
        obtain ⟨as, ra⟩ := repL_reads I l1 (plainAll_imm _ hi.1) rv
        refine PySem.W.min_list_data (I.ok.hd hc) ht.isList ra hi.2.1 (by omega) fun i u h' tk bs ei rd hk => ?_
        obtain ⟨w, rw', rr⟩ := rep_of_reads (I.kept (t' := tk) hk) l1 hi.1 rv (by simpa using ei) rd
        exact ⟨w, H, I.kept hk, rw', q _ _ _ (.scal rr)⟩
    · cases hF
  · split at hF
    · rename_i hi
      cases hF
      obtain ⟨v, rfl, h⟩ := repL_one hr rfl
      cases h with
      | tup h1 l1 =>
        obtain ⟨its, rv, ht, _⟩ := I.tuple h1
        rw [Vals.ref1 r]
        obtain ⟨as, ra⟩ := repL_reads I l1 (plainAll_imm _ hi.1) rv
        refine PySem.W.min_tuple_data (I.ok.hd hc) ht ra hi.2.1 (by omega) fun i u h' tk bs ei rd hk => ?_
        obtain ⟨w, rw', rr⟩ := rep_of_reads (I.kept (t' := tk) hk) l1 hi.1 rv (by simpa using ei) rd
        exact ⟨w, H, I.kept hk, rw', q _ _ _ (.scal rr)⟩
    · cases hF
  · cases hF
    obtain ⟨v, w, _, _, rfl, h1, h2⟩ := repL_two hr rfl
    cases h1
    cases h2
    exact call_min2 hc pins s σ H _ us Q I r ⟨_, _, rfl, q _ _ _ (.scal (.int _))⟩
  · cases hF
theorem cr_maxV (hc : X.calm = true) (hu : X.A.units + 64 < cLine) : CallR X (.builtin "max") (rDn X.K maxD1) := by
  rintro pins s σ H xs us Q I r ⟨ds, g, res, hr, hF, q⟩
  unfold maxD1 at hF
  split at hF
  · split at hF
    · rename_i hi
      cases hF
      obtain ⟨v, rfl, h⟩ := repL_one hr rfl
      cases h with
      | lst h1 l1 =>
        obtain ⟨its, rv, ht, _⟩ := I.list (SqL.of h1)
        rw [Vals.ref1 r]
        obtain ⟨as, ra⟩ := repL_reads I l1 (plainAll_imm _ hi.1) rv
        refine PySem.W.max_list_data (I.ok.hd hc) ht.isList ra hi.2.1 (by omega) fun i u h' tk bs ei rd hk => ?_
        obtain ⟨w, rw', rr⟩ := rep_of_reads (I.kept (t' := tk) hk) l1 hi.1 rv (by simpa using ei) rd
        exact ⟨w, H, I.kept hk, rw', q _ _ _ (.scal rr)⟩
    · cases hF
  · split at hF
    · rename_i hi
      cases hF
      obtain ⟨v, rfl, h⟩ := repL_one hr rfl
      cases h with
      | tup h1 l1 =>
        obtain ⟨its, rv, ht, _⟩ := I.tuple h1
        rw [Vals.ref1 r]
        obtain ⟨as, ra⟩ := repL_reads I l1 (plainAll_imm _ hi.1) rv
        refine PySem.W.max_tuple_data (I.ok.hd hc) ht ra hi.2.1 (by omega) fun i u h' tk bs ei rd hk => ?_
        obtain ⟨w, rw', rr⟩ := rep_of_reads (I.kept (t' := tk) hk) l1 hi.1 rv (by simpa using ei) rd
        exact ⟨w, H, I.kept hk, rw', q _ _ _ (.scal rr)⟩
    · cases hF
  · cases hF
    obtain ⟨v, w, _, _, rfl, h1, h2⟩ := repL_two hr rfl
    cases h1
    cases h2
    exact call_max2 hc pins s σ H _ us Q I r ⟨_, _, rfl, q _ _ _ (.scal (.int _))⟩
  · cases hF
end
end DV
end
section
set_option Elab.async false
set_option linter.all false
set_option maxRecDepth 100000
namespace DV
open PySem PySem.Spec PyProof.Rows L2
/-! ### what a statement leaves -/
inductive Out where
  | nx (e : Env) | rt (d : D) (e : Env) | bk (e : Env) | ct (e : Env)
abbrev Sv := Env → R Out
/-- the state has moved on; A: the slots that may be stored to -/
structure Move (K : Frag) (W W' : Addr → Prop) (A : List Nat) (H : Hp) (fs : Fs) (H' : Hp) (σ σ' : L2.St) (env' : Env) (fs' : Fs) : Prop where
  ext : Ext H H' fs
  renv : RepEnv K W' H' σ' env' fs'
  more : ∀ a, W a → W' a
  sub : ∀ i, Sub H fs (fs' i)
  keep : ∀ i, i ∉ A → σ'[i]? = σ[i]?
def tS (K : Frag) (E : XK) (A : List Nat) (f : Sv) : TS := fun Dn σ H => ∃ env fs W, RepEnv K W H σ env fs ∧ match f env with
  | .no => False
  | .ex c => ExP K E c H fs
  | .ok (.nx env') => ∀ W' σ' H' fs', Move K W W' A H fs H' σ σ' env' fs' → Dn.nx σ' H'
  | .ok (.bk env') => ∀ W' σ' H' fs', Move K W W' A H fs H' σ σ' env' fs' → Dn.bk σ' H'
  | .ok (.ct env') => ∀ W' σ' H' fs', Move K W W' A H fs H' σ σ' env' fs' → Dn.ct σ' H'
  | .ok (.rt d env') => ∀ W' v σ' H' fs' g, Move K W W' A H fs H' σ σ' env' fs' → Rep K H' v d g → Own H fs H' fs' g → Dn.rt v H'
/-- what is to be shown of an outcome (the reading, without the start) -/
def OutP (K : Frag) (E : XK) (W : Addr → Prop) (A : List Nat) (Dn : Ends) (σ : L2.St) (H : Hp) (fs : Fs) : R Out → Prop
  | .no => False
  | .ex c => ExP K E c H fs
  | .ok (.nx env') => ∀ W' σ' H' fs', Move K W W' A H fs H' σ σ' env' fs' → Dn.nx σ' H'
  | .ok (.bk env') => ∀ W' σ' H' fs', Move K W W' A H fs H' σ σ' env' fs' → Dn.bk σ' H'
  | .ok (.ct env') => ∀ W' σ' H' fs', Move K W W' A H fs H' σ σ' env' fs' → Dn.ct σ' H'
  | .ok (.rt d env') => ∀ W' v σ' H' fs' g, Move K W W' A H fs H' σ σ' env' fs' → Rep K H' v d g → Own H fs H' fs' g → Dn.rt v H'
theorem tS_iff {K : Frag} {E : XK} {A : List Nat} {f : Sv} {Dn : Ends} {σ : L2.St} {H : Hp} : tS K E A f Dn σ H ↔ ∃ env fs W, RepEnv K W H σ env fs ∧ OutP K E W A Dn σ H fs (f env) := by
  constructor
  · rintro ⟨env, fs, W, he, h⟩
    refine ⟨env, fs, W, he, ?_⟩
    cases e : f env with
    | no => rw [e] at h; exact h
    | ex c => rw [e] at h; exact h
    | ok o => rw [e] at h; cases o <;> exact h
  · rintro ⟨env, fs, W, he, h⟩
    refine ⟨env, fs, W, he, ?_⟩
    cases e : f env with
    | no => rw [e] at h; exact h
    | ex c => rw [e] at h; exact h
    | ok o => rw [e] at h; cases o <;> exact h
section
variable {K : Frag} {W W' W1 W2 : Addr → Prop} {E : XK} {H H' H1 H2 : Hp} {σ σ' σ1 σ2 : L2.St} {env env' env1 env2 : Env} {fs fs' fs1 fs2 : Fs} {p p1 p2 o : Bool} {A A1 A2 : List Nat} {Dn : Ends}
theorem Move.refl (h : RepEnv K W H σ env fs) : Move K W W A H fs H σ σ env fs := ⟨Ext.refl, h, fun _ z => z, fun _ => Sub.self, fun _ _ => rfl⟩
theorem Step.move (a : Step K W p H env fs H1 σ env1 fs1) : Move K W W A H fs H1 σ σ env1 fs1 := ⟨a.ext, a.renv, fun _ z => z, a.sub, fun _ _ => rfl⟩
theorem Move.trans (a : Move K W W1 A H fs H1 σ σ1 env1 fs1) (b : Move K W1 W2 A H1 fs1 H2 σ1 σ2 env2 fs2) : Move K W W2 A H fs H2 σ σ2 env2 fs2 :=
  ⟨a.ext.trans a.sub b.ext, b.renv, fun z h => b.more z (a.more z h), fun i => Sub.trans a.ext a.sub (b.sub i), fun i hi => (b.keep i hi).trans (a.keep i hi)⟩
theorem Move.mono (a : Move K W W1 A1 H fs H1 σ σ1 env1 fs1) (h : ∀ i, i ∈ A1 → i ∈ A) : Move K W W1 A H fs H1 σ σ1 env1 fs1 := ⟨a.ext, a.renv, a.more, a.sub, fun i hi => a.keep i fun z => hi (h i z)⟩
theorem Own.moved {g : List Addr} (a : Move K W W1 A H fs H1 σ σ1 env1 fs1) (w : Own H1 fs1 H2 fs2 g) : Own H fs H2 fs2 g := ⟨w.nd, w.apart, w.pl, Sub.trans a.ext a.sub w.sub⟩
theorem ExP.moved {c : Exc} (x : ExP K E c H fs) (a : Move K W W1 A H fs H1 σ σ1 env1 fs1) : ExP K E c H1 fs1 := fun H' ad e n => x H' ad (a.ext.trans a.sub e) n
theorem OutP.moved {r : R Out} (h : OutP K E W A Dn σ H fs r) (a : Move K W W1 A H fs H1 σ σ1 env1 fs1) : OutP K E W1 A Dn σ1 H1 fs1 r := by
  cases r with
  | no => exact h
  | ex c => exact ExP.moved h a
  | ok o =>
    cases o with
    | nx e => exact fun W' σ' H' fs' m => h W' σ' H' fs' (a.trans m)
    | bk e => exact fun W' σ' H' fs' m => h W' σ' H' fs' (a.trans m)
    | ct e => exact fun W' σ' H' fs' m => h W' σ' H' fs' (a.trans m)
    | rt d e => exact fun W' v σ' H' fs' g m r w => h W' v σ' H' fs' g (a.trans m) r (Own.moved a w)
theorem OutP.mono {r : R Out} (h : OutP K E W A Dn σ H fs r) (s : ∀ i, i ∈ A1 → i ∈ A) : OutP K E W A1 Dn σ H fs r := by
  cases r with
  | no => exact h
  | ex c => exact h
  | ok o =>
    cases o with
    | nx e => exact fun W' σ' H' fs' m => h W' σ' H' fs' (m.mono s)
    | bk e => exact fun W' σ' H' fs' m => h W' σ' H' fs' (m.mono s)
    | ct e => exact fun W' σ' H' fs' m => h W' σ' H' fs' (m.mono s)
    | rt d e => exact fun W' v σ' H' fs' g m r w => h W' v σ' H' fs' g (m.mono s) r w
end
def DS (X : Cx) (E : XK) (A : List Nat) (st : Stmt) (f : Sv) : Prop := PS X st (tS X.K E A f)
def DB (X : Cx) (E : XK) (A : List Nat) (sts : List Stmt) (f : Sv) : Prop := PSs X sts (tS X.K E A f)
section
variable {X : Cx} {E : XK} {p p1 p2 p3 o o1 o2 o3 : Bool} {A A1 A2 : List Nat} {pos : Pos}
theorem PS.mono {st : Stmt} {t t' : TS} (h : PS X st t) (m : ∀ D σ H, t' D σ H → t D σ H) : PS X st t' := ⟨fun pins s σ H D I w => h.run pins s σ H D I (m D σ H w)⟩
theorem PSs.mono {st : List Stmt} {t t' : TS} (h : PSs X st t) (m : ∀ D σ H, t' D σ H → t D σ H) : PSs X st t' := ⟨fun pins s σ H D I w => h.run pins s σ H D I (m D σ H w)⟩
theorem DS.imp {st : Stmt} {t : TS} {f : Sv} (h : PS X st t) (m : ∀ (D : Ends) (σ : L2.St) (H : Hp) (env : Env) (fs : Fs) (W : Addr → Prop), RepEnv X.K W H σ env fs → OutP X.K E W A D σ H fs (f env) → t D σ H) : DS X E A st f :=
  PS.mono h fun D σ H z => let ⟨env, fs, W, he, q⟩ := tS_iff.mp z; m D σ H env fs W he q
theorem DB.imp {st : List Stmt} {t : TS} {f : Sv} (h : PSs X st t) (m : ∀ (D : Ends) (σ : L2.St) (H : Hp) (env : Env) (fs : Fs) (W : Addr → Prop), RepEnv X.K W H σ env fs → OutP X.K E W A D σ H fs (f env) → t D σ H) : DB X E A st f :=
  PSs.mono h fun D σ H z => let ⟨env, fs, W, he, q⟩ := tS_iff.mp z; m D σ H env fs W he q
/-- an expression's reading ahead of what follows -/
theorem tD_then {f : Ev} {k : D → Env → R Out} {g : Sv} {Dn : Ends} {σ : L2.St} {H : Hp} {env : Env} {fs : Fs} {W : Addr → Prop} {Q : VK} (he : RepEnv X.K W H σ env fs) (hg : g env = (f env).bind fun x => k x.1 x.2) (h : OutP X.K E W A Dn σ H fs (g env))
    (q : ∀ d env1 v H1 fs1 gg, Post X.K W p o H env fs H1 σ env1 fs1 v d gg → OutP X.K E W A Dn σ H fs (k d env1) → Q v H1) : tD X.K E p o f σ H Q := by
  refine ⟨env, fs, W, he, ?_⟩
  rw [hg] at h
  cases e1 : f env with
  | no => rw [e1] at h; exact h
  | ex c => rw [e1] at h; exact h
  | ok x =>
    obtain ⟨d, env1⟩ := x
    rw [e1] at h
    exact fun v H1 fs1 gg P => q d env1 v H1 fs1 gg P h
theorem tDT_then {f : Et} {k : Bool → Env → R Out} {g : Sv} {Dn : Ends} {σ : L2.St} {H : Hp} {env : Env} {fs : Fs} {W : Addr → Prop} {Q : Bool → Hp → Prop} (he : RepEnv X.K W H σ env fs) (hg : g env = (f env).bind fun x => k x.1 x.2) (h : OutP X.K E W A Dn σ H fs (g env))
    (q : ∀ b env1 H1 fs1, Step X.K W p H env fs H1 σ env1 fs1 → OutP X.K E W A Dn σ H1 fs1 (k b env1) → Q b H1) : tDT X.K E p f σ H Q := by
  refine ⟨env, fs, W, he, ?_⟩
  rw [hg] at h
  cases e1 : f env with
  | no => rw [e1] at h; exact h
  | ex c => rw [e1] at h; exact h
  | ok x =>
    obtain ⟨d, env1⟩ := x
    rw [e1] at h
    exact fun H1 fs1 S => q d env1 H1 fs1 S (OutP.moved h S.move)
/-! ### blocks -/
def sNx : Sv := fun env => .ok (.nx env)
def sSeq (f g : Sv) : Sv := fun env => (f env).bind fun o => match o with
  | .nx e => g e
  | .bk e => .ok (.bk e)
  | .ct e => .ok (.ct e)
  | .rt d e => .ok (.rt d e)
theorem db_nil : DB X E [] [] sNx := DB.imp pss_nil fun D σ H env fs W he h => h W σ H fs (Move.refl he)
theorem db_one {st : Stmt} {f : Sv} (h : DS X E A st f) : DB X E A [st] f := pss_one h
theorem OutP.seq {K : Frag} {W : Addr → Prop} {Dn : Ends} {σ : L2.St} {H : Hp} {env : Env} {fs : Fs} {f g : Sv} (h : OutP K E W A Dn σ H fs (sSeq f g env)) : OutP K E W A { Dn with nx := fun σ1 H1 => ∃ env1 fs1 W1, RepEnv K W1 H1 σ1 env1 fs1 ∧ OutP K E W1 A Dn σ1 H1 fs1 (g env1) } σ H fs (f env) := by
  unfold sSeq at h
  cases e1 : f env with
  | no => rw [e1] at h; exact h
  | ex c => rw [e1] at h; exact h
  | ok o =>
    rw [e1] at h
    cases o with
    | nx e => exact fun W1 σ1 H1 fs1 m => ⟨e, fs1, W1, m.renv, OutP.moved h m⟩
    | bk e => exact h
    | ct e => exact h
    | rt d e => exact h
theorem db_cons {st : Stmt} {rest : List Stmt} {f g : Sv} (h1 : DS X E A1 st f) (h2 : DB X E A2 rest g) : DB X E (A1 ++ A2) (st :: rest) (sSeq f g) := by
  refine DB.imp (pss_cons h1 h2) fun D σ H env fs W he h => ?_
  refine tS_iff.mpr ⟨env, fs, W, he, ?_⟩
  have q := OutP.mono (A1 := A1) (OutP.seq h) fun i hi => List.mem_append_left _ hi
  cases e1 : f env with
  | no => rw [e1] at q; exact q
  | ex c => rw [e1] at q; exact q
  | ok o =>
    rw [e1] at q
    cases o with
    | nx e => exact fun W0 σ1 H1 fs1 m => let ⟨env1, fs2, W1, r, z⟩ := q W0 σ1 H1 fs1 m; tS_iff.mpr ⟨env1, fs2, W1, r, OutP.mono z fun i hi => List.mem_append_right _ hi⟩
    | bk e => exact q
    | ct e => exact q
    | rt d e => exact q
theorem db_sub {sts : List Stmt} {f : Sv} (h : DB X E A1 sts f) (s : ∀ i, i ∈ A1 → i ∈ A) : DB X E A sts f :=
  DB.imp h fun D σ H env fs W he q => tS_iff.mpr ⟨env, fs, W, he, OutP.mono q s⟩
/-! ### small statements -/
def sRet (f : Ev) : Sv := fun env => (f env).bind fun x => .ok (.rt x.1 x.2)
theorem ds_ret {e : Expr} {f : Ev} (h : DE X E p true e f) : DS X E [] (.Return (some e) pos) (sRet f) :=
  DS.imp (ps_ret h) fun D σ H env fs W he q => tD_then (k := fun d e => .ok (.rt d e)) he rfl q fun d env1 v H1 fs1 gg P z => z W v σ H1 fs1 gg P.step.move P.rep (P.own rfl)
end
end DV
end
section
set_option Elab.async false
set_option linter.all false
set_option maxRecDepth 100000
namespace DV
open PySem PySem.Spec PyProof.Rows L2
/-! ### slots stored, forgotten -/
def fput (fs : Fs) (i : Nat) (g : List Addr) : Fs := fun j => if j = i then g else fs j
theorem at_set {env : Env} {i j : Nat} {s : Slot} (h : i < env.length) : Env.at (env.set i s) j = if j = i then s else env.at j := by
  unfold Env.at
  by_cases e : j = i
  · subst e
    rw [if_pos rfl]
    simp [List.getD_eq_getElem?_getD, h]
  · rw [if_neg e]
    simp [List.getD_eq_getElem?_getD, List.getElem?_set_ne (Ne.symm e)]
section
variable {K : Frag} {W W' : Addr → Prop} {E : XK} {H H' H1 H2 : Hp} {σ σ' σ1 σ2 : L2.St} {env env' env1 env2 : Env} {fs fs' fs1 fs2 : Fs} {p p1 p2 o : Bool} {A A1 A2 : List Nat} {Dn : Ends}
theorem st_get {σ : L2.St} {i : Nat} {v : V} (h : i < σ.length) : (σ.set i (some v))[i]? = some (some v) := by simp [h]
/-- an own value at slot i -/
theorem RepEnv.put (h : RepEnv K W H σ env fs) {i : Nat} (hi : i < env.length) (hσ : i < σ.length) {v : V} {d : D} {g : List Addr} (r : Rep K H v d g) (nd : g.Nodup) (ap : ∀ a ∈ g, ∀ j, a ∉ fs j) (pl : ∀ a ∈ g, Pl H a) (off : ∀ a ∈ g, ¬ W a) :
    RepEnv K W H (σ.set i (some v)) (env.set i (.own d)) (fput fs i g) where
  slot := fun j => by
    rw [at_set hi]
    by_cases e : j = i
    · subst e
      rw [if_pos rfl]
      exact ⟨v, st_get hσ, by unfold fput; rw [if_pos rfl]; exact r⟩
    · rw [if_neg e]
      have q := h.slot j
      have ef : fput fs i g j = fs j := if_neg e
      have es : (σ.set i (some v))[j]? = σ[j]? := List.getElem?_set_ne (Ne.symm e)
      cases z : env.at j with
      | dead => rw [z] at q; exact ef.trans q
      | own d' =>
        rw [z] at q
        obtain ⟨v', e1, r'⟩ := q
        exact ⟨v', es.trans e1, by rw [ef]; exact r'⟩
      | view d' =>
        rw [z] at q
        obtain ⟨e0, v', g', e1, r', w⟩ := q
        exact ⟨ef.trans e0, v', g', es.trans e1, r', w⟩
  disj := fun j k a hj hk => by
    unfold fput at hj hk
    by_cases e : j = i
    · rw [if_pos e] at hj
      by_cases e2 : k = i
      · rw [e, e2]
      · rw [if_neg e2] at hk
        exact absurd hk (ap a hj k)
    · rw [if_neg e] at hj
      by_cases e2 : k = i
      · rw [if_pos e2] at hk
        exact absurd hj (ap a hk j)
      · rw [if_neg e2] at hk
        exact h.disj j k a hj hk
  nd := fun j => by
    unfold fput
    by_cases e : j = i
    · rw [if_pos e]; exact nd
    · rw [if_neg e]; exact h.nd j
  pl := fun j a ha => by
    unfold fput at ha
    by_cases e : j = i
    · rw [if_pos e] at ha; exact pl a ha
    · rw [if_neg e] at ha; exact h.pl j a ha
  off := fun j a ha => by
    unfold fput at ha
    by_cases e : j = i
    · rw [if_pos e] at ha; exact off a ha
    · rw [if_neg e] at ha; exact h.off j a ha
  wt := h.wt
theorem Own.off {g : List Addr} (w : Own H fs H' fs' g) (h : RepEnv K W H σ env fs) : ∀ a ∈ g, ¬ W a := fun a ha hw => by
  rcases w.sub a ha with ⟨j, hj⟩ | z
  · exact h.off j a hj hw
  · obtain ⟨o, e⟩ := h.wt a hw
    rw [e] at z; cases z
/-- a slot is another one now, its footprint empty: forgotten, or a view of what is protected -/
theorem RepEnv.lay (h : RepEnv K W H σ env fs) {i : Nat} {s : Slot} {σ' : L2.St} (hi : i < env.length) (hσ : ∀ j, j ≠ i → σ'[j]? = σ[j]?) (hs : SlotOk K W H σ' (fput fs i []) i s) : RepEnv K W H σ' (env.set i s) (fput fs i []) where
  slot := fun j => by
    rw [at_set hi]
    by_cases e : j = i
    · subst e
      rw [if_pos rfl]
      exact hs
    · rw [if_neg e]
      have q := h.slot j
      have ef : fput fs i [] j = fs j := if_neg e
      cases z : env.at j with
      | dead => rw [z] at q; exact ef.trans q
      | own d' =>
        rw [z] at q
        obtain ⟨v', e1, r'⟩ := q
        exact ⟨v', (hσ j e).trans e1, by rw [ef]; exact r'⟩
      | view d' =>
        rw [z] at q
        obtain ⟨e0, v', g', e1, r', w⟩ := q
        exact ⟨ef.trans e0, v', g', (hσ j e).trans e1, r', w⟩
  disj := fun j k a hj hk => by
    unfold fput at hj hk
    by_cases e : j = i
    · rw [if_pos e] at hj; cases hj
    · rw [if_neg e] at hj
      by_cases e2 : k = i
      · rw [if_pos e2] at hk; cases hk
      · rw [if_neg e2] at hk
        exact h.disj j k a hj hk
  nd := fun j => by
    unfold fput
    by_cases e : j = i
    · rw [if_pos e]; exact .nil
    · rw [if_neg e]; exact h.nd j
  pl := fun j a ha => by
    unfold fput at ha
    by_cases e : j = i
    · rw [if_pos e] at ha; cases ha
    · rw [if_neg e] at ha; exact h.pl j a ha
  off := fun j a ha => by
    unfold fput at ha
    by_cases e : j = i
    · rw [if_pos e] at ha; cases ha
    · rw [if_neg e] at ha; exact h.off j a ha
  wt := h.wt
theorem fput_sub {i : Nat} : ∀ j, ∀ a ∈ fput fs i [] j, a ∈ fs j := fun j a ha => by
  unfold fput at ha
  by_cases e : j = i
  · rw [if_pos e] at ha; cases ha
  · rw [if_neg e] at ha; exact ha
theorem RepEnv.kill1 (h : RepEnv K W H σ env fs) (i : Nat) : ∃ fs', RepEnv K W H σ (env.set i .dead) fs' ∧ ∀ j, ∀ a ∈ fs' j, a ∈ fs j := by
  by_cases hi : i < env.length
  · refine ⟨_, h.lay (s := .dead) hi (fun _ _ => rfl) ?_, fput_sub⟩
    show fput fs i [] i = []
    exact if_pos rfl
  · rw [List.set_eq_of_length_le (Nat.le_of_not_lt hi)]
    exact ⟨fs, h, fun _ _ z => z⟩
/-- fewer slots are held -/
def killS (ks : List Nat) (env : Env) : Env := ks.foldl (fun e i => e.set i .dead) env
theorem RepEnv.kill : ∀ (ks : List Nat) {env : Env} {fs : Fs}, RepEnv K W H σ env fs → ∃ fs', RepEnv K W H σ (killS ks env) fs' ∧ ∀ j, ∀ a ∈ fs' j, a ∈ fs j
  | [], _, fs, h => ⟨fs, h, fun _ _ z => z⟩
  | k :: ks, _, fs, h => by
    obtain ⟨fs1, h1, s1⟩ := h.kill1 k
    obtain ⟨fs2, h2, s2⟩ := RepEnv.kill ks h1
    exact ⟨fs2, h2, fun j a ha => s1 j a (s2 j a ha)⟩
theorem Ext.less (x : Ext H H' fs') (s : ∀ j, ∀ a ∈ fs' j, a ∈ fs j) : Ext H H' fs := fun b o e n => x b o e fun i hi => n i (s i b hi)
theorem Sub.less {g : List Addr} (x : Sub H fs' g) (s : ∀ j, ∀ a ∈ fs' j, a ∈ fs j) : Sub H fs g := fun a ha => (x a ha).imp (fun ⟨j, hj⟩ => ⟨j, s j a hj⟩) id
theorem Move.less (m : Move K W W' A H fs' H1 σ σ1 env1 fs1) (s : ∀ j, ∀ a ∈ fs' j, a ∈ fs j) : Move K W W' A H fs H1 σ σ1 env1 fs1 := ⟨m.ext.less s, m.renv, m.more, fun i => (m.sub i).less s, m.keep⟩
theorem Own.less {g : List Addr} (w : Own H fs' H1 fs1 g) (s : ∀ j, ∀ a ∈ fs' j, a ∈ fs j) : Own H fs H1 fs1 g := ⟨w.nd, w.apart, w.pl, w.sub.less s⟩
theorem OutP.less {r : R Out} (h : OutP K E W A Dn σ H fs r) (s : ∀ j, ∀ a ∈ fs' j, a ∈ fs j) : OutP K E W A Dn σ H fs' r := by
  cases r with
  | no => exact h
  | ex c => exact fun H' ad e n => h H' ad (e.less s) n
  | ok o =>
    cases o with
    | nx e => exact fun W' σ' H' fs' m => h W' σ' H' fs' (m.less s)
    | bk e => exact fun W' σ' H' fs' m => h W' σ' H' fs' (m.less s)
    | ct e => exact fun W' σ' H' fs' m => h W' σ' H' fs' (m.less s)
    | rt d e => exact fun W' v σ' H' fs' g m r w => h W' v σ' H' fs' g (m.less s) r (w.less s)
end
section
variable {X : Cx} {E : XK} {p p1 p2 p3 o o1 o2 o3 : Bool} {A A1 A2 : List Nat} {pos : Pos}
def sKill (ks : List Nat) (f : Sv) : Sv := fun env => f (killS ks env)
theorem db_kill {sts : List Stmt} {f : Sv} {ks : List Nat} (h : DB X E A sts f) : DB X E A sts (sKill ks f) := by
  refine DB.imp h fun D σ H env fs W he q => ?_
  obtain ⟨fs', h', s'⟩ := he.kill ks
  exact tS_iff.mpr ⟨_, fs', W, h', OutP.less q s'⟩
theorem ds_kill {st : Stmt} {f : Sv} {ks : List Nat} (h : DS X E A st f) : DS X E A st (sKill ks f) := by
  refine DS.imp h fun D σ H env fs W he q => ?_
  obtain ⟨fs', h', s'⟩ := he.kill ks
  exact tS_iff.mpr ⟨_, fs', W, h', OutP.less q s'⟩
def sRetN : Sv := fun env => .ok (.rt .none env)
theorem ds_retN : DS X E [] (.Return none pos) sRetN := DS.imp ps_retN fun D σ H env fs W he q => q W .non σ H fs [] (Move.refl he) .non Own.nil
def sBk : Sv := fun env => .ok (.bk env)
def sCt : Sv := fun env => .ok (.ct env)
theorem ds_break : DS X E [] (.Break pos) sBk := DS.imp ps_break fun D σ H env fs W he q => q W σ H fs (Move.refl he)
theorem ds_cont : DS X E [] (.Continue pos) sCt := DS.imp ps_continue fun D σ H env fs W he q => q W σ H fs (Move.refl he)
theorem ds_pass : DS X E [] (.Pass pos) sNx := DS.imp ps_pass fun D σ H env fs W he q => q W σ H fs (Move.refl he)
def sNo : Sv := fun _ => .no
theorem ds_never {st : Stmt} : DS X E [] st sNo := DS.imp (ps_never (X := X) (st := st)) fun D σ H env fs W he q => q
theorem db_never {sts : List Stmt} : DB X E [] sts sNo := DB.imp (pss_never (X := X) (sts := sts)) fun D σ H env fs W he q => q
def sExpr (f : Ev) : Sv := fun env => (f env).bind fun x => .ok (.nx x.2)
theorem ds_expr {e : Expr} {f : Ev} (h : DE X E p o e f) (hs : swapsWith e none pos.line X.env = pure false := by rfl) : DS X E [] (.Expr e pos) (sExpr f) :=
  DS.imp (ps_expr h hs) fun D σ H env fs W he q => tD_then (k := fun _ e => .ok (.nx e)) he rfl q fun d env1 v H1 fs1 gg P z => z W σ H1 fs1 P.step.move
def sIf (t : Et) (f g : Sv) : Sv := fun env => (t env).bind fun x => if x.1 = true then f x.2 else g x.2
theorem ds_if {c : Expr} {a b : List Stmt} {t : Et} {f g : Sv} (hc : DT X E p c t) (ha : DB X E A1 a f) (hb : DB X E A2 b g) : DS X E (A1 ++ A2) (.If c a b pos) (sIf t f g) := by
  refine DS.imp (ps_if hc ha hb) fun D σ H env fs W he q => tDT_then (k := fun b e => if b = true then f e else g e) he rfl q fun b env1 H1 fs1 S z => ?_
  cases b with
  | true => exact tS_iff.mpr ⟨env1, fs1, W, S.renv, OutP.mono z fun i hi => List.mem_append_left _ hi⟩
  | false => exact tS_iff.mpr ⟨env1, fs1, W, S.renv, OutP.mono z fun i hi => List.mem_append_right _ hi⟩
/-! ### names stored to -/
theorem σ_len {pins : List (Addr × Obj)} {σ : L2.St} {H : Hp} {s : Shared} (I : Inv X pins σ H s) {i : Nat} {x : Str} (h : X.N[i]? = some x) : i < σ.length := by
  rw [I.len]
  exact (List.getElem?_eq_some_iff.mp h).1
/-- the reading of a statement, with the length of the slots known -/
theorem DS.impL {st : Stmt} {t : TS} {f : Sv} (h : PS X st t) (m : ∀ (D : Ends) (σ : L2.St) (H : Hp) (env : Env) (fs : Fs) (W : Addr → Prop), σ.length = X.N.length → RepEnv X.K W H σ env fs → OutP X.K E W A D σ H fs (f env) → t D σ H) : DS X E A st f :=
  ⟨fun pins s σ H D I z => let ⟨env, fs, W, he, q⟩ := tS_iff.mp z; h.run pins s σ H D I (m D σ H env fs W I.len he q)⟩
def sSet (i : Nat) (f : Ev) : Sv := fun env => (f env).bind fun x => if i < x.2.length then .ok (.nx (x.2.set i (.own x.1))) else .no
theorem Post.put {K : Frag} {W : Addr → Prop} {H H1 : Hp} {σ : L2.St} {env env1 : Env} {fs fs1 : Fs} {v : V} {d : D} {g : List Addr} {i : Nat} (he : RepEnv K W H σ env fs) (P : Post K W p true H env fs H1 σ env1 fs1 v d g) (hi : i < env1.length) (hσ : i < σ.length) :
    Move K W W [i] H fs H1 σ (σ.set i (some v)) (env1.set i (.own d)) (fput fs1 i g) where
  ext := P.step.ext
  more := fun _ z => z
  renv := P.step.renv.put hi hσ P.rep (P.own rfl).nd (P.own rfl).apart (P.own rfl).pl ((P.own rfl).off he)
  sub := fun j a ha => by
    unfold fput at ha
    by_cases e : j = i
    · rw [if_pos e] at ha; exact (P.own rfl).sub a ha
    · rw [if_neg e] at ha; exact P.step.sub j a ha
  keep := fun j hj => List.getElem?_set_ne fun e => hj (by simp [e])
theorem ds_set {i : Nat} {x : Str} {e : Expr} {f : Ev} {pos' : Pos} (hN : X.N.Nodup) (h : DE X E p true e f) (hi : X.N[i]? = some x := by rfl) (hx : Loc X.env.scope x := by first | exact .inl rfl | exact .inr rfl) (hs : swapsWith e (some (.Name x pos')) pos.line X.env = pure false := by rfl) (hf : X.fn x = true ∨ X.env.scope.names.lookup x = some .local := by first | exact .inl rfl | exact .inr rfl) :
    DS X E [i] (.Assign [.Name x pos'] e pos) (sSet i f) := by
  refine DS.impL (ps_set hN hi hx h hs hf) fun D σ H env fs W hl he q => tD_then (k := fun d e => if i < e.length then .ok (.nx (e.set i (.own d))) else .no) he rfl q fun d env1 v H1 fs1 gg P z => ?_
  by_cases c : i < env1.length
  · rw [if_pos c] at z
    exact z W _ H1 _ (P.put he c (by rw [hl]; exact (List.getElem?_eq_some_iff.mp hi).1))
  · rw [if_neg c] at z
    exact z.elim
/-- name op= e, by values; what it holds can't change -/
def sAug (i : Nat) (F : D → D → Option D) (f : Ev) : Sv := fun env => (Slot.get (env.at i)).bind fun d => (f env).bind fun y => (R.of (F d y.1)).bind fun r => if i < y.2.length then .ok (.nx (y.2.set i (.own r))) else .no
def IpD (X : Cx) (op : Operator) (F : D → D → Option D) : Prop := PIp X op (rD2 X.K F)
theorem RepEnv.get {K : Frag} {W : Addr → Prop} {H : Hp} {σ : L2.St} {env : Env} {fs : Fs} (h : RepEnv K W H σ env fs) {i : Nat} {d : D} (e : Slot.get (env.at i) = .ok d) : ∃ v g, σ[i]? = some (some v) ∧ Rep K H v d g ∧ ((env.at i = .own d ∧ g = fs i) ∨ (env.at i = .view d ∧ ∀ a ∈ g, W a)) := by
  have q := h.slot i
  cases z : env.at i with
  | dead => rw [z] at e; cases e
  | own d' =>
    rw [z] at q e
    cases e
    obtain ⟨v, e1, r⟩ := q
    exact ⟨v, _, e1, r, .inl ⟨rfl, rfl⟩⟩
  | view d' =>
    rw [z] at q e
    cases e
    obtain ⟨_, v, g, e1, r, w⟩ := q
    exact ⟨v, g, e1, r, .inr ⟨rfl, w⟩⟩
theorem ds_aug {i : Nat} {x : Str} {e : Expr} {f : Ev} {op : Operator} {F : D → D → Option D} {pos' : Pos} (hN : X.N.Nodup) (ho : IpD X op F) (h : DE X E true o e f) (hi : X.N[i]? = some x := by rfl) (hx : Loc X.env.scope x := by first | exact .inl rfl | exact .inr rfl) (hf : X.fn x = true ∨ X.env.scope.names.lookup x = some .local := by first | exact .inl rfl | exact .inr rfl) :
    DS X E [i] (.AugAssign (.Name x pos') op e pos) (sAug i F f) := by
  refine DS.impL (ps_aug hN hi hx h ho hf) fun D σ H env fs W hl he q => ?_
  have hσ : i < σ.length := by rw [hl]; exact (List.getElem?_eq_some_iff.mp hi).1
  unfold sAug at q
  cases e0 : Slot.get (env.at i) with
  | no => rw [e0] at q; exact q.elim
  | ex c =>
    cases z : env.at i <;> (rw [z] at e0; cases e0)
  | ok d =>
    rw [e0] at q
    obtain ⟨v, g0, e1, r0, _⟩ := he.get e0
    refine ⟨v, e1, tD_then (k := fun y e => (R.of (F d y)).bind fun r => if i < e.length then .ok (.nx (e.set i (.own r))) else .no) (g := fun env => (f env).bind fun y => (R.of (F d y.1)).bind fun r => if i < y.2.length then .ok (.nx (y.2.set i (.own r))) else .no) he rfl q fun y env1 w H1 fs1 gg P z => ?_⟩
    cases e3 : F d y with
    | none => rw [e3] at z; exact z.elim
    | some r =>
      rw [e3] at z
      simp only [R.of, R.bind] at z
      by_cases c : i < env1.length
      · rw [if_pos c] at z
        exact ⟨d, y, g0, gg, r, r0.same (P.step.pure rfl).1, P.rep, e3, fun u H2 g2 fr => z W _ H2 _ ((Post.fresh (p := true) P.step fr).put he c hσ)⟩
      · rw [if_neg c] at z
        exact z.elim
def augAdd : D → D → Option D
  | .int i, .int j => some (.int (i + j))
  | .str a, .str b => if a.length + b.length ≤ 16000000 then some (.str (a ++ b)) else none
  | _, _ => none
theorem ip_addV : IpD X .Add augAdd := by
  rintro pins s σ H x y v u Q I rx ry ⟨d, e, g1, g2, r, hd, he, hF, q⟩
  unfold augAdd at hF
  split at hF
  · cases hF
    cases hd
    cases he
    exact iop_add pins s σ H _ _ v u Q I rx ry ⟨_, _, rfl, rfl, q _ _ _ (.scal (.int _))⟩
  · split at hF
    · rename_i hp
      cases hF
      cases hd
      cases he
      exact iop_add_str pins s σ H _ _ v u Q I rx ry ⟨_, _, rfl, rfl, in_line hp, q _ _ _ (.scal (.str _))⟩
    · cases hF
  · cases hF
theorem ip_subV : IpD X .Sub subD := by
  rintro pins s σ H x y v u Q I rx ry ⟨d, e, g1, g2, r, hd, he, hF, q⟩
  unfold subD at hF
  split at hF
  · cases hF
    cases hd
    cases he
    exact iop_sub pins s σ H _ _ v u Q I rx ry ⟨_, _, rfl, rfl, q _ _ _ (.scal (.int _))⟩
  · cases hF
/-! ### targets: names, tuples of names; what is bound is protected (a view), or one's own -/
inductive Tg where
  | nm (i : Nat) | tp (l : List Tg)
mutual
/-- views are bound -/
def bindV : Tg → D → Env → Option Env
  | .nm i, d, env => if i < env.length then some (env.set i (.view d)) else none
  | .tp l, .tuple ds, env => bindVs l ds env
  | .tp _, _, _ => none
def bindVs : List Tg → List D → Env → Option Env
  | [], [], env => some env
  | t :: ts, d :: ds, env => (bindV t d env).bind fun env' => bindVs ts ds env'
  | _, _, _ => none
end
mutual
/-- own values are bound -/
def bindO : Tg → D → Env → Option Env
  | .nm i, d, env => if i < env.length then some (env.set i (.own d)) else none
  | .tp l, .tuple ds, env => bindOs l ds env
  | .tp _, _, _ => none
def bindOs : List Tg → List D → Env → Option Env
  | [], [], env => some env
  | t :: ts, d :: ds, env => (bindO t d env).bind fun env' => bindOs ts ds env'
  | _, _, _ => none
end
/-- slots stored to -/
structure Bound (K : Frag) (W : Addr → Prop) (A : List Nat) (H : Hp) (fs : Fs) (gg : List Addr) (σ σ' : L2.St) (env' : Env) (fs' : Fs) : Prop where
  renv : RepEnv K W H σ' env' fs'
  sub : ∀ i a, a ∈ fs' i → a ∈ fs i ∨ a ∈ gg
  keep : ∀ i, i ∉ A → σ'[i]? = σ[i]?
  len : σ'.length = σ.length
  kf : ∀ i, i ∉ A → fs' i = fs i
def tGV (K : Frag) (n : Nat) (A : List Nat) (t : Tg) : TG := fun v σ H Q => ∃ d g W env env' fs, σ.length = n ∧ RepEnv K W H σ env fs ∧ Rep K H v d g ∧ (∀ a ∈ g, W a) ∧ bindV t d env = some env' ∧ ∀ σ' fs', Bound K W A H fs [] σ σ' env' fs' → Q σ' H
def tGVs (K : Frag) (n : Nat) (A : List Nat) (t : List Tg) : TGs := fun v σ H Q => ∃ d g W env env' fs, σ.length = n ∧ RepEnv K W H σ env fs ∧ RepL K H v d g ∧ (∀ a ∈ g, W a) ∧ bindVs t d env = some env' ∧ ∀ σ' fs', Bound K W A H fs [] σ σ' env' fs' → Q σ' H
def tGO (K : Frag) (n : Nat) (A : List Nat) (t : Tg) : TG := fun v σ H Q => ∃ d g W env env' fs, σ.length = n ∧ RepEnv K W H σ env fs ∧ Rep K H v d g ∧ (g.Nodup ∧ (∀ a ∈ g, ∀ j, a ∉ fs j) ∧ (∀ a ∈ g, Pl H a) ∧ ∀ a ∈ g, ¬ W a) ∧ bindO t d env = some env' ∧ ∀ σ' fs', Bound K W A H fs g σ σ' env' fs' → Q σ' H
def tGOs (K : Frag) (n : Nat) (A : List Nat) (t : List Tg) : TGs := fun v σ H Q => ∃ d g W env env' fs, σ.length = n ∧ RepEnv K W H σ env fs ∧ RepL K H v d g ∧ (g.Nodup ∧ (∀ a ∈ g, ∀ j, a ∉ fs j) ∧ (∀ a ∈ g, Pl H a) ∧ ∀ a ∈ g, ¬ W a) ∧ bindOs t d env = some env' ∧ ∀ σ' fs', Bound K W A H fs g σ σ' env' fs' → Q σ' H
structure DG (X : Cx) (A : List Nat) (e : Expr) (t : Tg) : Prop where
  v : PG X e (tGV X.K X.N.length A t)
  o : PG X e (tGO X.K X.N.length A t)
structure DGs (X : Cx) (A : List Nat) (es : List Expr) (t : List Tg) : Prop where
  v : PGs X es (tGVs X.K X.N.length A t)
  o : PGs X es (tGOs X.K X.N.length A t)
theorem PG.mono {e : Expr} {t t' : TG} (h : PG X e t) (m : ∀ v σ H Q, t' v σ H Q → t v σ H Q) : PG X e t' := ⟨fun pins s σ H v u Q I r w => h.run pins s σ H v u Q I r (m v σ H Q w)⟩
theorem PGs.mono {es : List Expr} {t t' : TGs} (h : PGs X es t) (m : ∀ v σ H Q, t' v σ H Q → t v σ H Q) : PGs X es t' := ⟨fun pins s σ H v u Q I r w => h.run pins s σ H v u Q I r (m v σ H Q w)⟩
theorem dg_name {i : Nat} {x : Str} (hN : X.N.Nodup) (hi : X.N[i]? = some x := by rfl) (hx : Loc X.env.scope x := by first | exact .inl rfl | exact .inr rfl) (hf : X.fn x = true ∨ X.env.scope.names.lookup x = some .local := by first | exact .inl rfl | exact .inr rfl) : DG X [i] (.Name x pos) (.nm i) where
  v := PG.mono (pg_name hN hi hx hf) fun v σ H Q ⟨d, g, W, env, env', fs, hl, he, r, w, hb, q⟩ => by
    have hσ : i < σ.length := by rw [hl]; exact (List.getElem?_eq_some_iff.mp hi).1
    unfold bindV at hb
    by_cases c : i < env.length
    · rw [if_pos c] at hb
      cases hb
      refine q _ (fput fs i []) ⟨he.lay c (fun j hj => List.getElem?_set_ne (Ne.symm hj)) ⟨if_pos rfl, v, g, st_get hσ, r, w⟩, fun j a ha => .inl (fput_sub j a ha), fun j hj => List.getElem?_set_ne fun e => hj (by simp [e]), by simp, fun j hj => if_neg fun e => hj (by simp [e])⟩
    · rw [if_neg c] at hb
      cases hb
  o := PG.mono (pg_name hN hi hx hf) fun v σ H Q ⟨d, g, W, env, env', fs, hl, he, r, w, hb, q⟩ => by
    have hσ : i < σ.length := by rw [hl]; exact (List.getElem?_eq_some_iff.mp hi).1
    unfold bindO at hb
    by_cases c : i < env.length
    · rw [if_pos c] at hb
      cases hb
      refine q _ (fput fs i g) ⟨he.put c hσ r w.1 w.2.1 w.2.2.1 w.2.2.2, fun j a ha => ?_, fun j hj => List.getElem?_set_ne fun e => hj (by simp [e]), by simp, fun j hj => if_neg fun e => hj (by simp [e])⟩
      unfold fput at ha
      by_cases e : j = i
      · rw [if_pos e] at ha; exact .inr ha
      · rw [if_neg e] at ha; exact .inl ha
    · rw [if_neg c] at hb
      cases hb
theorem dgs_nil : DGs X [] [] [] where
  v := PGs.mono pgs_nil fun v σ H Q ⟨d, g, W, env, env', fs, hl, he, r, w, hb, q⟩ => by
    cases d with
    | nil =>
      cases r
      cases hb
      exact ⟨rfl, q σ fs ⟨he, fun _ _ z => .inl z, fun _ _ => rfl, rfl, fun _ _ => rfl⟩⟩
    | cons _ _ => simp [bindVs] at hb
  o := PGs.mono pgs_nil fun v σ H Q ⟨d, g, W, env, env', fs, hl, he, r, w, hb, q⟩ => by
    cases d with
    | nil =>
      cases r
      cases hb
      exact ⟨rfl, q σ fs ⟨he, fun _ _ z => .inl z, fun _ _ => rfl, rfl, fun _ _ => rfl⟩⟩
    | cons _ _ => simp [bindOs] at hb
theorem dgs_cons {e : Expr} {es : List Expr} {t : Tg} {ts : List Tg} (h1 : DG X A1 e t) (h2 : DGs X A2 es ts) (hs : (assignEach (e :: es) X.env).map (·.2) = assign e X.env :: (assignEach es X.env).map (·.2) := by rfl) : DGs X (A1 ++ A2) (e :: es) (t :: ts) where
  v := PGs.mono (pgs_cons h1.v h2.v hs) fun v σ H Q ⟨d, g, W, env, env', fs, hl, he, r, w, hb, q⟩ => by
    cases d with
    | nil => simp [bindVs] at hb
    | cons d ds =>
      obtain ⟨env1, b1, b2⟩ := Option.bind_eq_some_iff.mp (show (bindV t d env).bind (fun env' => bindVs ts ds env') = some env' from hb)
      cases r with
      | cons r1 r2 =>
        refine ⟨_, _, rfl, d, _, W, env, env1, fs, hl, he, r1, fun a ha => w a (List.mem_append_left _ ha), b1, fun σ1 fs1 m1 => ?_⟩
        refine ⟨ds, _, W, env1, env', fs1, m1.len.trans hl, m1.renv, r2, fun a ha => w a (List.mem_append_right _ ha), b2, fun σ2 fs2 m2 => ?_⟩
        refine q σ2 fs2 ⟨m2.renv, fun i a ha => ?_, fun i hi => ?_, m2.len.trans m1.len, fun i hi => (m2.kf i fun z => hi (List.mem_append_right _ z)).trans (m1.kf i fun z => hi (List.mem_append_left _ z))⟩
        · rcases m2.sub i a ha with z | z
          · exact m1.sub i a z
          · exact .inr z
        · exact (m2.keep i fun z => hi (List.mem_append_right _ z)).trans (m1.keep i fun z => hi (List.mem_append_left _ z))
  o := PGs.mono (pgs_cons h1.o h2.o hs) fun v σ H Q ⟨d, g, W, env, env', fs, hl, he, r, w, hb, q⟩ => by
    cases d with
    | nil => simp [bindOs] at hb
    | cons d ds =>
      obtain ⟨env1, b1, b2⟩ := Option.bind_eq_some_iff.mp (show (bindO t d env).bind (fun env' => bindOs ts ds env') = some env' from hb)
      cases r with
      | cons r1 r2 =>
        obtain ⟨wn, wa, wp, wo⟩ := w
        obtain ⟨n1, n2, n3⟩ := List.nodup_append.mp wn
        refine ⟨_, _, rfl, d, _, W, env, env1, fs, hl, he, r1, ⟨n1, fun a ha => wa a (List.mem_append_left _ ha), fun a ha => wp a (List.mem_append_left _ ha), fun a ha => wo a (List.mem_append_left _ ha)⟩, b1, fun σ1 fs1 m1 => ?_⟩
        refine ⟨ds, _, W, env1, env', fs1, m1.len.trans hl, m1.renv, r2, ⟨n2, fun a ha j hj => ?_, fun a ha => wp a (List.mem_append_right _ ha), fun a ha => wo a (List.mem_append_right _ ha)⟩, b2, fun σ2 fs2 m2 => ?_⟩
        · rcases m1.sub j a hj with z | z
          · exact wa a (List.mem_append_right _ ha) j z
          · exact n3 a z a ha rfl
        · refine q σ2 fs2 ⟨m2.renv, fun i a ha => ?_, fun i hi => ?_, m2.len.trans m1.len, fun i hi => (m2.kf i fun z => hi (List.mem_append_right _ z)).trans (m1.kf i fun z => hi (List.mem_append_left _ z))⟩
          · rcases m2.sub i a ha with z | z
            · rcases m1.sub i a z with y | y
              · exact .inl y
              · exact .inr (List.mem_append_left _ y)
            · exact .inr (List.mem_append_right _ z)
          · exact (m2.keep i fun z => hi (List.mem_append_right _ z)).trans (m1.keep i fun z => hi (List.mem_append_left _ z))
theorem bindVs_len : ∀ {ts : List Tg} {ds : List D} {env env' : Env}, bindVs ts ds env = some env' → ds.length = ts.length
  | [], [], _, _, _ => rfl
  | [], _ :: _, _, _, h => by simp [bindVs] at h
  | _ :: _, [], _, _, h => by simp [bindVs] at h
  | t :: ts, d :: ds, env, env', h => by
    obtain ⟨env1, b1, b2⟩ := Option.bind_eq_some_iff.mp (show (bindV t d env).bind (fun env' => bindVs ts ds env') = some env' from h)
    simp [bindVs_len b2]
theorem bindOs_len : ∀ {ts : List Tg} {ds : List D} {env env' : Env}, bindOs ts ds env = some env' → ds.length = ts.length
  | [], [], _, _, _ => rfl
  | [], _ :: _, _, _, h => by simp [bindOs] at h
  | _ :: _, [], _, _, h => by simp [bindOs] at h
  | t :: ts, d :: ds, env, env', h => by
    obtain ⟨env1, b1, b2⟩ := Option.bind_eq_some_iff.mp (show (bindO t d env).bind (fun env' => bindOs ts ds env') = some env' from h)
    simp [bindOs_len b2]
theorem dg_tup {es : List Expr} {ts : List Tg} {k : Nat} (hc : X.calm = true) (h : DGs X A es ts) (hn : (assignEach es X.env).length = ts.length := by rfl) (hst : (assignEach es X.env).findIdx? (·.1) = none := by rfl) : DG X A (.Tuple es k pos) (.tp ts) where
  v := PG.mono (pg_tup hc h.v hn hst) fun v σ H Q ⟨d, g, W, env, env', fs, hl, he, r, w, hb, q⟩ => by
    cases d with
    | tuple ds =>
      have hb' : bindVs ts ds env = some env' := by simpa [bindV] using hb
      cases r with
      | tup h1 l1 => exact ⟨_, _, rfl, h1, by rw [RepL.length l1]; exact bindVs_len hb', ds, g, W, env, env', fs, hl, he, l1, w, hb', q⟩
    | _ => simp [bindV] at hb
  o := PG.mono (pg_tup hc h.o hn hst) fun v σ H Q ⟨d, g, W, env, env', fs, hl, he, r, w, hb, q⟩ => by
    cases d with
    | tuple ds =>
      have hb' : bindOs ts ds env = some env' := by simpa [bindO] using hb
      cases r with
      | tup h1 l1 => exact ⟨_, _, rfl, h1, by rw [RepL.length l1]; exact bindOs_len hb', ds, g, W, env, env', fs, hl, he, l1, w, hb', q⟩
    | _ => simp [bindO] at hb
/-- target = e, e one's own -/
def sAsg (t : Tg) (f : Ev) : Sv := fun env => (f env).bind fun x => (R.of (bindO t x.1 x.2)).bind fun e => .ok (.nx e)
theorem ds_asg {tg e : Expr} {t : Tg} {f : Ev} (hg : DG X A tg t) (h : DE X E p true e f) (hs : swapsWithSole [tg] e pos.line X.env = pure false := by rfl) (hw : swappedStores [tg] e X.env = pure none := by rfl)
    (h1 : (assignEach [tg] X.env).map (·.2) = [assign tg X.env] := by rfl) : DS X E A (.Assign [tg] e pos) (sAsg t f) := by
  refine DS.impL (ps_asg h hg.o hs hw h1) fun D σ H env fs W hl he q => tD_then (k := fun d e => (R.of (bindO t d e)).bind fun e => .ok (.nx e)) he rfl q fun d env1 v H1 fs1 gg P z => ?_
  cases hb : bindO t d env1 with
  | none => rw [hb] at z; exact z.elim
  | some env2 =>
    rw [hb] at z
    have w := P.own rfl
    refine ⟨d, gg, W, env1, env2, fs1, hl, P.step.renv, P.rep, ⟨w.nd, w.apart, w.pl, w.off he⟩, hb, fun σ' fs' m => z W σ' H1 fs' ⟨P.step.ext, m.renv, fun _ z => z, fun i a ha => ?_, m.keep⟩⟩
    rcases m.sub i a ha with y | y
    · exact P.step.sub i a y
    · exact w.sub a y
/-- a, b = e1, e2 (own); three -/
def sPar (i j : Nat) (f : EvA) : Sv := fun env => (f env).bind fun x => match x.1 with
  | [d, e] => if i < x.2.length ∧ j < x.2.length then .ok (.nx ((x.2.set i (.own d)).set j (.own e))) else .no
  | _ => .no
end
end DV
end
section
set_option Elab.async false
set_option linter.all false
set_option maxRecDepth 100000
namespace DV
open PySem PySem.Spec PyProof.Rows L2
section
variable {K : Frag} {W W' : Addr → Prop} {E : XK} {H H' H1 H2 : Hp} {σ σ' σ1 σ2 : L2.St} {env env' env1 env2 : Env} {fs fs' fs1 fs2 : Fs}
theorem RepEnv.more (h : RepEnv K W H σ env fs) (hm : ∀ a, W a → W' a) (off : ∀ i, ∀ a ∈ fs i, ¬ W' a) (wt : ∀ a, W' a → ∃ o, H a = some o) : RepEnv K W' H σ env fs where
  slot := fun i => by
    have q := h.slot i
    cases e : env.at i with
    | dead => rw [e] at q; exact q
    | own d => rw [e] at q; exact q
    | view d =>
      rw [e] at q
      obtain ⟨z, v, g, e1, r, n⟩ := q
      exact ⟨z, v, g, e1, r, fun a ha => hm a (n a ha)⟩
  disj := h.disj
  nd := h.nd
  pl := h.pl
  off := off
  wt := wt
theorem RepL.split {v w : V} {d e : D} {g : List Addr} (h : RepL K H [v, w] [d, e] g) : ∃ g1 g2, g = g1 ++ g2 ∧ Rep K H v d g1 ∧ Rep K H w e g2 := by
  cases h with
  | cons h1 h2 =>
    cases h2 with
    | cons h2 h3 =>
      cases h3
      exact ⟨_, _, by rw [List.append_nil], h1, h2⟩
theorem RepL.split3 {u v w : V} {c d e : D} {g : List Addr} (h : RepL K H [u, v, w] [c, d, e] g) : ∃ g0 g1 g2, g = g0 ++ (g1 ++ g2) ∧ Rep K H u c g0 ∧ Rep K H v d g1 ∧ Rep K H w e g2 := by
  cases h with
  | cons h0 h1 =>
    obtain ⟨g1, g2, e, r1, r2⟩ := RepL.split h1
    exact ⟨_, g1, g2, by rw [e], h0, r1, r2⟩
theorem fput_apart {i : Nat} {g g2 : List Addr} (a : ∀ a ∈ g2, ∀ j, a ∉ fs j) (b : ∀ a ∈ g2, a ∉ g) : ∀ a ∈ g2, ∀ j, a ∉ fput fs i g j := fun x hx j hj => by
  unfold fput at hj
  by_cases e : j = i
  · rw [if_pos e] at hj; exact b x hx hj
  · rw [if_neg e] at hj; exact a x hx j hj
end
section
variable {X : Cx} {E : XK} {p p1 p2 p3 o o1 o2 o3 : Bool} {A A1 A2 : List Nat} {pos : Pos}
/-- an argument list's reading ahead of what follows -/
theorem tDA_then {f : EvA} {k : List D → Env → R Out} {g : Sv} {Dn : Ends} {σ : L2.St} {H : Hp} {env : Env} {fs : Fs} {W : Addr → Prop} {Q : List V → Hp → Prop} (he : RepEnv X.K W H σ env fs) (hg : g env = (f env).bind fun x => k x.1 x.2) (h : OutP X.K E W A Dn σ H fs (g env))
    (q : ∀ d env1 v H1 fs1 gg, PostL X.K W p o H env fs H1 σ env1 fs1 v d gg → OutP X.K E W A Dn σ H fs (k d env1) → Q v H1) : tDA X.K E p o f σ H Q := by
  refine ⟨env, fs, W, he, ?_⟩
  rw [hg] at h
  cases e1 : f env with
  | no => rw [e1] at h; exact h
  | ex c => rw [e1] at h; exact h
  | ok x =>
    obtain ⟨d, env1⟩ := x
    rw [e1] at h
    exact fun v H1 fs1 gg P => q d env1 v H1 fs1 gg P h
def par2 (i j : Nat) : List D → Env → R Out
  | [d, e], env => if i < env.length ∧ j < env.length then .ok (.nx ((env.set i (.own d)).set j (.own e))) else .no
  | _, _ => .no
def sPar2 (i j : Nat) (f : EvA) : Sv := fun env => (f env).bind fun x => par2 i j x.1 x.2
theorem ds_par2 {i j : Nat} {x y : Str} {a b : Expr} {f : EvA} {px py pt : Pos} {kt k2 pt2} (hc : X.calm = true) (hN : X.N.Nodup) (h : DA X E p true [a, b] f) (hi : X.N[i]? = some x := by rfl) (hj : X.N[j]? = some y := by rfl) (hij : i ≠ j := by decide)
    (hx : X.env.scope.names.lookup x = some .local := by rfl) (hy : X.env.scope.names.lookup y = some .local := by rfl)
    (hw : swappedStores [.Tuple [.Name x px, .Name y py] kt pt] (.Tuple [a, b] k2 pt2) X.env = pure (some [x, y]) := by rfl)
    (hs : swapsWithSole [.Tuple [.Name x px, .Name y py] kt pt] (.Tuple [a, b] k2 pt2) pos.line X.env = pure false := by rfl) :
    DS X E [i, j] (.Assign [.Tuple [.Name x px, .Name y py] kt pt] (.Tuple [a, b] k2 pt2) pos) (sPar2 i j f) := by
  refine DS.impL (ps_par hc hN hi hj hij hx hy h hw hs) fun D σ H env fs W hl he q => tDA_then (k := par2 i j) he rfl q fun ds env1 vs H1 fs1 gg P z => ?_
  have hσi : i < σ.length := by rw [hl]; exact (List.getElem?_eq_some_iff.mp hi).1
  have hσj : j < σ.length := by rw [hl]; exact (List.getElem?_eq_some_iff.mp hj).1
  have w := P.own rfl
  have r := P.rep
  match ds, z with
  | [d, e], z =>
    simp only [par2] at z
    by_cases c : i < env1.length ∧ j < env1.length
    · rw [if_pos c] at z
      have n := RepL.length r
      match vs, n with
      | [v, u], _ =>
        obtain ⟨g1, g2, eg, r1, r2⟩ := RepL.split r
        subst eg
        obtain ⟨n1, n2, n3⟩ := List.nodup_append.mp w.nd
        have off := w.off he
        have R1 := P.step.renv.put c.1 hσi r1 n1 (fun a ha => w.apart a (List.mem_append_left _ ha)) (fun a ha => w.pl a (List.mem_append_left _ ha)) fun a ha => off a (List.mem_append_left _ ha)
        have R2 := R1.put (i := j) (by simpa using c.2) (by simpa using hσj) r2 n2 (fput_apart (fun a ha => w.apart a (List.mem_append_right _ ha)) fun a ha hb => n3 a hb a ha rfl) (fun a ha => w.pl a (List.mem_append_right _ ha)) fun a ha => off a (List.mem_append_right _ ha)
        refine ⟨v, u, rfl, z W _ H1 _ ⟨P.step.ext, R2, fun _ z => z, fun k a ha => ?_, fun k hk => ?_⟩⟩
        · unfold fput at ha
          by_cases e1 : k = j
          · rw [if_pos e1] at ha; exact w.sub a (List.mem_append_right _ ha)
          · rw [if_neg e1] at ha
            by_cases e2 : k = i
            · rw [if_pos e2] at ha; exact w.sub a (List.mem_append_left _ ha)
            · rw [if_neg e2] at ha; exact P.step.sub k a ha
        · rw [List.getElem?_set_ne (fun e => hk (by simp [e])), List.getElem?_set_ne (fun e => hk (by simp [e]))]
    · rw [if_neg c] at z
      exact z.elim
  | [], z => exact z.elim
  | [_], z => exact z.elim
  | _ :: _ :: _ :: _, z => exact z.elim
def par3 (i j l : Nat) : List D → Env → R Out
  | [c, d, e], env => if i < env.length ∧ j < env.length ∧ l < env.length then .ok (.nx (((env.set i (.own c)).set j (.own d)).set l (.own e))) else .no
  | _, _ => .no
def sPar3 (i j l : Nat) (f : EvA) : Sv := fun env => (f env).bind fun x => par3 i j l x.1 x.2
theorem ds_par3 {i j l : Nat} {x y z : Str} {a b c : Expr} {f : EvA} {px py pz pt : Pos} {kt k2 pt2} (hc : X.calm = true) (hN : X.N.Nodup) (h : DA X E p true [a, b, c] f) (hi : X.N[i]? = some x := by rfl) (hj : X.N[j]? = some y := by rfl) (hl : X.N[l]? = some z := by rfl) (hij : i ≠ j := by decide) (hil : i ≠ l := by decide) (hjl : j ≠ l := by decide)
    (hx : X.env.scope.names.lookup x = some .local := by rfl) (hy : X.env.scope.names.lookup y = some .local := by rfl) (hz : X.env.scope.names.lookup z = some .local := by rfl)
    (hw : swappedStores [.Tuple [.Name x px, .Name y py, .Name z pz] kt pt] (.Tuple [a, b, c] k2 pt2) X.env = pure (some [x, y, z]) := by rfl)
    (hs : swapsWithSole [.Tuple [.Name x px, .Name y py, .Name z pz] kt pt] (.Tuple [a, b, c] k2 pt2) pos.line X.env = pure false := by rfl) :
    DS X E [i, j, l] (.Assign [.Tuple [.Name x px, .Name y py, .Name z pz] kt pt] (.Tuple [a, b, c] k2 pt2) pos) (sPar3 i j l f) := by
  refine DS.impL (ps_par3 hc hN hi hj hl hij hil hjl hx hy hz h hw hs) fun D σ H env fs W hlen he q => tDA_then (k := par3 i j l) he rfl q fun ds env1 vs H1 fs1 gg P z => ?_
  have hσi : i < σ.length := by rw [hlen]; exact (List.getElem?_eq_some_iff.mp hi).1
  have hσj : j < σ.length := by rw [hlen]; exact (List.getElem?_eq_some_iff.mp hj).1
  have hσl : l < σ.length := by rw [hlen]; exact (List.getElem?_eq_some_iff.mp hl).1
  have w := P.own rfl
  have r := P.rep
  match ds, z with
  | [d, e, f], z =>
    simp only [par3] at z
    by_cases c : i < env1.length ∧ j < env1.length ∧ l < env1.length
    · rw [if_pos c] at z
      have n := RepL.length r
      match vs, n with
      | [v, u, t], _ =>
        obtain ⟨g0, g1, g2, eg, r0, r1, r2⟩ := RepL.split3 r
        subst eg
        obtain ⟨n0, n12, n3⟩ := List.nodup_append.mp w.nd
        obtain ⟨n1, n2, n4⟩ := List.nodup_append.mp n12
        have off := w.off he
        have m1 : ∀ {a : Addr}, a ∈ g1 → a ∈ g0 ++ (g1 ++ g2) := fun h => List.mem_append_right _ (List.mem_append_left _ h)
        have m2 : ∀ {a : Addr}, a ∈ g2 → a ∈ g0 ++ (g1 ++ g2) := fun h => List.mem_append_right _ (List.mem_append_right _ h)
        have R1 := P.step.renv.put c.1 hσi r0 n0 (fun a ha => w.apart a (List.mem_append_left _ ha)) (fun a ha => w.pl a (List.mem_append_left _ ha)) fun a ha => off a (List.mem_append_left _ ha)
        have R2 := R1.put (i := j) (by simpa using c.2.1) (by simpa using hσj) r1 n1 (fput_apart (fun a ha => w.apart a (m1 ha)) fun a ha hb => n3 a hb a (List.mem_append_left _ ha) rfl) (fun a ha => w.pl a (m1 ha)) fun a ha => off a (m1 ha)
        have R3 := R2.put (i := l) (by simpa using c.2.2) (by simpa using hσl) r2 n2 (fput_apart (fput_apart (fun a ha => w.apart a (m2 ha)) fun a ha hb => n3 a hb a (List.mem_append_right _ ha) rfl) fun a ha hb => n4 a hb a ha rfl) (fun a ha => w.pl a (m2 ha)) fun a ha => off a (m2 ha)
        refine ⟨v, u, t, rfl, z W _ H1 _ ⟨P.step.ext, R3, fun _ z => z, fun k a ha => ?_, fun k hk => ?_⟩⟩
        · unfold fput at ha
          by_cases e1 : k = l
          · rw [if_pos e1] at ha; exact w.sub a (m2 ha)
          · rw [if_neg e1] at ha
            by_cases e2 : k = j
            · rw [if_pos e2] at ha; exact w.sub a (m1 ha)
            · rw [if_neg e2] at ha
              by_cases e3 : k = i
              · rw [if_pos e3] at ha; exact w.sub a (List.mem_append_left _ ha)
              · rw [if_neg e3] at ha; exact P.step.sub k a ha
        · rw [List.getElem?_set_ne (fun e => hk (by simp [e])), List.getElem?_set_ne (fun e => hk (by simp [e])), List.getElem?_set_ne (fun e => hk (by simp [e]))]
    · rw [if_neg c] at z
      exact z.elim
  | [], z => exact z.elim
  | [_], z => exact z.elim
  | [_, _], z => exact z.elim
  | _ :: _ :: _ :: _ :: _, z => exact z.elim
/-! ### while -/
def loopK (f : Sv) : Out → R Out
  | .nx e => f e
  | .ct e => f e
  | .bk e => .ok (.nx e)
  | .rt d e => .ok (.rt d e)
def whileN (ks : List Nat) (t : Et) (b : Sv) : Nat → Sv
  | 0 => fun _ => .no
  | n + 1 => fun env => (t (killS ks env)).bind fun x => if x.1 = true then (b x.2).bind (loopK (whileN ks t b n)) else .ok (.nx x.2)
open Classical in
noncomputable def sWhile (ks : List Nat) (t : Et) (b : Sv) : Sv := fun env => if h : ∃ n, whileN ks t b n env ≠ .no then whileN ks t b h.choose env else .no
theorem whileN_mono {ks : List Nat} {t : Et} {b : Sv} : ∀ {n : Nat} {env : Env} {r : R Out}, whileN ks t b n env = r → r ≠ .no → whileN ks t b (n + 1) env = r
  | 0, env, r, h, hr => absurd h.symm hr
  | n + 1, env, r, h, hr => by
    unfold whileN at h ⊢
    cases e1 : t (killS ks env) with
    | no => rw [e1] at h; exact h
    | ex c => rw [e1] at h; exact h
    | ok x =>
      obtain ⟨c, env1⟩ := x
      rw [e1] at h
      simp only [R.bind] at h ⊢
      by_cases hc : c = true
      · rw [if_pos hc] at h ⊢
        cases e2 : b env1 with
        | no => rw [e2] at h; exact h
        | ex c => rw [e2] at h; exact h
        | ok o =>
          rw [e2] at h
          cases o with
          | nx e => exact whileN_mono (n := n) h hr
          | ct e => exact whileN_mono (n := n) h hr
          | bk e => exact h
          | rt d e => exact h
      · rw [if_neg hc] at h ⊢
        exact h
theorem whileN_le {ks : List Nat} {t : Et} {b : Sv} {n : Nat} {env : Env} {r : R Out} (h : whileN ks t b n env = r) (hr : r ≠ .no) : ∀ k, whileN ks t b (n + k) env = r
  | 0 => h
  | k + 1 => whileN_mono (whileN_le h hr k) hr
theorem sWhile_of {ks : List Nat} {t : Et} {b : Sv} {n : Nat} {env : Env} {r : R Out} (h : whileN ks t b n env = r) (hr : r ≠ .no) : sWhile ks t b env = r := by
  have hx : ∃ n, whileN ks t b n env ≠ .no := ⟨n, by rw [h]; exact hr⟩
  unfold sWhile
  rw [dif_pos hx]
  have h2 := hx.choose_spec
  have a := whileN_le (rfl : whileN ks t b hx.choose env = _) h2 n
  have b := whileN_le h hr hx.choose
  rw [Nat.add_comm] at b
  exact a.symm.trans b
theorem sWhile_eq {ks : List Nat} {t : Et} {b : Sv} (env : Env) : sWhile ks t b env = (t (killS ks env)).bind fun x => if x.1 = true then (b x.2).bind (loopK (sWhile ks t b)) else .ok (.nx x.2) := by
  by_cases hz : ((t (killS ks env)).bind fun x => if x.1 = true then (b x.2).bind (loopK (sWhile ks t b)) else .ok (.nx x.2)) = .no
  · rw [hz]
    unfold sWhile
    by_cases hx : ∃ n, whileN ks t b n env ≠ .no
    · exfalso
      obtain ⟨n, hn⟩ := hx
      cases n with
      | zero => exact hn rfl
      | succ n =>
        unfold whileN at hn
        cases e1 : t (killS ks env) with
        | no => rw [e1] at hn; exact hn rfl
        | ex c => rw [e1] at hz; cases hz
        | ok x =>
          obtain ⟨c, env1⟩ := x
          rw [e1] at hn hz
          simp only [R.bind] at hn hz
          by_cases hc : c = true
          · rw [if_pos hc] at hn hz
            cases e2 : b env1 with
            | no => rw [e2] at hn; exact hn rfl
            | ex c => rw [e2] at hz; cases hz
            | ok o =>
              rw [e2] at hn hz
              cases o with
              | nx e =>
                have := sWhile_of (rfl : whileN ks t b n e = _) hn
                exact hn (this.symm.trans hz)
              | ct e =>
                have := sWhile_of (rfl : whileN ks t b n e = _) hn
                exact hn (this.symm.trans hz)
              | bk e => cases hz
              | rt d e => cases hz
          · rw [if_neg hc] at hz; cases hz
    · rw [dif_neg hx]
  · -- the right side is one turn of some whileN
    have key : ∃ n, whileN ks t b n env = ((t (killS ks env)).bind fun x => if x.1 = true then (b x.2).bind (loopK (sWhile ks t b)) else .ok (.nx x.2)) := by
      cases e1 : t (killS ks env) with
      | no => rw [e1] at hz; exact absurd rfl hz
      | ex c => exact ⟨1, by unfold whileN; rw [e1]; rfl⟩
      | ok x =>
        obtain ⟨c, env1⟩ := x
        rw [e1] at hz
        simp only [R.bind] at hz ⊢
        by_cases hc : c = true
        · rw [if_pos hc] at hz ⊢
          cases e2 : b env1 with
          | no => rw [e2] at hz; exact absurd rfl hz
          | ex c => exact ⟨1, by unfold whileN; rw [e1]; simp only [R.bind]; rw [if_pos hc, e2]⟩
          | ok o =>
            rw [e2] at hz
            have more : ∀ e, sWhile ks t b e ≠ .no → ∃ n, whileN ks t b n e = sWhile ks t b e := fun e he => by
              unfold sWhile at he ⊢
              by_cases hx : ∃ n, whileN ks t b n e ≠ .no
              · rw [dif_pos hx]; exact ⟨_, rfl⟩
              · rw [dif_neg hx] at he; exact absurd rfl he
            cases o with
            | nx e =>
              obtain ⟨n, hn⟩ := more e hz
              exact ⟨n + 1, by unfold whileN; rw [e1]; simp only [R.bind]; rw [if_pos hc, e2]; exact hn⟩
            | ct e =>
              obtain ⟨n, hn⟩ := more e hz
              exact ⟨n + 1, by unfold whileN; rw [e1]; simp only [R.bind]; rw [if_pos hc, e2]; exact hn⟩
            | bk e => exact ⟨1, by unfold whileN; rw [e1]; simp only [R.bind]; rw [if_pos hc, e2]; rfl⟩
            | rt d e => exact ⟨1, by unfold whileN; rw [e1]; simp only [R.bind]; rw [if_pos hc, e2]; rfl⟩
        · rw [if_neg hc]
          exact ⟨1, by unfold whileN; rw [e1]; simp only [R.bind]; rw [if_neg hc]⟩
    obtain ⟨n, hn⟩ := key
    exact sWhile_of hn hz
/-- one turn of a loop: what the body is to reach -/
theorem OutP.turn {K : Frag} {W : Addr → Prop} {Dn : Ends} {σ : L2.St} {H : Hp} {fs : Fs} {r : R Out} {f : Sv} {N : L2.St → Hp → Prop} (s : ∀ i, i ∈ A1 → i ∈ A) (h : OutP K E W A Dn σ H fs (r.bind (loopK f)))
    (n : ∀ W' σ' H' env' fs', Move K W W' A1 H fs H' σ σ' env' fs' → OutP K E W' A Dn σ' H' fs' (f env') → N σ' H') : OutP K E W A1 { Dn with nx := N, ct := N, bk := Dn.nx } σ H fs r := by
  cases r with
  | no => exact h
  | ex c => exact h
  | ok o =>
    cases o with
    | nx e => exact fun W' σ' H' fs' m => n W' σ' H' e fs' m (OutP.moved h (m.mono s))
    | ct e => exact fun W' σ' H' fs' m => n W' σ' H' e fs' m (OutP.moved h (m.mono s))
    | bk e => exact fun W' σ' H' fs' m => h W' σ' H' fs' (m.mono s)
    | rt d e => exact fun W' v σ' H' fs' g m => h W' v σ' H' fs' g (m.mono s)
theorem ds_while {c : Expr} {body : List Stmt} {t : Et} {b : Sv} {ks : List Nat} (hp : PassesOwn (model X.prog X.w) X.A X.env X.xe) (hc : DT X E p c t) (hb : DB X E A body b) : DS X E A (.While c body [] pos) (sWhile ks t b) := by
  refine DS.imp (ps_while hp hc hb) fun D σ H env fs W he q => ?_
  refine ⟨fun n σ H => ∃ env fs W, RepEnv X.K W H σ env fs ∧ OutP X.K E W A D σ H fs (whileN ks t b n env), ?_, ?_⟩
  · unfold sWhile at q
    by_cases hx : ∃ n, whileN ks t b n env ≠ .no
    · rw [dif_pos hx] at q
      exact ⟨hx.choose, env, fs, W, he, q⟩
    · rw [dif_neg hx] at q
      exact q.elim
  · rintro n σ1 H1 ⟨env1, fs1, W1, he1, q1⟩
    cases n with
    | zero => exact q1.elim
    | succ n =>
      obtain ⟨fs2, he2, s2⟩ := he1.kill ks
      refine tDT_then (f := t) (k := fun c e => if c = true then (b e).bind (loopK (whileN ks t b n)) else .ok (.nx e)) (g := fun e => (t e).bind fun x => if x.1 = true then (b x.2).bind (loopK (whileN ks t b n)) else .ok (.nx x.2)) he2 rfl (OutP.less q1 s2) fun c env3 H3 fs3 S z => ?_
      cases c with
      | false =>
        rw [if_neg Bool.false_ne_true] at z ⊢
        exact z W1 σ1 H3 fs3 (Move.refl S.renv)
      | true =>
        rw [if_pos rfl] at z ⊢
        refine ⟨fun σ' H' => ∃ env fs W, RepEnv X.K W H' σ' env fs ∧ OutP X.K E W A D σ' H' fs (whileN ks t b n env), fun σ' H' z => ⟨n, Nat.lt_succ_self _, z⟩, ?_⟩
        exact tS_iff.mpr ⟨env3, fs3, W1, S.renv, OutP.turn (fun _ z => z) z fun W' σ' H' env' fs' m y => ⟨env', fs', W', m.renv, y⟩⟩
end
end DV
end
section
set_option Elab.async false
set_option linter.all false
set_option maxRecDepth 100000
namespace DV
open PySem PySem.Spec PyProof.Rows L2
/-! ### what is iterated over -/
/-- the items ds are told one by one; what they hold stands protected in W' -/
def ItOk (K : Frag) (W' : Addr → Prop) (H0 : Hp) (fs0 : Fs) (J : It) (ds : List D) : Prop :=
  Walk J ds.length (fun H => Ext H0 H fs0) (fun i H x H' => Same H H' ∧ ∃ d g, ds[i]? = some d ∧ Rep K H' x d g ∧ ∀ a ∈ g, W' a)
abbrev Ei := Env → R (List D × Env)
def tI (K : Frag) (E : XK) (p : Bool) (f : Ei) : TI := fun σ H Q => ∃ env fs W, RepEnv K W H σ env fs ∧ match f env with
  | .no => False
  | .ex c => ExP K E c H fs
  | .ok (ds, env') => ∀ J W' H' fs', Ext H H' fs → RepEnv K W' H' σ env' fs' → (∀ a, W a → W' a) → (∀ i, Sub H fs (fs' i)) → (∀ j d, env'.at j = .view d → env.at j = .view d) → (p = true → Same H H' ∧ env' = env ∧ fs' = fs) → ItOk K W' H' fs' J ds → Q J H'
def DI (X : Cx) (E : XK) (p : Bool) (tg it : Expr) (f : Ei) : Prop := PI X tg it (tI X.K E p f)
/-- a value that is protected from now on -/
def tP (K : Frag) (E : XK) (p : Bool) (f : Ev) : TE := fun σ H Q => ∃ env fs W, RepEnv K W H σ env fs ∧ match f env with
  | .no => False
  | .ex c => ExP K E c H fs
  | .ok (d, env') => ∀ v W' H' fs' g, Ext H H' fs → RepEnv K W' H' σ env' fs' → (∀ a, W a → W' a) → (∀ i, Sub H fs (fs' i)) → (∀ j d, env'.at j = .view d → env.at j = .view d) → (p = true → Same H H' ∧ env' = env ∧ fs' = fs) → Rep K H' v d g → (∀ a ∈ g, W' a) → Q v H'
def DP (X : Cx) (E : XK) (p : Bool) (e : Expr) (f : Ev) : Prop := PE X e (tP X.K E p f)
theorem PI.mono {X : Cx} {tg e : Expr} {t t' : TI} (h : PI X tg e t) (m : ∀ σ H Q, t' σ H Q → t σ H Q) : PI X tg e t' := ⟨fun pins s σ H Q I w => h.run pins s σ H Q I (m σ H Q w)⟩
section
variable {X : Cx} {E : XK} {p p1 p2 p3 o o1 o2 o3 : Bool} {A A1 A2 : List Nat} {pos : Pos}
variable {K : Frag} {W W' : Addr → Prop} {H H' H1 : Hp} {σ : L2.St} {env env1 : Env} {fs fs1 : Fs}
theorem RepEnv.prot (h : RepEnv K W H σ env fs) {g : List Addr} (ap : ∀ a ∈ g, ∀ i, a ∉ fs i) (th : ∀ a ∈ g, ∃ o, H a = some o) : RepEnv K (fun a => W a ∨ a ∈ g) H σ env fs :=
  h.more (fun a z => .inl z) (fun i a ha z => z.elim (h.off i a ha) fun q => ap a q i ha) fun a z => z.elim (h.wt a) (th a)
theorem dp_own {e : Expr} {f : Ev} (h : DE X E p true e f) : DP X E p e f := by
  refine PE.mono h fun σ H Q ⟨env, fs, W, he, h⟩ => ⟨env, fs, W, he, ?_⟩
  cases e1 : f env with
  | no => rw [e1] at h; exact h
  | ex c => rw [e1] at h; exact h
  | ok x =>
    obtain ⟨d, env1⟩ := x
    rw [e1] at h
    exact fun v H1 fs1 g P => h v (fun a => W a ∨ a ∈ g) H1 fs1 g P.step.ext (P.step.renv.prot (P.own rfl).apart (Rep.there _ _ _ P.rep)) (fun a z => .inl z) P.step.sub P.step.vw P.step.pure P.rep fun a ha => .inr ha
/-- a slot that can't change, read -/
def eReadP (i : Nat) : Ev := fun env => match env.at i with
  | .dead => .no
  | .own d => if imm d = true then .ok (d, env) else .no
  | .view d => .ok (d, env)
theorem dp_read {i : Nat} {x : Str} {pos : Pos} (hN : X.N[i]? = some x := by rfl) (hv : Vis X.env.scope x := by first | exact .inl rfl | exact .inr (.inl rfl) | exact .inr (.inr rfl)) (hd : (x == ("__debug__" : Str)) = false := by decide) (hcd : (x == ("__classdict__" : Str)) = false := by decide) :
    DP X E true (.Name x pos) (eReadP i) := by
  refine PE.mono (pe_var hN hv hd hcd) fun σ H Q ⟨env, fs, W, he, h⟩ => ?_
  have q := he.slot i
  unfold eReadP at h
  cases e : env.at i with
  | dead => rw [e] at h; exact h.elim
  | own d =>
    rw [e] at h q
    obtain ⟨v, e1, r⟩ := q
    by_cases hi : imm d = true
    · simp only [hi, if_true] at h
      refine ⟨v, e1, h v W H fs _ Ext.refl he (fun _ z => z) (fun _ => Sub.self) (fun _ _ z => z) (fun _ => ⟨fun _ _ z => z, trivial, rfl⟩) r ?_⟩
      rw [Rep.fp_imm _ _ _ r hi]
      exact fun a ha => (nomatch ha)
    · simp [hi] at h
  | view d =>
    rw [e] at h q
    obtain ⟨_, v, g, e1, r, w⟩ := q
    exact ⟨v, e1, h v W H fs g Ext.refl he (fun _ z => z) (fun _ => Sub.self) (fun _ _ z => z) (fun _ => ⟨fun _ _ z => z, rfl, rfl⟩) r w⟩
/-- what stands protected stays -/
theorem Rep.prot (h : RepEnv K W H σ env fs) (x : Ext H H' fs) {v : V} {d : D} {g : List Addr} (r : Rep K H v d g) (n : ∀ a ∈ g, W a) : Rep K H' v d g :=
  Rep.ext h x r fun a ha i hi => h.off i a hi (n a ha)
theorem RepL.prot (h : RepEnv K W H σ env fs) (x : Ext H H' fs) {v : List V} {d : List D} {g : List Addr} (r : RepL K H v d g) (n : ∀ a ∈ g, W a) : RepL K H' v d g :=
  RepL.ext h x r fun a ha i hi => h.off i a hi (n a ha)
def iLst (f : Ev) : Ei := fun env => (f env).bind fun x => match x.1 with
  | .list ds => .ok (ds, x.2)
  | _ => .no
def iTpl (f : Ev) : Ei := fun env => (f env).bind fun x => match x.1 with
  | .tuple ds => .ok (ds, x.2)
  | _ => .no
theorem RepL.get' {K : Frag} {H : Hp} {ds : List D} {vs : List V} {g : List Addr} {i : Nat} {v : V} (h : RepL K H vs ds g) (e : vs[i]? = some v) : ∃ d gi, ds[i]? = some d ∧ Rep K H v d gi ∧ (∀ a ∈ gi, a ∈ g) := by
  have hl := RepL.length h
  have hi : i < ds.length := by rw [← hl]; exact (List.getElem?_eq_some_iff.mp e).1
  obtain ⟨v', gi, e1, r, s, _⟩ := RepL.get h (List.getElem?_eq_getElem hi)
  rw [e] at e1
  cases e1
  exact ⟨_, gi, List.getElem?_eq_getElem hi, r, s⟩
theorem itOk_list {a : Addr} {xs : List V} {ds : List D} {g : List Addr} (he : RepEnv K W H σ env fs) (q : H a = some (.lst xs)) (r : RepL K H xs ds g) (w : ∀ b ∈ a :: g, W b) : ItOk K W H fs (Itl K a) ds := by
  have hl := RepL.length r
  unfold ItOk
  rw [← hl]
  refine walk_list.mono (fun H1 e => ?_) fun i H1 x H2 hi e y => ?_
  · exact .inl (.inl (e _ _ q fun j hj => he.off j a hj (w a List.mem_cons_self)))
  · obtain ⟨rfl, y⟩ := y
    have r' := RepL.prot he e r fun b hb => w b (List.mem_cons_of_mem _ hb)
    obtain ⟨d, gi, e1, r1, s⟩ := RepL.get' r' y
    exact ⟨fun _ _ z => z, d, gi, e1, r1, fun b hb => w b (List.mem_cons_of_mem _ (s b hb))⟩
theorem SqT.prot (he : RepEnv K W H σ env fs) (e : Ext H H1 fs) {a : Addr} {xs : List V} (q : SqT K H a xs) : SqT K H1 a xs :=
  SqT.stay (M := fun a => ∃ i, a ∈ fs i) (fun a ⟨i, ha⟩ => he.pl i a ha) (fun b o e0 nb => e b o e0 fun i hi => nb ⟨i, hi⟩) q
theorem itOk_tup {a : Addr} {xs : List V} {ds : List D} {g : List Addr} (he : RepEnv K W H σ env fs) (q : SqT K H a xs) (r : RepL K H xs ds g) (w : ∀ b ∈ g, W b) : ItOk K W H fs (Itt K a) ds := by
  have hl := RepL.length r
  unfold ItOk
  rw [← hl]
  refine walk_tup.mono (fun H1 e => SqT.prot he e q) fun i H1 x H2 hi e y => ?_
  obtain ⟨rfl, y⟩ := y
  obtain ⟨d, gi, e1, r1, s⟩ := RepL.get' (RepL.prot he e r w) y
  exact ⟨fun _ _ z => z, d, gi, e1, r1, fun b hb => w b (s b hb)⟩
theorem SqL.prot (he : RepEnv K W H σ env fs) (e : Ext H H1 fs) {a : Addr} {xs : List V} (q : H a = some (.lst xs)) (w : W a) : SqL K H1 a xs := .inl (.inl (e _ _ q fun j hj => he.off j a hj w))
theorem tP_then {e : Expr} {f : Ev} {k : D → Env → R (List D × Env)} {g : Ei} {Q : VK} {R' : It → Hp → Prop} (hg : ∀ env, g env = (f env).bind fun x => k x.1 x.2) (h : tI K E p g σ H R')
    (q : ∀ d env1 v W' H1 fs1 gg, RepEnv K W' H1 σ env1 fs1 → Rep K H1 v d gg → (∀ a ∈ gg, W' a) → (∀ ds env2, k d env1 = .ok (ds, env2) → env2 = env1 ∧ ∀ J, ItOk K W' H1 fs1 J ds → R' J H1) → (∀ c, k d env1 ≠ .ex c) → k d env1 ≠ .no → Q v H1) (hx : ∀ d env1 c, k d env1 ≠ .ex c) (hk : ∀ d env1 ds env2, k d env1 = .ok (ds, env2) → env2 = env1) : tP K E p f σ H Q := by
  obtain ⟨env, fs, W, he, h⟩ := h
  refine ⟨env, fs, W, he, ?_⟩
  rw [hg] at h
  cases e1 : f env with
  | no => rw [e1] at h; exact h
  | ex c => rw [e1] at h; exact h
  | ok x =>
    obtain ⟨d, env1⟩ := x
    rw [e1] at h
    simp only [R.bind] at h
    intro v W' H1 fs1 gg x1 x2 x3 x4 x5 x8 x6 x7
    refine q d env1 v W' H1 fs1 gg x2 x6 x7 (fun ds env2 ek => ⟨hk _ _ _ _ ek, fun J io => ?_⟩) (hx d env1) fun z => ?_
    · rw [ek] at h
      have := hk _ _ _ _ ek
      subst this
      exact h J W' H1 fs1 x1 x2 x3 x4 x5 x8 io
    · rw [z] at h; exact h
theorem di_list {tg e : Expr} {f : Ev} (h : DP X E p e f) : DI X E p tg e (iLst f) := by
  refine PI.mono (pi_list h) fun σ H Q z => tP_then (e := e) (k := fun d env => match d with
    | .list ds => .ok (ds, env)
    | _ => .no) (fun _ => rfl) z (fun d env1 v W' H1 fs1 gg he r w hk hx hn => ?_) (fun d env1 c z => by cases d <;> cases z) fun d env1 ds env2 z => by cases d <;> cases z <;> rfl
  cases d with
  | list ds =>
    cases r with
    | lst q l => exact ⟨_, rfl, ⟨_, .inl (.inl q)⟩, (hk ds env1 rfl).2 _ (itOk_list he q l w)⟩
  | _ => exact absurd rfl hn
theorem di_tup {tg e : Expr} {f : Ev} (h : DP X E p e f) : DI X E p tg e (iTpl f) := by
  refine PI.mono (pi_tup h) fun σ H Q z => tP_then (e := e) (k := fun d env => match d with
    | .tuple ds => .ok (ds, env)
    | _ => .no) (fun _ => rfl) z (fun d env1 v W' H1 fs1 gg he r w hk hx hn => ?_) (fun d env1 c z => by cases d <;> cases z) fun d env1 ds env2 z => by cases d <;> cases z <;> rfl
  cases d with
  | tuple ds =>
    cases r with
    | tup q l => exact ⟨_, rfl, ⟨_, q⟩, (hk ds env1 rfl).2 _ (itOk_tup he q l w)⟩
  | _ => exact absurd rfl hn
def chD (s : Str) : List D := s.cps.toList.map fun c => .str ⟨#[c]⟩
def iStrD (f : Ev) : Ei := fun env => (f env).bind fun x => match x.1 with
  | .str s => .ok (chD s, x.2)
  | _ => .no
theorem di_str {tg e : Expr} {f : Ev} (h : DP X E p e f) : DI X E p tg e (iStrD f) := by
  refine PI.mono (pi_str h) fun σ H Q z => tP_then (e := e) (k := fun d env => match d with
    | .str s => .ok (chD s, env)
    | _ => .no) (fun _ => rfl) z (fun d env1 v W' H1 fs1 gg he r w hk hx hn => ?_) (fun d env1 c z => by cases d <;> cases z) fun d env1 ds env2 z => by cases d <;> cases z <;> rfl
  cases d with
  | str s =>
    cases r
    refine ⟨s, rfl, (hk _ env1 rfl).2 _ ?_⟩
    unfold ItOk
    rw [show (chD s).length = s.cps.size by simp [chD]]
    refine walk_str.mono (fun _ _ => trivial) fun i H1 x H2 hi e y => ?_
    obtain ⟨rfl, c, hc, rfl⟩ := y
    refine ⟨fun _ _ z => z, _, [], ?_, .str _, fun _ z => (nomatch z)⟩
    simp [chD, hc]
  | _ => exact absurd rfl hn
/-! ranges -/
def rng (lo : Int) (n : Nat) : List D := (List.range n).map fun i => .int (lo + (i : Nat))
def sml (j : Int) : Prop := -(2 ^ 62) ≤ j ∧ j < 2 ^ 62
instance (j : Int) : Decidable (sml j) := inferInstanceAs (Decidable (_ ∧ _))
def rng1D : List D → Option (List D)
  | [.int j] => if sml j then some (rng 0 j.toNat) else none
  | _ => none
def rng2D : List D → Option (List D)
  | [.int i, .int j] => if sml i ∧ sml j then some (rng i (j - i).toNat) else none
  | _ => none
/-- i, i - 1, .. above j -/
def dwn (i : Int) (n : Nat) : List D := (List.range n).map fun k => .int (i + (k : Nat) * -1)
def rng3D : List D → Option (List D)
  | [.int i, .int j, .int c] => if c = -1 ∧ sml i ∧ sml j then some (dwn i (i - j).toNat) else none
  | _ => none
def iFn (F : List D → Option (List D)) (f : EvA) : Ei := fun env => (f env).bind fun x => (R.of (F x.1)).bind fun r => .ok (r, x.2)
theorem itOk_range {lo : Int} {n : Nat} : ItOk K W H fs (Itr lo n) (rng lo n) := by
  unfold ItOk
  rw [show (rng lo n).length = n by simp [rng]]
  refine walk_range.mono (fun _ _ => trivial) fun i H1 x H2 hi e y => ?_
  obtain ⟨rfl, rfl⟩ := y
  exact ⟨fun _ _ z => z, _, [], by simp [rng, hi], .int _, fun _ z => (nomatch z)⟩
theorem tIA_then {f : EvA} {F : List D → Option (List D)} {Q : List V → Hp → Prop} {R' : It → Hp → Prop} (h : tI K E p (iFn F f) σ H R')
    (q : ∀ ds r vs W H1 fs1 gg, RepL K H1 vs ds gg → F ds = some r → (∀ J, ItOk K W H1 fs1 J r → R' J H1) → Q vs H1) : tDA K E p o f σ H Q := by
  obtain ⟨env, fs, W, he, h⟩ := h
  refine ⟨env, fs, W, he, ?_⟩
  unfold iFn at h
  cases e1 : f env with
  | no => rw [e1] at h; exact h
  | ex c => rw [e1] at h; exact h
  | ok x =>
    obtain ⟨ds, env1⟩ := x
    rw [e1] at h
    simp only [R.bind] at h
    intro vs H1 fs1 gg P
    cases e2 : F ds with
    | none => rw [e2] at h; exact h.elim
    | some r =>
      rw [e2] at h
      exact q ds r vs W H1 fs1 gg P.rep e2 fun J io => h J W H1 fs1 P.step.ext P.step.renv (fun _ z => z) P.step.sub P.step.vw P.step.pure io
theorem rep1 {vs : List V} {i : Int} {g : List Addr} (h : RepL K H vs [.int i] g) : vs = [.int i] := by
  cases h with
  | cons a b => cases a; cases b; rfl
theorem rep2 {vs : List V} {i j : Int} {g : List Addr} (h : RepL K H vs [.int i, .int j] g) : vs = [.int i, .int j] := by
  cases h with
  | cons a b =>
    cases a
    cases b with
    | cons a b => cases a; cases b; rfl
theorem di_range1 {tg a : Expr} {f : EvA} {p' pos : Pos} (hm : X.mg "range" = none) (h : DA X E p o [a] f) (hg : Gl X "range" := by rfl) (hs : starEach [a] X.env = [(false, eval a X.env)] := by rfl) : DI X E p tg (.Call (.Name "range" p') [a] [] pos) (iFn rng1D f) := by
  refine PI.mono (pi_range1 hg hm h hs) fun σ H Q z => tIA_then z fun ds r vs W H1 fs1 gg rep e hj => ?_
  unfold rng1D at e
  split at e
  · rename_i j
    obtain rfl := rep1 rep
    by_cases c : sml j
    · rw [if_pos c] at e
      cases e
      exact ⟨j, rfl, c.1, c.2, hj _ itOk_range⟩
    · rw [if_neg c] at e; cases e
  · cases e
theorem di_range2 {tg a b : Expr} {f : EvA} {p' pos : Pos} (hm : X.mg "range" = none) (h : DA X E p o [a, b] f) (hg : Gl X "range" := by rfl) (hs : starEach [a, b] X.env = [(false, eval a X.env), (false, eval b X.env)] := by rfl) (hs2 : starEach [b] X.env = [(false, eval b X.env)] := by rfl) : DI X E p tg (.Call (.Name "range" p') [a, b] [] pos) (iFn rng2D f) := by
  refine PI.mono (pi_range2 hg hm h hs hs2) fun σ H Q z => tIA_then z fun ds r vs W H1 fs1 gg rep e hj => ?_
  unfold rng2D at e
  split at e
  · rename_i i j
    obtain rfl := rep2 rep
    by_cases c : sml i ∧ sml j
    · rw [if_pos c] at e
      cases e
      exact ⟨i, j, rfl, ⟨c.1.1, c.1.2, c.2.1, c.2.2⟩, hj _ itOk_range⟩
    · rw [if_neg c] at e; cases e
  · cases e
theorem itOk_down {i : Int} {n : Nat} : ItOk K W H fs (Itc i (-1) n) (dwn i n) := by
  unfold ItOk
  rw [show (dwn i n).length = n by simp [dwn]]
  refine walk_rangeC.mono (fun _ _ => trivial) fun k H1 x H2 hi e y => ?_
  obtain ⟨rfl, rfl⟩ := y
  exact ⟨fun _ _ z => z, _, [], by simp [dwn, hi], .int _, fun _ z => (nomatch z)⟩
theorem di_range3 {tg a b c : Expr} {f : EvA} {p' pos : Pos} (hm : X.mg "range" = none) (h : DA X E p o [a, b, c] f) (hg : Gl X "range" := by rfl) (hs : starEach [a, b, c] X.env = (false, eval a X.env) :: starEach [b, c] X.env := by rfl) (hpl : (backTo pos (starEach [b, c] X.env)).any (·.1) = false := by rfl) : DI X E p tg (.Call (.Name "range" p') [a, b, c] [] pos) (iFn rng3D f) := by
  refine PI.mono (pi_range3 hg hm h hs hpl) fun σ H Q z => tIA_then z fun ds r vs W H1 fs1 gg rep e hj => ?_
  unfold rng3D at e
  split at e
  · rename_i i j c
    by_cases q : c = -1 ∧ sml i ∧ sml j
    · rw [if_pos q] at e
      cases e
      obtain ⟨rfl, q1, q2⟩ := q
      cases rep with
      | cons a b =>
        cases a
        cases b with
        | cons a b =>
          cases a
          cases b with
          | cons a b =>
            cases a
            cases b
            exact ⟨i, j, -1, _, rfl, RgC.neg q1.1 q1.2 q2.1 q2.2, hj _ itOk_down⟩
    · rw [if_neg q] at e; cases e
  · cases e
/-! arguments that are protected -/
def tPA (K : Frag) (E : XK) (p : Bool) (f : EvA) : TA := fun σ H Q => ∃ env fs W, RepEnv K W H σ env fs ∧ match f env with
  | .no => False
  | .ex c => ExP K E c H fs
  | .ok (d, env') => ∀ v W' H' fs' g, Ext H H' fs → RepEnv K W' H' σ env' fs' → (∀ a, W a → W' a) → (∀ i, Sub H fs (fs' i)) → (∀ j d, env'.at j = .view d → env.at j = .view d) → (p = true → Same H H' ∧ env' = env ∧ fs' = fs) → RepL K H' v d g → (∀ a ∈ g, W' a) → Q v H'
def DPA (X : Cx) (E : XK) (p : Bool) (es : List Expr) (f : EvA) : Prop := PA X es (tPA X.K E p f)
theorem dpa_nil : DPA X E true [] aNil := PA.mono pa_nil fun σ H Q ⟨env, fs, W, he, h⟩ => h [] W H fs [] Ext.refl he (fun _ z => z) (fun _ => Sub.self) (fun _ _ z => z) (fun _ => ⟨fun _ _ z => z, rfl, rfl⟩) .nil fun _ z => (nomatch z)
theorem dpa_cons {e : Expr} {es : List Expr} {f : Ev} {g : EvA} (he : DP X E p1 e f) (hs : DPA X E p2 es g) (hq : starEach (e :: es) X.env = (false, eval e X.env) :: starEach es X.env := by rfl) : DPA X E (p1 && p2) (e :: es) (aCons f g) := by
  refine PA.mono (pa_cons he hs hq) fun σ H Q ⟨env, fs, W, hr, h⟩ => ?_
  refine ⟨env, fs, W, hr, ?_⟩
  unfold aCons at h
  cases e1 : f env with
  | no => rw [e1] at h; exact h
  | ex c => rw [e1] at h; exact h
  | ok x =>
    obtain ⟨d1, env1⟩ := x
    rw [e1] at h
    intro v1 W1 H1 fs1 g1 x1 x2 x3 x4 x5 x8 x6 x7
    refine ⟨env1, fs1, W1, x2, ?_⟩
    cases e2 : g env1 with
    | no => simp only [R.bind, e2] at h
    | ex c =>
      simp only [R.bind, e2] at h
      exact fun H' ad e n => h H' ad (x1.trans x4 e) n
    | ok y =>
      obtain ⟨ds, env2⟩ := y
      intro vs W2 H2 fs2 g2 y1 y2 y3 y4 y5 y8 y6 y7
      simp only [R.bind, e2] at h
      exact h (v1 :: vs) W2 H2 fs2 (g1 ++ g2) (x1.trans x4 y1) y2 (fun a z => y3 a (x3 a z)) (fun i => Sub.trans x1 x4 (y4 i)) (fun j d z => x5 j d (y5 j d z)) (fun z => (by
        obtain ⟨a1, a2, a3⟩ := x8 (and_l z)
        obtain ⟨b1, b2, b3⟩ := y8 (and_r z)
        exact ⟨fun x o e => b1 x o (a1 x o e), b2.trans a2, b3.trans a3⟩)) (.cons (Rep.prot x2 y1 x6 x7) y6) fun a ha => (List.mem_append.mp ha).elim (fun z => y3 a (x7 a z)) (y7 a)
theorem tPA_then {f : EvA} {F : List D → Option (List D)} {Q : List V → Hp → Prop} {R' : It → Hp → Prop} (h : tI K E p (iFn F f) σ H R')
    (q : ∀ ds r vs W env1 H1 fs1 gg, RepEnv K W H1 σ env1 fs1 → RepL K H1 vs ds gg → (∀ a ∈ gg, W a) → F ds = some r → (∀ J, ItOk K W H1 fs1 J r → R' J H1) → Q vs H1) : tPA K E p f σ H Q := by
  obtain ⟨env, fs, W, he, h⟩ := h
  refine ⟨env, fs, W, he, ?_⟩
  unfold iFn at h
  cases e1 : f env with
  | no => rw [e1] at h; exact h
  | ex c => rw [e1] at h; exact h
  | ok x =>
    obtain ⟨ds, env1⟩ := x
    rw [e1] at h
    simp only [R.bind] at h
    intro vs W' H1 fs1 gg x1 x2 x3 x4 x5 x8 x6 x7
    cases e2 : F ds with
    | none => rw [e2] at h; exact h.elim
    | some r =>
      rw [e2] at h
      exact q ds r vs W' env1 H1 fs1 gg x2 x6 x7 e2 fun J io => h J W' H1 fs1 x1 x2 x3 x4 x5 x8 io
def enumD : List D → Option (List D)
  | [.list ds] => some (ds.mapIdx fun i d => .tuple [.int (i : Nat), d])
  | _ => none
theorem pair_rep {T : Addr} {x y : V} {d e : D} {g1 g2 : List Addr} (r1 : Rep K H x d g1) (r2 : Rep K H y e g2) (hn : H T = none) : Rep K (upd H T (.tup [x, y])) (.ref T) (.tuple [d, e]) (g1 ++ (g2 ++ [])) :=
  .tup (.inl (.inl upd_same)) (.cons (r1.same (same_upd hn)) (.cons (r2.same (same_upd hn)) .nil))
theorem di_enum {elts : List Expr} {kk : Nat} {e : Expr} {f : EvA} {p' pos tpos : Pos} (hm : X.mg "enumerate" = none) (h : DPA X E p [e] f) (hg : Gl X "enumerate" := by rfl) (hs : starEach [e] X.env = [(false, eval e X.env)] := by rfl) : DI X E p (.Tuple elts kk tpos) (.Call (.Name "enumerate" p') [e] [] pos) (iFn enumD f) := by
  refine PI.mono (pi_enum hg hm h hs) fun σ H Q z => tPA_then z fun ds r vs W env1 H1 fs1 gg he rep w e hj => ?_
  unfold enumD at e
  split at e
  · rename_i ds
    cases e
    cases rep with
    | cons a b =>
      cases b
      cases a with
      | lst q l =>
        rename_i a xs g
        refine ⟨a, _, rfl, .inl (.inl q), hj _ ?_⟩
        have hl := RepL.length l
        unfold ItOk
        rw [List.length_mapIdx, ← hl]
        refine walk_enum.mono (fun H1 x => SqL.prot he x q (w a (by simp))) fun i H2 x H3 hi e y => ?_
        obtain ⟨T, x', y', rfl, hn, rfl, hx, hy⟩ := y
        cases hx
        have w' : ∀ b ∈ g, W b := fun b hb => w b (by simp [hb])
        obtain ⟨d, gi, e1, r1, s⟩ := RepL.get' (RepL.prot he e l w') hy
        refine ⟨same_upd hn, .tuple [.int (i : Nat), d], _, by simp [e1], pair_rep (.int _) r1 hn, fun b hb => w' b (s b (by simpa using hb))⟩
  · cases e
def zipD : List D → Option (List D)
  | [.list as, .list bs] => some ((as.zip bs).map fun x => .tuple [x.1, x.2])
  | [.tuple as, .tuple bs] => some ((as.zip bs).map fun x => .tuple [x.1, x.2])
  | _ => none
theorem walk_zipT {K : Frag} {a b : Addr} {xs ys : List V} {n : Nat} (hn : n = min xs.length ys.length) : Walk (RZ.ItzT K a b) n (fun H => SqT K H a xs ∧ SqT K H b ys) (YPair (fun i => xs[i]?) (fun i => ys[i]?)) := by
  subst hn
  refine ⟨fun i _ hi q => ?_, fun _ q => ⟨xs, ys, q.1, q.2, by omega⟩, fun i H v H' _ q y => ?_⟩
  · have h1 : i < xs.length := by omega
    have h2 : i < ys.length := by omega
    exact ⟨xs, ys, xs[i], ys[i], q.1, q.2, by simp [h1], by simp [h2]⟩
  · obtain ⟨T, x, z, h1, h2, h3, h4, h5⟩ := y
    exact ⟨T, x, z, h1, h2, h3, h4 xs q.1, h5 ys q.2⟩
theorem zip_item {xs ys : List V} {as bs : List D} {g1 g2 : List Addr} (he : RepEnv K W H σ env fs) (l1 : RepL K H xs as g1) (l2 : RepL K H ys bs g2) (w1 : ∀ a ∈ g1, W a) (w2 : ∀ a ∈ g2, W a) {i : Nat} {H2 H3 : Hp} {v : V} (e : Ext H H2 fs) (y : YPair (fun i => xs[i]?) (fun i => ys[i]?) i H2 v H3) :
    Same H2 H3 ∧ ∃ d g, ((as.zip bs).map fun x => PyData.tuple [x.1, x.2])[i]? = some d ∧ Rep K H3 v d g ∧ ∀ a ∈ g, W a := by
  obtain ⟨T, x', y', rfl, hn, rfl, hx, hy⟩ := y
  obtain ⟨d1, gi1, e1, r1, s1⟩ := RepL.get' (RepL.prot he e l1 w1) hx
  obtain ⟨d2, gi2, e2, r2, s2⟩ := RepL.get' (RepL.prot he e l2 w2) hy
  refine ⟨same_upd hn, .tuple [d1, d2], _, ?_, pair_rep r1 r2 hn, fun b hb => ?_⟩
  · rw [List.getElem?_map, List.zip, List.getElem?_zipWith, e1, e2]
    rfl
  · rcases List.mem_append.mp hb with z | z
    · exact w1 b (s1 b z)
    · exact w2 b (s2 b (by simpa using z))
theorem di_zip {elts : List Expr} {kk : Nat} {e e2 : Expr} {f : EvA} {p' pos tpos : Pos} (hm : X.mg "zip" = none) (h : DPA X E p [e, e2] f) (hg : Gl X "zip" := by rfl) (hs : starEach [e, e2] X.env = (false, eval e X.env) :: starEach [e2] X.env := by rfl) (hpl : (backTo pos (starEach [e2] X.env)).any (·.1) = false := by rfl) : DI X E p (.Tuple elts kk tpos) (.Call (.Name "zip" p') [e, e2] [] pos) (iFn zipD f) := by
  refine PI.mono (RZ.pi_zipA hg hm h hs hpl) fun σ H Q z => tPA_then z fun ds r vs W env1 H1 fs1 gg he rep w e hj => ?_
  unfold zipD at e
  split at e
  · rename_i as bs
    cases e
    cases rep with
    | cons a b =>
      cases b with
      | cons b c =>
        cases c
        cases a with
        | lst q1 l1 =>
          rename_i a xs g1
          cases b with
          | lst q2 l2 =>
            rename_i b ys g2
            refine ⟨a, b, _, _, rfl, .inl ⟨.inl (.inl q1), .inl (.inl q2), hj _ ?_⟩⟩
            unfold ItOk
            refine (walk_zip (xs := xs) (ys := ys) (by simp [RepL.length l1, RepL.length l2])).mono (fun H1 x => ⟨SqL.prot he x q1 (w a (by simp)), SqL.prot he x q2 (w b (by simp))⟩) fun i H2 x H3 hi e y =>
              zip_item he l1 l2 (fun c hc => w c (by simp [hc])) (fun c hc => w c (by simp [hc])) e y
  · rename_i as bs
    cases e
    cases rep with
    | cons a b =>
      cases b with
      | cons b c =>
        cases c
        cases a with
        | tup q1 l1 =>
          rename_i a xs
          cases b with
          | tup q2 l2 =>
            rename_i b ys
            refine ⟨a, b, _, _, rfl, .inr ⟨q1, q2, hj _ ?_⟩⟩
            unfold ItOk
            refine (walk_zipT (xs := xs) (ys := ys) (by simp [RepL.length l1, RepL.length l2])).mono (fun H1 x => ⟨SqT.prot he x q1, SqT.prot he x q2⟩) fun i H2 x H3 hi e y =>
              zip_item he l1 l2 (fun c hc => w c (by simp [hc])) (fun c hc => w c (by simp [hc])) e y
  · cases e
/-! ### for -/
/-- ks: the slots that are not held at a turn's start, and behind the loop -/
def forL (ks : List Nat) (t : Tg) (b : Sv) : List D → Sv
  | [], env => .ok (.nx (killS ks env))
  | d :: ds, env => (R.of (bindV t d (killS ks env))).bind fun e => (b e).bind (loopK (forL ks t b ds))
def sFor (ks : List Nat) (t : Tg) (it : Ei) (b : Sv) : Sv := fun env => (it env).bind fun x => forL ks t b x.1 x.2
theorem tG_len {tg : Expr} {t : Tg} (h : DG X A tg t) : PG X tg (fun v σ H Q => σ.length = X.N.length → tGV X.K X.N.length A t v σ H Q) :=
  ⟨fun pins s σ H v u Q I r w => h.v.run pins s σ H v u Q I r (w I.len)⟩
theorem tI_then {it : Ei} {k : List D → Env → R Out} {g : Sv} {Dn : Ends} {R' : It → Hp → Prop} (he : RepEnv X.K W H σ env fs) (hg : g env = (it env).bind fun x => k x.1 x.2) (h : OutP X.K E W A Dn σ H fs (g env))
    (q : ∀ J ds env1 W1 H1 fs1, Move X.K W W1 A H fs H1 σ σ env1 fs1 → ItOk X.K W1 H1 fs1 J ds → OutP X.K E W1 A Dn σ H1 fs1 (k ds env1) → R' J H1) : tI X.K E p it σ H R' := by
  refine ⟨env, fs, W, he, ?_⟩
  rw [hg] at h
  cases e1 : it env with
  | no => rw [e1] at h; exact h
  | ex c => rw [e1] at h; exact h
  | ok x =>
    obtain ⟨d, env1⟩ := x
    rw [e1] at h
    intro J W' H1 fs1 x1 x2 x3 x4 x5 _ io
    have m : Move X.K W W' A H fs H1 σ σ env1 fs1 := ⟨x1, x2, x3, x4, fun _ _ => rfl⟩
    exact q J d env1 W' H1 fs1 m io (OutP.moved h m)
theorem ds_for {tg it : Expr} {body : List Stmt} {t : Tg} {i : Ei} {b : Sv} {ks : List Nat} (hp : PassesOwn (model X.prog X.w) X.A X.env X.xe) (hc : X.calm = true) (hi : DI X E p tg it i) (hg : DG X A1 tg t) (hb : DB X E A2 body b)
    (hs : ∀ x, foldedSetIterable it X.env x = pure x := by intro _; rfl) : DS X E (A1 ++ A2) (.For tg it body [] pos) (sFor ks t i b) := by
  refine DS.impL (ps_for hp hc hi (tG_len hg) hb hs) fun D σ H env fs W hl he q => ?_
  refine tI_then he rfl q fun J ds env1 W1 H1 fs1 m1 io q1 => ?_
  refine for_it io (g := fun v σ H Q => σ.length = X.N.length → tGV X.K X.N.length A1 t v σ H Q) (tb := tS X.K E A2 b) (D := D) (fun k σ' H' => ∃ env' fs' W', Move X.K W1 W' (A1 ++ A2) H1 fs1 H' σ σ' env' fs' ∧ OutP X.K E W' (A1 ++ A2) D σ' H' fs' (forL ks t b (ds.drop k) env')) ?_ ?_ ?_ ?_
  · exact ⟨env1, fs1, W1, Move.refl m1.renv, q1⟩
  · rintro k σ' H' _ ⟨env', fs', W', m, _⟩
    exact m.ext
  · rintro k x σ' H' H2 hk ⟨env', fs', W', m, z⟩ ⟨sm, d, g, ed, r, w⟩ hl'
    have hd : ds.drop k = d :: ds.drop (k + 1) := by
      have hk' := (List.getElem?_eq_some_iff.mp ed)
      rw [List.drop_eq_getElem_cons hk'.1, hk'.2]
    rw [hd] at z
    unfold forL at z
    obtain ⟨fs2, he2, s2⟩ := m.renv.kill ks
    cases e1 : bindV t d (killS ks env') with
    | none => rw [e1] at z; exact z.elim
    | some env2 =>
      rw [e1] at z
      simp only [R.of, R.bind] at z
      refine ⟨d, g, W', killS ks env', env2, fs2, hl', he2.same sm, r, fun a ha => m.more a (w a ha), e1, fun σ3 fs3 bd => ?_⟩
      have mv : Move X.K W' W' (A1 ++ A2) H' fs' H2 σ' σ3 env2 fs3 := ⟨Ext.of sm, bd.renv, fun _ z => z, fun i a ha => (bd.sub i a ha).elim (fun y => .inl ⟨i, s2 i a y⟩) fun y => (nomatch y), fun i hi => bd.keep i fun y => hi (List.mem_append_left _ y)⟩
      have z2 : OutP X.K E W' (A1 ++ A2) D σ3 H2 fs3 ((b env2).bind (loopK (forL ks t b (ds.drop (k + 1))))) := OutP.moved z mv
      refine tS_iff.mpr ⟨env2, fs3, W', bd.renv, ?_⟩
      refine OutP.turn (fun i hi => List.mem_append_right _ hi) z2 fun W4 σ4 H4 env4 fs4 m4 y => ?_
      exact ⟨env4, fs4, W4, m.trans (mv.trans (m4.mono fun i hi => List.mem_append_right _ hi)), y⟩
  · rintro σ' H' ⟨env', fs', W', m, z⟩
    rw [List.drop_of_length_le (Nat.le_refl _)] at z
    unfold forL at z
    obtain ⟨fs2, he2, s2⟩ := m.renv.kill ks
    exact z W' σ' H' fs2 ⟨Ext.refl, he2, fun _ z => z, fun i a ha => .inl ⟨i, s2 i a ha⟩, fun _ _ => rfl⟩
end
end DV
end
section
set_option Elab.async false
set_option linter.all false
set_option maxRecDepth 100000
namespace DV
open PySem PySem.Spec PyProof.Rows L2
section
variable {K : Frag} {W W' : Addr → Prop} {H H' H1 : Hp} {σ : L2.St} {env env1 : Env} {fs fs1 : Fs}
/-- an own list is written -/
theorem RepEnv.write (he : RepEnv K W H σ env fs) {i : Nat} {a : Addr} {xs xs' : List V} {ds' : List D} {g0 g1 : List Addr} (hi : i < env.length) (hσ : σ[i]? = some (some (.ref a))) (hH : H a = some (.lst xs)) (hf : fs i = a :: g0)
    (r : RepL K H xs' ds' g1) (nd : (a :: g1).Nodup) (sub : ∀ b ∈ g1, b ∈ g0 ∨ ((∀ j, b ∉ fs j) ∧ Pl H b ∧ ¬ W b)) : RepEnv K W (upd H a (.lst xs')) σ (env.set i (.own (.list ds'))) (fput fs i (a :: g1)) := by
  have ai : a ∈ fs i := by rw [hf]; exact List.mem_cons_self
  have g0i : ∀ b ∈ g0, b ∈ fs i := fun b hb => by rw [hf]; exact List.mem_cons_of_mem _ hb
  have na : ¬ W a := he.off i a ai
  have pa : Pl H a := he.pl i a ai
  have stay : ∀ {v : V} {d : D} {g : List Addr}, Rep K H v d g → a ∉ g → Rep K (upd H a (.lst xs')) v d g := fun r n =>
    Rep.stay (M := fun b => b = a) (fun b e => e ▸ pa) (fun b o e nb => by rw [upd_ne nb]; exact e) _ _ _ r fun b hb e => n (e ▸ hb)
  have plk : ∀ {b : Addr}, Pl H b → Pl (upd H a (.lst xs')) b := fun {b} ⟨o, e, m⟩ => by
    by_cases q : b = a
    · rw [q]; exact ⟨_, upd_same, trivial⟩
    · exact ⟨o, by rw [upd_ne q]; exact e, m⟩
  have mem1 : ∀ {b : Addr}, b ∈ a :: g1 → b ∈ fs i ∨ ((∀ j, b ∉ fs j) ∧ Pl H b ∧ ¬ W b) := fun {b} hb => by
    rcases List.mem_cons.mp hb with q | q
    · exact .inl (q ▸ ai)
    · exact (sub b q).imp (g0i b) id
  refine ⟨fun j => ?_, fun j k b hj hk => ?_, fun j => ?_, fun j b hb => ?_, fun j b hb => ?_, fun b hb => ?_⟩
  · rw [at_set hi]
    by_cases e : j = i
    · subst e
      rw [if_pos rfl]
      refine ⟨_, hσ, ?_⟩
      unfold fput
      rw [if_pos rfl]
      refine .lst upd_same (RepL.stay (M := fun b => b = a) (fun b e => e ▸ pa) (fun b o e nb => by rw [upd_ne nb]; exact e) _ _ _ r fun b hb e => ?_)
      subst e
      exact (List.nodup_cons.mp nd).1 hb
    · rw [if_neg e]
      have q := he.slot j
      have ef : fput fs i (a :: g1) j = fs j := if_neg e
      cases z : env.at j with
      | dead => rw [z] at q; exact ef.trans q
      | own d' =>
        rw [z] at q
        obtain ⟨v', e1, r'⟩ := q
        exact ⟨v', e1, by rw [ef]; exact stay r' fun y => e (he.disj j i a y ai)⟩
      | view d' =>
        rw [z] at q
        obtain ⟨e0, v', g', e1, r', w⟩ := q
        exact ⟨ef.trans e0, v', g', e1, stay r' fun y => na (w a y), w⟩
  · unfold fput at hj hk
    by_cases e : j = i
    · rw [if_pos e] at hj
      by_cases e2 : k = i
      · rw [e, e2]
      · rw [if_neg e2] at hk
        rcases mem1 hj with q | q
        · exact absurd (he.disj k i b hk q) e2
        · exact absurd hk (q.1 k)
    · rw [if_neg e] at hj
      by_cases e2 : k = i
      · rw [if_pos e2] at hk
        rcases mem1 hk with q | q
        · exact absurd (he.disj j i b hj q) e
        · exact absurd hj (q.1 j)
      · rw [if_neg e2] at hk
        exact he.disj j k b hj hk
  · unfold fput
    by_cases e : j = i
    · rw [if_pos e]; exact nd
    · rw [if_neg e]; exact he.nd j
  · unfold fput at hb
    by_cases e : j = i
    · rw [if_pos e] at hb
      rcases mem1 hb with q | q
      · exact plk (he.pl i b q)
      · exact plk q.2.1
    · rw [if_neg e] at hb; exact plk (he.pl j b hb)
  · unfold fput at hb
    by_cases e : j = i
    · rw [if_pos e] at hb
      rcases mem1 hb with q | q
      · exact he.off i b q
      · exact q.2.2
    · rw [if_neg e] at hb; exact he.off j b hb
  · obtain ⟨o, e⟩ := he.wt b hb
    exact ⟨o, by rw [upd_ne (fun (z : b = a) => na (by rw [← z]; exact hb))]; exact e⟩
theorem RepL.set : ∀ {ds : List D} {xs : List V} {g gy : List Addr} {j : Nat} {y : V} {e : D}, RepL K H xs ds g → Rep K H y e gy → ∃ g', RepL K H (xs.set j y) (ds.set j e) g' ∧ (∀ a ∈ g', a ∈ g ∨ a ∈ gy) ∧ (g.Nodup → gy.Nodup → (∀ a ∈ gy, a ∉ g) → g'.Nodup)
  | [], _, g, gy, j, y, e, h, r => by
    cases h
    exact ⟨[], .nil, fun a z => (nomatch z), fun n _ _ => n⟩
  | d :: ds, _, g, gy, 0, y, e, h, r => by
    cases h with
    | cons h1 h2 =>
      refine ⟨_, .cons r h2, fun a ha => (List.mem_append.mp ha).symm.imp (fun z => List.mem_append_right _ z) id, fun n n2 n3 => ?_⟩
      obtain ⟨_, q, _⟩ := List.nodup_append.mp n
      exact List.nodup_append.mpr ⟨n2, q, fun a ha b hb e => n3 a ha (e ▸ List.mem_append_right _ hb)⟩
  | d :: ds, _, g, gy, j + 1, y, e, h, r => by
    cases h with
    | cons h1 h2 =>
      obtain ⟨g', r', s, n'⟩ := RepL.set (j := j) h2 r
      refine ⟨_, .cons h1 r', fun a ha => (List.mem_append.mp ha).elim (fun z => .inl (List.mem_append_left _ z)) fun z => (s a z).imp (fun z => List.mem_append_right _ z) id, fun n n2 n3 => ?_⟩
      obtain ⟨q1, q2, q3⟩ := List.nodup_append.mp n
      refine List.nodup_append.mpr ⟨q1, n' q2 n2 fun a ha hb => n3 a ha (List.mem_append_right _ hb), fun a ha b hb e => ?_⟩
      subst e
      rcases s a hb with z | z
      · exact q3 a ha a z rfl
      · exact n3 a z (List.mem_append_left _ ha)
theorem RepL.dropLast : ∀ {ds : List D} {xs : List V} {g : List Addr}, RepL K H xs ds g → ∃ g', RepL K H xs.dropLast ds.dropLast g' ∧ (∀ a ∈ g', a ∈ g) ∧ (g.Nodup → g'.Nodup)
  | [], _, g, h => by cases h; exact ⟨[], .nil, fun _ z => z, id⟩
  | [d], _, g, h => by
    cases h with
    | cons h1 h2 => cases h2; exact ⟨[], .nil, fun a z => (nomatch z), fun _ => .nil⟩
  | d :: e :: ds, _, g, h => by
    cases h with
    | cons h1 h2 =>
      obtain ⟨g', r', s, n'⟩ := RepL.dropLast h2
      cases h2 with
      | cons h2 h3 =>
        refine ⟨_, .cons h1 r', fun a ha => (List.mem_append.mp ha).elim (fun z => List.mem_append_left _ z) fun z => List.mem_append_right _ (s a z), fun n => ?_⟩
        obtain ⟨q1, q2, q3⟩ := List.nodup_append.mp n
        exact List.nodup_append.mpr ⟨q1, n' q2, fun a ha b hb e => q3 a ha b (s b hb) e⟩
/-- an own list at a slot -/
theorem RepEnv.lstAt (he : RepEnv K W H σ env fs) {i : Nat} {ds : List D} (e : env.at i = .own (.list ds)) : ∃ a xs g0, σ[i]? = some (some (.ref a)) ∧ H a = some (.lst xs) ∧ fs i = a :: g0 ∧ RepL K H xs ds g0 ∧ (a :: g0).Nodup ∧ i < env.length := by
  have q := he.slot i
  rw [e] at q
  obtain ⟨v, e1, r⟩ := q
  have n := he.nd i
  generalize hg : fs i = g at r n
  cases r with
  | lst h l =>
    refine ⟨_, _, _, e1, h, rfl, l, n, ?_⟩
    refine Nat.lt_of_not_le fun z => ?_
    unfold Env.at at e
    rw [List.getD_eq_getElem?_getD, List.getElem?_eq_none z] at e
    cases e
theorem Own.new {g : List Addr} (he : RepEnv K W H σ env fs) (w : Own H fs H1 fs1 g) (he1 : RepEnv K W H1 σ env1 fs1) : ∀ b ∈ g, (∀ j, b ∉ fs1 j) ∧ Pl H1 b ∧ ¬ W b := fun b hb => ⟨w.apart b hb, w.pl b hb, w.off he b hb⟩
end
section
variable {X : Cx} {E : XK} {p p1 p2 p3 o o1 o2 o3 : Bool} {A A1 A2 : List Nat} {pos : Pos}
def Slot.lst : Slot → R (List D)
  | .own (.list ds) => .ok ds
  | _ => .no
theorem slot_lst {s : Slot} {ds : List D} (h : Slot.lst s = .ok ds) : s = .own (.list ds) := by
  unfold Slot.lst at h
  split at h
  · cases h; rfl
  · cases h
theorem slot_lst_ex {s : Slot} {c : Exc} : Slot.lst s ≠ .ex c := by
  unfold Slot.lst
  split
  · exact fun z => nomatch z
  · exact fun z => nomatch z
/-- xs.append(e) -/
def eApp (i : Nat) (f : Ev) : Ev := fun env => (Slot.lst (env.at i)).bind fun _ => (f env).bind fun y => (Slot.lst (y.2.at i)).bind fun ds => if ds.length < 16000000 then .ok (.none, y.2.set i (.own (.list (ds ++ [y.1])))) else .no
theorem at_len {env : Env} {i : Nat} {s : Slot} (e : env.at i = s) (h : s ≠ .dead) : i < env.length := by
  refine Nat.lt_of_not_le fun z => h ?_
  unfold Env.at at e
  rw [List.getD_eq_getElem?_getD, List.getElem?_eq_none z] at e
  exact e.symm
theorem var_now {i : Nat} {W : Addr → Prop} {H : Hp} {σ : L2.St} {env env1 : Env} {fs fs1 : Fs} {H1 : Hp} {ds : List D} (he1 : RepEnv X.K W H1 σ env1 fs1) (e : Slot.lst (env1.at i) = .ok ds) : ∃ a xs g0, σ[i]? = some (some (.ref a)) ∧ H1 a = some (.lst xs) ∧ fs1 i = a :: g0 ∧ RepL X.K H1 xs ds g0 ∧ (a :: g0).Nodup ∧ i < env1.length := he1.lstAt (slot_lst e)
theorem line_lt {n : Nat} (h : n < 16000000) : n < sizeLine := by rw [sizeLine_eq]; omega
/-- an own list's slot, before something that leaves its place alone: its place is tracked, its kind stays -/
theorem Step.lst_kind {K : Frag} {W : Addr → Prop} {H H1 : Hp} {σ : L2.St} {env env1 : Env} {fs fs1 : Fs} {i : Nat} {ds : List D} (he1 : RepEnv K W H1 σ env1 fs1) (e : Slot.lst (env1.at i) = .ok ds) : ∃ a, σ[i]? = some (some (.ref a)) := by
  obtain ⟨a, xs, g0, e1, _⟩ := he1.lstAt (slot_lst e)
  exact ⟨a, e1⟩
theorem Step.written {K : Frag} {W : Addr → Prop} {H H1 : Hp} {σ : L2.St} {env env1 : Env} {fs fs1 : Fs} {i : Nat} {a : Addr} {xs xs' : List V} {ds' : List D} {g0 g1 : List Addr} (he : RepEnv K W H σ env fs) (S : Step K W p H env fs H1 σ env1 fs1) (hi : i < env1.length) (hσ : σ[i]? = some (some (.ref a))) (hH : H1 a = some (.lst xs)) (hf : fs1 i = a :: g0)
    (r : RepL K H1 xs' ds' g1) (nd : (a :: g1).Nodup) (sub : ∀ b ∈ g1, b ∈ g0 ∨ ((∀ j, b ∉ fs1 j) ∧ Pl H1 b ∧ ¬ W b ∧ ((∃ j, b ∈ fs j) ∨ H b = none))) : Step K W false H env fs (upd H1 a (.lst xs')) σ (env1.set i (.own (.list ds'))) (fput fs1 i (a :: g1)) where
  ext := fun b o e n => by
    have q := S.ext b o e n
    have ne : b ≠ a := fun z => by
      rcases S.sub i a (by rw [hf]; exact List.mem_cons_self) with ⟨j, hj⟩ | q
      · exact n j (z ▸ hj)
      · rw [z, q] at e; cases e
    rw [upd_ne ne]; exact q
  renv := S.renv.write hi hσ hH hf r nd fun b hb => (sub b hb).imp id fun z => ⟨z.1, z.2.1, z.2.2.1⟩
  sub := fun j b hb => by
    unfold fput at hb
    by_cases e : j = i
    · rw [if_pos e] at hb
      rcases List.mem_cons.mp hb with q | q
      · exact S.sub i b (by rw [hf, q]; exact List.mem_cons_self)
      · rcases sub b q with z | z
        · exact S.sub i b (by rw [hf]; exact List.mem_cons_of_mem _ z)
        · exact z.2.2.2
    · rw [if_neg e] at hb; exact S.sub j b hb
  pure := fun z => nomatch z
  vw := fun j d e => by
    rw [at_set hi] at e
    by_cases q : j = i
    · rw [if_pos q] at e; cases e
    · rw [if_neg q] at e; exact S.vw j d e
/-- xs.append(e): xs an own list at slot i -/
theorem de_app {i : Nat} {x : Str} {e : Expr} {f : Ev} {px apos cpos : Pos} (h : DE X E p true e f) (hN : X.N[i]? = some x := by rfl) (hv : Vis X.env.scope x := by first | exact .inl rfl | exact .inr (.inl rfl) | exact .inr (.inr rfl)) (hd : (x == ("__debug__" : Str)) = false := by decide) (hcd : (x == ("__classdict__" : Str)) = false := by decide)
    (hs : starEach [e] X.env = (false, eval e X.env) :: starEach [] X.env := by rfl)
    (hbase : attributeBase (.Name x px) "append" X.env (eval (.Name x px) X.env) = eval (.Name x px) X.env := by rfl)
    (hfew : ((backTo cpos (starEach [e] X.env)).all (fun x => !x.1) && (backToKw cpos (keywordEach [] X.env)).all (fun x => x.1.isSome)
      && decide ([e].length + ([] : List Keyword).length + (if ([] : List Keyword).isEmpty then 0 else 1) < 30)) = true := by rfl)
    (hline : (apos.endLine == cpos.line) = true := by rfl) (hplain : (backTo cpos (starEach [] X.env)).any (·.1) = false := by rfl) :
    DE X E false true (.Call (.Attribute (.Name x px) "append" apos) [e] [] cpos) (eApp i f) := by
  refine PE.mono (pe_bm PySem.F.plainAttrs_list PySem.F.slot_list_append PySem.F.type_list_append mt_append (pe_var hN hv hd hcd) (pa_cons h pa_nil hs) hbase hfew hline hs hplain) fun σ H Q ⟨env, fs, W, he, h⟩ => ?_
  unfold eApp at h
  cases e0 : Slot.lst (env.at i) with
  | no => rw [e0] at h; exact h.elim
  | ex c => exact absurd e0 slot_lst_ex
  | ok ds0 =>
    rw [e0] at h
    simp only [R.bind] at h
    obtain ⟨a, xs0, g0, s1, h1, _⟩ := he.lstAt (slot_lst e0)
    refine ⟨_, s1, .inl ⟨rfl, _, .inl (.inl h1)⟩, env, fs, W, he, ?_⟩
    cases e1 : f env with
    | no => rw [e1] at h; exact h.elim
    | ex c => rw [e1] at h; exact h
    | ok y =>
      obtain ⟨d, env1⟩ := y
      rw [e1] at h
      simp only [R.bind] at h
      intro v H1 fs1 gg P
      cases e2 : Slot.lst (env1.at i) with
      | no => rw [e2] at h; exact h.elim
      | ex c => exact absurd e2 slot_lst_ex
      | ok ds =>
        rw [e2] at h
        simp only [R.bind] at h
        obtain ⟨a', xs, g1, s2, h2, f2, l2, n2, hi⟩ := P.step.renv.lstAt (slot_lst e2)
        rw [s1] at s2
        cases s2
        by_cases c : ds.length < 16000000
        · rw [if_pos c] at h
          refine ⟨a, xs, v, rfl, rfl, h2, by rw [RepL.length l2]; exact line_lt c, ?_⟩
          have w := P.own rfl
          have nw := w.new he P.step.renv
          have ap : ∀ b ∈ gg, b ∉ a :: g1 := fun b hb z => (nw b hb).1 i (by rw [f2]; exact z)
          refine h .non _ _ [] ⟨Step.written he P.step hi s1 h2 f2 (RepL.append l2 (.cons P.rep .nil)) ?_ fun b hb => ?_, .non, fun _ => Own.nil⟩
          · have q := List.nodup_cons.mp n2
            rw [List.append_nil]
            refine List.nodup_cons.mpr ⟨fun z => ?_, List.nodup_append.mpr ⟨q.2, w.nd, fun b hb b' hb' e => ap b' hb' (e ▸ List.mem_cons_of_mem _ hb)⟩⟩
            rcases List.mem_append.mp z with z | z
            · exact q.1 z
            · exact ap a z List.mem_cons_self
          · rcases List.mem_append.mp hb with z | z
            · exact .inl z
            · have z' : b ∈ gg := by simpa using z
              exact .inr ⟨(nw b z').1, (nw b z').2.1, (nw b z').2.2, w.sub b z'⟩
        · rw [if_neg c] at h
          exact h.elim
/-- xs[k] = e, xs an own list at slot i: the value first, the place behind it -/
def setD (ds : List D) (k e : D) : Option (List D) := match k with
  | .int k => (ixN ds.length k).map fun j => ds.set j e
  | _ => none
def sSetIx (i : Nat) (fk fe : Ev) : Sv := fun env => (fe env).bind fun y => (Slot.lst (y.2.at i)).bind fun ds => (fk y.2).bind fun k => (R.of (setD ds k.1 y.1)).bind fun ds' => .ok (.nx (y.2.set i (.own (.list ds'))))
theorem ds_setIx {i : Nat} {x : Str} {e k : Expr} {fe fk : Ev} {px tpos : Pos} (he : DE X E p true e fe) (hk : DE X E true o k fk) (hN : X.N[i]? = some x := by rfl) (hv : Vis X.env.scope x := by first | exact .inl rfl | exact .inr (.inl rfl) | exact .inr (.inr rfl)) (hd : (x == ("__debug__" : Str)) = false := by decide) (hcd : (x == ("__classdict__" : Str)) = false := by decide)
    (ha : ∀ v, assign (.Subscript (.Name x px) k tpos) X.env v = (do
      let ov ← holding [v] (eval (.Name x px) X.env)
      let iv ← holding [v, ov] (eval k X.env)
      standAt tpos
      holding [v, ov, iv] (setItem ov iv v)
      release [v, ov, iv] []) := by intro _; rfl)
    (hs : swapsWithSole [.Subscript (.Name x px) k tpos] e pos.line X.env = pure false := by rfl) (hw : swappedStores [.Subscript (.Name x px) k tpos] e X.env = pure none := by rfl)
    (h1 : (assignEach [.Subscript (.Name x px) k tpos] X.env).map (·.2) = [assign (.Subscript (.Name x px) k tpos) X.env] := by rfl) :
    DS X E [] (.Assign [.Subscript (.Name x px) k tpos] e pos) (sSetIx i fk fe) := by
  refine DS.imp (ps_asg he (pg_sub (pe_var hN hv hd hcd) hk set_list ha) hs hw h1) fun D σ H env fs W hr q => ?_
  refine tD_then (k := fun y env => (Slot.lst (env.at i)).bind fun ds => (fk env).bind fun k => (R.of (setD ds k.1 y)).bind fun ds' => .ok (.nx (env.set i (.own (.list ds'))))) hr rfl q fun y env1 v H1 fs1 gy P z => ?_
  cases e2 : Slot.lst (env1.at i) with
  | no => rw [e2] at z; exact z.elim
  | ex c => exact absurd e2 slot_lst_ex
  | ok ds =>
    rw [e2] at z
    simp only [R.bind] at z
    obtain ⟨a, xs, g1, s1, h1', f1, l1, n1, hi⟩ := P.step.renv.lstAt (slot_lst e2)
    refine ⟨_, s1, env1, fs1, W, P.step.renv, ?_⟩
    cases e1 : fk env1 with
    | no => rw [e1] at z; exact z.elim
    | ex c => rw [e1] at z; exact (show ExP X.K E c H fs from z).before P.step
    | ok kk =>
      obtain ⟨k', env2⟩ := kk
      rw [e1] at z
      simp only [R.bind] at z
      intro kv H2 fs2 gk P2
      obtain ⟨sm, rfl, rfl⟩ := P2.step.pure rfl
      cases e3 : setD ds k' y with
      | none => rw [e3] at z; exact z.elim
      | some ds' =>
        rw [e3] at z
        simp only [R.of] at z
        unfold setD at e3
        split at e3
        · rename_i kz
          obtain ⟨j, ej, rfl⟩ := Option.map_eq_some_iff.mp e3
          have rk := P2.rep
          cases rk
          have l2 : RepL X.K H2 xs ds g1 := l1.same sm
          refine ⟨a, xs, kz, j, rfl, rfl, sm _ _ h1', by rw [RepL.length l2]; exact ej, ?_⟩
          have S := P.step.and_same sm
          have w := (P.own rfl).same sm
          have ry : Rep X.K H2 v y gy := P.rep.same sm
          have nw := w.new hr S.renv
          obtain ⟨g', r', s', n'⟩ := RepL.set (j := j) l2 ry
          have q1 := List.nodup_cons.mp n1
          have ap : ∀ b ∈ gy, b ∉ a :: g1 := fun b hb z => (nw b hb).1 i (by rw [f1]; exact z)
          refine z W σ _ _ (Step.written hr S hi s1 (sm _ _ h1') f1 r' (List.nodup_cons.mpr ⟨fun hm => ?_, n' q1.2 w.nd fun b hb z => ap b hb (List.mem_cons_of_mem _ z)⟩) fun b hb => ?_).move
          · rcases s' a hm with y | y
            · exact q1.1 y
            · exact ap a y List.mem_cons_self
          · rcases s' b hb with y | y
            · exact .inl y
            · exact .inr ⟨(nw b y).1, (nw b y).2.1, (nw b y).2.2, w.sub b y⟩
        · cases e3
end
end DV
end
section
set_option Elab.async false
set_option linter.all false
set_option maxRecDepth 100000
namespace DV
open PySem PySem.Spec PyProof.Rows L2
/-! ### slots forgotten and taken up again -/
theorem at_eq {env : Env} {i : Nat} : env.at i = (env[i]?).getD .dead := by
  unfold Env.at
  rw [List.getD_eq_getElem?_getD]
theorem kill_get : ∀ (vs : List Nat) (env : Env) (j : Nat), (killS vs env)[j]? = if j ∈ vs ∧ j < env.length then some .dead else env[j]?
  | [], env, j => by simp [killS]
  | v :: vs, env, j => by
    have ih := kill_get vs (env.set v .dead) j
    have e : killS (v :: vs) env = killS vs (env.set v .dead) := rfl
    rw [e, ih]
    simp only [List.length_set, List.mem_cons]
    by_cases h1 : j ∈ vs
    · simp [h1]
      by_cases h2 : j < env.length
      · simp [h2]
      · simp [h2]
    · simp only [h1, false_and, if_false, or_false]
      by_cases h3 : j = v
      · subst h3
        by_cases h2 : j < env.length
        · simp [h2]
        · simp [h2]
      · rw [List.getElem?_set_ne (Ne.symm h3)]
        simp [h3]
theorem kill_at (vs : List Nat) (env : Env) (j : Nat) : (killS vs env).at j = if j ∈ vs then .dead else env.at j := by
  rw [at_eq, kill_get, at_eq]
  by_cases h1 : j ∈ vs
  · by_cases h2 : j < env.length
    · simp [h1, h2]
    · simp [h1, h2]
  · simp [h1]
theorem kill_len (vs : List Nat) (env : Env) : (killS vs env).length = env.length := by
  induction vs generalizing env with
  | nil => rfl
  | cons v vs ih => exact (ih (env.set v .dead)).trans (by simp)
/-- the slots vs as they were in o -/
def backS (vs : List Nat) (o env : Env) : Env := vs.foldl (fun e i => e.set i (o.at i)) env
theorem back_get : ∀ (vs : List Nat) (o env : Env) (j : Nat), (backS vs o env)[j]? = if j ∈ vs ∧ j < env.length then some (o.at j) else env[j]?
  | [], o, env, j => by simp [backS]
  | v :: vs, o, env, j => by
    have ih := back_get vs o (env.set v (o.at v)) j
    have e : backS (v :: vs) o env = backS vs o (env.set v (o.at v)) := rfl
    rw [e, ih]
    simp only [List.length_set, List.mem_cons]
    by_cases h1 : j ∈ vs
    · simp [h1]
      by_cases h2 : j < env.length
      · simp [h2]
      · simp [h2]
    · simp only [h1, false_and, if_false, or_false]
      by_cases h3 : j = v
      · subst h3
        by_cases h2 : j < env.length
        · simp [h2]
        · simp [h2]
      · rw [List.getElem?_set_ne (Ne.symm h3)]
        simp [h3]
theorem back_at (vs : List Nat) (o env : Env) (j : Nat) : (backS vs o env).at j = if j ∈ vs ∧ j < env.length then o.at j else env.at j := by
  rw [at_eq, back_get, at_eq]
  by_cases h1 : j ∈ vs ∧ j < env.length
  · simp [h1]
  · rw [if_neg h1, if_neg h1, at_eq]
theorem back_kill (vs : List Nat) (env : Env) : backS vs env (killS vs env) = env := by
  refine List.ext_getElem? fun j => ?_
  rw [back_get, kill_get, kill_len]
  by_cases h1 : j ∈ vs ∧ j < env.length
  · rw [if_pos h1, at_eq, List.getElem?_eq_getElem h1.2]
    rfl
  · rw [if_neg h1, if_neg h1]
theorem kill_back (vs : List Nat) (o env : Env) : killS vs (backS vs o env) = killS vs env := by
  refine List.ext_getElem? fun j => ?_
  rw [kill_get, kill_get, back_get]
  have hl : (backS vs o env).length = env.length := by
    unfold backS
    induction vs generalizing env with
    | nil => rfl
    | cons v vs ih => exact (ih (env.set v (o.at v))).trans (by simp)
  rw [hl]
  by_cases h1 : j ∈ vs ∧ j < env.length
  · rw [if_pos h1, if_pos h1]
  · rw [if_neg h1, if_neg h1, if_neg h1]
theorem wipe_get : ∀ (vs : List Nat) (σ : L2.St) (j : Nat), (wipe σ vs)[j]? = if j ∈ vs ∧ j < σ.length then some none else σ[j]?
  | [], σ, j => by simp [wipe]
  | v :: vs, σ, j => by
    unfold wipe
    have ih := wipe_get vs σ j
    by_cases h3 : j = v
    · subst h3
      by_cases h2 : j < σ.length
      · simp [h2, wipe_length]
      · have : σ.length ≤ j := Nat.le_of_not_lt h2
        simp [h2, wipe_length, this]
    · rw [List.getElem?_set_ne (Ne.symm h3), ih]
      simp [h3]
theorem wipe_eq {vs : List Nat} {σ σ' : L2.St} (hl : σ'.length = σ.length) (h : ∀ j, j ∉ vs → σ'[j]? = σ[j]?) : wipe σ' vs = wipe σ vs := by
  refine List.ext_getElem? fun j => ?_
  rw [wipe_get, wipe_get, hl]
  by_cases h1 : j ∈ vs ∧ j < σ.length
  · rw [if_pos h1, if_pos h1]
  · rw [if_neg h1, if_neg h1]
    by_cases h2 : j ∈ vs
    · have h3 : σ.length ≤ j := Nat.le_of_not_lt fun z => h1 ⟨h2, z⟩
      rw [List.getElem?_eq_none h3, List.getElem?_eq_none (by rw [hl]; exact h3)]
    · exact h j h2
theorem wipe_out {vs : List Nat} {σ : L2.St} {j : Nat} (h : j ∉ vs) : (wipe σ vs)[j]? = σ[j]? := by
  rw [wipe_get, if_neg fun z => h z.1]
def fblank (vs : List Nat) (fs : Fs) : Fs := fun j => if j ∈ vs then [] else fs j
theorem fblank_sub {vs : List Nat} {fs : Fs} {j : Nat} {a : Addr} (h : a ∈ fblank vs fs j) : j ∉ vs ∧ a ∈ fs j := by
  unfold fblank at h
  by_cases e : j ∈ vs
  · rw [if_pos e] at h; cases h
  · rw [if_neg e] at h; exact ⟨e, h⟩
section
variable {K : Frag} {W W' W1 : Addr → Prop} {E : XK} {H H' H1 H2 : Hp} {σ σ' σ1 σ2 : L2.St} {env env' env1 env2 : Env} {fs fs' fs1 fs2 : Fs} {p p1 p2 o : Bool}
theorem RepEnv.killX (h : RepEnv K W H σ env fs) {vs : List Nat} (hσ : ∀ j, j ∉ vs → σ'[j]? = σ[j]?) : RepEnv K W H σ' (killS vs env) (fblank vs fs) where
  slot := fun j => by
    rw [kill_at]
    by_cases e : j ∈ vs
    · rw [if_pos e]
      show fblank vs fs j = []
      exact if_pos e
    · rw [if_neg e]
      have q := h.slot j
      have ef : fblank vs fs j = fs j := if_neg e
      cases z : env.at j with
      | dead => rw [z] at q; exact ef.trans q
      | own d' =>
        rw [z] at q
        obtain ⟨v', e1, r'⟩ := q
        exact ⟨v', (hσ j e).trans e1, by rw [ef]; exact r'⟩
      | view d' =>
        rw [z] at q
        obtain ⟨e0, v', g', e1, r', w⟩ := q
        exact ⟨ef.trans e0, v', g', (hσ j e).trans e1, r', w⟩
  disj := fun i j a hi hj => h.disj i j a (fblank_sub hi).2 (fblank_sub hj).2
  nd := fun i => by
    unfold fblank
    by_cases e : i ∈ vs
    · rw [if_pos e]; exact .nil
    · rw [if_neg e]; exact h.nd i
  pl := fun i a ha => h.pl i a (fblank_sub ha).2
  off := fun i a ha => h.off i a (fblank_sub ha).2
  wt := h.wt
/-- an object that nothing here holds is written -/
theorem RepEnv.upd (h : RepEnv K W H σ env fs) {L : Addr} {u : HO} (pd : Pl H L) (nf : ∀ i, L ∉ fs i) (nw : ¬ W L) : RepEnv K W (upd H L u) σ env fs := by
  have stay : ∀ {v : V} {d : D} {g : List Addr}, Rep K H v d g → L ∉ g → Rep K (L2.upd H L u) v d g := fun r n =>
    Rep.stay (M := fun b => b = L) (fun b e => e ▸ pd) (fun b o e nb => by rw [upd_ne nb]; exact e) _ _ _ r fun b hb e => n (e ▸ hb)
  refine ⟨fun i => ?_, h.disj, h.nd, fun i a ha => ?_, h.off, fun a ha => ?_⟩
  · have q := h.slot i
    cases e : env.at i with
    | dead => rw [e] at q; exact q
    | own d =>
      rw [e] at q
      obtain ⟨v, e1, r⟩ := q
      exact ⟨v, e1, stay r (nf i)⟩
    | view d =>
      rw [e] at q
      obtain ⟨z, v, g, e1, r, n⟩ := q
      exact ⟨z, v, g, e1, stay r fun y => nw (n _ y), n⟩
  · obtain ⟨o, e, m⟩ := h.pl i a ha
    exact ⟨o, by rw [upd_ne fun z => nf i (by rw [← z]; exact ha)]; exact e, m⟩
  · obtain ⟨o, e⟩ := h.wt a ha
    exact ⟨o, by rw [upd_ne fun z => nw (by rw [← z]; exact ha)]; exact e⟩
theorem RepL.upd {L : Addr} {u : HO} {vs : List V} {ds : List D} {g : List Addr} (pd : Pl H L) (r : RepL K H vs ds g) (n : L ∉ g) : RepL K (L2.upd H L u) vs ds g :=
  RepL.stay (M := fun b => b = L) (fun b e => e ▸ pd) (fun b o e nb => by rw [upd_ne nb]; exact e) _ _ _ r fun b hb e => n (e ▸ hb)
end
/-! ### targets and the slots they store to -/
mutual
def Tg.slots : Tg → List Nat
  | .nm i => [i]
  | .tp l => Tg.slotsL l
def Tg.slotsL : List Tg → List Nat
  | [] => []
  | t :: ts => Tg.slots t ++ Tg.slotsL ts
end
mutual
theorem bindV_at : ∀ (t : Tg) (d : D) (env env' : Env), bindV t d env = some env' → env'.length = env.length ∧ ∀ j, j ∉ Tg.slots t → env'[j]? = env[j]?
  | .nm i, d, env, env', h => by
    unfold bindV at h
    by_cases c : i < env.length
    · rw [if_pos c] at h
      cases h
      exact ⟨by simp, fun j hj => List.getElem?_set_ne fun e => hj (by simp [Tg.slots, e])⟩
    · rw [if_neg c] at h; cases h
  | .tp l, .tuple ds, env, env', h => by
    have h' : bindVs l ds env = some env' := by simpa [bindV] using h
    have := bindVs_at l ds env env' h'
    exact ⟨this.1, fun j hj => this.2 j (by simpa [Tg.slots] using hj)⟩
  | .tp l, .none, env, env', h => by simp [bindV] at h
  | .tp l, .bool _, env, env', h => by simp [bindV] at h
  | .tp l, .int _, env, env', h => by simp [bindV] at h
  | .tp l, .str _, env, env', h => by simp [bindV] at h
  | .tp l, .list _, env, env', h => by simp [bindV] at h
  | .tp l, .dict _, env, env', h => by simp [bindV] at h
theorem bindVs_at : ∀ (t : List Tg) (d : List D) (env env' : Env), bindVs t d env = some env' → env'.length = env.length ∧ ∀ j, j ∉ Tg.slotsL t → env'[j]? = env[j]?
  | [], [], env, env', h => by
    cases h
    exact ⟨rfl, fun _ _ => rfl⟩
  | [], _ :: _, env, env', h => by simp [bindVs] at h
  | _ :: _, [], env, env', h => by simp [bindVs] at h
  | t :: ts, d :: ds, env, env', h => by
    obtain ⟨env1, b1, b2⟩ := Option.bind_eq_some_iff.mp (show (bindV t d env).bind (fun env' => bindVs ts ds env') = some env' from h)
    have h1 := bindV_at t d env env1 b1
    have h2 := bindVs_at ts ds env1 env' b2
    refine ⟨h2.1.trans h1.1, fun j hj => ?_⟩
    have hj' : j ∉ Tg.slots t ∧ j ∉ Tg.slotsL ts := by simpa [Tg.slotsL] using hj
    exact (h2.2 j hj'.2).trans (h1.2 j hj'.1)
end
theorem bindV_kill {t : Tg} {d : D} {vs : List Nat} {env env' : Env} (h : bindV t d (killS vs env) = some env') (hs : ∀ j, j ∈ Tg.slots t → j ∈ vs) : killS vs env' = killS vs env := by
  obtain ⟨h1, h2⟩ := bindV_at t d _ _ h
  refine List.ext_getElem? fun j => ?_
  rw [kill_get, kill_get, h1, kill_len]
  by_cases c : j ∈ vs ∧ j < env.length
  · rw [if_pos c, if_pos c]
  · rw [if_neg c, if_neg c]
    by_cases c2 : j ∈ vs
    · have c3 : env.length ≤ j := Nat.le_of_not_lt fun z => c ⟨c2, z⟩
      rw [List.getElem?_eq_none c3, List.getElem?_eq_none (by rw [h1, kill_len]; exact c3)]
    · rw [h2 j fun z => c2 (hs j z), kill_get, if_neg c]
/-! ### comprehensions -/
def noEx {α : Type} : R α → R α
  | .ex _ => .no
  | r => r
def lcL (vs : List Nat) (t : Tg) (c : Et) (e : Ev) : List D → Env → R (List D × Env)
  | [], env => .ok ([], env)
  | d :: ds, env => (R.of (bindV t d (killS vs env))).bind fun e1 => (c e1).bind fun b => if b.1 = true then (e b.2).bind fun y => (lcL vs t c e ds y.2).bind fun r => .ok (y.1 :: r.1, r.2) else lcL vs t c e ds b.2
def eLc (vs : List Nat) (t : Tg) (it : Ei) (c : Et) (e : Ev) : Ev := fun env => (it env).bind fun x => if x.1.length ≤ 16000000 then (noEx (lcL vs t c e x.1 x.2)).bind fun r => .ok (.list r.1, backS vs x.2 r.2) else .no
def DTs (X : Cx) (E : XK) (p : Bool) (ifs : List Expr) (f : Et) : Prop := PTs X ifs (tDT X.K E p f)
def tYesE : Et := fun env => .ok (true, env)
theorem PTs.mono {X : Cx} {ifs : List Expr} {t t' : TT} (h : PTs X ifs t) (m : ∀ σ H Q, t' σ H Q → t σ H Q) : PTs X ifs t' := ⟨fun pins s σ H Q I w => h.run pins s σ H Q I (m σ H Q w)⟩
theorem dts_nil {X : Cx} {E : XK} : DTs X E true [] tYesE := PTs.mono pts_nil fun σ H Q ⟨env, fs, W, he, h⟩ => h H fs (Step.refl he)
theorem dts_one {X : Cx} {E : XK} {p : Bool} {c : Expr} {f : Et} (h : DT X E p c f) : DTs X E p [c] f := pts_one h
/-- a comprehension's standing: what holds ahead of each turn; L: the new list -/
structure LcI (K : Frag) (W1 : Addr → Prop) (vs : List Nat) (σ : L2.St) (p : Bool) (H1 : Hp) (env1 : Env) (fs1 : Fs) (L : Addr) (Hi : Hp) (envi : Env) (fsi : Fs) (acc : List V) (accd : List D) (ga : List Addr) : Prop where
  at_ : Hi L = some (.lst acc)
  renv : RepEnv K W1 Hi (wipe σ vs) (killS vs envi) fsi
  ext : Ext H1 Hi (fblank vs fs1)
  sub : ∀ j, Sub H1 (fblank vs fs1) (fsi j)
  nL : ∀ j, L ∉ fsi j
  vw : ∀ j d, (killS vs envi).at j = .view d → (killS vs env1).at j = .view d
  rep : RepL K Hi acc accd ga
  nd : ga.Nodup
  apart : ∀ a ∈ ga, ∀ i, a ∉ fsi i
  pl : ∀ a ∈ ga, Pl Hi a
  subA : Sub H1 (fblank vs fs1) ga
  nLa : L ∉ ga
  pure : p = true → Same H1 Hi ∧ killS vs envi = killS vs env1 ∧ fsi = fblank vs fs1
section
variable {K : Frag} {W W1 : Addr → Prop} {E : XK} {H H' H1 Hi : Hp} {σ σ2 : L2.St} {env env1 envi : Env} {fs fs1 fsi : Fs} {p p1 p2 o : Bool} {vs : List Nat} {L : Addr} {acc : List V} {accd : List D} {ga : List Addr}
theorem LcI.start (h : RepEnv K W1 H1 σ env1 fs1) (hL : H1 L = none) : LcI K W1 vs σ p H1 env1 fs1 L (upd H1 L (.lst [])) env1 (fblank vs fs1) [] [] [] where
  at_ := upd_same
  renv := (h.killX fun j hj => wipe_out hj).same (same_upd hL)
  ext := Ext.of (same_upd hL)
  sub := fun _ => Sub.self
  nL := fun j hj => by
    obtain ⟨o, e, _⟩ := h.pl j L (fblank_sub hj).2
    rw [hL] at e; cases e
  vw := fun _ _ z => z
  rep := .nil
  nd := .nil
  apart := fun _ z => (nomatch z)
  pl := fun _ z => (nomatch z)
  subA := fun _ z => (nomatch z)
  nLa := fun z => (nomatch z)
  pure := fun _ => ⟨same_upd hL, rfl, rfl⟩
/-- behind the store and the tests of a turn, and nothing more -/
theorem LcI.skip (I : LcI K W1 vs σ p H1 env1 fs1 L Hi envi fsi acc accd ga) (nW : ¬ W1 L) (sm : Same Hi H') {e1 e2 : Env} {fsb fs2 : Fs} {H2 : Hp} (kb : killS vs e1 = killS vs envi) (wp : wipe σ2 vs = wipe σ vs) (sb : ∀ i a, a ∈ fsb i → a ∈ fsi i) (kf : fblank vs fsb = fsi) (S : Step K W1 p H' e1 fsb H2 σ2 e2 fs2) :
    LcI K W1 vs σ p H1 env1 fs1 L H2 e2 (fblank vs fs2) acc accd ga := by
  have nLb : ∀ j, L ∉ fsb j := fun j hj => I.nL j (sb j L hj)
  have x0 : Ext Hi H2 fsi := (Ext.trans (Ext.of sm) (fun i a ha => .inl ⟨i, sb i a ha⟩) S.ext)
  have s0 : ∀ i, Sub Hi fsi (fs2 i) := fun i => Sub.trans (Ext.of sm) (fun i a ha => .inl ⟨i, sb i a ha⟩) (S.sub i)
  have nL2 : ∀ j, L ∉ fs2 j := fun j hj => by
    rcases s0 j L hj with ⟨k, hk⟩ | z
    · exact I.nL k hk
    · rw [I.at_] at z; cases z
  have tA := RepL.there _ _ _ I.rep
  refine ⟨x0 _ _ I.at_ I.nL, ?_, I.ext.trans I.sub x0, fun j => Sub.trans I.ext I.sub fun a ha => s0 j a (fblank_sub ha).2, fun j hj => nL2 j (fblank_sub hj).2, fun j d e => ?_, RepL.ext I.renv x0 I.rep I.apart, I.nd, fun a ha i hi => ?_, pl_ext x0 I.pl I.apart, I.subA, I.nLa, fun hp => ?_⟩
  · rw [← wp]
    exact S.renv.killX fun j hj => wipe_out hj
  · refine I.vw j d ?_
    rw [kill_at] at e
    by_cases c : j ∈ vs
    · rw [if_pos c] at e; cases e
    · rw [if_neg c] at e
      have q := S.vw j d e
      have : (killS vs e1).at j = .view d := by rw [kill_at, if_neg c]; exact q
      rw [kb] at this; exact this
  · exact apart_ext x0 s0 tA I.apart a ha i (fblank_sub hi).2
  · obtain ⟨a1, a2, a3⟩ := I.pure hp
    obtain ⟨b1, rfl, rfl⟩ := S.pure hp
    exact ⟨fun x o e => b1 x o (sm x o (a1 x o e)), kb.trans a2, kf.trans a3⟩
/-- .. and one more item -/
theorem LcI.app (I : LcI K W1 vs σ p H1 env1 fs1 L Hi envi fsi acc accd ga) (nW : ¬ W1 L) {H' : Hp} (hL1 : H1 L = none) {e' : Env} {v : V} {d : D} {gy : List Addr} (r : Rep K Hi v d gy) (nd : gy.Nodup) (ap : ∀ a ∈ gy, ∀ i, a ∉ fsi i) (pl : ∀ a ∈ gy, Pl Hi a) (sb : Sub H1 (fblank vs fs1) gy) (nga : ∀ a ∈ gy, a ∉ ga) (nLy : L ∉ gy) :
    LcI K W1 vs σ p H1 env1 fs1 L (upd Hi L (.lst (acc ++ [v]))) envi fsi (acc ++ [v]) (accd ++ [d]) (ga ++ (gy ++ [])) := by
  have pL : Pl Hi L := ⟨_, I.at_, trivial⟩
  have plk : ∀ {b : Addr}, Pl Hi b → Pl (upd Hi L (.lst (acc ++ [v]))) b := fun {b} ⟨o, e, m⟩ => by
    by_cases q : b = L
    · rw [q]; exact ⟨_, upd_same, trivial⟩
    · exact ⟨o, by rw [upd_ne q]; exact e, m⟩
  rw [List.append_nil]
  refine ⟨upd_same, I.renv.upd pL I.nL nW, fun b o e n => ?_, I.sub, I.nL, I.vw, ?_, List.nodup_append.mpr ⟨I.nd, nd, fun a ha b hb e => nga b hb (e ▸ ha)⟩, fun a ha => (List.mem_append.mp ha).elim (I.apart a) (ap a), fun a ha => (List.mem_append.mp ha).elim (fun z => plk (I.pl a z)) fun z => plk (pl a z),
    fun a ha => (List.mem_append.mp ha).elim (I.subA a) (sb a), fun z => (List.mem_append.mp z).elim I.nLa nLy, fun hp => ?_⟩
  · rw [upd_ne (ne_of_none e hL1)]; exact I.ext b o e n
  · have := RepL.append (RepL.upd (u := .lst (acc ++ [v])) pL I.rep I.nLa) (RepL.upd (u := .lst (acc ++ [v])) pL (RepL.cons r .nil) (by simpa using nLy))
    rwa [List.append_nil] at this
  · obtain ⟨a1, a2, a3⟩ := I.pure hp
    exact ⟨fun b o e => by rw [upd_ne (ne_of_none e hL1)]; exact a1 b o e, a2, a3⟩
end

/-- the standing's end, back in the def's slots -/
theorem LcI.fin {K : Frag} {W W1 : Addr → Prop} {H H1 Hn : Hp} {σ : L2.St} {env env1 envn : Env} {fs fs1 fsn : Fs} {p pi p' : Bool} {vs : List Nat} {L : Addr} {acc : List V} {accd : List D} {ga : List Addr} (he : RepEnv K W H σ env fs)
    (x1 : Ext H H1 fs) (x2 : RepEnv K W1 H1 σ env1 fs1) (x3 : ∀ a, W a → W1 a) (x4 : ∀ i, Sub H fs (fs1 i)) (x5 : ∀ j d, env1.at j = .view d → env.at j = .view d) (x8 : pi = true → Same H H1 ∧ env1 = env ∧ fs1 = fs) (hL : H1 L = none)
    (I : LcI K W1 vs σ p' H1 env1 fs1 L Hn envn fsn acc accd ga) (hp : p = true → pi = true ∧ p' = true) : ∃ fs', Post K W p true H env fs Hn σ (backS vs env1 envn) fs' (.ref L) (.list accd) (L :: ga) := by
  have xb : Ext H1 Hn fs1 := I.ext.less fun j a ha => (fblank_sub ha).2
  have x0 : Ext H Hn fs := x1.trans x4 xb
  have sn : ∀ j, Sub H fs (fsn j) := fun j => Sub.trans x1 (fun i => x4 i) ((I.sub j).less fun j a ha => (fblank_sub ha).2)
  have nL1 : ∀ j, L ∉ fs1 j := fun j hj => by
    obtain ⟨o, e, _⟩ := x2.pl j L hj
    rw [hL] at e; cases e
  -- a slot of the block's own: what it held stands apart
  have keepv : ∀ j ∈ vs, ∀ a ∈ fs1 j, ∀ i, a ∉ fblank vs fs1 i := fun j hj a ha i hi => by
    obtain ⟨n, hi'⟩ := fblank_sub hi
    have := x2.disj j i a ha hi'
    subst this
    exact n hj
  have apn : ∀ j ∈ vs, ∀ a ∈ fs1 j, ∀ i, a ∉ fsn i := fun j hj a ha i hi => by
    rcases I.sub i a hi with ⟨k, hk⟩ | z
    · exact keepv j hj a ha k hk
    · obtain ⟨o, e, _⟩ := x2.pl j a ha
      rw [e] at z; cases z
  have apg : ∀ j ∈ vs, ∀ a ∈ fs1 j, a ∉ ga := fun j hj a ha hg => by
    rcases I.subA a hg with ⟨k, hk⟩ | z
    · exact keepv j hj a ha k hk
    · obtain ⟨o, e, _⟩ := x2.pl j a ha
      rw [e] at z; cases z
  have plv : ∀ j ∈ vs, ∀ a ∈ fs1 j, Pl Hn a := fun j hj a ha => by
    obtain ⟨o, e, m⟩ := x2.pl j a ha
    exact ⟨o, I.ext a o e (keepv j hj a ha), m⟩
  have fdead : ∀ j ∈ vs, fsn j = [] := fun j hj => by
    have q := I.renv.slot j
    rw [kill_at, if_pos hj] at q
    exact q
  have viewok : ∀ j d, env1.at j = .view d → ∃ v g, σ[j]? = some (some v) ∧ Rep K Hn v d g ∧ ∀ a ∈ g, W a := fun j d e => by
    have q := he.slot j
    rw [x5 j d e] at q
    obtain ⟨_, v, g, e1, r, w⟩ := q
    exact ⟨v, g, e1, Rep.prot he x0 r w, w⟩
  refine ⟨fun j => if j ∈ vs ∧ j < envn.length then fs1 j else fsn j, ⟨x0, ⟨fun j => ?_, fun i j a hi hj => ?_, fun j => ?_, fun j a ha => ?_, fun j a ha => ?_, fun a ha => ?_⟩, fun j => ?_, fun z => ?_, fun j d e => ?_⟩, .lst I.at_ I.rep, fun _ => ⟨List.nodup_cons.mpr ⟨I.nLa, I.nd⟩, fun a ha i hi => ?_, fun a ha => ?_, fun a ha => ?_⟩⟩
  · -- slot
    rw [back_at]
    by_cases c : j ∈ vs ∧ j < envn.length
    · rw [if_pos c]
      have q := x2.slot j
      cases e : env1.at j with
      | dead =>
        rw [e] at q
        show (if j ∈ vs ∧ j < envn.length then fs1 j else fsn j) = []
        rw [if_pos c]; exact q
      | own d =>
        rw [e] at q
        obtain ⟨v, e1, r⟩ := q
        refine ⟨v, e1, ?_⟩
        show Rep K Hn v d (if j ∈ vs ∧ j < envn.length then fs1 j else fsn j)
        rw [if_pos c]
        exact Rep.stay (M := fun a => ∃ i, a ∈ fblank vs fs1 i) (fun a ⟨i, ha⟩ => x2.pl i a (fblank_sub ha).2) (fun b o e nb => I.ext b o e fun i hi => nb ⟨i, hi⟩) _ _ _ r fun a ha ⟨i, hi⟩ => keepv j c.1 a ha i hi
      | view d =>
        rw [e] at q
        refine ⟨?_, viewok j d e⟩
        show (if j ∈ vs ∧ j < envn.length then fs1 j else fsn j) = []
        rw [if_pos c]; exact q.1
    · rw [if_neg c]
      by_cases hv : j ∈ vs
      · have e : envn.at j = .dead := by
          rw [at_eq, List.getElem?_eq_none (Nat.le_of_not_lt fun z => c ⟨hv, z⟩)]
          rfl
        rw [e]
        show (if j ∈ vs ∧ j < envn.length then fs1 j else fsn j) = []
        rw [if_neg c]; exact fdead j hv
      · have q := I.renv.slot j
        rw [kill_at, if_neg hv] at q
        cases e : envn.at j with
        | dead =>
          rw [e] at q
          show (if j ∈ vs ∧ j < envn.length then fs1 j else fsn j) = []
          rw [if_neg c]; exact q
        | own d =>
          rw [e] at q
          obtain ⟨v, e1, r⟩ := q
          refine ⟨v, by rw [← wipe_out hv]; exact e1, ?_⟩
          show Rep K Hn v d (if j ∈ vs ∧ j < envn.length then fs1 j else fsn j)
          rw [if_neg c]; exact r
        | view d =>
          rw [e] at q
          have e1 : env1.at j = .view d := by
            have z := I.vw j d (by rw [kill_at, if_neg hv]; exact e)
            rw [kill_at, if_neg hv] at z
            exact z
          refine ⟨?_, viewok j d e1⟩
          show (if j ∈ vs ∧ j < envn.length then fs1 j else fsn j) = []
          rw [if_neg c]; exact q.1
  · by_cases c : i ∈ vs ∧ i < envn.length
    · rw [if_pos c] at hi
      by_cases c2 : j ∈ vs ∧ j < envn.length
      · rw [if_pos c2] at hj
        exact x2.disj i j a hi hj
      · rw [if_neg c2] at hj
        exact absurd hj (apn i c.1 a hi j)
    · rw [if_neg c] at hi
      by_cases c2 : j ∈ vs ∧ j < envn.length
      · rw [if_pos c2] at hj
        exact absurd hi (apn j c2.1 a hj i)
      · rw [if_neg c2] at hj
        exact I.renv.disj i j a hi hj
  · by_cases c : j ∈ vs ∧ j < envn.length
    · rw [if_pos c]; exact x2.nd j
    · rw [if_neg c]; exact I.renv.nd j
  · by_cases c : j ∈ vs ∧ j < envn.length
    · rw [if_pos c] at ha; exact plv j c.1 a ha
    · rw [if_neg c] at ha; exact I.renv.pl j a ha
  · by_cases c : j ∈ vs ∧ j < envn.length
    · rw [if_pos c] at ha; exact fun z => x2.off j a ha (x3 a z)
    · rw [if_neg c] at ha; exact fun z => I.renv.off j a ha (x3 a z)
  · exact I.renv.wt a (x3 a ha)
  · intro a ha
    by_cases c : j ∈ vs ∧ j < envn.length
    · rw [if_pos c] at ha; exact x4 j a ha
    · rw [if_neg c] at ha; exact sn j a ha
  · obtain ⟨h1, h2⟩ := hp z
    obtain ⟨a1, rfl, rfl⟩ := x8 h1
    obtain ⟨b1, b2, b3⟩ := I.pure h2
    refine ⟨fun x o e => b1 x o (a1 x o e), ?_, funext fun j => ?_⟩
    · have q : backS vs env1 envn = backS vs env1 (killS vs envn) := by
        refine List.ext_getElem? fun j => ?_
        rw [back_get, back_get, kill_len, kill_get]
        by_cases c : j ∈ vs ∧ j < envn.length
        · rw [if_pos c, if_pos c]
        · rw [if_neg c, if_neg c, if_neg c]
      rw [q, b2]
      exact back_kill vs env1
    · by_cases c : j ∈ vs ∧ j < envn.length
      · rw [if_pos c]
      · rw [if_neg c, b3]
        unfold fblank
        by_cases hv : j ∈ vs
        · rw [if_pos hv]
          have hlen : envn.length = env1.length := by rw [← kill_len vs envn, b2, kill_len]
          have e : env1.at j = .dead := by
            rw [at_eq, List.getElem?_eq_none (by rw [← hlen]; exact Nat.le_of_not_lt fun z => c ⟨hv, z⟩)]
            rfl
          have q := x2.slot j
          rw [e] at q
          exact q.symm
        · rw [if_neg hv]
  · refine x5 j d ?_
    rw [back_at] at e
    by_cases c : j ∈ vs ∧ j < envn.length
    · rw [if_pos c] at e; exact e
    · rw [if_neg c] at e
      by_cases hv : j ∈ vs
      · have e' : envn.at j = .dead := by
          rw [at_eq, List.getElem?_eq_none (Nat.le_of_not_lt fun z => c ⟨hv, z⟩)]
          rfl
        rw [e'] at e; cases e
      · have z := I.vw j d (by rw [kill_at, if_neg hv]; exact e)
        rw [kill_at, if_neg hv] at z
        exact z
  · by_cases c : i ∈ vs ∧ i < envn.length
    · rw [if_pos c] at hi
      rcases List.mem_cons.mp ha with rfl | ha
      · exact nL1 i hi
      · exact apg i c.1 a hi ha
    · rw [if_neg c] at hi
      rcases List.mem_cons.mp ha with rfl | ha
      · exact I.nL i hi
      · exact I.apart a ha i hi
  · rcases List.mem_cons.mp ha with rfl | ha
    · exact ⟨_, I.at_, trivial⟩
    · exact I.pl a ha
  · rcases List.mem_cons.mp ha with rfl | ha
    · by_cases n : ∀ i, a ∉ fs i
      · cases e : H a with
        | none => exact .inr rfl
        | some o => rw [x1 a o e n] at hL; cases hL
      · exact .inl (by simpa using n)
    · exact Sub.trans x1 (fun i => x4 i) ((I.subA).less fun j a ha => (fblank_sub ha).2) a ha
def E0 : XK := fun _ _ _ => False
theorem tLc_of {K : Frag} {n : Nat} {E : XK} {H : Hp} {σ : L2.St} {p1 p2 p3 : Bool} {vs A : List Nat} {t : Tg} {it : Ei} {c : Et} {e : Ev} {Q : VK} (hA : ∀ j ∈ A, j ∈ vs) (hT : ∀ j ∈ Tg.slots t, j ∈ vs)
    (h : tD K E (p1 && (p2 && p3)) true (eLc vs t it c e) σ H Q) : tLc (tI K E p1 it) (fun v σ H Q => σ.length = n → tGV K n A t v σ H Q) (tDT K E0 p2 c) (tD K E0 p3 true e) vs σ H Q := by
  obtain ⟨env, fs, W, he, h⟩ := h
  refine ⟨env, fs, W, he, ?_⟩
  unfold eLc at h
  cases e1 : it env with
  | no => rw [e1] at h; exact h
  | ex c => rw [e1] at h; exact h
  | ok x =>
    obtain ⟨ds, env1⟩ := x
    rw [e1] at h
    simp only [R.bind] at h
    intro J W1 H1 fs1 x1 x2 x3 x4 x5 x8 io L hL
    by_cases hz : ds.length ≤ 16000000
    · rw [if_pos hz] at h
      cases e2 : lcL vs t c e ds env1 with
      | no => rw [e2] at h; exact h.elim
      | ex c => rw [e2] at h; exact h.elim
      | ok r =>
        obtain ⟨rs, envf⟩ := r
        rw [e2] at h
        simp only [noEx] at h
        have nW : ¬ W1 L := fun z => by
          obtain ⟨o, e⟩ := x2.wt L z
          rw [hL] at e; cases e
        refine lc_it io (g := fun v σ H Q => σ.length = n → tGV K n A t v σ H Q) (tt := tDT K E0 p2 c) (te := tD K E0 p3 true e) (vs := vs) (σ := σ) (H1 := H1) (D := L) (Qd := fun H => Q (.ref L) H) (fun i Hi => ∃ envi fsi acc accd ga rest, LcI K W1 vs σ (p2 && p3) H1 env1 fs1 L Hi envi fsi acc accd ga ∧ acc.length ≤ i ∧ rs = accd ++ rest ∧ lcL vs t c e (ds.drop i) envi = .ok (rest, envf)) ?_ ?_ ?_ ?_
        · exact ⟨env1, _, [], [], [], rs, LcI.start x2 hL, Nat.le_refl _, rfl, e2⟩
        · rintro i Hi _ ⟨envi, fsi, acc, accd, ga, rest, I, _⟩
          exact I.ext.less fun j a ha => (fblank_sub ha).2
        · rintro i x Hi H' hi ⟨envi, fsi, acc, accd, ga, rest, I, hai, hrs, hl⟩ ⟨sm, d, g, ed, r, w⟩ hlen
          have hd : ds.drop i = d :: ds.drop (i + 1) := by
            have hk' := (List.getElem?_eq_some_iff.mp ed)
            rw [List.drop_eq_getElem_cons hk'.1, hk'.2]
          rw [hd] at hl
          unfold lcL at hl
          cases b1 : bindV t d (killS vs envi) with
          | none => rw [b1] at hl; cases hl
          | some eb =>
            rw [b1] at hl
            simp only [R.of, R.bind] at hl
            refine ⟨d, g, W1, killS vs envi, eb, fsi, hlen, I.renv.same sm, r, w, b1, fun σ2 fsb bd => ?_⟩
            have kb : killS vs eb = killS vs envi := bindV_kill b1 hT
            have wp : wipe σ2 vs = wipe σ vs := by
              have := wipe_eq (vs := vs) (bd.len.trans (wipe_length σ vs)) fun j hj => (bd.keep j fun z => hj (hA j z)).trans (wipe_out hj)
              exact this
            have sb : ∀ i a, a ∈ fsb i → a ∈ fsi i := fun i a ha => (bd.sub i a ha).elim id fun z => nomatch z
            have kf : fblank vs fsb = fsi := funext fun j => by
              unfold fblank
              by_cases hv : j ∈ vs
              · rw [if_pos hv]
                have q := I.renv.slot j
                rw [kill_at, if_pos hv] at q
                exact (show fsi j = [] from q).symm
              · rw [if_neg hv]; exact bd.kf j fun z => hv (hA j z)
            refine ⟨wp, eb, fsb, W1, bd.renv, ?_⟩
            cases e3 : c eb with
            | no => rw [e3] at hl; cases hl
            | ex c => rw [e3] at hl; cases hl
            | ok b =>
              obtain ⟨b, eb2⟩ := b
              rw [e3] at hl
              simp only at hl
              intro H3 fs3 S
              have x0 : Ext Hi H3 fsi := Ext.trans (Ext.of sm) (fun i a ha => .inl ⟨i, sb i a ha⟩) S.ext
              have s0 : ∀ i, Sub Hi fsi (fs3 i) := fun i => Sub.trans (Ext.of sm) (fun i a ha => .inl ⟨i, sb i a ha⟩) (S.sub i)
              cases b with
              | false =>
                rw [if_neg Bool.false_ne_true] at hl ⊢
                exact ⟨eb2, _, acc, accd, ga, rest, I.skip nW sm kb wp sb kf (S.weak fun z => and_l z), Nat.le_succ_of_le hai, hrs, hl⟩
              | true =>
                rw [if_pos rfl] at hl ⊢
                refine ⟨eb2, fs3, W1, S.renv, ?_⟩
                cases e4 : e eb2 with
                | no => rw [e4] at hl; cases hl
                | ex c => rw [e4] at hl; cases hl
                | ok y =>
                  obtain ⟨y, eb3⟩ := y
                  rw [e4] at hl
                  simp only at hl
                  intro v H4 fs4 gy P
                  have I4 := I.skip nW sm kb wp sb kf (S.trans P.step)
                  refine ⟨acc, I4.at_, line_lt (Nat.lt_of_le_of_lt hai (Nat.lt_of_lt_of_le hi hz)), ?_⟩
                  have o4 := P.own rfl
                  have sI : Sub Hi fsi gy := Sub.trans x0 s0 o4.sub
                  have tA := RepL.there _ _ _ I.rep
                  cases e5 : lcL vs t c e (ds.drop (i + 1)) eb3 with
                  | no => rw [e5] at hl; cases hl
                  | ex c => rw [e5] at hl; cases hl
                  | ok r5 =>
                    obtain ⟨rest5, envf5⟩ := r5
                    rw [e5] at hl
                    cases hl
                    refine ⟨eb3, _, acc ++ [v], accd ++ [y], _, rest5, I4.app nW hL (H' := H4) (e' := eb3) P.rep o4.nd (fun a ha i hi => o4.apart a ha i (fblank_sub hi).2) o4.pl (Sub.trans I.ext I.sub sI) (fun a ha hg => ?_) (fun hg => ?_), by simp; omega, by rw [hrs]; simp, e5⟩
                    · rcases sI a ha with ⟨j, hj⟩ | z
                      · exact I.apart a hg j hj
                      · obtain ⟨o, e⟩ := tA a hg
                        rw [e] at z; cases z
                    · rcases sI L hg with ⟨j, hj⟩ | z
                      · exact I.nL j hj
                      · rw [I.at_] at z; cases z
        · rintro Hn ⟨envn, fsn, acc, accd, ga, rest, I, hai, hrs, hl⟩
          rw [List.drop_of_length_le (Nat.le_refl _)] at hl
          unfold lcL at hl
          cases hl
          rw [List.append_nil] at hrs
          subst hrs
          obtain ⟨fs', P⟩ := I.fin (p := p1 && (p2 && p3)) he x1 x2 x3 x4 x5 x8 hL fun z => ⟨and_l z, and_r z⟩
          exact h _ Hn fs' _ P
    · rw [if_neg hz] at h
      exact h.elim
section
variable {X : Cx} {E : XK} {p1 p2 p3 : Bool} {A : List Nat}
theorem de_lc {elt tg iter : Expr} {ifs : List Expr} {scope : Scope} {own : List (Str × Nat)} {pos : Pos} {t : Tg} {it : Ei} {c : Et} {e : Ev} (hc : X.calm = true) (hN : X.N.Nodup) (hi : DI X E p1 tg iter it) (ok : BlkOk X.N X.env.scope scope own)
    (hg : ∀ (s : Shared) (H : Hp) (C : Addr) (cl : List (Str × Addr)) (fp : List Addr), DG (X.blk s H scope (compEnvC scope cl C X.env) fp) A tg t) (ht : ∀ (s : Shared) (H : Hp) (C : Addr) (cl : List (Str × Addr)) (fp : List Addr), DTs (X.blk s H scope (compEnvC scope cl C X.env) fp) E0 p2 ifs c)
    (he : ∀ (s : Shared) (H : Hp) (C : Addr) (cl : List (Str × Addr)) (fp : List Addr), DE (X.blk s H scope (compEnvC scope cl C X.env) fp) E0 p3 true elt e) (hA : ∀ j ∈ A, j ∈ own.map (·.2) := by decide) (hT : ∀ j ∈ Tg.slots t, j ∈ own.map (·.2) := by decide) (hs : ∀ x, foldedSetIterable iter X.env x = pure x := by intro _; rfl) :
    DE X E (p1 && (p2 && p3)) true (.ListComp elt [⟨tg, iter, ifs, 0⟩] scope pos) (eLc (own.map (·.2)) t it c e) :=
  PE.mono (pe_lc (g := fun v σ H Q => σ.length = X.N.length → tGV X.K X.N.length A t v σ H Q) (tt := tDT X.K E0 p2 c) (te := tD X.K E0 p3 true e) hc hN hi ok (fun s H C cl fp => tG_len (hg s H C cl fp)) (fun s H C cl fp => ht s H C cl fp) (fun s H C cl fp => he s H C cl fp) hs) fun σ H Q h => tLc_of hA hT h
theorem ds_setLc {i : Nat} {y : Str} {py : Pos} {elt tg iter : Expr} {ifs : List Expr} {scope : Scope} {own : List (Str × Nat)} {pos spos : Pos} {t : Tg} {it : Ei} {c : Et} {e : Ev} (hc : X.calm = true) (hN : X.N.Nodup) (hi : DI X E p1 tg iter it) (ok : BlkOk X.N X.env.scope scope own)
    (hg : ∀ (s : Shared) (H : Hp) (C : Addr) (cl : List (Str × Addr)) (fp : List Addr), DG (X.blk s H scope (compEnvC scope cl C X.env) fp) A tg t) (ht : ∀ (s : Shared) (H : Hp) (C : Addr) (cl : List (Str × Addr)) (fp : List Addr), DTs (X.blk s H scope (compEnvC scope cl C X.env) fp) E0 p2 ifs c)
    (he : ∀ (s : Shared) (H : Hp) (C : Addr) (cl : List (Str × Addr)) (fp : List Addr), DE (X.blk s H scope (compEnvC scope cl C X.env) fp) E0 p3 true elt e)
    (hy : X.N[i]? = some y := by rfl) (hyl : X.env.scope.names.lookup y = some .local := by rfl) (hsw : swapsWith (.ListComp elt [⟨tg, iter, ifs, 0⟩] scope pos) (some (.Name y py)) spos.line X.env = pure true := by rfl)
    (hA : ∀ j ∈ A, j ∈ own.map (·.2) := by decide) (hT : ∀ j ∈ Tg.slots t, j ∈ own.map (·.2) := by decide) (hs : ∀ x, foldedSetIterable iter X.env x = pure x := by intro _; rfl) :
    DS X E [i] (.Assign [.Name y py] (.ListComp elt [⟨tg, iter, ifs, 0⟩] scope pos) spos) (sSet i (eLc (own.map (·.2)) t it c e)) := by
  refine DS.impL (ps_setLc (g := fun v σ H Q => σ.length = X.N.length → tGV X.K X.N.length A t v σ H Q) (tt := tDT X.K E0 p2 c) (te := tD X.K E0 p3 true e) hc hN hy hyl hsw hi ok (fun s H C cl fp => tG_len (hg s H C cl fp)) (fun s H C cl fp => ht s H C cl fp) (fun s H C cl fp => he s H C cl fp) hs) fun D σ H env fs W hl hr q => ?_
  show tLc (tI X.K E p1 it) (fun v σ H Q => σ.length = X.N.length → tGV X.K X.N.length A t v σ H Q) (tDT X.K E0 p2 c) (tD X.K E0 p3 true e) (own.map (·.2)) σ H (fun x H1 => gName i x σ H1 D.nx)
  have key : tD X.K E (p1 && (p2 && p3)) true (eLc (own.map (·.2)) t it c e) σ H (fun x H1 => gName i x σ H1 D.nx) := by
    refine tD_then (k := fun d e => if i < e.length then .ok (.nx (e.set i (.own d))) else .no) hr rfl q fun d env1 v H1 fs1 gg P z => ?_
    by_cases c : i < env1.length
    · rw [if_pos c] at z
      exact z W _ H1 _ (P.put hr c (by rw [hl]; exact (List.getElem?_eq_some_iff.mp hy).1))
    · rw [if_neg c] at z
      exact z.elim
  exact tLc_of hA hT key
/-- a slot's protected value, read -/
def tQ (K : Frag) (E : XK) (p : Bool) (f : Ev) : TE := fun σ H Q => ∃ env fs W, RepEnv K W H σ env fs ∧ match f env with
  | .no => False
  | .ex c => ExP K E c H fs
  | .ok (d, env') => ∀ v H' fs' g, Step K W p H env fs H' σ env' fs' → Rep K H' v d g → (∀ a ∈ g, W a) → Q v H'
def DQ (X : Cx) (E : XK) (p : Bool) (e : Expr) (f : Ev) : Prop := PE X e (tQ X.K E p f)
theorem dq_read {i : Nat} {x : Str} {pos : Pos} (hN : X.N[i]? = some x := by rfl) (hv : Vis X.env.scope x := by first | exact .inl rfl | exact .inr (.inl rfl) | exact .inr (.inr rfl)) (hd : (x == ("__debug__" : Str)) = false := by decide) (hcd : (x == ("__classdict__" : Str)) = false := by decide) :
    DQ X E true (.Name x pos) (eReadP i) := by
  refine PE.mono (pe_var hN hv hd hcd) fun σ H Q ⟨env, fs, W, he, h⟩ => ?_
  have q := he.slot i
  unfold eReadP at h
  cases e : env.at i with
  | dead => rw [e] at h; exact h.elim
  | own d =>
    rw [e] at h q
    obtain ⟨v, e1, r⟩ := q
    by_cases hi : imm d = true
    · simp only [hi, if_true] at h
      refine ⟨v, e1, h v H fs _ (Step.refl he) r ?_⟩
      rw [Rep.fp_imm _ _ _ r hi]
      exact fun a ha => (nomatch ha)
    · simp [hi] at h
  | view d =>
    rw [e] at h q
    obtain ⟨_, v, g, e1, r, w⟩ := q
    exact ⟨v, e1, h v H fs g (Step.refl he) r w⟩
theorem de_ofQ {p : Bool} {e : Expr} {f : Ev} (h : DQ X E p e f) : DE X E p false e f := by
  refine PE.mono h fun σ H Q ⟨env, fs, W, he, h⟩ => ⟨env, fs, W, he, ?_⟩
  cases e1 : f env with
  | no => rw [e1] at h; exact h
  | ex c => rw [e1] at h; exact h
  | ok x =>
    rw [e1] at h
    exact fun v H' fs' g S r w => h v H' fs' g ⟨S, r, fun z => nomatch z⟩
theorem dq_imm {p o : Bool} {e : Expr} {f : Ev} (h : DE X E p o e f) : DQ X E p e (eImm f) := by
  refine PE.mono h fun σ H Q ⟨env, fs, W, he, h⟩ => ⟨env, fs, W, he, ?_⟩
  unfold eImm at h
  cases e1 : f env with
  | no => rw [e1] at h; exact h
  | ex c => rw [e1] at h; exact h
  | ok x =>
    obtain ⟨d, env1⟩ := x
    rw [e1] at h
    intro v H' fs' g P
    by_cases hi : imm d = true
    · simp only [R.bind, hi, if_true] at h
      refine h v H' fs' g P.step P.rep ?_
      rw [Rep.fp_imm _ _ _ P.rep hi]
      exact fun a ha => (nomatch ha)
    · simp [R.bind, hi] at h
/-- the place of a protected row, whatever the place's expression does -/
theorem dq_ix {a b : Expr} {f g : Ev} {pos : Pos} {o2 : Bool} (ha : DQ X E p1 a f) (hb : DE X E p2 o2 b g) (hs : PlainIx b := by exact fun _ _ => rfl) : DQ X E (p1 && p2) (.Subscript a b pos) (eIx f g) := by
  refine PE.mono (pe_ix ix_seq ha hb hs) fun σ H Q ⟨env, fs, W, he, h⟩ => ⟨env, fs, W, he, ?_⟩
  unfold eIx at h
  cases e1 : f env with
  | no => rw [e1] at h; exact h
  | ex c => rw [e1] at h; exact h
  | ok x =>
    obtain ⟨d1, env1⟩ := x
    rw [e1] at h
    intro v1 H1 fs1 g1 S1 r1 w1
    refine ⟨env1, fs1, W, S1.renv, ?_⟩
    cases e2 : g env1 with
    | no => simp only [R.bind, e2] at h
    | ex c => simp only [R.bind, e2] at h; exact ExP.before h S1
    | ok y =>
      obtain ⟨d2, env2⟩ := y
      intro v2 H2 fs2 g2 P2
      have r1 : Rep X.K H2 v1 d1 g1 := Rep.prot S1.renv P2.step.ext r1 w1
      have S := S1.trans P2.step
      cases e3 : ixD d1 d2 with
      | none => simp [R.bind, e2, e3, R.of] at h
      | some r =>
        simp only [R.bind, e2, e3, R.of] at h
        have r2 := P2.rep
        unfold ixD at e3
        split at e3
        · cases r2
          cases r1 with
          | lst h1 l1 =>
            obtain ⟨v, gi, e4, rr, ss, nn⟩ := RepL.atI l1 e3
            exact .inl ⟨_, _, _, v, rfl, rfl, SqL.of h1, e4, h v H2 fs2 gi S rr fun a ha => w1 a (List.mem_cons_of_mem _ (ss a ha))⟩
        · cases r2
          cases r1 with
          | tup h1 l1 =>
            obtain ⟨v, gi, e4, rr, ss, nn⟩ := RepL.atI l1 e3
            exact .inr (.inl ⟨_, _, _, v, rfl, rfl, h1, e4, h v H2 fs2 gi S rr fun a ha => w1 a (ss a ha)⟩)
        · split at e3
          · rename_i hz
            obtain ⟨cc, ec, rfl⟩ := Option.map_eq_some_iff.mp e3
            cases r2
            cases r1
            exact .inr (.inr ⟨_, _, _, rfl, rfl, in_line hz, ec, h _ H2 fs2 [] S (.str _) fun _ z => nomatch z⟩)
          · cases e3
        · cases e3
theorem dp_ofQ {p : Bool} {e : Expr} {f : Ev} (h : DQ X E p e f) : DP X E p e f := by
  refine PE.mono h fun σ H Q ⟨env, fs, W, he, h⟩ => ⟨env, fs, W, he, ?_⟩
  cases e1 : f env with
  | no => rw [e1] at h; exact h
  | ex c => rw [e1] at h; exact h
  | ok x =>
    rw [e1] at h
    exact fun v H' fs' g S r w => h v W H' fs' g S.ext S.renv (fun _ z => z) S.sub S.vw S.pure r w
end
end DV
end
section
set_option Elab.async false
set_option linter.all false
set_option maxRecDepth 100000
namespace DV
open PySem PySem.Spec PyProof.Rows L2
/-! ### what a def promises, where nothing is being shown -/
structure FnG (P : Program) (w : World) (K : Frag) (mg : Str → Option Value) (base : Heap) (CX : CXT) (k : Nat) (f : Addr) (fd : FuncData) (ps : List Str) (sp : Sp) : Prop where
  few : ∀ vs H Q E, sp vs H Q E → vs.length = ps.length
  goes : ∀ (A : Around) (out : List PySem.Env) (s : Shared) (H : Hp) (as : Args) (us : List Value) (vs : List V) (Q : VK) (E : XK), Room k A → A.guards = some [] → Env0 P w K mg base A out s H → BindsTo s fd as (ps.zip us) → Vals vs us → sp vs H Q E →
    codeAny (model P w) A (.call (.ref f) as) (CR CX out P w H s Q E) s
theorem FnG.more {P : Program} {w : World} {K : Frag} {mg : Str → Option Value} {base : Heap} {CX : CXT} {j k : Nat} {f : Addr} {fd : FuncData} {ps : List Str} {sp : Sp} (F : FnG P w K mg base CX j f fd ps sp) (h : j ≤ k) : FnG P w K mg base CX k f fd ps sp :=
  ⟨F.few, fun A out s H as us vs Q E room => F.goes A out s H as us vs Q E (room.mono h)⟩
theorem FnG.imp {P : Program} {w : World} {K : Frag} {mg : Str → Option Value} {base : Heap} {CX : CXT} {k : Nat} {f : Addr} {fd : FuncData} {ps : List Str} {sp sp' : Sp} (F : FnG P w K mg base CX k f fd ps sp) (h : ∀ vs H Q E, sp' vs H Q E → sp vs H Q E) : FnG P w K mg base CX k f fd ps sp' :=
  ⟨fun vs H Q E z => F.few vs H Q E (h _ _ _ _ z), fun A out s H as us vs Q E room gd en bd rel z => F.goes A out s H as us vs Q E room gd en bd rel (h _ _ _ _ z)⟩
section
variable {P : Program} {w : World} {K : Frag} {mg : Str → Option Value} {base : Heap} {x qual : Str} {params : Arguments} {body : List Stmt} {scope : Scope} {dvs : List V} {kws : List (Str × V)} {f : Addr} {fd : FuncData}
theorem FunD.okG {CX : CXT} {N ps : List Str} {k : Nat} {sp : Sp} (F : FunD K x qual params body scope dvs kws f fd) (S : FnScope N ps scope) (few : ∀ vs H Q E, sp vs H Q E → vs.length = ps.length)
    (bd : ∀ (cdv : Value) (A : Around) (out : List PySem.Env) (s : Shared) (H : Hp) (vs : List V) (Q : VK) (E : XK), Room k (A.deeper (envOfC qual scope s.heap.objs.size f cdv)) → A.guards = some [] → sp vs H Q E →
      ∃ t, PSs (cxOf CX P w K mg base N qual scope f cdv A out s H E) body t ∧ t { nx := fun _ H' => Q .non H', rt := Q } (start N vs) H) : FnG P w K mg base CX (k + 1) f fd ps sp := by
  obtain ⟨oc, od, dV, kV, doc, pm, an, cdv, ct, osl, rfl, look, hasCode, _, _⟩ := F.ex
  refine ⟨few, fun A out s H as us vs Q E room gd en bound rel pr => ?_⟩
  have nvs := few _ _ _ _ pr; have inK : K.In s.heap := en.mod.kin.keeps fun _ _ z => (en.bs _ _ z).1; have noLim : s.heap.NoLimit := en.mod.nolimit.keeps fun _ _ z => (en.bs _ _ z).1
  have kinds : ∀ y ∈ ps.zip us, scope.names.lookup y.1 = some .local ∨ (scope.names.lookup y.1 = some .cell ∧ ((cellsFrom (s.heap.objs.size + 1) scope.names []).lookup y.1).isSome = true) := by
    rintro ⟨n, v⟩ hy
    exact (S.par n (List.of_mem_zip hy).1).imp id fun z => ⟨z, PySem.W.cellsFrom_some _ _ _ (.inl z)⟩
  refine codeAny_call_function room.depth (inK _ _ look) rfl S.co S.gen rfl (PySem.W.codeRec_of inK hasCode) (bound _ _ _ _ (wpAny_newFunctionEnv_cells S.kind kinds fun e he s1 called => ?_))
  subst he
  obtain ⟨t, runs, reads⟩ := bd cdv A out s H vs Q E (room.deeper _) gd pr
  refine ⟨noLim.keeps called.toInCall.keep, codeAny_func (wpAny_mono (runs.run [] s1 (start N vs) H _ (inv_start S room.hd en nvs rel called) reads) (fun fl s' z => ?_) fun _ _ z => z)⟩
  cases fl with
  | ret u => exact (let ⟨v, _, H', J, rv, q⟩ := z; ⟨v, H', J.os, J.bare, J.base, J.hok, rv, q⟩)
  | next => exact (let ⟨_, H', J, q⟩ := z; ⟨V.non, H', J.os, J.bare, J.base, J.hok, rfl, q⟩)
  | brk => exact (let ⟨_, _, _, q⟩ := z; q.elim)
  | cont => exact (let ⟨_, _, _, q⟩ := z; q.elim)
end
section
variable {X : Cx} {CX : CXT} {k : Nat} {f : Addr} {fd : FuncData} {ps : List Str} {sp : Sp} {E : XK} {x : Str} {p pos : Pos} {e : Expr} {es : List Expr} {t : TA}
theorem run_fnG {pins : List (Addr × Obj)} {σ : L2.St} {H : Hp} {s : Shared} {Q : VK} {us : List Value} {vs : List V} (F : FnG X.prog X.w X.K X.mg X.base CX k f fd ps sp) (room : Room k X.A) (gd : X.A.guards = some []) (bi : Binds X.K fd ps []) (pa : Passes CX X E)
    (I : Inv X pins σ H s) (rel : Vals vs us) (pr : sp vs H Q E) : wpAny (model X.prog X.w) X.A (call (.ref f) us) (EP X pins σ Q) X.xe s := by
  have nus : (us ++ []).length = ps.length := by rw [List.append_nil, ← rel.length]; exact F.few _ _ _ _ pr
  have bound := bi s us I.kIn nus
  rw [List.append_nil] at bound
  refine wpAny_call (codeAny_mono (F.goes X.A X.stack s H ⟨us, []⟩ us vs Q E room gd I.env0 bound rel pr) fun r s' z => ?_)
  match r, z with
  | .error e, z => exact pa pins σ H s e s' I z
  | .ok (.ret u), z => exact I.after z
/-- f(e, ..), f a def of the module -/
theorem pe_fnG (F : FnG X.prog X.w X.K X.mg X.base CX k f fd ps sp) (room : Room k X.A) (gd : X.A.guards = some []) (hg : Gl X x) (hm : X.mg x = some (.ref f)) (kp : PySem.W.keepIn X.K (.ref f) = true) (bi : Binds X.K fd ps []) (pa : Passes CX X E)
    (ha : PA X (e :: es) t) (nd : (x == ("__debug__" : Str)) = false := by decide) (st : starEach (e :: es) X.env = (false, eval e X.env) :: starEach es X.env := by rfl) (pl : (backTo pos (starEach es X.env)).any (·.1) = false := by rfl) :
    PE X (.Call (.Name x p) (e :: es) [] pos) (tCall sp [] E t) :=
  ⟨fun pins s σ H Q I z => wpAny_Call_Name_kw (ld_glob I hg hm (PySem.W.callWith_K (h₀ := X.base) I.ok.mod.kin kp (thn (ha.run pos pins s σ H _ I z) fun us s1 ⟨vs, H1, I1, r, q⟩ => ⟨I1.kIn, run_fnG F room gd bi pa I1 r (by simpa using q)⟩) st pl) nd)⟩
end
/-! ### defs by what they compute -/
/-- the arguments' values: what comes back, and what the changed argument holds then -/
abbrev Den := List D → R (D × D)
def argEnv (io : Option Nat) (ds : List D) : Env := ds.mapIdx fun k d => if io = some k then .own d else .view d
structure Ret (K : Frag) (H : Hp) (fs : Fs) (H' : Hp) (vs : List V) (io : Option Nat) (v : V) (r u : D) (g gu : List Addr) : Prop where
  ext : Ext H H' fs
  rep : Rep K H' v r g
  nd : (g ++ gu).Nodup
  pl : ∀ a ∈ g ++ gu, Pl H' a
  sub : Sub H fs (g ++ gu)
  io : match io with
    | none => gu = []
    | some k => ∃ x, vs[k]? = some x ∧ Rep K H' x u gu
def spD (K : Frag) (n : Nat) (io : Option Nat) (den : Den) : Sp := fun vs H Q E => vs.length = n ∧ ∃ ds fs W, ds.length = n ∧ RepEnv K W H (vs.map some) (argEnv io ds) fs ∧ match den ds with
  | .no => False
  | .ex c => ExP K E c H fs
  | .ok (r, u) => ∀ v H' g gu, Ret K H fs H' vs io v r u g gu → Q v H'
def ioVal (io : Option Nat) (e : Env) : R D := match io with
  | none => .ok .none
  | some k => match e.at k with
    | .own u => .ok u
    | _ => .no
def outR (io : Option Nat) : Out → R (D × D)
  | .rt d e => (ioVal io e).bind fun u => .ok (d, u)
  | .nx e => (ioVal io e).bind fun u => .ok (.none, u)
  | _ => .no
/-- m: the slots behind the parameters -/
def denOf (m : Nat) (io : Option Nat) (f : Sv) : Den := fun ds => (f (argEnv io ds ++ List.replicate m .dead)).bind (outR io)
theorem argEnv_get {io : Option Nat} {ds : List D} {k : Nat} : (argEnv io ds)[k]? = (ds[k]?).map fun d => if io = some k then Slot.own d else .view d := by
  unfold argEnv
  rw [List.getElem?_mapIdx]
theorem app_dead {env : Env} {m j : Nat} : Env.at (env ++ List.replicate m .dead) j = env.at j := by
  rw [at_eq, at_eq]
  by_cases h : j < env.length
  · rw [List.getElem?_append_left h]
  · rw [List.getElem?_append_right (Nat.le_of_not_lt h), List.getElem?_replicate, List.getElem?_eq_none (Nat.le_of_not_lt h)]
    by_cases c : j - env.length < m
    · rw [if_pos c]; rfl
    · rw [if_neg c]
section
variable {K : Frag} {W W' : Addr → Prop} {E : XK} {H H' : Hp} {σ σ' : L2.St} {env : Env} {fs fs' : Fs} {A : List Nat}
theorem RepEnv.start {N : List Str} {vs : List V} {m : Nat} (h : RepEnv K W H (vs.map some) env fs) : RepEnv K W H (L2.start N vs) (env ++ List.replicate m .dead) fs where
  slot := fun j => by
    rw [app_dead]
    have q := h.slot j
    have es : ∀ v, (vs.map some)[j]? = some (some v) → (L2.start N vs)[j]? = some (some v) := fun v e => by
      unfold L2.start
      rw [List.getElem?_append_left (List.getElem?_eq_some_iff.mp e).1]
      exact e
    cases e : env.at j with
    | dead => rw [e] at q; exact q
    | own d =>
      rw [e] at q
      obtain ⟨v, e1, r⟩ := q
      exact ⟨v, es v e1, r⟩
    | view d =>
      rw [e] at q
      obtain ⟨z, v, g, e1, r, n⟩ := q
      exact ⟨z, v, g, es v e1, r, n⟩
  disj := h.disj
  nd := h.nd
  pl := h.pl
  off := h.off
  wt := h.wt
/-- a body's end, read as the promise's -/
theorem OutP.ret {io : Option Nat} {vs : List V} {Q : VK} {N : List Str} {r : R Out} (hA : ∀ k, io = some k → k ∉ A) (hn : ∀ k, io = some k → k < vs.length) (h : match r.bind (outR io) with
    | .no => False
    | .ex c => ExP K E c H fs
    | .ok (r, u) => ∀ v H' g gu, Ret K H fs H' vs io v r u g gu → Q v H') : OutP K E W A { nx := fun _ H' => Q .non H', rt := Q } (L2.start N vs) H fs r := by
  have ends : ∀ {W' : Addr → Prop} {σ' : L2.St} {H' : Hp} {env' : Env} {fs' : Fs} {u : D} {v : V} {d : D} {g : List Addr}, Move K W W' A H fs H' (L2.start N vs) σ' env' fs' → Rep K H' v d g → Own H fs H' fs' g → ioVal io env' = .ok u → ∃ gu, Ret K H fs H' vs io v d u g gu := fun {W' σ' H' env' fs' u v d g} m rep w iu => by
    unfold ioVal at iu
    cases io with
    | none => exact ⟨[], m.ext, rep, by rw [List.append_nil]; exact w.nd, by rw [List.append_nil]; exact w.pl, by rw [List.append_nil]; exact w.sub, rfl⟩
    | some k =>
      simp only at iu
      have q := m.renv.slot k
      cases e : env'.at k with
      | dead => rw [e] at iu; cases iu
      | view d => rw [e] at iu; cases iu
      | own d' =>
        rw [e] at iu q
        cases iu
        obtain ⟨x, e1, r1⟩ := q
        rw [m.keep k (hA k rfl)] at e1
        have ex : vs[k]? = some x := by
          unfold L2.start at e1
          rw [List.getElem?_append_left (by rw [List.length_map]; exact hn k rfl), List.getElem?_map] at e1
          cases z : vs[k]? with
          | none => rw [z] at e1; cases e1
          | some y => rw [z] at e1; cases e1; rfl
        refine ⟨fs' k, m.ext, rep, List.nodup_append.mpr ⟨w.nd, m.renv.nd k, fun a ha b hb z => w.apart a ha k (z ▸ hb)⟩, fun a ha => (List.mem_append.mp ha).elim (w.pl a) (m.renv.pl k a), fun a ha => (List.mem_append.mp ha).elim (w.sub a) (m.sub k a), x, ex, r1⟩
  cases r with
  | no => exact h
  | ex c => exact h
  | ok o =>
    cases o with
    | bk e => exact h.elim
    | ct e => exact h.elim
    | nx e =>
      simp only [R.bind, outR] at h
      cases iu : ioVal io e with
      | no => rw [iu] at h; exact h.elim
      | ex c =>
        unfold ioVal at iu
        split at iu
        · cases iu
        · split at iu <;> cases iu
      | ok u =>
        rw [iu] at h
        intro W' σ' H' fs' m
        obtain ⟨gu, z⟩ := ends m .non Own.nil iu
        exact h .non H' [] gu z
    | rt d e =>
      simp only [R.bind, outR] at h
      cases iu : ioVal io e with
      | no => rw [iu] at h; exact h.elim
      | ex c =>
        unfold ioVal at iu
        split at iu
        · cases iu
        · split at iu <;> cases iu
      | ok u =>
        rw [iu] at h
        intro W' v σ' H' fs' g m r w
        obtain ⟨gu, z⟩ := ends m r w iu
        exact h v H' g gu z
end
section
variable {P : Program} {w : World} {K : Frag} {mg : Str → Option Value} {base : Heap} {x qual : Str} {params : Arguments} {body : List Stmt} {scope : Scope} {f : Addr} {fd : FuncData}
/-- THE RULE: a def by what its body computes -/
theorem fn_den {CX : CXT} {N ps : List Str} {k : Nat} {io : Option Nat} {fb : Sv} {A' : List Nat} (F : FunD K x qual params body scope [] [] f fd) (S : FnScope N ps scope) (hA : ∀ k, io = some k → k ∉ A') (hn : ∀ k, io = some k → k < ps.length)
    (bd : ∀ (cdv : Value) (A : Around) (out : List PySem.Env) (s : Shared) (H : Hp) (E : XK), Room k (A.deeper (envOfC qual scope s.heap.objs.size f cdv)) → A.guards = some [] → DB (cxOf CX P w K mg base N qual scope f cdv A out s H E) E A' body fb) :
    FnG P w K mg base CX (k + 1) f fd ps (spD K ps.length io (denOf (N.length - ps.length) io fb)) := by
  refine FunD.okG F S (fun vs H Q E z => z.1) fun cdv A out s H vs Q E room gd pr => ?_
  obtain ⟨nv, ds, fs, W, nds, he, q⟩ := pr
  refine ⟨_, bd cdv A out s H E room gd, tS_iff.mpr ⟨argEnv io ds ++ List.replicate (N.length - ps.length) Slot.dead, fs, W, RepEnv.start (N := N) (m := N.length - ps.length) he, ?_⟩⟩
  exact OutP.ret hA (fun k hk => by rw [nv]; exact hn k hk) q
end

section
variable {X : Cx} {E : XK} {CX : CXT} {k : Nat} {f : Addr} {fd : FuncData} {ps : List Str} {x : Str} {p o : Bool} {n : Nat} {e : Expr} {es : List Expr}
/-! ### a call that changes nothing -/
def eFn (n : Nat) (den : Den) (g : EvA) : Ev := fun env => (g env).bind fun x => if x.1.length = n then (den x.1).bind fun r => .ok (r.1, x.2) else .no
theorem argEnv_view {ds : List D} {j : Nat} {d : D} (h : ds[j]? = some d) : Env.at (argEnv none ds) j = .view d := by
  rw [at_eq, argEnv_get, h]
  rfl
theorem env_none {ds : List D} {io : Option Nat} {j : Nat} (h : ds[j]? = none) : Env.at (argEnv io ds) j = .dead := by
  rw [at_eq, argEnv_get, h]
  rfl
theorem RepEnv.args {K : Frag} {H : Hp} {vs : List V} {ds : List D} {g : List Addr} (r : RepL K H vs ds g) : RepEnv K (fun a => a ∈ g) H (vs.map some) (argEnv none ds) (fun _ => []) where
  slot := fun j => by
    cases h : ds[j]? with
    | none => rw [env_none h]; rfl
    | some d =>
      rw [argEnv_view h]
      obtain ⟨v, gi, e1, r1, s, _⟩ := RepL.get r h
      exact ⟨rfl, v, gi, by rw [List.getElem?_map, e1]; rfl, r1, s⟩
  disj := fun _ _ _ h _ => nomatch h
  nd := fun _ => .nil
  pl := fun _ _ h => nomatch h
  off := fun _ _ h => nomatch h
  wt := fun a ha => RepL.there _ _ _ r a ha
theorem de_fn {den : Den} {g : EvA} {q pos : Pos} (F : FnG X.prog X.w X.K X.mg X.base CX k f fd ps (spD X.K n none den)) (room : Room k X.A) (gd : X.A.guards = some []) (hm : X.mg x = some (.ref f)) (kp : PySem.W.keepIn X.K (.ref f) = true) (bi : Binds X.K fd ps []) (pa : Passes CX X E)
    (ha : DA X E p o (e :: es) g) (hg : Gl X x := by rfl) (nd : (x == ("__debug__" : Str)) = false := by decide) (st : starEach (e :: es) X.env = (false, eval e X.env) :: starEach es X.env := by rfl) (pl : (backTo pos (starEach es X.env)).any (·.1) = false := by rfl) :
    DE X E p true (.Call (.Name x q) (e :: es) [] pos) (eFn n den g) := by
  refine PE.mono (pe_fnG F room gd hg hm kp bi pa ha nd st pl) fun σ H Q ⟨env, fs, W, he, h⟩ => ⟨env, fs, W, he, ?_⟩
  unfold eFn at h
  cases e1 : g env with
  | no => rw [e1] at h; exact h
  | ex c => rw [e1] at h; exact h
  | ok y =>
    obtain ⟨ds, env1⟩ := y
    rw [e1] at h
    simp only [R.bind] at h
    intro vs H1 fs1 gg P
    by_cases nds : ds.length = n
    case neg => rw [if_neg nds] at h; exact h.elim
    rw [if_pos nds] at h
    refine ⟨by rw [List.append_nil, RepL.length P.rep]; exact nds, ds, fun _ => [], fun a => a ∈ gg, nds, by rw [List.append_nil]; exact RepEnv.args P.rep, ?_⟩
    cases e2 : den ds with
    | no => rw [e2] at h; exact h.elim
    | ex c =>
      rw [e2] at h
      exact fun H' ad x n => ExP.before h P.step H' ad (fun b o eb _ => x b o eb fun _ z => nomatch z) n
    | ok r =>
      obtain ⟨r, u⟩ := r
      rw [e2] at h
      intro v H' g' gu z
      have hgu : gu = [] := z.io
      subst hgu
      have hsub : ∀ a ∈ g', H1 a = none := fun a ha => by
        rcases z.sub a (List.mem_append_left _ ha) with ⟨j, hj⟩ | q
        · cases hj
        · exact q
      refine h v H' fs1 g' (Post.fresh P.step ⟨fun b o eb => z.ext b o eb (fun _ y => (nomatch y)), z.rep, (List.nodup_append.mp z.nd).1, hsub, fun a ha => z.pl a (List.mem_append_left _ ha)⟩)
/-! ### arguments that stand apart from the slots' own objects -/
def tZ (K : Frag) (E : XK) (p : Bool) (f : Ev) : TE := fun σ H Q => ∃ env fs W, RepEnv K W H σ env fs ∧ match f env with
  | .no => False
  | .ex c => ExP K E c H fs
  | .ok (d, env') => ∀ v H' fs' g, Step K W p H env fs H' σ env' fs' → Rep K H' v d g → (∀ a ∈ g, ∀ i, a ∉ fs' i) → Q v H'
def DZ (X : Cx) (E : XK) (p : Bool) (e : Expr) (f : Ev) : Prop := PE X e (tZ X.K E p f)
theorem dz_own {e : Expr} {g : Ev} (h : DE X E p true e g) : DZ X E p e g := by
  refine PE.mono h fun σ H Q ⟨env, fs, W, he, h⟩ => ⟨env, fs, W, he, ?_⟩
  cases e1 : g env with
  | no => rw [e1] at h; exact h
  | ex c => rw [e1] at h; exact h
  | ok x => rw [e1] at h; exact fun v H' fs' g P => h v H' fs' g P.step P.rep (P.own rfl).apart
theorem dz_q {e : Expr} {g : Ev} (h : DQ X E p e g) : DZ X E p e g := by
  refine PE.mono h fun σ H Q ⟨env, fs, W, he, h⟩ => ⟨env, fs, W, he, ?_⟩
  cases e1 : g env with
  | no => rw [e1] at h; exact h
  | ex c => rw [e1] at h; exact h
  | ok x => rw [e1] at h; exact fun v H' fs' g S r w => h v H' fs' g S r fun a ha i hi => S.renv.off i a hi (w a ha)
def tZA (K : Frag) (E : XK) (p : Bool) (f : EvA) : TA := fun σ H Q => ∃ env fs W, RepEnv K W H σ env fs ∧ match f env with
  | .no => False
  | .ex c => ExP K E c H fs
  | .ok (d, env') => ∀ v H' fs' g, Step K W p H env fs H' σ env' fs' → RepL K H' v d g → (∀ a ∈ g, ∀ i, a ∉ fs' i) → Q v H'
def DZA (X : Cx) (E : XK) (p : Bool) (es : List Expr) (f : EvA) : Prop := PA X es (tZA X.K E p f)
theorem dza_nil : DZA X E true [] aNil := PA.mono pa_nil fun σ H Q ⟨env, fs, W, he, h⟩ => h [] H fs [] (Step.refl he) .nil fun _ z => (nomatch z)
variable {p1 p2 : Bool}
theorem dza_cons {e : Expr} {es : List Expr} {f : Ev} {g : EvA} (he : DZ X E p1 e f) (hs : DZA X E p2 es g) (hq : starEach (e :: es) X.env = (false, eval e X.env) :: starEach es X.env := by rfl) : DZA X E (p1 && p2) (e :: es) (aCons f g) := by
  refine PA.mono (pa_cons he hs hq) fun σ H Q ⟨env, fs, W, hr, h⟩ => ⟨env, fs, W, hr, ?_⟩
  unfold aCons at h
  cases e1 : f env with
  | no => rw [e1] at h; exact h
  | ex c => rw [e1] at h; exact h
  | ok x =>
    obtain ⟨d1, env1⟩ := x
    rw [e1] at h
    intro v1 H1 fs1 g1 S1 r1 a1
    refine ⟨env1, fs1, W, S1.renv, ?_⟩
    cases e2 : g env1 with
    | no => simp only [R.bind, e2] at h
    | ex c => simp only [R.bind, e2] at h; exact ExP.before h S1
    | ok y =>
      obtain ⟨ds, env2⟩ := y
      intro vs H2 fs2 g2 S2 r2 a2
      simp only [R.bind, e2] at h
      refine h (v1 :: vs) H2 fs2 (g1 ++ g2) (S1.trans S2) (.cons (Rep.ext S1.renv S2.ext r1 a1) r2) fun a ha => ?_
      rcases List.mem_append.mp ha with z | z
      · exact apart_ext S2.ext S2.sub (Rep.there _ _ _ r1) a1 a z
      · exact a2 a z
/-! ### a call that changes an own slot -/
abbrev EvZ := Env → R ((List D × List D) × Env)
def ownAt (s : Slot) : R D := match s with
  | .own d => .ok d
  | _ => .no
def tIO (K : Frag) (E : XK) (p : Bool) (i k : Nat) (f : EvZ) : TA := fun σ H Q => ∃ env fs W, RepEnv K W H σ env fs ∧ match f env with
  | .no => False
  | .ex c => ExP K E c H fs
  | .ok (d, env') => ∀ w v1 v2 H' fs' g1 g2, σ[i]? = some (some w) → Step K W p H env fs H' σ env' fs' → RepL K H' v1 d.1 g1 → RepL K H' v2 d.2 g2 → (∀ a ∈ g1 ++ g2, ∀ i, a ∉ fs' i) → v1.length = k → Q (v1 ++ w :: v2) H'
def DIO (X : Cx) (E : XK) (p : Bool) (i k : Nat) (es : List Expr) (f : EvZ) : Prop := PA X es (tIO X.K E p i k f)
def zHere (i : Nat) (g : EvA) : EvZ := fun env => (ownAt (env.at i)).bind fun _ => (g env).bind fun y => .ok (([], y.1), y.2)
def zCons (f : Ev) (g : EvZ) : EvZ := fun env => (f env).bind fun x => (g x.2).bind fun y => .ok ((x.1 :: y.1.1, y.1.2), y.2)
theorem RepEnv.valAt {K : Frag} {W : Addr → Prop} {H : Hp} {σ : L2.St} {env : Env} {fs : Fs} {i : Nat} {d : D} (he : RepEnv K W H σ env fs) (h : ownAt (env.at i) = .ok d) : env.at i = .own d ∧ i < env.length ∧ ∃ w, σ[i]? = some (some w) ∧ Rep K H w d (fs i) := by
  have q := he.slot i
  unfold ownAt at h
  split at h
  · rename_i d' e
    cases h
    rw [e] at q
    exact ⟨e, at_len e (fun z => nomatch z), q⟩
  · cases h
theorem ownAt_ex {s : Slot} {c : Exc} : ownAt s ≠ .ex c := by
  unfold ownAt
  split
  · exact fun z => nomatch z
  · exact fun z => nomatch z
theorem dio_here {i : Nat} {y : Str} {es : List Expr} {g : EvA} {py : Pos} (hs : DZA X E p es g) (hN : X.N[i]? = some y := by rfl) (hv : Vis X.env.scope y := by first | exact .inl rfl | exact .inr (.inl rfl) | exact .inr (.inr rfl)) (hd : (y == ("__debug__" : Str)) = false := by decide) (hcd : (y == ("__classdict__" : Str)) = false := by decide)
    (hq : starEach (.Name y py :: es) X.env = (false, eval (.Name y py) X.env) :: starEach es X.env := by rfl) : DIO X E p i 0 (.Name y py :: es) (zHere i g) := by
  refine PA.mono (pa_cons (pe_var hN hv hd hcd) hs hq) fun σ H Q ⟨env, fs, W, he, h⟩ => ?_
  unfold zHere at h
  cases e0 : ownAt (env.at i) with
  | no => rw [e0] at h; exact h.elim
  | ex c => exact absurd e0 ownAt_ex
  | ok d =>
    rw [e0] at h
    simp only [R.bind] at h
    obtain ⟨_, _, w, ew, _⟩ := he.valAt e0
    refine ⟨w, ew, env, fs, W, he, ?_⟩
    cases e1 : g env with
    | no => rw [e1] at h; exact h
    | ex c => rw [e1] at h; exact h
    | ok x =>
      rw [e1] at h
      exact fun vs H1 fs1 gg S r a => h w [] vs H1 fs1 [] gg ew S .nil r (by simpa using a) rfl
theorem dio_cons {i j : Nat} {e : Expr} {es : List Expr} {f : Ev} {g : EvZ} (he : DZ X E p1 e f) (hs : DIO X E p2 i j es g) (hq : starEach (e :: es) X.env = (false, eval e X.env) :: starEach es X.env := by rfl) : DIO X E (p1 && p2) i (j + 1) (e :: es) (zCons f g) := by
  refine PA.mono (pa_cons he hs hq) fun σ H Q ⟨env, fs, W, hr, h⟩ => ⟨env, fs, W, hr, ?_⟩
  unfold zCons at h
  cases e1 : f env with
  | no => rw [e1] at h; exact h
  | ex c => rw [e1] at h; exact h
  | ok x =>
    obtain ⟨d1, env1⟩ := x
    rw [e1] at h
    intro v1 H1 fs1 g1 S1 r1 a1
    refine ⟨env1, fs1, W, S1.renv, ?_⟩
    cases e2 : g env1 with
    | no => simp only [R.bind, e2] at h
    | ex c => simp only [R.bind, e2] at h; exact ExP.before h S1
    | ok y =>
      obtain ⟨ds, env2⟩ := y
      simp only [R.bind, e2] at h
      intro w va vb H2 fs2 ga gb ew S2 ra rb ab hl
      refine h w (v1 :: va) vb H2 fs2 (g1 ++ ga) gb ew (S1.trans S2) (.cons (Rep.ext S1.renv S2.ext r1 a1) ra) rb (fun a ha => ?_) (by simp [hl])
      rcases List.mem_append.mp ha with z | z
      · rcases List.mem_append.mp z with z | z
        · exact apart_ext S2.ext S2.sub (Rep.there _ _ _ r1) a1 a z
        · exact ab a (List.mem_append_left _ z)
      · exact ab a (List.mem_append_right _ z)
def eFnIO (n i : Nat) (den : Den) (g : EvZ) : Ev := fun env => (g env).bind fun x => (ownAt (x.2.at i)).bind fun u => if (x.1.1 ++ u :: x.1.2).length = n then (den (x.1.1 ++ u :: x.1.2)).bind fun r => .ok (r.1, x.2.set i (.own r.2)) else .no
/-- the slots, one of them left out, where something else has changed -/
theorem RepEnv.away {K : Frag} {W : Addr → Prop} {H H' : Hp} {σ : L2.St} {env : Env} {fs fc : Fs} (he : RepEnv K W H σ env fs) (x : Ext H H' fc) (pl : ∀ i, ∀ a ∈ fc i, Pl H a) (ap : ∀ i, ∀ a ∈ fc i, (∀ j, a ∉ fs j) ∧ ¬ W a) : RepEnv K W H' σ env fs := by
  have stay : ∀ {v : V} {d : D} {g : List Addr}, Rep K H v d g → (∀ a ∈ g, ∀ i, a ∉ fc i) → Rep K H' v d g := fun r n =>
    Rep.stay (M := fun a => ∃ i, a ∈ fc i) (fun a ⟨i, ha⟩ => pl i a ha) (fun b o e nb => x b o e fun i hi => nb ⟨i, hi⟩) _ _ _ r fun a ha ⟨i, hi⟩ => n a ha i hi
  refine ⟨fun j => ?_, he.disj, he.nd, fun j a ha => ?_, he.off, fun a ha => ?_⟩
  · have q := he.slot j
    cases e : env.at j with
    | dead => rw [e] at q; exact q
    | own d =>
      rw [e] at q
      obtain ⟨v, e1, r⟩ := q
      exact ⟨v, e1, stay r fun a ha i hi => (ap i a hi).1 j ha⟩
    | view d =>
      rw [e] at q
      obtain ⟨z, v, g, e1, r, n⟩ := q
      exact ⟨z, v, g, e1, stay r fun a ha i hi => (ap i a hi).2 (n a ha), n⟩
  · obtain ⟨o, e, m⟩ := he.pl j a ha
    exact ⟨o, x a o e fun i hi => (ap i a hi).1 j ha, m⟩
  · obtain ⟨o, e⟩ := he.wt a ha
    exact ⟨o, x a o e fun i hi => (ap i a hi).2 ha⟩
theorem mid_get {α : Type} {a b : List α} {x : α} {j : Nat} : (a ++ x :: b)[j]? = if j < a.length then a[j]? else if j = a.length then some x else b[j - a.length - 1]? := by
  by_cases h : j < a.length
  · rw [if_pos h, List.getElem?_append_left h]
  · rw [if_neg h, List.getElem?_append_right (Nat.le_of_not_lt h)]
    by_cases e : j = a.length
    · rw [if_pos e, e]; simp
    · rw [if_neg e]
      have : j - a.length = (j - a.length - 1) + 1 := by omega
      rw [this, List.getElem?_cons_succ]
      simp
theorem RepEnv.argsIO {K : Frag} {H : Hp} {v1 v2 : List V} {w : V} {d1 d2 : List D} {u : D} {g1 g2 fi : List Addr} {k : Nat} (r1 : RepL K H v1 d1 g1) (r2 : RepL K H v2 d2 g2) (r : Rep K H w u fi) (hk : v1.length = k) (nd : fi.Nodup) (pl : ∀ a ∈ fi, Pl H a) (ap : ∀ a ∈ g1 ++ g2, a ∉ fi) :
    RepEnv K (fun a => a ∈ g1 ++ g2) H ((v1 ++ w :: v2).map some) (argEnv (some k) (d1 ++ u :: d2)) (fun j => if j = k then fi else []) where
  slot := fun j => by
    have l1 := RepL.length r1
    cases h : (d1 ++ u :: d2)[j]? with
    | none =>
      rw [env_none h]
      show (if j = k then fi else []) = []
      rw [if_neg fun e => ?_]
      rw [e, mid_get, ← l1, hk, if_neg (Nat.lt_irrefl _), if_pos rfl] at h
      cases h
    | some d =>
      have ea : Env.at (argEnv (some k) (d1 ++ u :: d2)) j = if some k = some j then Slot.own d else .view d := by
        rw [at_eq, argEnv_get, h]
        rfl
      rw [ea]
      by_cases e : j = k
      · subst e
        rw [if_pos rfl]
        rw [mid_get, ← l1, hk, if_neg (Nat.lt_irrefl _), if_pos rfl] at h
        cases h
        refine ⟨w, ?_, ?_⟩
        · rw [List.getElem?_map, mid_get, hk, if_neg (Nat.lt_irrefl _), if_pos rfl]
          rfl
        · show Rep K H w u (if j = j then fi else [])
          rw [if_pos rfl]; exact r
      · rw [if_neg fun z => e (Option.some.inj z).symm]
        refine ⟨if_neg e, ?_⟩
        rw [mid_get, ← l1, hk] at h
        by_cases c : j < k
        · rw [if_pos c] at h
          obtain ⟨v, gi, e1, rr, s, _⟩ := RepL.get r1 h
          refine ⟨v, gi, ?_, rr, fun a ha => List.mem_append_left _ (s a ha)⟩
          rw [List.getElem?_map, mid_get, hk, if_pos c, e1]
          rfl
        · rw [if_neg c, if_neg e] at h
          obtain ⟨v, gi, e1, rr, s, _⟩ := RepL.get r2 h
          refine ⟨v, gi, ?_, rr, fun a ha => List.mem_append_right _ (s a ha)⟩
          rw [List.getElem?_map, mid_get, hk, if_neg c, if_neg e, e1]
          rfl
  disj := fun i j a hi hj => by
    by_cases e : i = k
    · by_cases e2 : j = k
      · rw [e, e2]
      · rw [if_neg e2] at hj; cases hj
    · rw [if_neg e] at hi; cases hi
  nd := fun j => by
    by_cases e : j = k
    · rw [if_pos e]; exact nd
    · rw [if_neg e]; exact .nil
  pl := fun j a ha => by
    by_cases e : j = k
    · rw [if_pos e] at ha; exact pl a ha
    · rw [if_neg e] at ha; cases ha
  off := fun j a ha z => by
    by_cases e : j = k
    · rw [if_pos e] at ha; exact ap a z ha
    · rw [if_neg e] at ha; cases ha
  wt := fun a ha => (List.mem_append.mp ha).elim (RepL.there _ _ _ r1 a) (RepL.there _ _ _ r2 a)
theorem de_fnIO {i kk : Nat} {den : Den} {g : EvZ} {q pos : Pos} (F : FnG X.prog X.w X.K X.mg X.base CX k f fd ps (spD X.K n (some kk) den)) (room : Room k X.A) (gd : X.A.guards = some []) (hm : X.mg x = some (.ref f)) (kp : PySem.W.keepIn X.K (.ref f) = true) (bi : Binds X.K fd ps []) (pa : Passes CX X E)
    (ha : DIO X E p i kk (e :: es) g) (hg : Gl X x := by rfl) (nd : (x == ("__debug__" : Str)) = false := by decide) (st : starEach (e :: es) X.env = (false, eval e X.env) :: starEach es X.env := by rfl) (pl : (backTo pos (starEach es X.env)).any (·.1) = false := by rfl) :
    DE X E false true (.Call (.Name x q) (e :: es) [] pos) (eFnIO n i den g) := by
  refine PE.mono (pe_fnG F room gd hg hm kp bi pa ha nd st pl) fun σ H Q ⟨env, fs, W, he, h⟩ => ⟨env, fs, W, he, ?_⟩
  unfold eFnIO at h
  cases e1 : g env with
  | no => rw [e1] at h; exact h
  | ex c => rw [e1] at h; exact h
  | ok y =>
    obtain ⟨⟨ds1, ds2⟩, env1⟩ := y
    rw [e1] at h
    simp only [R.bind] at h
    intro w v1 v2 H1 fs1 g1 g2 ew S r1 r2 ap hk
    cases e0 : ownAt (env1.at i) with
    | no => rw [e0] at h; exact h.elim
    | ex c => exact absurd e0 ownAt_ex
    | ok u =>
      rw [e0] at h
      simp only at h
      by_cases nds : (ds1 ++ u :: ds2).length = n
      case neg => rw [if_neg nds] at h; exact h.elim
      rw [if_pos nds] at h
      obtain ⟨ei, hi, w', ew', r⟩ := S.renv.valAt e0
      rw [ew] at ew'
      cases ew'
      have l1 := RepL.length r1
      have l2 := RepL.length r2
      have sub1 : ∀ j, ∀ a ∈ (fun j => if j = kk then fs1 i else []) j, a ∈ fs1 i := fun j a ha => by
        by_cases c : j = kk
        · simp only [c, if_true] at ha; exact ha
        · simp only [c, if_false] at ha; cases ha
      have nvs : ((v1 ++ w :: v2) ++ []).length = n := by
        rw [List.append_nil, ← nds]
        simp [l1, l2]
      refine ⟨nvs, ds1 ++ u :: ds2, _, _, nds, by rw [List.append_nil]; exact RepEnv.argsIO r1 r2 r hk (S.renv.nd i) (S.renv.pl i) fun a ha z => ap a ha i z, ?_⟩
      cases e2 : den (ds1 ++ u :: ds2) with
      | no => rw [e2] at h; exact h.elim
      | ex c =>
        rw [e2] at h
        exact fun H' ad x n => ExP.before h S H' ad (fun b o eb nb => x b o eb fun j z => nb i (sub1 j b z)) n
      | ok rr =>
        obtain ⟨rd, u'⟩ := rr
        rw [e2] at h
        intro v H' g' gu z
        rw [List.append_nil] at z
        obtain ⟨xw, ex, ru⟩ := z.io
        have exw : xw = w := by
          rw [mid_get, hk, if_neg (Nat.lt_irrefl _), if_pos rfl] at ex
          exact (Option.some.inj ex).symm
        subst exw
        obtain ⟨n1, n2, n3⟩ := List.nodup_append.mp z.nd
        -- where the new objects stand
        have sub2 : ∀ a ∈ g' ++ gu, a ∈ fs1 i ∨ H1 a = none := fun a ha => by
          rcases z.sub a ha with ⟨j, hj⟩ | q
          · exact .inl (sub1 j a hj)
          · exact .inr q
        have hd : RepEnv X.K W H' σ (env1.set i .dead) (fput fs1 i []) := by
          have k1 := S.renv.lay (s := .dead) (σ' := σ) hi (fun _ _ => rfl) (if_pos rfl)
          refine k1.away z.ext (fun j a ha => S.renv.pl i a (sub1 j a ha)) fun j a ha => ⟨fun l hl => ?_, S.renv.off i a (sub1 j a ha)⟩
          have hl' := fput_sub l a hl
          have := S.renv.disj l i a hl' (sub1 j a ha)
          subst this
          unfold fput at hl
          rw [if_pos rfl] at hl
          cases hl
        have apart : ∀ a ∈ g' ++ gu, ∀ j, a ∉ fput fs1 i [] j := fun a ha j hj => by
          have hj' := fput_sub j a hj
          rcases sub2 a ha with y | y
          · have := S.renv.disj j i a hj' y
            subst this
            unfold fput at hj
            rw [if_pos rfl] at hj
            cases hj
          · obtain ⟨o, eo, _⟩ := S.renv.pl j a hj'
            rw [y] at eo; cases eo
        have nW : ∀ a ∈ g' ++ gu, ¬ W a := fun a ha hw => by
          rcases sub2 a ha with y | y
          · exact S.renv.off i a y hw
          · obtain ⟨o, eo⟩ := S.renv.wt a hw
            rw [y] at eo; cases eo
        have mg' : ∀ {a}, a ∈ g' → a ∈ g' ++ gu := fun z => List.mem_append_left _ z
        have mgu : ∀ {a}, a ∈ gu → a ∈ g' ++ gu := fun z => List.mem_append_right _ z
        have σi : σ.set i (some xw) = σ := by
          refine List.ext_getElem? fun j => ?_
          by_cases c : i = j
          · subst c
            rw [List.getElem?_set_self (List.getElem?_eq_some_iff.mp ew).1, ew]
          · rw [List.getElem?_set_ne c]
        have hp : RepEnv X.K W H' σ (env1.set i (.own u')) (fput (fput fs1 i []) i gu) := by
          have := hd.put (i := i) (by simpa using hi) (List.getElem?_eq_some_iff.mp ew).1 ru n2 (fun a ha => apart a (mgu ha)) (fun a ha => z.pl a (mgu ha)) fun a ha => nW a (mgu ha)
          rw [List.set_set, σi] at this
          exact this
        have sub3 : ∀ a ∈ g' ++ gu, (∃ j, a ∈ fs1 j) ∨ H1 a = none := fun a ha => (sub2 a ha).imp (fun y => ⟨i, y⟩) id
        refine h v H' (fput (fput fs1 i []) i gu) g' ⟨⟨S.ext.trans S.sub fun b o eb nb => z.ext b o eb fun j y => nb i (sub1 j b y), hp, fun j a ha => ?_, fun z => (nomatch z), fun j d e => ?_⟩, z.rep, fun _ => ⟨n1, fun a ha j hj => ?_, fun a ha => z.pl a (mg' ha), Sub.trans S.ext S.sub fun a ha => sub3 a (mg' ha)⟩⟩
        · refine Sub.trans S.ext S.sub ?_ a ha
          intro b hb
          unfold fput at hb
          by_cases c : j = i
          · rw [if_pos c] at hb; exact sub3 b (mgu hb)
          · rw [if_neg c, if_neg c] at hb; exact .inl ⟨j, hb⟩
        · rw [at_set hi] at e
          by_cases c : j = i
          · rw [if_pos c] at e; cases e
          · rw [if_neg c] at e; exact S.vw j d e
        · by_cases c : j = i
          · unfold fput at hj
            rw [if_pos c] at hj
            exact n3 a ha a hj rfl
          · have : a ∈ fput fs1 i [] j := by
              unfold fput at hj ⊢
              rw [if_neg c] at hj
              exact hj
            exact apart a (mg' ha) j this
end
end DV
end
section
set_option Elab.async false
set_option linter.all false
set_option maxRecDepth 100000
namespace DV
open PySem PySem.Spec PyProof.Rows L2
section
variable {X : Cx}
/-! ### repr -/
def reprD : List D → Option D
  | [d] => if d.plain = true ∧ d.showable = true ∧ d.hasDict = false ∧ d.depth ≤ 60 ∧ d.shown.length ≤ 16000000 then some (.str d.shown) else none
  | _ => none
theorem cr_reprV (hu : X.A.units + 64 < cLine) (gd : X.A.guards = some []) : CallR X (.builtin "repr") (rDn X.K reprD) := by
  rintro pins s σ H xs us Q I r ⟨ds, g, r', rep, hF, q⟩
  unfold reprD at hF
  split at hF
  · rename_i d
    split at hF
    · rename_i c
      obtain ⟨pl, sh, nd, dp, lg⟩ := c
      cases hF
      cases rep with
      | cons r1 r2 =>
        cases r2
        cases r with
        | cons rv rr =>
          cases rr
          rename_i v g1 u
          have fin : ∀ t tk, EP X pins σ Q (.str d.shown t) { s with toks := tk } := fun t tk => ⟨.str d.shown, H, I.tok _, ⟨_, rfl⟩, q _ _ _ (.scal (.str _))⟩
          obtain ⟨as, rd⟩ := rep_reads I r1 pl rv
          have lg' : d.shown.length ≤ sizeLine := in_line lg
          cases r1 with
          | non => cases rv; exact P.repr_of_none (fin _ _)
          | bl b => cases rv; exact P.repr_of_bool (fin _ _)
          | int i =>
            obtain ⟨t, rfl⟩ := rv
            exact P.repr_of_int (by simpa [PyData.showable] using sh) (fin _ _)
          | str z =>
            obtain ⟨t, rfl⟩ := rv
            exact P.repr_of_str (fin _ _) lg'
          | tup h l =>
            cases rv
            exact repr_of_reads' rd sh (PyData.noDict_hsm nd) gd (by omega) (fun _ _ e => e) (fun h' t tk hk => ⟨.str _, H, I.kept (t' := tk) hk, ⟨_, rfl⟩, q _ _ _ (.scal (.str _))⟩) lg'
          | lst h l =>
            cases rv
            exact repr_of_reads' rd sh (PyData.noDict_hsm nd) gd (by omega) (fun _ _ e => e) (fun h' t tk hk => ⟨.str _, H, I.kept (t' := tk) hk, ⟨_, rfl⟩, q _ _ _ (.scal (.str _))⟩) lg'
          | dK h l => simp [PyData.hasDict] at nd
          | dT h l => simp [PyData.hasDict] at nd
    · cases hF
  · cases hF
end
/-! ### the end: the law's own call -/
/-- the law at its caller -/
theorem lawCallG {P : Program} {w : World} {K : Frag} {mg mb : Str → Option Value} {CX : CXT} {k : Nat} {fa a : Addr} {fd : FuncData} {x : Str} {sp : Sp} {s₁ : Shared} {vs : List Value} {ns : List Int}
    (inK : K.In s₁.heap) (nsM : s₁.heap.Ns mainGlobals mg) (nsB : s₁.heap.Ns builtinsNs mb) (boot : ∀ x : Str, x ≠ "__name__" → mb x = bootBuiltins x) (lim : s₁.heap.NoLimit) (noG : s₁.gens = #[])
    (obj : s₁.heap.get? a = some { cls := .type "list", data := .seq vs.toArray }) (nums : IntsAre vs ns) (few : ns.length ≤ sizeLine) (room : Room k callerA)
    (F : ∀ base : Heap, K.In base → base.Ns mainGlobals mg → FnG P w K mg base CX k fa fd [x] sp) (bound : ∀ (s : Shared) (u : Value), BindsTo s fd ⟨[u], []⟩ [(x, u)])
    (pr : ∀ H : Hp, Only H → SqL K H a (ns.map V.int) → sp [.ref a] H (fun v _ => v = .bl true) fun _ _ _ => False) (noX : ∀ H e s', CX [] H s₁ (fun _ _ _ => False) e s' → False) :
    codeAny (model P w) callerA (.call (.ref fa) ⟨[.ref a], []⟩) (fun r s' => r = .ok (.ret (.bool true)) ∧ OldK s₁.heap s'.heap ∧ s'.os = s₁.os ∧ AllBare s'.gens) s₁ := by
  have rel := vals_ints nums; have nv := nums.length; have nil : ∀ {b : Addr}, b ∉ ([] : List Addr) := fun {b} z => nomatch z
  -- over any heap that tracks at most the script, frozen
  have main : ∀ H : Hp, Only H → SqL K H a (ns.map V.int) → HOk P w H s₁.heap → (∀ b, H b ≠ none → b = a) → (H a ≠ none → K.lookup a = none) → codeAny (model P w) callerA (.call (.ref fa) ⟨[.ref a], []⟩) (fun r s' => r = .ok (.ret (.bool true)) ∧ OldK s₁.heap s'.heap ∧ s'.os = s₁.os ∧ AllBare s'.gens) s₁ := by
    intro H only seq hok just own
    have dictFree : ∀ {b : Addr} {o : Obj} {es : Array DictEntry} {ep : Nat}, s₁.heap.get? b = some o → o.data = .dict es ep → H b = none := fun {b o es ep} e d => Classical.byContradiction fun z => (by
      have eb := just b z; rw [eb, obj] at e; cases e; cases d)
    have keepNs : ∀ {b : Addr} {m : Str → Option Value}, s₁.heap.Ns b m → (hidT s₁.heap H).Ns b m := fun {b m} ⟨o, es, ep, e, d, r⟩ => ⟨o, es, ep, hidT_get e (dictFree e d), d, r⟩
    have inK' : K.In (hidT s₁.heap H) := fun b o e => hidT_get (inK b o e) (Classical.byContradiction fun z => (by
      have eb := just b z; rw [eb] at e z; rw [own z] at e; cases e))
    have modl : Mod K mg (hidT s₁.heap H) := ⟨inK', keepNs nsM, ⟨mb, keepNs nsB, boot⟩, lim.imp fun mc h => ⟨keepNs h.1, h.2⟩⟩
    have start : Env0 P w K mg (hidT s₁.heap H) callerA [] s₁ H := ⟨rfl, modl, fun b o e => of_hidT e, Nat.le_of_eq (hidT_size _ _), trivial, fun b hb => (nil hb).elim, hok, .of_eq noG⟩
    refine codeAny_mono ((F _ inK' (keepNs nsM)).goes callerA [] s₁ H ⟨[.ref a], []⟩ [.ref a] [.ref a] _ _ room rfl start (bound s₁ (.ref a)) (.cons rfl .nil) (pr H only seq)) fun r s' z => ?_
    match r, z with
    | .error e, z => exact (noX H e s' z).elim
    | .ok (.ret u), z =>
      obtain ⟨v, H', os, bare, un, hok', ru, qv⟩ := z
      have qv : v = .bl true := qv
      subst qv
      obtain rfl : u = Value.bool true := ru
      refine ⟨rfl, OldK.of_keep fun b o e => ?_, os, bare⟩
      rcases only b with hb | ⟨ob, xs, hb⟩
      · exact un.keep b o e hb nil nil
      · obtain ⟨e1, _⟩ := hok b _ hb; obtain ⟨e2, _⟩ := hok' b _ (un.frzs b ob _ hb)
        rw [e] at e1; cases e1; exact e2
  cases hk : K.lookup a with
  | some o =>
    have eo := inK a o hk; rw [obj] at eo; cases eo
    refine main (fun _ => none) (fun _ => .inl rfl) (.inr ⟨_, vs.toArray, _, hk, rfl, rfl, rfl, by rw [List.size_toArray, nv]; exact few, by simpa using rel⟩) (fun b u z => (nomatch z)) (fun b z => absurd rfl z) fun z => absurd rfl z
  | none =>
    let H0 : Hp := fun b => if b = a then some (.frz { cls := .type "list", data := .seq vs.toArray } (.lst (ns.map V.int))) else none
    have at0 : H0 a = some (.frz { cls := .type "list", data := .seq vs.toArray } (.lst (ns.map V.int))) := if_pos rfl
    have off0 : ∀ b, b ≠ a → H0 b = none := fun b hb => if_neg hb
    have just0 : ∀ b, H0 b ≠ none → b = a := fun b z => Classical.byContradiction fun y => z (off0 b y)
    refine main H0 (fun b => ?_) (.inl (.inr ⟨_, at0⟩)) (fun b u z => ?_) just0 fun _ => hk
    · by_cases hb : b = a
      · subst hb; exact .inr ⟨_, _, at0⟩
      · exact .inl (off0 b hb)
    · have hb := just0 b (by rw [z]; simp)
      subst hb
      rw [at0] at z
      cases z
      exact ⟨obj, by rw [List.length_map]; exact few, vs, _, rel, obj⟩
/-- the law, over a head by facts -/
theorem walkG {l : PySem.W.OpenLaw} {n k : Nat} {q : Program} {loose : List Str} {XP : (Str → Option Value) → Heap → Prop} {YP : World → Heap → Prop} {d : DefRec} {CX : CXT} {x : Str}
    (most : l.most = some n) (fits : n ≤ sizeLine) (plain : d.params.defaults = []) (room : Room k callerA)
    (F : ∀ (w : World) (mg : Str → Option Value) (fa : Addr) (h : Heap), YP w h → h.Ns mainGlobals mg → mg d.name = some (.ref fa) →
      ∃ (K : Frag) (fd : FuncData) (sp : Sp), K.In h ∧ (∀ (s : Shared) (u : Value), BindsTo s fd ⟨[u], []⟩ [(x, u)]) ∧
        (∀ (H : Hp) (a : Addr) (ns : List Int), ns.length ≤ n → Only H → SqL K H a (ns.map V.int) → sp [.ref a] H (fun v _ => v = .bl true) fun _ _ _ => False) ∧
        ∀ base : Heap, K.In base → base.Ns mainGlobals mg → FnG l.prog w K mg base CX k fa fd [x] sp)
    (noX : ∀ (H : Hp) (s : Shared) (e : Value) (s' : Shared), CX [] H s (fun _ _ _ => False) e s' → False) : PySem.W.WalkO q loose XP YP l.row.toRowW d [] (fun f vs => PySem.call f vs) := by
  refine Att.attach_call most plain fun w s₀ s₁ mg mb fa o pm cd doc a vs ns G Y ho hd hcd hmg obj nums few noG => ?_
  obtain ⟨K, fd, sp, inK, bound, pr, all⟩ := F w mg fa _ Y G.T.g hmg
  exact lawCallG inK G.T.g G.T.b G.T.builtins G.T.nolimit noG obj nums (Nat.le_trans few fits) room all bound (fun H only seq => pr H a ns few only seq) fun H e s' => noX H s₁ e s'
end DV
end
section
set_option Elab.async false
set_option linter.all false
set_option maxRecDepth 100000
namespace DV
open PySem PySem.Spec
/-! ### reckoning with what is computed -/
section
variable {α β γ : Type}
@[simp] theorem bind_ok {a : α} {f : α → R β} : (R.ok a).bind f = f a := (rfl)
@[simp] theorem bind_no {f : α → R β} : (R.no : R α).bind f = .no := (rfl)
@[simp] theorem bind_ex {c : Exc} {f : α → R β} : (R.ex c : R α).bind f = .ex c := (rfl)
@[simp] theorem of_some {a : α} : R.of (some a) = .ok a := (rfl)
@[simp] theorem of_none : R.of (none : Option α) = .no := (rfl)
@[simp] theorem noEx_ok {a : α} : noEx (R.ok a) = .ok a := (rfl)
@[simp] theorem noEx_no : noEx (R.no : R α) = .no := (rfl)
@[simp] theorem at_zero {s : Slot} {e : Env} : Env.at (s :: e) 0 = s := (rfl)
@[simp] theorem at_succ {s : Slot} {e : Env} {n : Nat} : Env.at (s :: e) (n + 1) = Env.at e n := (rfl)
@[simp] theorem at_nil {n : Nat} : Env.at [] n = .dead := (rfl)
@[simp] theorem get_own {d : D} : Slot.get (.own d) = .ok d := (rfl)
@[simp] theorem get_view {d : D} : Slot.get (.view d) = .ok d := (rfl)
@[simp] theorem get_dead : Slot.get .dead = .no := (rfl)
@[simp] theorem lst_own {ds : List D} : Slot.lst (.own (.list ds)) = .ok ds := (rfl)
@[simp] theorem ownAt_own {d : D} : ownAt (.own d) = .ok d := (rfl)
@[simp] theorem ioVal_none {e : Env} : ioVal none e = .ok .none := (rfl)
theorem ioVal_some {e : Env} {k : Nat} {d : D} (h : e.at k = .own d) : ioVal (some k) e = .ok d := by
  unfold ioVal
  simp only [h]
@[simp] theorem kill_nil {e : Env} : killS [] e = e := (rfl)
@[simp] theorem kill_cons {v : Nat} {vs : List Nat} {e : Env} : killS (v :: vs) e = killS vs (e.set v .dead) := (rfl)
@[simp] theorem back_nil {o e : Env} : backS [] o e = e := (rfl)
@[simp] theorem back_cons {v : Nat} {vs : List Nat} {o e : Env} : backS (v :: vs) o e = backS vs o (e.set v (o.at v)) := (rfl)
end
theorem int_beq (i j : Int) : (i == j) = decide (i = j) := by
  by_cases h : i = j <;> simp [h]
theorem le_not (i j : Int) : (!decide (j < i)) = decide (i ≤ j) := by
  by_cases h : i ≤ j
  · simp [h, Int.not_lt.mpr h]
  · simp [h, Int.not_le.mp h]
section
variable {i j : Int} {a b : Bool} {s t : Str} {d e : D} {xs ys : List D} {env : Env}
@[simp] theorem addD_int : addD (.int i) (.int j) = some (.int (i + j)) := (rfl)
@[simp] theorem subD_int : subD (.int i) (.int j) = some (.int (i - j)) := (rfl)
theorem mulD_l (h1 : -(2 ^ 64) < i) (h2 : i < 2 ^ 64) : mulD (.int i) (.int j) = some (.int (i * j)) := if_pos (.inl ⟨h1, h2⟩)
theorem mulD_r (h1 : -(2 ^ 64) < j) (h2 : j < 2 ^ 64) : mulD (.int i) (.int j) = some (.int (i * j)) := if_pos (.inr ⟨h1, h2⟩)
theorem fdivD_int (h1 : 0 < j) (h2 : j < 1073741824) : fdivD (.int i) (.int j) = some (.int (i / j)) := if_pos ⟨h1, h2⟩
@[simp] theorem negD_int : negD (.int i) = some (.int (-i)) := (rfl)
theorem modD_int (h : 0 < j) : modD (.int i) (.int j) = some (.int (i % j)) := if_pos h
@[simp] theorem intD_int : intD [.int i] = some (.int i) := (rfl)
@[simp] theorem augAdd_int : augAdd (.int i) (.int j) = some (.int (i + j)) := (rfl)
@[simp] theorem eqD_int : eqD (.int i) (.int j) = some (.bool (decide (i = j))) := by
  simp [eqD, PyData.plain, PyData.depth, PyData.eqv, int_beq]
@[simp] theorem neD_int : neD (.int i) (.int j) = some (.bool (decide (i ≠ j))) := by
  simp [neD, PyData.plain, PyData.depth, PyData.eqv, int_beq]
@[simp] theorem ltD_int : ltD (.int i) (.int j) = some (.bool (decide (i < j))) := by
  simp [ltD, cmpD, PyData.plain, PyData.depth, PySem.W.alike, PySem.W.dataLt_int, notNone]
@[simp] theorem gtD_int : gtD (.int i) (.int j) = some (.bool (decide (j < i))) := by
  simp [gtD, cmpD, PyData.plain, PyData.depth, PySem.W.alike, PySem.W.dataLt_int, notNone]
@[simp] theorem leD_int : leD (.int i) (.int j) = some (.bool (decide (i ≤ j))) := by
  simp [leD, cmpD, PyData.plain, PyData.depth, PySem.W.alike, PySem.W.dataLt_int, notNone, -Bool.not_eq_eq_eq_not]
  exact le_not _ _
@[simp] theorem geD_int : geD (.int i) (.int j) = some (.bool (decide (j ≤ i))) := by
  simp [geD, cmpD, PyData.plain, PyData.depth, PySem.W.alike, PySem.W.dataLt_int, notNone, -Bool.not_eq_eq_eq_not]
  exact le_not _ _
@[simp] theorem boolOf_bool : boolOf (some (.bool a)) = some a := (rfl)
@[simp] theorem truth_bool : truthD (.bool a) = some a := (rfl)
@[simp] theorem truth_int : truthD (.int i) = some (i != 0) := (rfl)
@[simp] theorem truth_none : truthD .none = some false := (rfl)
@[simp] theorem truth_list : truthD (.list xs) = some !xs.isEmpty := (rfl)
@[simp] theorem truth_tuple : truthD (.tuple xs) = some !xs.isEmpty := (rfl)
@[simp] theorem isn_none : isnD .none .none = some (.bool true) := (rfl)
@[simp] theorem isn_int : isnD (.int i) .none = some (.bool false) := (rfl)
@[simp] theorem isn_tuple : isnD (.tuple xs) .none = some (.bool false) := (rfl)
@[simp] theorem notn_none : notnD .none .none = some (.bool false) := (rfl)
@[simp] theorem notn_int : notnD (.int i) .none = some (.bool true) := (rfl)
@[simp] theorem notn_tuple : notnD (.tuple xs) .none = some (.bool true) := (rfl)
@[simp] theorem lenD_list : lenD [.list xs] = some (.int xs.length) := (rfl)
@[simp] theorem lenD_tuple : lenD [.tuple xs] = some (.int xs.length) := (rfl)
@[simp] theorem absD_int : absD [.int i] = some (.int (if i < 0 then -i else i)) := (rfl)
@[simp] theorem revD_list : revD (.list xs) = if immL xs = true then some (.list xs.reverse) else none := (rfl)
@[simp] theorem revD_tuple : revD (.tuple xs) = if immL xs = true then some (.tuple xs.reverse) else none := (rfl)
@[simp] theorem imm_int : imm (.int i) = true := (rfl)
@[simp] theorem imm_none : imm .none = true := (rfl)
@[simp] theorem imm_bool : imm (.bool a) = true := (rfl)
@[simp] theorem imm_str : imm (.str s) = true := (rfl)
@[simp] theorem imm_tuple : imm (.tuple xs) = immL xs := by simp [imm]
@[simp] theorem immL_nil : immL [] = true := (rfl)
@[simp] theorem immL_cons : immL (d :: xs) = (imm d && immL xs) := by simp [immL]
theorem immL_all : immL xs = true ↔ ∀ d ∈ xs, imm d = true := by
  induction xs with
  | nil => simp
  | cons d xs ih => simp [ih]
theorem immL_map {α : Type} {f : α → D} {l : List α} (h : ∀ x ∈ l, imm (f x) = true) : immL (l.map f) = true := immL_all.mpr fun d hd => by
  obtain ⟨x, hx, rfl⟩ := List.mem_map.mp hd
  exact h x hx
@[simp] theorem immL_ints {l : List Int} : immL (l.map PyData.int) = true := immL_map fun _ _ => rfl
@[simp] theorem int_Int : PyData.isInt (.int i) = true := (rfl)
@[simp] theorem int_Bool : PyData.isBool (.int i) = false := (rfl)
@[simp] theorem tuple_Tuple : PyData.isTuple (.tuple xs) = true := (rfl)
@[simp] theorem plain_int : PyData.plain (.int i) = true := by simp [PyData.plain]
theorem tupleD_list (h : immL xs = true) : tupleD [.list xs] = some (.tuple xs) := if_pos h
theorem tupleD_tuple (h : immL xs = true) : tupleD [.tuple xs] = some (.tuple xs) := if_pos h
theorem atI_nat {α : Type} {l : List α} {k : Nat} : L2.atI l (k : Int) = l[k]? := by
  unfold L2.atI L2.ixN
  by_cases h : k < l.length
  · simp [h]
  · simp [h]
theorem ixD_list {k : Nat} : ixD (.list xs) (.int (k : Int)) = xs[k]? := atI_nat
theorem ixD_tuple {k : Nat} : ixD (.tuple xs) (.int (k : Int)) = xs[k]? := atI_nat
theorem ixN_nat {n k : Nat} (h : k < n) : L2.ixN n (k : Int) = some k := by
  unfold L2.ixN
  simp [h]
theorem setD_nat {k : Nat} (h : k < xs.length) : setD xs (.int (k : Int)) e = some (xs.set k e) := by
  show Option.map (fun j => xs.set j e) (L2.ixN xs.length (k : Int)) = _
  rw [ixN_nat h]
  rfl
theorem atI_last {α : Type} {l : List α} (h : l ≠ []) : L2.atI l (-1) = l.getLast? := by
  have hl : 0 < l.length := List.length_pos_iff.mpr h
  unfold L2.atI L2.ixN
  rw [if_neg (by decide), if_pos (by omega), List.getLast?_eq_getElem?]
  simp only [Option.bind_some]
  congr 1
  omega
theorem atI_zero {α : Type} {x : α} {l : List α} : L2.atI (x :: l) 0 = some x := by
  unfold L2.atI L2.ixN
  simp
end
end DV
end
section
set_option Elab.async false
set_option linter.all false
set_option maxRecDepth 100000
namespace DV
open PySem PySem.Spec PyProof.Rows L2
/-! ### slots held for reading only from now on -/
section
variable {X : Cx} {E : XK} {A : List Nat}
def frz1 (i : Nat) (env : Env) : Env := match env.at i with
  | .own d => env.set i (.view d)
  | _ => env
def frzS (is : List Nat) (env : Env) : Env := is.foldl (fun e i => frz1 i e) env
def sFrz (is : List Nat) (f : Sv) : Sv := fun env => f (frzS is env)
theorem RepEnv.frz1 {K : Frag} {W : Addr → Prop} {H : Hp} {σ : L2.St} {env : Env} {fs : Fs} (h : RepEnv K W H σ env fs) (i : Nat) : ∃ fs' W', RepEnv K W' H σ (DV.frz1 i env) fs' ∧ (∀ a, W a → W' a) ∧ ∀ j, ∀ a ∈ fs' j, a ∈ fs j := by
  unfold DV.frz1
  cases e : env.at i with
  | dead => exact ⟨fs, W, h, fun _ z => z, fun _ _ z => z⟩
  | view d => exact ⟨fs, W, h, fun _ z => z, fun _ _ z => z⟩
  | own d =>
    have q := h.slot i
    rw [e] at q
    obtain ⟨v, e1, r⟩ := q
    have hi := at_len e (fun z => nomatch z)
    have h1 := h.lay (s := .dead) (σ' := σ) hi (fun _ _ => rfl) (if_pos rfl)
    have ap : ∀ a ∈ fs i, ∀ j, a ∉ fput fs i [] j := fun a ha j hj => by
      have hj' := fput_sub j a hj
      have := h.disj j i a hj' ha
      subst this
      unfold fput at hj
      rw [if_pos rfl] at hj
      cases hj
    have h2 := h1.prot ap (Rep.there _ _ _ r)
    refine ⟨fput fs i [], fun a => W a ∨ a ∈ fs i, ?_, fun a z => .inl z, fput_sub⟩
    have h3 := h2.lay (i := i) (s := .view d) (σ' := σ) (by simpa using hi) (fun _ _ => rfl) ⟨if_pos rfl, v, fs i, e1, r, fun a ha => .inr ha⟩
    rw [List.set_set] at h3
    have ef : fput (fput fs i []) i [] = fput fs i [] := by
      funext j
      unfold fput
      by_cases c : j = i
      · rw [if_pos c, if_pos c]
      · rw [if_neg c, if_neg c]
    rwa [ef] at h3
theorem RepEnv.frz {K : Frag} {H : Hp} {σ : L2.St} : ∀ (is : List Nat) {W : Addr → Prop} {env : Env} {fs : Fs}, RepEnv K W H σ env fs → ∃ fs' W', RepEnv K W' H σ (frzS is env) fs' ∧ (∀ a, W a → W' a) ∧ ∀ j, ∀ a ∈ fs' j, a ∈ fs j
  | [], W, _, fs, h => ⟨fs, W, h, fun _ z => z, fun _ _ z => z⟩
  | i :: is, W, _, fs, h => by
    obtain ⟨fs1, W1, h1, w1, s1⟩ := h.frz1 i
    obtain ⟨fs2, W2, h2, w2, s2⟩ := RepEnv.frz is h1
    exact ⟨fs2, W2, h2, fun a z => w2 a (w1 a z), fun j a ha => s1 j a (s2 j a ha)⟩
theorem OutP.wider {K : Frag} {W W1 : Addr → Prop} {Dn : Ends} {σ : L2.St} {H : Hp} {fs : Fs} {r : R Out} (h : OutP K E W A Dn σ H fs r) (w : ∀ a, W a → W1 a) : OutP K E W1 A Dn σ H fs r := by
  cases r with
  | no => exact h
  | ex c => exact h
  | ok o =>
    cases o with
    | nx e => exact fun W' σ' H' fs' m => h W' σ' H' fs' ⟨m.ext, m.renv, fun a z => m.more a (w a z), m.sub, m.keep⟩
    | bk e => exact fun W' σ' H' fs' m => h W' σ' H' fs' ⟨m.ext, m.renv, fun a z => m.more a (w a z), m.sub, m.keep⟩
    | ct e => exact fun W' σ' H' fs' m => h W' σ' H' fs' ⟨m.ext, m.renv, fun a z => m.more a (w a z), m.sub, m.keep⟩
    | rt d e => exact fun W' v σ' H' fs' g m => h W' v σ' H' fs' g ⟨m.ext, m.renv, fun a z => m.more a (w a z), m.sub, m.keep⟩
theorem db_frz {sts : List Stmt} {f : Sv} {is : List Nat} (h : DB X E A sts f) : DB X E A sts (sFrz is f) := by
  refine DB.imp h fun D σ H env fs W he q => ?_
  obtain ⟨fs', W', h', w', s'⟩ := he.frz is
  exact tS_iff.mpr ⟨_, fs', W', h', OutP.wider (OutP.less q s') w'⟩
end
/-- an own slot's value, taken out of it -/
def eMove (i : Nat) : Ev := fun env => (ownAt (env.at i)).bind fun d => .ok (d, env.set i .dead)
@[simp] theorem eMove_is {i : Nat} {env : Env} : eMove i env = (ownAt (env.at i)).bind fun d => .ok (d, env.set i .dead) := (rfl)
@[simp] theorem sFrz_is {ls : List Nat} {s : Sv} {env : Env} : sFrz ls s env = s (frzS ls env) := (rfl)
@[simp] theorem frzS_nil {e : Env} : frzS [] e = e := (rfl)
@[simp] theorem frzS_cons {v : Nat} {vs : List Nat} {e : Env} : frzS (v :: vs) e = frzS vs (frz1 v e) := (rfl)
@[simp] theorem frz1_is {v : Nat} {e : Env} : frz1 v e = match e.at v with
  | .own d => e.set v (.view d)
  | _ => e := (rfl)
theorem de_move {X : Cx} {E : XK} {i : Nat} {x : Str} {pos : Pos} (hN : X.N[i]? = some x := by rfl) (hv : Vis X.env.scope x := by first | exact .inl rfl | exact .inr (.inl rfl) | exact .inr (.inr rfl)) (hd : (x == ("__debug__" : Str)) = false := by decide) (hcd : (x == ("__classdict__" : Str)) = false := by decide) :
    DE X E false true (.Name x pos) (eMove i) := by
  refine PE.mono (pe_var hN hv hd hcd) fun σ H Q ⟨env, fs, W, he, h⟩ => ?_
  unfold eMove at h
  cases e0 : ownAt (env.at i) with
  | no => rw [e0] at h; exact h.elim
  | ex c => exact absurd e0 ownAt_ex
  | ok d =>
    rw [e0] at h
    obtain ⟨e1, hi, w, ew, r⟩ := he.valAt e0
    refine ⟨w, ew, h w H (fput fs i []) (fs i) ⟨⟨Ext.refl, he.lay (s := .dead) (σ' := σ) hi (fun _ _ => rfl) (if_pos rfl), fun j a ha => .inl ⟨j, fput_sub j a ha⟩, fun z => (nomatch z), fun j d' e => ?_⟩, r, fun _ => ⟨he.nd i, fun a ha j hj => ?_, he.pl i, fun a ha => .inl ⟨i, ha⟩⟩⟩⟩
    · rw [at_set hi] at e
      by_cases c : j = i
      · rw [if_pos c] at e; cases e
      · rw [if_neg c] at e; exact e
    · have hj' := fput_sub j a hj
      have := he.disj j i a hj' ha
      subst this
      unfold fput at hj
      rw [if_pos rfl] at hj
      cases hj
/-! ### a law's first call, and the law -/
def stateD (ns : List Int) (seed : Int) : D := .list [.list (ns.map .int), .int 0, .int 0, .int seed]
def seedOf (ns : List Int) : Int := ns.foldl (fun s c => (s * 48271 + c) % 2147483629 + 1) 7
def spStart (K : Frag) : Sp := fun vs H Q _ => ∃ (a : Addr) (ns : List Int), vs = [.ref a] ∧ SqL K H a (ns.map V.int) ∧ ∀ v H' g, Fresh K H v H' (stateD ns (seedOf ns)) g → Q v H'
def fSeed : Ev := eBin addD (eBin modD (eCall intD (aCons (eBin addD (eBin mulD (eRead 1) (eC (.int 48271))) (eRead 2)) aNil)) (eC (.int 2147483629))) (eC (.int 1))
def gCell (K : Frag) : TG := fun v σ H Q => σ.length = 3 → tGV K 3 [2] (.nm 2) v σ H Q
def rLstOf (K : Frag) : List V → Hp → VK → Prop := fun xs H Q => ∃ (p : Addr) (ys : List V), xs = [.ref p] ∧ (SqL K H p ys ∨ SqT K H p ys) ∧ ∀ q, H q = none → Q (.ref q) (upd H q (.lst ys))
def tStart (K : Frag) (E : XK) : TS :=
  tSeq (tS K E [1] (sSet 1 (eC (.int 7)))) (tSeq (tFor (iList K (tVar 0)) (gCell K) (tS K E ([1] ++ []) (sSeq (sSet 1 fSeed) sNx)))
    (tSeq (tRet (tLst (tCons (tCB (rLstOf K) (tCons (tVar 0) tNil)) (tCons (tC (.int 0)) (tCons (tC (.int 0)) (tCons (tVar 1) tNil)))))) tNext))
theorem SqL.sameS {K : Frag} {H H' : Hp} {a : Addr} {xs : List V} (h : SqL K H a xs) (s : Same H H') : SqL K H' a xs := by
  rcases h with (h | ⟨o, h⟩) | h
  · exact .inl (.inl (s _ _ h))
  · exact .inl (.inr ⟨o, s _ _ h⟩)
  · exact .inr h
theorem RepEnv.none3 {K : Frag} {H : Hp} {σ : L2.St} {m : Nat} : RepEnv K (fun _ => False) H σ (List.replicate m .dead) (fun _ => []) where
  slot := fun i => by
    have e : Env.at (List.replicate m .dead) i = .dead := by
      rw [at_eq, List.getElem?_replicate]
      by_cases c : i < m
      · rw [if_pos c]; rfl
      · rw [if_neg c]; rfl
    rw [e]
    rfl
  disj := fun _ _ _ h _ => nomatch h
  nd := fun _ => .nil
  pl := fun _ _ h => nomatch h
  off := fun _ _ h => nomatch h
  wt := fun _ h => h.elim
theorem seed_step (s c : Int) {x : Slot} (hx : x = .view (.int c)) : fSeed [.dead, .own (.int s), x] = .ok (.int ((s * 48271 + c) % 2147483629 + 1), [.dead, .own (.int s), x]) := by
  subst hx
  simp [fSeed, eBin, eCall, aCons, aNil, eRead, eC, modD_int, mulD_r]
theorem kill_move {K : Frag} {W W1 : Addr → Prop} {A : List Nat} {H H1 : Hp} {fs fs1 : Fs} {σ σ1 : L2.St} {env1 : Env} (m : Move K W W1 A H fs H1 σ σ1 env1 fs1) (vs : List Nat) : Move K W W1 A H fs H1 σ σ1 (killS vs env1) (fblank vs fs1) :=
  ⟨m.ext, m.renv.killX fun _ _ => rfl, m.more, fun i a ha => m.sub i a (fblank_sub ha).2, m.keep⟩
theorem repL_ints {K : Frag} {H : Hp} : ∀ (ns : List Int), RepL K H (ns.map V.int) (ns.map PyData.int) []
  | [] => .nil
  | n :: ns => RepL.cons (g := []) (.int n) (repL_ints ns)
theorem rep_int {K : Frag} {H : Hp} {v : V} {i : Int} {g : List Addr} (r : Rep K H v (.int i) g) : v = .int i := by
  cases r
  rfl
theorem start_run {K : Frag} {E E' : XK} {vs : List V} {H : Hp} {Q : VK} (h : spStart K vs H Q E') : tStart K E { nx := fun _ H' => Q .non H', rt := Q } (L2.start ["script", "seed", "cell"] vs) H := by
  obtain ⟨a, ns, rfl, hs, q⟩ := h
  let σ0 : L2.St := [some (.ref a), none, none]
  have hn : ns.length ≤ 1000000000 ∨ True := .inr trivial
  show tStart K E { nx := fun _ H' => Q .non H', rt := Q } σ0 H
  refine tS_iff.mpr ⟨List.replicate 3 .dead, fun _ => [], fun _ => False, RepEnv.none3, ?_⟩
  intro W1 σ1 H1 fs1 m1
  have same : ∀ {H' : Hp}, Ext H H' (fun _ => []) → Same H H' := fun x b o e => x b o e fun _ z => nomatch z
  have s10 : σ1[0]? = some (some (.ref a)) := m1.keep 0 (by simp)
  refine ⟨_, s10, a, rfl, ⟨_, SqL.sameS hs (same m1.ext)⟩, ?_⟩
  let env0 : Env := [.dead, .own (.int 7), .dead]
  have m1 : Move K (fun _ => False) W1 [1, 2] H (fun _ => []) H1 σ0 σ1 env0 fs1 := m1.mono (by simp)
  let P : Nat → L2.St → Hp → Prop := fun i σ' H' => ∃ fs' W', Move K (fun _ => False) W' [1, 2] H (fun _ => []) H' σ0 σ' [.dead, .own (.int (seedOf (ns.take i))), .dead] fs'
  refine for_it (walk_list (K := K) (a := a) (xs := ns.map V.int)) (g := gCell K) (tb := tS K E ([1] ++ []) (sSeq (sSet 1 fSeed) sNx)) (D := { nx := _, rt := Q }) P ⟨fs1, W1, m1⟩ ?_ ?_ ?_
  · rintro i σ' H' _ ⟨fs', W', m⟩
    exact SqL.sameS hs (same m.ext)
  · rintro i x σ' H' H2 hi ⟨fs', W', m⟩ ⟨rfl, hx⟩ hl
    rw [List.length_map] at hi
    have ex : x = .int ns[i] := by
      rw [List.getElem?_map, List.getElem?_eq_getElem hi] at hx
      exact (Option.some.inj hx).symm
    subst ex
    refine ⟨.int ns[i], [], W', _, [.dead, .own (.int (seedOf (ns.take i))), .view (.int ns[i])], fs', hl, m.renv, .int _, fun _ z => (nomatch z), rfl, fun σ2 fs2 bd => ?_⟩
    have mv : Move K W' W' [1, 2] H2 fs' H2 σ' σ2 [.dead, .own (.int (seedOf (ns.take i))), .view (.int ns[i])] fs2 :=
      ⟨Ext.refl, bd.renv, fun _ z => z, fun j b hb => (bd.sub j b hb).elim (fun y => .inl ⟨j, y⟩) fun y => (nomatch y), fun j hj => bd.keep j fun z => hj (by simp at z; simp [z])⟩
    refine tS_iff.mpr ⟨_, fs2, W', bd.renv, ?_⟩
    show OutP K E W' _ _ σ2 H2 fs2 (sSeq (sSet 1 fSeed) sNx [.dead, .own (.int (seedOf (ns.take i))), .view (.int ns[i])])
    unfold sSeq sSet
    rw [seed_step _ _ rfl]
    intro W3 σ3 H3 fs3 m3
    have e1 : seedOf (ns.take (i + 1)) = (seedOf (ns.take i) * 48271 + ns[i]) % 2147483629 + 1 := by
      unfold seedOf
      rw [List.take_succ_eq_append_getElem hi, List.foldl_append]
      rfl
    refine ⟨fblank [2] fs3, W3, ?_⟩
    have := kill_move (m.trans (mv.trans (m3.mono (A := [1, 2]) (by simp)))) [2]
    rw [e1]
    exact this
  · rintro σ' H' ⟨fs', W', m⟩
    rw [List.length_map, List.take_of_length_le (Nat.le_refl _)] at m
    have s0 : σ'[0]? = some (some (.ref a)) := m.keep 0 (by simp)
    have s1 : σ'[1]? = some (some (.int (seedOf ns))) := by
      obtain ⟨v, e, r⟩ := m.renv.slot 1
      rw [rep_int r] at e
      exact e
    have sm := same m.ext
    refine ⟨_, s0, a, _, rfl, .inl (SqL.sameS hs sm), fun l hl => ⟨_, s1, le_line (by simp), fun r hr => ?_⟩⟩
    have nl : l ≠ r := fun z => by
      rw [← z, upd_same] at hr
      cases hr
    have sm1 : Same H (upd H' l (.lst (ns.map V.int))) := fun b o e => same_upd hl b o (sm b o e)
    have sm2 : Same H (upd (upd H' l (.lst (ns.map V.int))) r (.lst [.ref l, .int 0, .int 0, .int (seedOf ns)])) := fun b o e => same_upd hr b o (sm1 b o e)
    have hH : ∀ b, (H' b = none) → H b = none := fun b e => by
      cases z : H b with
      | none => rfl
      | some o => rw [sm b o z] at e; cases e
    have hr0 : H r = none := by
      cases z : H r with
      | none => rfl
      | some o => rw [sm1 r o z] at hr; cases hr
    have rin : Rep K (upd (upd H' l (.lst (ns.map V.int))) r (.lst [.ref l, .int 0, .int 0, .int (seedOf ns)])) (.ref l) (.list (ns.map .int)) (l :: []) := .lst (by rw [upd_ne nl]; exact upd_same) ((repL_ints ns))
    refine q _ _ [r, l] ⟨sm2, .lst upd_same (.cons rin (.cons (.int 0) (.cons (.int 0) (.cons (.int _) .nil)))), by simp; exact fun z => nl z.symm, fun b hb => ?_, fun b hb => ?_⟩
    · have : b = r ∨ b = l := by simpa using hb
      rcases this with rfl | rfl
      · exact hr0
      · exact hH _ hl
    · have : b = r ∨ b = l := by simpa using hb
      rcases this with rfl | rfl
      · exact ⟨.lst _, upd_same, trivial⟩
      · exact ⟨.lst _, by rw [upd_ne nl]; exact upd_same, trivial⟩
/-! the law -/
def spLaw (K : Frag) : Sp := fun vs H Q _ => ∃ (a : Addr) (ns : List Int), vs = [.ref a] ∧ ns.length ≤ 63 ∧ SqL K H a (ns.map V.int) ∧ ∀ H', Q (.bl true) H'
def tLaw (K : Frag) (E : XK) (A : List Nat) (f : Sv) : TS := tSeq (tAsg (tCall (spStart K) [] E (tCons (tVar 0) tNil)) (gName 1)) (tS K E A f)
theorem law_run {K : Frag} {E E' : XK} {A : List Nat} {f : Sv} {N : List Str} {vs : List V} {H : Hp} {Q : VK} (h : spLaw K vs H Q E') (hN : 2 ≤ N.length)
    (hf : ∀ ns : List Int, ns.length ≤ 63 → ∃ env', f (.dead :: .own (stateD ns (seedOf ns)) :: List.replicate (N.length - 2) .dead) = .ok (.rt (.bool true) env')) : tLaw K E A f { nx := fun _ H' => Q .non H', rt := Q } (L2.start N vs) H := by
  obtain ⟨a, ns, rfl, hl, hs, q⟩ := h
  have eσ : L2.start N [.ref a] = some (.ref a) :: none :: List.replicate (N.length - 2) none := by
    unfold L2.start
    have : N.length - [V.ref a].length = (N.length - 2) + 1 := by simp; omega
    rw [this, List.replicate_succ]
    rfl
  rw [eσ]
  refine ⟨_, rfl, a, ns, rfl, hs, fun v H' g fr => ?_⟩
  obtain ⟨env', e⟩ := hf ns hl
  have R0 : RepEnv K (fun _ => False) H (some (.ref a) :: none :: List.replicate (N.length - 2) none) (List.replicate N.length .dead) (fun _ => []) := RepEnv.none3
  have R1 := (R0.same fr.same).put (i := 1) (v := v) (by simp; omega) (by simp) fr.rep fr.nd (fun _ _ _ z => nomatch z) fr.pl fun _ _ z => z
  have e2 : (List.replicate N.length Slot.dead).set 1 (.own (stateD ns (seedOf ns))) = .dead :: .own (stateD ns (seedOf ns)) :: List.replicate (N.length - 2) .dead := by
    have : N.length = (N.length - 2) + 1 + 1 := by omega
    rw [this, List.replicate_succ, List.replicate_succ]
    simp
  rw [e2] at R1
  refine tS_iff.mpr ⟨_, _, _, R1, ?_⟩
  rw [e]
  intro W' u σ' H2 fs' gg m r w
  cases r
  exact q H2
end DV
end
section
set_option Elab.async false
set_option linter.all false
set_option maxRecDepth 100000
namespace DV
open PySem PySem.Spec
/-! the words, spelled out -/
section
variable {f g h : Ev} {t u : Et} {a b : EvA} {z : EvZ} {s s' : Sv} {env : Env} {i k n : Nat} {d : D} {F : D → D → Option D} {G : D → Option D} {C : List D → Option D} {den : Den} {io : Option Nat} {m : Nat} {ds : List D} {kk : Ec} {P : D → Bool} {ls : List Nat}
@[simp] theorem sSeq_is : sSeq s s' env = (s env).bind fun o => match o with
  | .nx e => s' e
  | .bk e => .ok (.bk e)
  | .ct e => .ok (.ct e)
  | .rt d e => .ok (.rt d e) := (rfl)
@[simp] theorem sNx_is : sNx env = .ok (.nx env) := (rfl)
@[simp] theorem sNo_is : sNo env = .no := (rfl)
@[simp] theorem sBk_is : sBk env = .ok (.bk env) := (rfl)
@[simp] theorem sCt_is : sCt env = .ok (.ct env) := (rfl)
@[simp] theorem sRetN_is : sRetN env = .ok (.rt .none env) := (rfl)
@[simp] theorem sRet_is : sRet f env = (f env).bind fun x => .ok (.rt x.1 x.2) := (rfl)
@[simp] theorem sIf_is : sIf t s s' env = (t env).bind fun x => if x.1 = true then s x.2 else s' x.2 := (rfl)
@[simp] theorem sSet_is : sSet i f env = (f env).bind fun x => if i < x.2.length then .ok (.nx (x.2.set i (.own x.1))) else .no := (rfl)
@[simp] theorem sSetIx_is : sSetIx i f g env = (g env).bind fun y => (Slot.lst (y.2.at i)).bind fun ds => (f y.2).bind fun k => (R.of (setD ds k.1 y.1)).bind fun ds' => .ok (.nx (y.2.set i (.own (.list ds')))) := (rfl)
@[simp] theorem sExpr_is : sExpr f env = (f env).bind fun x => .ok (.nx x.2) := (rfl)
@[simp] theorem sKill_is : sKill ls s env = s (killS ls env) := (rfl)
@[simp] theorem sAug_is : sAug i F f env = (Slot.get (env.at i)).bind fun d => (f env).bind fun y => (R.of (F d y.1)).bind fun r => if i < y.2.length then .ok (.nx (y.2.set i (.own r))) else .no := (rfl)
@[simp] theorem sAsg_is {tg : Tg} : sAsg tg f env = (f env).bind fun x => (R.of (bindO tg x.1 x.2)).bind fun e => .ok (.nx e) := (rfl)
@[simp] theorem sPar2_is : sPar2 i k a env = (a env).bind fun x => par2 i k x.1 x.2 := (rfl)
@[simp] theorem sPar3_is : sPar3 i k n a env = (a env).bind fun x => par3 i k n x.1 x.2 := (rfl)
@[simp] theorem par2_is {x y : D} : par2 i k [x, y] env = if i < env.length ∧ k < env.length then .ok (.nx ((env.set i (.own x)).set k (.own y))) else .no := (rfl)
@[simp] theorem par3_is {x y w : D} : par3 i k n [x, y, w] env = if i < env.length ∧ k < env.length ∧ n < env.length then .ok (.nx (((env.set i (.own x)).set k (.own y)).set n (.own w))) else .no := (rfl)
@[simp] theorem sFor_is {ks : List Nat} {tg : Tg} {it : Ei} : sFor ks tg it s env = (it env).bind fun x => forL ks tg s x.1 x.2 := (rfl)
@[simp] theorem eC_is : eC d env = .ok (d, env) := (rfl)
@[simp] theorem eRead_is : eRead i env = (env.at i).get.bind fun d => .ok (d, env) := (rfl)
@[simp] theorem eReadP_is : eReadP i env = match env.at i with
  | .dead => .no
  | .own d => if imm d = true then .ok (d, env) else .no
  | .view d => .ok (d, env) := (rfl)
@[simp] theorem eImm_is : eImm f env = (f env).bind fun x => if imm x.1 = true then .ok x else .no := (rfl)
@[simp] theorem eBin_is : eBin F f g env = (f env).bind fun x => (g x.2).bind fun y => (R.of (F x.1 y.1)).bind fun r => .ok (r, y.2) := (rfl)
@[simp] theorem eUn_is : eUn G f env = (f env).bind fun x => (R.of (G x.1)).bind fun r => .ok (r, x.2) := (rfl)
@[simp] theorem eIx_is : eIx f g env = (f env).bind fun x => (g x.2).bind fun y => (R.of (ixD x.1 y.1)).bind fun r => .ok (r, y.2) := (rfl)
@[simp] theorem eCall_is : eCall C a env = (a env).bind fun x => (R.of (C x.1)).bind fun r => .ok (r, x.2) := (rfl)
@[simp] theorem aNil_is : aNil env = .ok ([], env) := (rfl)
@[simp] theorem aCons_is : aCons f a env = (f env).bind fun x => (a x.2).bind fun y => .ok (x.1 :: y.1, y.2) := (rfl)
@[simp] theorem eTup_is : eTup a env = (a env).bind fun x => if x.1.length ≤ 1000 then .ok (.tuple x.1, x.2) else .no := (rfl)
@[simp] theorem eLst_is : eLst a env = (a env).bind fun x => if x.1.length ≤ 1000 then .ok (.list x.1, x.2) else .no := (rfl)
@[simp] theorem eAnd_is : eAnd f g env = (f env).bind fun x => match x.1 with
  | .bool b => if b = true then g x.2 else .ok (.bool false, x.2)
  | _ => .no := (rfl)
@[simp] theorem eOr_is : eOr f g env = (f env).bind fun x => match x.1 with
  | .bool b => if b = true then .ok (.bool true, x.2) else g x.2
  | _ => .no := (rfl)
@[simp] theorem eIf_is : eIf t f g env = (t env).bind fun x => if x.1 = true then f x.2 else g x.2 := (rfl)
@[simp] theorem eIs_is : eIs P f env = (f env).bind fun x => if x.1.plain = true then .ok (.bool (P x.1), x.2) else .no := (rfl)
@[simp] theorem notD_bool {b : Bool} : notD (.bool b) = some (.bool (!b)) := (rfl)
@[simp] theorem tAndE_is : tAndE t u env = (t env).bind fun x => if x.1 = true then u x.2 else .ok (false, x.2) := (rfl)
@[simp] theorem tOrE_is : tOrE t u env = (t env).bind fun x => if x.1 = true then .ok (true, x.2) else u x.2 := (rfl)
@[simp] theorem tNotE_is : tNotE t env = (t env).bind fun x => .ok (!x.1, x.2) := (rfl)
@[simp] theorem tYesE_is : tYesE env = .ok (true, env) := (rfl)
@[simp] theorem eT_is : eT f env = (f env).bind fun x => match x.1 with
  | .bool b => .ok (b, x.2)
  | _ => .no := (rfl)
@[simp] theorem eTru_is : eTru f env = (f env).bind fun x => (R.of (truthD x.1)).bind fun b => .ok (b, x.2) := (rfl)
@[simp] theorem tChain_is : tChain f kk env = (f env).bind fun x => kk x.1 x.2 := (rfl)
@[simp] theorem eChain_is : eChain f kk env = (f env).bind fun x => (kk x.1 x.2).bind fun y => .ok (.bool y.1, y.2) := (rfl)
@[simp] theorem cLast_is : cLast F g d env = (g env).bind fun y => (R.of (boolOf (F d y.1))).bind fun b => .ok (b, y.2) := (rfl)
@[simp] theorem cLink_is : cLink F g kk d env = (g env).bind fun y => (R.of (boolOf (F d y.1))).bind fun b => if b = true then kk y.1 y.2 else .ok (false, y.2) := (rfl)
@[simp] theorem eFn_is : eFn n den a env = (a env).bind fun x => if x.1.length = n then (den x.1).bind fun r => .ok (r.1, x.2) else .no := (rfl)
@[simp] theorem eFnIO_is : eFnIO n i den z env = (z env).bind fun x => (ownAt (x.2.at i)).bind fun u => if (x.1.1 ++ u :: x.1.2).length = n then (den (x.1.1 ++ u :: x.1.2)).bind fun r => .ok (r.1, x.2.set i (.own r.2)) else .no := (rfl)
@[simp] theorem zHere_is : zHere i a env = (ownAt (env.at i)).bind fun _ => (a env).bind fun y => .ok (([], y.1), y.2) := (rfl)
@[simp] theorem zCons_is : zCons f z env = (f env).bind fun x => (z x.2).bind fun y => .ok ((x.1 :: y.1.1, y.1.2), y.2) := (rfl)
@[simp] theorem argEnv_nil : argEnv io [] = [] := (rfl)
@[simp] theorem ioVal_is : ioVal (some k) env = match env.at k with
  | .own u => .ok u
  | _ => .no := (rfl)
@[simp] theorem outR_rt : outR io (.rt d env) = (ioVal io env).bind fun u => .ok (d, u) := (rfl)
@[simp] theorem outR_nx : outR io (.nx env) = (ioVal io env).bind fun u => .ok (.none, u) := (rfl)
theorem denOf_is : denOf m io s ds = (s (argEnv io ds ++ List.replicate m .dead)).bind (outR io) := rfl
@[simp] theorem iLst_is : iLst f env = (f env).bind fun x => match x.1 with
  | .list ds => .ok (ds, x.2)
  | _ => .no := (rfl)
@[simp] theorem iTpl_is : iTpl f env = (f env).bind fun x => match x.1 with
  | .tuple ds => .ok (ds, x.2)
  | _ => .no := (rfl)
@[simp] theorem iFn_is {C : List D → Option (List D)} : iFn C a env = (a env).bind fun x => (R.of (C x.1)).bind fun r => .ok (r, x.2) := (rfl)
@[simp] theorem eApp_is : eApp i f env = (Slot.lst (env.at i)).bind fun _ => (f env).bind fun y => (Slot.lst (y.2.at i)).bind fun ds => if ds.length < 16000000 then .ok (.none, y.2.set i (.own (.list (ds ++ [y.1])))) else .no := (rfl)
@[simp] theorem bindV_nm : bindV (.nm i) d env = if i < env.length then some (env.set i (.view d)) else none := by simp [bindV]
@[simp] theorem bindV_tp {l : List Tg} : bindV (.tp l) (.tuple ds) env = bindVs l ds env := by simp [bindV]
@[simp] theorem bindVs_nil : bindVs [] [] env = some env := by simp [bindVs]
@[simp] theorem bindVs_cons {tg : Tg} {l : List Tg} : bindVs (tg :: l) (d :: ds) env = (bindV tg d env).bind fun e => bindVs l ds e := by simp [bindVs]
@[simp] theorem bindO_nm : bindO (.nm i) d env = if i < env.length then some (env.set i (.own d)) else none := by simp [bindO]
@[simp] theorem bindO_tp {l : List Tg} : bindO (.tp l) (.tuple ds) env = bindOs l ds env := by simp [bindO]
@[simp] theorem bindOs_nil : bindOs [] [] env = some env := by simp [bindOs]
@[simp] theorem bindOs_cons {tg : Tg} {l : List Tg} : bindOs (tg :: l) (d :: ds) env = (bindO tg d env).bind fun e => bindOs l ds e := by simp [bindOs]
end
end DV
end
section
set_option Elab.async false
set_option linter.all false
set_option maxRecDepth 100000
namespace DV
open PySem PySem.Spec
/-! ### comprehensions, loops: what they come to -/
inductive F2 {α β : Type} (r : α → β → Prop) : List α → List β → Prop where
  | nil : F2 r [] []
  | cons {x y xs ys} : r x y → F2 r xs ys → F2 r (x :: xs) (y :: ys)
theorem F2.length {α β : Type} {r : α → β → Prop} {xs : List α} {ys : List β} (h : F2 r xs ys) : ys.length = xs.length := by
  induction h with
  | nil => rfl
  | cons _ _ ih => simp [ih]
theorem F2.mono {α β : Type} {r r' : α → β → Prop} {xs : List α} {ys : List β} (h : F2 r xs ys) (m : ∀ x y, r x y → r' x y) : F2 r' xs ys := by
  induction h with
  | nil => exact .nil
  | cons a _ ih => exact .cons (m _ _ a) ih
/-- rows of what is told by a value each -/
theorem F2.unmap {α β γ : Type} {r : α → γ → Prop} {f : γ → β} {xs : List α} {ys : List β} (h : F2 (fun x y => ∃ z, y = f z ∧ r x z) xs ys) : ∃ zs, ys = zs.map f ∧ F2 r xs zs := by
  induction h with
  | nil => exact ⟨[], rfl, .nil⟩
  | cons a _ ih =>
    obtain ⟨z, rfl, rz⟩ := a
    obtain ⟨zs, rfl, rzs⟩ := ih
    exact ⟨z :: zs, rfl, .cons rz rzs⟩
theorem F2.all_right {α β : Type} {r : α → β → Prop} {p : β → Prop} {xs : List α} {ys : List β} (h : F2 r xs ys) (m : ∀ x y, x ∈ xs → r x y → p y) : ∀ y ∈ ys, p y := by
  induction h with
  | nil => simp
  | cons a _ ih =>
    intro y hy
    rcases List.mem_cons.mp hy with rfl | hy
    · exact m _ _ List.mem_cons_self a
    · exact ih (fun x y hx => m x y (List.mem_cons_of_mem _ hx)) y hy
section
variable {α σ : Type} {vs ks : List Nat} {t : Tg} {c : Et} {e : Ev} {it : Ei} {b : Sv} {env env1 : Env}
theorem back_kill' (vs : List Nat) (o env : Env) : backS vs o (killS vs env) = backS vs o env := by
  refine List.ext_getElem? fun j => ?_
  rw [back_get, back_get, kill_len, kill_get]
  by_cases h1 : j ∈ vs ∧ j < env.length
  · rw [if_pos h1, if_pos h1]
  · rw [if_neg h1, if_neg h1, if_neg h1]
theorem kill_kill (vs : List Nat) (env : Env) : killS vs (killS vs env) = killS vs env := by
  refine List.ext_getElem? fun j => ?_
  rw [kill_get, kill_get, kill_len]
  by_cases h1 : j ∈ vs ∧ j < env.length
  · rw [if_pos h1, if_pos h1]
  · rw [if_neg h1, if_neg h1]
/-- a comprehension that changes nothing -/
theorem lcL_pure (hT : ∀ j ∈ Tg.slots t, j ∈ vs) (f g : α → D) (p : α → Bool) : ∀ (xs : List α) (env1 : Env), killS vs env1 = killS vs env → (∀ x ∈ xs, ∃ e1, bindV t (f x) (killS vs env) = some e1 ∧ c e1 = .ok (p x, e1) ∧ (p x = true → e e1 = .ok (g x, e1))) →
    ∃ env2, lcL vs t c e (xs.map f) env1 = .ok ((xs.filter p).map g, env2) ∧ killS vs env2 = killS vs env
  | [], env1, hk, _ => ⟨env1, rfl, hk⟩
  | x :: xs, env1, hk, h => by
    obtain ⟨e1, b1, c1, y1⟩ := h x List.mem_cons_self
    have k1 : killS vs e1 = killS vs env := bindV_kill b1 hT
    obtain ⟨env2, l2, k2⟩ := lcL_pure hT f g p xs e1 k1 fun x hx => h x (List.mem_cons_of_mem _ hx)
    refine ⟨env2, ?_, k2⟩
    simp only [List.map_cons]
    unfold lcL
    rw [hk, b1]
    simp only [of_some, bind_ok, c1]
    by_cases hp : p x = true
    · rw [if_pos hp, y1 hp]
      simp only [bind_ok, l2, List.filter_cons_of_pos hp, List.map_cons]
    · rw [if_neg hp, l2, List.filter_cons_of_neg hp]
theorem lc_pure {xs : List α} (f g : α → D) (p : α → Bool) (hi : it env = .ok (xs.map f, env)) (hz : xs.length ≤ 16000000) (h : ∀ x ∈ xs, ∃ e1, bindV t (f x) (killS vs env) = some e1 ∧ c e1 = .ok (p x, e1) ∧ (p x = true → e e1 = .ok (g x, e1))) (hT : ∀ j ∈ Tg.slots t, j ∈ vs := by decide) :
    eLc vs t it c e env = .ok (.list ((xs.filter p).map g), env) := by
  unfold eLc
  rw [hi]
  obtain ⟨env2, l2, k2⟩ := lcL_pure hT f g p xs env rfl h
  simp only [bind_ok, List.length_map, if_pos hz, l2, noEx_ok]
  have : backS vs env env2 = env := by rw [← back_kill', k2, back_kill]
  rw [this]
theorem lc_map {xs : List α} (f g : α → D) (hi : it env = .ok (xs.map f, env)) (hz : xs.length ≤ 16000000) (h : ∀ x ∈ xs, ∃ e1, bindV t (f x) (killS vs env) = some e1 ∧ e e1 = .ok (g x, e1)) (hT : ∀ j ∈ Tg.slots t, j ∈ vs := by decide) :
    eLc vs t it tYesE e env = .ok (.list (xs.map g), env) := by
  have := lc_pure (c := tYesE) (e := e) (p := fun _ => true) f g hi hz (fun x hx => let ⟨e1, b1, y1⟩ := h x hx; ⟨e1, b1, rfl, fun _ => y1⟩) hT
  rw [this, List.filter_eq_self.mpr fun _ _ => rfl]
/-- a comprehension whose items change what stands elsewhere -/
theorem lcL_rel (f : α → D) (I : Env → Prop) (out : α → D → Prop) : ∀ (xs : List α) (env1 : Env), I (killS vs env1) → (∀ x ∈ xs, ∀ env, I env → ∃ e1 e2 y e3, bindV t (f x) env = some e1 ∧ c e1 = .ok (true, e2) ∧ e e2 = .ok (y, e3) ∧ out x y ∧ I (killS vs e3)) →
    ∃ ys env2, lcL vs t c e (xs.map f) env1 = .ok (ys, env2) ∧ F2 out xs ys ∧ I (killS vs env2)
  | [], env1, hI, _ => ⟨[], env1, rfl, .nil, hI⟩
  | x :: xs, env1, hI, h => by
    obtain ⟨e1, e2, y, e3, b1, c1, y1, o1, i1⟩ := h x List.mem_cons_self _ hI
    obtain ⟨ys, env2, l2, f2, i2⟩ := lcL_rel f I out xs e3 i1 fun x hx => h x (List.mem_cons_of_mem _ hx)
    refine ⟨y :: ys, env2, ?_, .cons o1 f2, i2⟩
    simp only [List.map_cons]
    unfold lcL
    rw [b1]
    simp only [of_some, bind_ok, c1, if_true, y1, l2]
theorem lc_rel {xs : List α} (f : α → D) (I : Env → Prop) (out : α → D → Prop) (hi : it env = .ok (xs.map f, env1)) (hz : xs.length ≤ 16000000) (hI : I (killS vs env1)) (h : ∀ x ∈ xs, ∀ env, I env → ∃ e1 e2 y e3, bindV t (f x) env = some e1 ∧ c e1 = .ok (true, e2) ∧ e e2 = .ok (y, e3) ∧ out x y ∧ I (killS vs e3)) :
    ∃ ys env2, eLc vs t it c e env = .ok (.list ys, backS vs env1 env2) ∧ F2 out xs ys ∧ I env2 := by
  obtain ⟨ys, env2, l2, f2, i2⟩ := lcL_rel f I out xs env1 hI h
  refine ⟨ys, killS vs env2, ?_, f2, i2⟩
  unfold eLc
  rw [hi]
  simp only [bind_ok, List.length_map, if_pos hz, l2, noEx_ok, back_kill']
/-- a for that ends: the slots told by a value s at each turn's start -/
theorem for_fold (E : σ → Env) (J : σ → Prop) (step : σ → α → σ) (f : α → D) : ∀ (xs : List α) (env : Env) (s : σ), killS ks env = E s → J s → (∀ s, J s → ∀ x ∈ xs, ∃ e1 e2, bindV t (f x) (E s) = some e1 ∧ (b e1 = .ok (.nx e2) ∨ b e1 = .ok (.ct e2)) ∧ killS ks e2 = E (step s x) ∧ J (step s x)) →
    forL ks t b (xs.map f) env = .ok (.nx (E (xs.foldl step s))) ∧ J (xs.foldl step s)
  | [], env, s, he, hj, _ => ⟨by simp only [List.map_nil, forL, he, List.foldl_nil], hj⟩
  | x :: xs, env, s, he, hj, h => by
    obtain ⟨e1, e2, b1, r, k, j⟩ := h s hj x List.mem_cons_self
    have ih := for_fold E J step f xs e2 (step s x) k j fun s hs x hx => h s hs x (List.mem_cons_of_mem _ hx)
    refine ⟨?_, ih.2⟩
    simp only [List.map_cons, List.foldl_cons]
    unfold forL
    rw [he, b1]
    simp only [of_some, bind_ok]
    rcases r with r | r
    · rw [r]; exact ih.1
    · rw [r]; exact ih.1
/-- .. by a relation -/
theorem for_rel (I : Nat → Env → Prop) : ∀ (ds : List D) (n : Nat) (env : Env), I n (killS ks env) → (∀ i d env, ds[i]? = some d → I (n + i) env → ∃ e1 e2, bindV t d env = some e1 ∧ (b e1 = .ok (.nx e2) ∨ b e1 = .ok (.ct e2)) ∧ I (n + i + 1) (killS ks e2)) →
    ∃ env2, forL ks t b ds env = .ok (.nx env2) ∧ I (n + ds.length) env2
  | [], n, env, hI, _ => ⟨_, rfl, hI⟩
  | d :: ds, n, env, hI, h => by
    obtain ⟨e1, e2, b1, r, i1⟩ := h 0 d _ rfl hI
    obtain ⟨env2, l2, i2⟩ := for_rel I ds (n + 1) e2 i1 fun i d env hd hi => by
      have := h (i + 1) d env (by simpa using hd) (by rw [show n + (i + 1) = n + 1 + i by omega]; exact hi)
      rw [show n + (i + 1) + 1 = n + 1 + i + 1 by omega] at this
      exact this
    refine ⟨env2, ?_, by rw [show n + (d :: ds).length = n + 1 + ds.length by simp; omega]; exact i2⟩
    unfold forL
    rw [b1]
    simp only [of_some, bind_ok]
    rcases r with r | r
    · rw [r]; exact l2
    · rw [r]; exact l2
theorem forL_kill (ds : List D) (env : Env) : forL ks t b ds (killS ks env) = forL ks t b ds env := by
  cases ds with
  | nil => simp only [forL, kill_kill]
  | cons d ds => simp only [forL, kill_kill]
theorem forL_cons {d : D} {ds : List D} {e1 e2 : Env} (hb : bindV t d (killS ks env) = some e1) (h : b e1 = .ok (.nx e2)) : forL ks t b (d :: ds) env = forL ks t b ds (killS ks e2) := by
  rw [forL_kill]
  simp only [forL, hb, of_some, bind_ok, h]
  rfl
end
end DV
end
section
set_option Elab.async false
set_option linter.all false
set_option maxRecDepth 100000
namespace DV
open PySem PySem.Spec
/-! ### what repr tells fits -/
mutual
def smallD : D → Bool
  | .int i => decide (i.natAbs < 10 ^ 20)
  | .list xs => smallL xs
  | .tuple xs => smallL xs
  | .dict _ => false
  | _ => true
def smallL : List D → Bool
  | [] => true
  | x :: xs => smallD x && smallL xs
end
mutual
def wtD : D → Nat
  | .none => 4
  | .bool _ => 5
  | .int _ => 21
  | .str x => (reprText x).length
  | .list xs => 2 + wtL xs
  | .tuple xs => 3 + wtL xs
  | .dict _ => 0
def wtL : List D → Nat
  | [] => 0
  | x :: xs => wtD x + 2 + wtL xs
end
@[simp] theorem smallL_nil : smallL [] = true := rfl
@[simp] theorem smallL_cons {x : D} {xs : List D} : smallL (x :: xs) = (smallD x && smallL xs) := by simp [smallL]
@[simp] theorem smallD_int {i : Int} : smallD (.int i) = decide (i.natAbs < 10 ^ 20) := by simp [smallD]
@[simp] theorem smallD_none : smallD .none = true := by simp [smallD]
@[simp] theorem smallD_bool {b : Bool} : smallD (.bool b) = true := by simp [smallD]
@[simp] theorem smallD_str {b : Str} : smallD (.str b) = true := by simp [smallD]
@[simp] theorem smallD_list {xs : List D} : smallD (.list xs) = smallL xs := by simp [smallD]
@[simp] theorem smallD_tuple {xs : List D} : smallD (.tuple xs) = smallL xs := by simp [smallD]
theorem smallL_all {xs : List D} : smallL xs = true ↔ ∀ d ∈ xs, smallD d = true := by
  induction xs with
  | nil => simp
  | cons d xs ih => simp [ih]
theorem smallL_map {α : Type} {f : α → D} {l : List α} (h : ∀ x ∈ l, smallD (f x) = true) : smallL (l.map f) = true := smallL_all.mpr fun d hd => by
  obtain ⟨x, hx, rfl⟩ := List.mem_map.mp hd
  exact h x hx
@[simp] theorem wtL_nil : wtL [] = 0 := by simp [wtL]
@[simp] theorem wtL_cons {x : D} {xs : List D} : wtL (x :: xs) = wtD x + 2 + wtL xs := by simp [wtL]
@[simp] theorem wtD_none : wtD .none = 4 := by simp [wtD]
@[simp] theorem wtD_int {i : Int} : wtD (.int i) = 21 := by simp [wtD]
@[simp] theorem wtD_list {xs : List D} : wtD (.list xs) = 2 + wtL xs := by simp [wtD]
@[simp] theorem wtD_tuple {xs : List D} : wtD (.tuple xs) = 3 + wtL xs := by simp [wtD]
theorem wtL_le {xs : List D} {k : Nat} (h : ∀ d ∈ xs, wtD d ≤ k) : wtL xs ≤ xs.length * (k + 2) := by
  induction xs with
  | nil => simp
  | cons d xs ih =>
    have h1 := h d List.mem_cons_self
    have h2 := ih fun d hd => h d (List.mem_cons_of_mem _ hd)
    simp only [wtL_cons, List.length_cons, Nat.succ_mul]
    omega
theorem wtL_map {α : Type} {f : α → D} {l : List α} {k : Nat} (h : ∀ x ∈ l, wtD (f x) ≤ k) : wtL (l.map f) ≤ l.length * (k + 2) := by
  have := wtL_le (xs := l.map f) (k := k) fun d hd => by
    obtain ⟨x, hx, rfl⟩ := List.mem_map.mp hd
    exact h x hx
  simpa using this
theorem from_len : ∀ (ts : List Str) (k : Nat) (acc : Str), (textFrom k acc ts).length ≤ acc.length + piled ts
  | [], k, acc => by simp [textFrom, piled]
  | t :: ts, k, acc => by
    have h1 := from_len ts (k + 1) (acc ++ (if k > 0 then ", " else "" : String) ++ t)
    have h2 : (acc ++ (if k > 0 then ", " else "" : String) ++ t : Str).length ≤ acc.length + 2 + t.length := by
      rw [Str.length_append, Str.length_append]
      by_cases c : k > 0
      · rw [if_pos c]
        have : (Str.ofString ", ").length = 2 := by decide
        omega
      · rw [if_neg c]
        have : (Str.ofString "").length = 0 := by decide
        omega
    rw [piled_cons]
    unfold textFrom
    omega
theorem joined_len : ∀ (ts : List Str), (Str.join ", " ts).length ≤ piled ts
  | [] => by
    have : (Str.join ", " ([] : List Str)).length = 0 := by decide
    omega
  | t :: ts => by
    have := join_length_add (t :: ts) (by simp)
    omega
mutual
theorem shown_len : ∀ (d : D), smallD d = true → d.shown.length ≤ wtD d
  | .none, _ => by simp only [PyData.shown, wtD]; decide
  | .bool b, _ => by simp only [PyData.shown, wtD]; cases b <;> decide
  | .int i, h => by
    have h' : i.natAbs < 10 ^ 20 := by simpa [smallD] using h
    have := int_text_length_le10 (k := 20) (by decide) h'
    simp only [PyData.shown, wtD]
    rw [ofString_length]
    exact this
  | .str x, _ => by simp only [PyData.shown, wtD]; exact Nat.le_refl _
  | .list xs, h => by
    have h' : smallL xs = true := by simpa [smallD] using h
    have h1 := shownL_len xs h'
    have h2 := from_len (PyData.shownAll xs) 0 "["
    have e1 : (Str.ofString "[").length = 1 := by decide
    have e2 : (Str.ofString "]").length = 1 := by decide
    simp only [PyData.shown, wtD, listText]
    rw [Str.length_append]
    omega
  | .tuple xs, h => by
    have h' : smallL xs = true := by simpa [smallD] using h
    have h1 := shownL_len xs h'
    have h2 := joined_len (PyData.shownAll xs)
    have e1 : (Str.ofString "(").length = 1 := by decide
    simp only [PyData.shown, wtD, tupleText]
    rw [Str.length_append, Str.length_append]
    have e2 : (Str.ofString (if (PyData.shownAll xs).length == 1 then ",)" else ")" : String)).length ≤ 2 := by split <;> decide
    omega
  | .dict _, h => by simp [smallD] at h
theorem shownL_len : ∀ (xs : List D), smallL xs = true → piled (PyData.shownAll xs) ≤ wtL xs
  | [], _ => by simp [PyData.shownAll, wtL, piled]
  | x :: xs, h => by
    have h' : smallD x = true ∧ smallL xs = true := by simpa [smallL] using h
    have h1 := shown_len x h'.1
    have h2 := shownL_len xs h'.2
    simp only [PyData.shownAll, wtL]
    rw [piled_cons]
    omega
end
mutual
theorem small_ok : ∀ (d : D), smallD d = true → d.plain = true ∧ d.showable = true ∧ d.hasDict = false ∧ PyData.eqv d d = true
  | .none, _ => by simp [PyData.plain, PyData.showable, PyData.hasDict, PyData.eqv]
  | .bool b, _ => by simp [PyData.plain, PyData.showable, PyData.hasDict, PyData.eqv]
  | .int i, h => by
    have h' : i.natAbs < 10 ^ 20 := by simpa [smallD] using h
    have : i.natAbs.log2 < 1920 := by
      by_cases z : i.natAbs = 0
      · rw [z]; decide
      · exact (Nat.log2_lt z).mpr (Nat.lt_of_lt_of_le h' (by decide +kernel))
    simp [PyData.plain, PyData.showable, PyData.hasDict, PyData.eqv, this]
  | .str x, _ => by simp [PyData.plain, PyData.showable, PyData.hasDict, PyData.eqv]
  | .list xs, h => by
    have h' : smallL xs = true := by simpa [smallD] using h
    have := smallL_ok xs h'
    simp [PyData.plain, PyData.showable, PyData.hasDict, PyData.eqv, this]
  | .tuple xs, h => by
    have h' : smallL xs = true := by simpa [smallD] using h
    have := smallL_ok xs h'
    simp [PyData.plain, PyData.showable, PyData.hasDict, PyData.eqv, this]
  | .dict _, h => by simp [smallD] at h
theorem smallL_ok : ∀ (xs : List D), smallL xs = true → PyData.plainAll xs = true ∧ PyData.showableAll xs = true ∧ PyData.hasDictAll xs = false ∧ PyData.eqvAll xs xs = true
  | [], _ => by simp [PyData.plainAll, PyData.showableAll, PyData.hasDictAll, PyData.eqvAll]
  | x :: xs, h => by
    have h' : smallD x = true ∧ smallL xs = true := by simpa [smallL] using h
    have h1 := small_ok x h'.1
    have h2 := smallL_ok xs h'.2
    simp [PyData.plainAll, PyData.showableAll, PyData.hasDictAll, PyData.eqvAll, h1, h2]
end
/-- two that are one and the same, told alike -/
theorem eqD_same {d : D} (h : smallD d = true) (hd : d.depth ≤ 60) : eqD d d = some (.bool true) := by
  have := small_ok d h
  unfold eqD
  rw [if_pos ⟨this.1, this.1, hd⟩, this.2.2.2]
theorem reprD_ok {d : D} (h : smallD d = true) (hd : d.depth ≤ 60) (hw : wtD d ≤ 16000000) : reprD [d] = some (.str d.shown) := by
  have := small_ok d h
  unfold reprD
  exact if_pos ⟨this.1, this.2.1, this.2.2.1, hd, Nat.le_trans (shown_len d h) hw⟩
theorem eqD_str {x : Str} : eqD (.str x) (.str x) = some (.bool true) := by
  simp [eqD, PyData.plain, PyData.depth, PyData.eqv]
theorem alike_ints (ns : List Int) : PySem.W.AlikeAll (ns.map PyData.int) := by
  refine ⟨fun x hx y hy => ?_, fun x hx => ?_⟩
  · obtain ⟨i, _, rfl⟩ := List.mem_map.mp hx
    obtain ⟨j, _, rfl⟩ := List.mem_map.mp hy
    simp [PySem.W.alike]
  · obtain ⟨i, _, rfl⟩ := List.mem_map.mp hx
    exact fun z => nomatch z
theorem depthAll_ints (ns : List Int) : PyData.depthAll (ns.map PyData.int) = 0 := by
  induction ns with
  | nil => simp [PyData.depthAll]
  | cons n ns ih => simp [PyData.depthAll, PyData.depth, ih]
theorem maxD1_ints {n : Int} {ns : List Int} : maxD1 [.list (.int n :: ns.map PyData.int)] = some (.int (ns.foldl max n)) := by
  have h : immL (.int n :: ns.map PyData.int) = true ∧ PySem.W.AlikeAll (.int n :: ns.map PyData.int) ∧ PyData.depthAll (.int n :: ns.map PyData.int) ≤ 60 := ⟨immL_ints (l := n :: ns), alike_ints (n :: ns), by have := depthAll_ints (n :: ns); simp only [List.map_cons] at this; omega⟩
  unfold maxD1
  simp only
  rw [if_pos h, PySem.W.maxD_ints]
theorem minD1_ints {n : Int} {ns : List Int} : minD1 [.list (.int n :: ns.map PyData.int)] = some (.int (ns.foldl min n)) := by
  have h : immL (.int n :: ns.map PyData.int) = true ∧ PySem.W.AlikeAll (.int n :: ns.map PyData.int) ∧ PyData.depthAll (.int n :: ns.map PyData.int) ≤ 60 := ⟨immL_ints (l := n :: ns), alike_ints (n :: ns), by have := depthAll_ints (n :: ns); simp only [List.map_cons] at this; omega⟩
  unfold minD1
  simp only
  rw [if_pos h, PySem.W.minD_ints]
@[simp] theorem maxD1_two {i j : Int} : maxD1 [.list [.int i, .int j]] = some (.int (max i j)) := maxD1_ints (ns := [j])
@[simp] theorem minD1_two {i j : Int} : minD1 [.list [.int i, .int j]] = some (.int (min i j)) := minD1_ints (ns := [j])
@[simp] theorem maxD1_pair {i j : Int} : maxD1 [.int i, .int j] = some (.int (max i j)) := by
  simp only [maxD1, Option.some.injEq, PyData.int.injEq]
  split <;> omega
@[simp] theorem minD1_pair {i j : Int} : minD1 [.int i, .int j] = some (.int (min i j)) := by
  simp only [minD1, Option.some.injEq, PyData.int.injEq]
  split <;> omega
theorem sumD_ints {ns : List Int} : sumD [.list (ns.map PyData.int)] = some (.int ns.sum) := by simp [sumD]
theorem sumD_intsT {ns : List Int} : sumD [.tuple (ns.map PyData.int)] = some (.int ns.sum) := by simp [sumD]
theorem allD_bools {bs : List Bool} : allD [.list (bs.map PyData.bool)] = some (.bool (bs.all id)) := by simp [allD]
theorem allD_true {α : Type} {l : List α} : allD [.list (l.map fun _ => PyData.bool true)] = some (.bool true) := by
  have : (l.map fun _ => PyData.bool true) = (l.map fun _ => true).map PyData.bool := by simp
  rw [this, allD_bools]
  simp
theorem addD_tuple {xs ys : List D} (h1 : immL xs = true) (h2 : immL ys = true) (h3 : xs.length + ys.length ≤ 16000000) : addD (.tuple xs) (.tuple ys) = some (.tuple (xs ++ ys)) := if_pos ⟨h1, h2, h3⟩
theorem rng_map {lo : Int} {n : Nat} : rng lo n = (List.range n).map fun (i : Nat) => PyData.int (lo + i) := rfl
theorem rng1_nat {n : Nat} (h : n < 2 ^ 62) : rng1D [.int (n : Int)] = some ((List.range n).map fun (i : Nat) => PyData.int (i : Int)) := by
  have hs : sml (n : Int) := ⟨by omega, by omega⟩
  show (if sml (n : Int) then some (rng 0 (n : Int).toNat) else none) = _
  rw [if_pos hs, rng_map]
  simp
theorem rng2_nat {lo n : Nat} (h : lo + n < 2 ^ 62) : rng2D [.int (lo : Int), .int ((lo + n : Nat) : Int)] = some ((List.range n).map fun (i : Nat) => PyData.int ((lo + i : Nat) : Int)) := by
  have hs : sml (lo : Int) ∧ sml ((lo + n : Nat) : Int) := ⟨⟨by omega, by omega⟩, ⟨by omega, by omega⟩⟩
  show (if sml (lo : Int) ∧ sml ((lo + n : Nat) : Int) then some (rng lo (((lo + n : Nat) : Int) - lo).toNat) else none) = _
  rw [if_pos hs, rng_map]
  have : (((lo + n : Nat) : Int) - (lo : Int)).toNat = n := by omega
  rw [this]
  simp
/-! slices -/
theorem sIx_nat {n d k : Nat} : HT.sIx n d (some ((k : Nat) : Int)) = min k n := by
  unfold HT.sIx
  simp only
  split <;> omega
theorem cut_nat {α : Type} {xs : List α} {a b : Nat} (h : b ≤ xs.length) : cut xs (some (a : Nat)) (some (b : Nat)) = (xs.drop a).take (b - a) := by
  unfold cut
  rw [sIx_nat, sIx_nat]
  by_cases c : a ≤ xs.length
  · rw [Nat.min_eq_left c, Nat.min_eq_left h]
  · have e1 : min a xs.length = xs.length := by omega
    rw [e1, Nat.min_eq_left h, List.drop_length, List.drop_eq_nil_of_le (by omega)]
    simp
theorem cut_to {α : Type} {xs : List α} {b : Nat} : cut xs none (some (b : Nat)) = xs.take b := by
  unfold cut
  rw [sIx_nat]
  have : HT.sIx xs.length 0 none = 0 := rfl
  rw [this, List.drop_zero, Nat.sub_zero]
  by_cases c : b ≤ xs.length
  · rw [Nat.min_eq_left c]
  · have e1 : min b xs.length = xs.length := by omega
    rw [e1, List.take_of_length_le (Nat.le_refl _), List.take_of_length_le (by omega)]
@[simp] theorem oNone_is {env : Env} : oNone env = .ok (none, env) := (rfl)
@[simp] theorem oSome_is {f : Ev} {env : Env} : oSome f env = (f env).bind fun x => match x.1 with
  | .int i => .ok (some i, x.2)
  | _ => .no := (rfl)
@[simp] theorem eSl_is {f : Ev} {l u : Eo} {env : Env} : eSl f l u env = (f env).bind fun x => (l x.2).bind fun y => (u y.2).bind fun z => (R.of (sliceD x.1 y.1 z.1)).bind fun r => .ok (r, z.2) := (rfl)
theorem slice_tuple {xs : List D} {l u : Option Int} (h : immL xs = true) : sliceD (.tuple xs) l u = some (.tuple (cut xs l u)) := if_pos h
theorem slice_list {xs : List D} {l u : Option Int} (h : immL xs = true) : sliceD (.list xs) l u = some (.list (cut xs l u)) := if_pos h
theorem cut_map {α β : Type} {f : α → β} {xs : List α} {l u : Option Int} : cut (xs.map f) l u = (cut xs l u).map f := by
  unfold cut
  simp [List.map_drop, List.map_take]
end DV
end
section
set_option Elab.async false
set_option linter.all false
set_option maxRecDepth 100000
set_option maxHeartbeats 0
namespace HeadT
open PySem PySem.Spec PyProof.Rows L2
def top (i : Nat) : Stmt := PySem.Challenge.pw_setinlines_k61_tables_of_sixty_cells.main.body.getD i (.Pass ⟨0, 0, 0, 0⟩)
abbrev s0 : Stmt := top 5
def d0 : He.DefD := ⟨("is_integer", none), "is_integer", "is_integer", defArgs s0, defBody s0, defScope s0, [], []⟩
abbrev s1 : Stmt := top 10
def d1 : He.DefD := ⟨("check_cells", none), "check_cells", "check_cells", defArgs s1, defBody s1, defScope s1, [], []⟩
abbrev s2 : Stmt := top 11
def d2 : He.DefD := ⟨("needs_of", none), "needs_of", "needs_of", defArgs s2, defBody s2, defScope s2, [], []⟩
abbrev s3 : Stmt := top 12
def d3 : He.DefD := ⟨("edges_of", none), "edges_of", "edges_of", defArgs s3, defBody s3, defScope s3, [], []⟩
abbrev s4 : Stmt := top 13
def d4 : He.DefD := ⟨("least_width", none), "least_width", "least_width", defArgs s4, defBody s4, defScope s4, [], []⟩
abbrev s5 : Stmt := top 14
def d5 : He.DefD := ⟨("accept_widths", none), "accept_widths", "accept_widths", defArgs s5, defBody s5, defScope s5, [], []⟩
abbrev s6 : Stmt := top 15
def d6 : He.DefD := ⟨("row_of_cells", none), "row_of_cells", "row_of_cells", defArgs s6, defBody s6, defScope s6, [], []⟩
abbrev s7 : Stmt := top 16
def d7 : He.DefD := ⟨("accept_row", none), "accept_row", "accept_row", defArgs s7, defBody s7, defScope s7, [], []⟩
abbrev s8 : Stmt := top 17
def d8 : He.DefD := ⟨("shared_widths", none), "shared_widths", "shared_widths", defArgs s8, defBody s8, defScope s8, [], []⟩
abbrev s9 : Stmt := top 18
def d9 : He.DefD := ⟨("check_grid", none), "check_grid", "check_grid", defArgs s9, defBody s9, defScope s9, [], []⟩
abbrev s10 : Stmt := top 19
def d10 : He.DefD := ⟨("spans_of", none), "spans_of", "spans_of", defArgs s10, defBody s10, defScope s10, [], []⟩
abbrev s11 : Stmt := top 20
def d11 : He.DefD := ⟨("heights_of", none), "heights_of", "heights_of", defArgs s11, defBody s11, defScope s11, [], []⟩
abbrev s12 : Stmt := top 21
def d12 : He.DefD := ⟨("laid", none), "laid", "laid", defArgs s12, defBody s12, defScope s12, [], []⟩
abbrev s13 : Stmt := top 23
def d13 : He.DefD := ⟨("_law_start", none), "_law_start", "_law_start", defArgs s13, defBody s13, defScope s13, [], []⟩
abbrev s14 : Stmt := top 24
def d14 : He.DefD := ⟨("_law_draw", none), "_law_draw", "_law_draw", defArgs s14, defBody s14, defScope s14, [], []⟩
abbrev s15 : Stmt := top 25
def d15 : He.DefD := ⟨("_law_pick", none), "_law_pick", "_law_pick", defArgs s15, defBody s15, defScope s15, [], []⟩
abbrev s16 : Stmt := top 26
def d16 : He.DefD := ⟨("_law_same", none), "_law_same", "_law_same", defArgs s16, defBody s16, defScope s16, [], []⟩
abbrev s17 : Stmt := top 27
def d17 : He.DefD := ⟨("_law_cells", none), "_law_cells", "_law_cells", defArgs s17, defBody s17, defScope s17, [], []⟩
abbrev s18 : Stmt := top 28
def d18 : He.DefD := ⟨("_law_edges", none), "_law_edges", "_law_edges", defArgs s18, defBody s18, defScope s18, [], []⟩
abbrev s19 : Stmt := top 29
def d19 : He.DefD := ⟨("_law_told", none), "_law_told", "_law_told", defArgs s19, defBody s19, defScope s19, [], []⟩
abbrev s20 : Stmt := top 30
def d20 : He.DefD := ⟨("_law_shared", none), "_law_shared", "_law_shared", defArgs s20, defBody s20, defScope s20, [], []⟩
abbrev s21 : Stmt := top 31
def d21 : He.DefD := ⟨("_law_row_holds", none), "_law_row_holds", "_law_row_holds", defArgs s21, defBody s21, defScope s21, [], []⟩
abbrev s22 : Stmt := top 32
def d22 : He.DefD := ⟨("_law_tables_hold", none), "_law_tables_hold", "_law_tables_hold", defArgs s22, defBody s22, defScope s22, [], []⟩
abbrev s23 : Stmt := top 33
def d23 : He.DefD := ⟨("_law_grids_hold", none), "_law_grids_hold", "_law_grids_hold", defArgs s23, defBody s23, defScope s23, [], []⟩
abbrev s24 : Stmt := top 34
def d24 : He.DefD := ⟨("law", none), "law", "law", defArgs s24, defBody s24, defScope s24, [], []⟩
def fn : List He.DefD := [d0, d1, d2, d3, d4, d5, d6, d7, d8, d9, d10, d11, d12, d13, d14, d15, d16, d17, d18, d19, d20, d21, d22, d23, d24]
def fa : List He.Fa := [.glo "is_integer",
  .glo "check_cells",
  .glo "needs_of",
  .glo "edges_of",
  .glo "least_width",
  .glo "accept_widths",
  .glo "row_of_cells",
  .glo "accept_row",
  .glo "shared_widths",
  .glo "check_grid",
  .glo "spans_of",
  .glo "heights_of",
  .glo "laid",
  .glo "_law_start",
  .glo "_law_draw",
  .glo "_law_pick",
  .glo "_law_same",
  .glo "_law_cells",
  .glo "_law_edges",
  .glo "_law_told",
  .glo "_law_shared",
  .glo "_law_row_holds",
  .glo "_law_tables_hold",
  .glo "_law_grids_hold",
  .glo "law",
  .free "ValueError",
  .free "abs",
  .free "all",
  .free "bool",
  .free "enumerate",
  .free "int",
  .free "isinstance",
  .free "len",
  .free "list",
  .free "max",
  .free "min",
  .free "range",
  .free "repr",
  .free "sum",
  .free "super",
  .free "tuple",
  .free "zip",
  .int "MAX_WIDTH" 100000,
  .int "MAX_COLUMNS" 8,
  .int "MAX_CELLS" 60]
def loose0 : List PySem.Str := ["SetError", "ArgumentError", "PaperError", "is_integer", "MAX_WIDTH", "MAX_COLUMNS", "MAX_CELLS", "check_cells", "needs_of", "edges_of", "least_width", "accept_widths", "row_of_cells", "accept_row", "shared_widths", "check_grid", "spans_of", "heights_of", "laid", "_law_start", "_law_draw", "_law_pick", "_law_same", "_law_cells", "_law_edges", "_law_told", "_law_shared", "_law_row_holds", "_law_tables_hold", "_law_grids_hold"]
def loose : List PySem.Str := loose0
abbrev R : PySem.W.OpenRow := PySem.W.OpenLaw.row PySem.Challenge.rw_setinlines_k61_tables_of_sixty_cells
abbrev hk : PySem.W.Hook := He.hookD 4 fa fn
def ob (s : PySem.W.SharedT) : He.AlD := He.obsDG 4 fa fn (HandSHeadRun.getT s)
theorem ob_eq (s : PySem.W.SharedT) : ob s = hk.obs s.abs := He.obsDG_eq (HandSHeadRun.getT_eq s)
theorem run (w : World) : HandSHeadRun.RunEq R (PySem.W.view R.prog [34]) hk ob 2000 loose w := by
  intro os
  kernel_rfl
end HeadT
end
section
set_option Elab.async false
set_option linter.all false
set_option maxRecDepth 100000
set_option maxHeartbeats 0
namespace FnT
open PySem PySem.Spec PyProof.Rows L2 DV HeadT
noncomputable section
abbrev FnP (K : PySem.W.Frag) (x : Str) (st : Stmt) (f : Addr) (fd : FuncData) : Prop := FunD K x x (defArgs st) (defBody st) (defScope st) [] [] f fd
/-- what stands behind the top -/
structure MF (K : PySem.W.Frag) (mg : Str → Option Value) where
  a__law_start : Addr
  fd__law_start : FuncData
  F__law_start : FnP K "_law_start" s13 a__law_start fd__law_start
  m__law_start : mg "_law_start" = some (.ref a__law_start)
  a__law_draw : Addr
  fd__law_draw : FuncData
  F__law_draw : FnP K "_law_draw" s14 a__law_draw fd__law_draw
  m__law_draw : mg "_law_draw" = some (.ref a__law_draw)
  a__law_pick : Addr
  fd__law_pick : FuncData
  F__law_pick : FnP K "_law_pick" s15 a__law_pick fd__law_pick
  m__law_pick : mg "_law_pick" = some (.ref a__law_pick)
  a__law_cells : Addr
  fd__law_cells : FuncData
  F__law_cells : FnP K "_law_cells" s17 a__law_cells fd__law_cells
  m__law_cells : mg "_law_cells" = some (.ref a__law_cells)
  a__law_edges : Addr
  fd__law_edges : FuncData
  F__law_edges : FnP K "_law_edges" s18 a__law_edges fd__law_edges
  m__law_edges : mg "_law_edges" = some (.ref a__law_edges)
  a__law_told : Addr
  fd__law_told : FuncData
  F__law_told : FnP K "_law_told" s19 a__law_told fd__law_told
  m__law_told : mg "_law_told" = some (.ref a__law_told)
  a__law_same : Addr
  fd__law_same : FuncData
  F__law_same : FnP K "_law_same" s16 a__law_same fd__law_same
  m__law_same : mg "_law_same" = some (.ref a__law_same)
  a_is_integer : Addr
  fd_is_integer : FuncData
  F_is_integer : FnP K "is_integer" s0 a_is_integer fd_is_integer
  m_is_integer : mg "is_integer" = some (.ref a_is_integer)
  a_check_cells : Addr
  fd_check_cells : FuncData
  F_check_cells : FnP K "check_cells" s1 a_check_cells fd_check_cells
  m_check_cells : mg "check_cells" = some (.ref a_check_cells)
  a_needs_of : Addr
  fd_needs_of : FuncData
  F_needs_of : FnP K "needs_of" s2 a_needs_of fd_needs_of
  m_needs_of : mg "needs_of" = some (.ref a_needs_of)
  a_accept_widths : Addr
  fd_accept_widths : FuncData
  F_accept_widths : FnP K "accept_widths" s5 a_accept_widths fd_accept_widths
  m_accept_widths : mg "accept_widths" = some (.ref a_accept_widths)
  a_edges_of : Addr
  fd_edges_of : FuncData
  F_edges_of : FnP K "edges_of" s3 a_edges_of fd_edges_of
  m_edges_of : mg "edges_of" = some (.ref a_edges_of)
  a_least_width : Addr
  fd_least_width : FuncData
  F_least_width : FnP K "least_width" s4 a_least_width fd_least_width
  m_least_width : mg "least_width" = some (.ref a_least_width)
  a_row_of_cells : Addr
  fd_row_of_cells : FuncData
  F_row_of_cells : FnP K "row_of_cells" s6 a_row_of_cells fd_row_of_cells
  m_row_of_cells : mg "row_of_cells" = some (.ref a_row_of_cells)
  a_accept_row : Addr
  fd_accept_row : FuncData
  F_accept_row : FnP K "accept_row" s7 a_accept_row fd_accept_row
  m_accept_row : mg "accept_row" = some (.ref a_accept_row)
  a__law_row_holds : Addr
  fd__law_row_holds : FuncData
  F__law_row_holds : FnP K "_law_row_holds" s21 a__law_row_holds fd__law_row_holds
  m__law_row_holds : mg "_law_row_holds" = some (.ref a__law_row_holds)
  a_shared_widths : Addr
  fd_shared_widths : FuncData
  F_shared_widths : FnP K "shared_widths" s8 a_shared_widths fd_shared_widths
  m_shared_widths : mg "shared_widths" = some (.ref a_shared_widths)
  a__law_shared : Addr
  fd__law_shared : FuncData
  F__law_shared : FnP K "_law_shared" s20 a__law_shared fd__law_shared
  m__law_shared : mg "_law_shared" = some (.ref a__law_shared)
  a__law_tables_hold : Addr
  fd__law_tables_hold : FuncData
  F__law_tables_hold : FnP K "_law_tables_hold" s22 a__law_tables_hold fd__law_tables_hold
  m__law_tables_hold : mg "_law_tables_hold" = some (.ref a__law_tables_hold)
  a_check_grid : Addr
  fd_check_grid : FuncData
  F_check_grid : FnP K "check_grid" s9 a_check_grid fd_check_grid
  m_check_grid : mg "check_grid" = some (.ref a_check_grid)
  a_spans_of : Addr
  fd_spans_of : FuncData
  F_spans_of : FnP K "spans_of" s10 a_spans_of fd_spans_of
  m_spans_of : mg "spans_of" = some (.ref a_spans_of)
  a_heights_of : Addr
  fd_heights_of : FuncData
  F_heights_of : FnP K "heights_of" s11 a_heights_of fd_heights_of
  m_heights_of : mg "heights_of" = some (.ref a_heights_of)
  a_laid : Addr
  fd_laid : FuncData
  F_laid : FnP K "laid" s12 a_laid fd_laid
  m_laid : mg "laid" = some (.ref a_laid)
  a__law_grids_hold : Addr
  fd__law_grids_hold : FuncData
  F__law_grids_hold : FnP K "_law_grids_hold" s23 a__law_grids_hold fd__law_grids_hold
  m__law_grids_hold : mg "_law_grids_hold" = some (.ref a__law_grids_hold)
  a_law : Addr
  fd_law : FuncData
  F_law : FnP K "law" s24 a_law fd_law
  m_law : mg "law" = some (.ref a_law)
  z_abs : mg "abs" = none
  z_all : mg "all" = none
  z_bool : mg "bool" = none
  z_enumerate : mg "enumerate" = none
  z_int : mg "int" = none
  z_isinstance : mg "isinstance" = none
  z_len : mg "len" = none
  z_list : mg "list" = none
  z_max : mg "max" = none
  z_min : mg "min" = none
  z_range : mg "range" = none
  z_repr : mg "repr" = none
  z_sum : mg "sum" = none
  z_tuple : mg "tuple" = none
  z_zip : mg "zip" = none
  c_MAX_WIDTH : ∃ t : Tok, mg "MAX_WIDTH" = some (.int 100000 t)
  c_MAX_COLUMNS : ∃ t : Tok, mg "MAX_COLUMNS" = some (.int 8 t)
  c_MAX_CELLS : ∃ t : Tok, mg "MAX_CELLS" = some (.int 60 t)
variable {P : Program} {w : World} {K : PySem.W.Frag} {mg : Str → Option Value} {base : Heap}
/-! _law_start -/
theorem sc__law_start : FnScope ["script", "seed", "cell"] ["script"] (defScope s13) := ⟨rfl, rfl, rfl, by decide +kernel, rfl, by decide +kernel, by decide +kernel⟩
theorem nd__law_start : List.Nodup (["script", "seed", "cell"] : List Str) := sc__law_start.nd
theorem bi__law_start (m : MF K mg) : Binds K m.fd__law_start ["script"] [] := m.F__law_start.bindsN fun _ _ _ _ _ _ us hl => match us, hl with | [_], _ => rfl
theorem g__law_start (m : MF K mg) : FnG P w K mg base CX0 1 m.a__law_start m.fd__law_start ["script"] (spStart K) := by
  refine FunD.okG m.F__law_start sc__law_start (fun vs H Q E ⟨a, ns, e, _⟩ => by rw [e]; rfl) fun cdv A out s H vs Q E room gd pr => ⟨tStart K E, ?_, start_run pr⟩
  have hp : PassesOwn (model P w) (cxOf CX0 P w K mg base ["script", "seed", "cell"] "_law_start" (defScope s13) m.a__law_start cdv A out s H E).A _ _ := passes_of rfl
  exact pss_cons (ds_set (i := 1) (p := true) nd__law_start de_int)
    (pss_cons (ps_for hp rfl (pi_list (pe_var (i := 0) rfl (.inl rfl) (by decide) (by decide))) (tG_len (dg_name nd__law_start (i := 2)))
      (db_cons (ds_set (i := 1) (p := true) nd__law_start (de_op (p1 := true) (o1 := true) (p2 := true) (o2 := true) op_addV (de_op (p1 := true) (o1 := true) (p2 := true) (o2 := true) op_modV (de_callT (p := true) (o := true) cr_intV m.z_int (da_cons (p1 := true) (o1 := true) (p2 := true) (o2 := true) (de_op (p1 := true) (o1 := true) (p2 := true) (o2 := false) op_addV (de_op (p1 := true) (o1 := false) (p2 := true) (o2 := true) op_mulV (de_read (i := 1)) de_int) (de_read (i := 2))) da_nil)) de_int) de_int)) db_nil))
    (pss_cons (ps_ret (pe_lst (pa_cons (pe_callTy call_list_of rfl m.z_list (by decide +kernel) (pa_cons (pe_var (i := 0) rfl (.inl rfl) (by decide) (by decide)) pa_nil)) (pa_cons pe_int (pa_cons pe_int (pa_cons (pe_var (i := 1) rfl (.inl rfl) (by decide) (by decide)) pa_nil)))))) pss_nil))
/-! _law_draw -/
theorem sc__law_draw : FnScope ["state", "many", "value"] ["state", "many"] (defScope s14) := ⟨rfl, rfl, rfl, by decide +kernel, rfl, by decide +kernel, by decide +kernel⟩
theorem nd__law_draw : List.Nodup (["state", "many", "value"] : List Str) := sc__law_draw.nd
theorem bi__law_draw (m : MF K mg) : Binds K m.fd__law_draw ["state", "many"] [] := m.F__law_draw.bindsN fun _ _ _ _ _ _ us hl => match us, hl with | [_, _], _ => rfl
def f__law_draw : Sv := (sSeq (sIf (tAndE (eT (eBin eqD (eIx (eRead 0) (eC (.int 1))) (eC (.int 0)))) (eT (eBin geD (eIx (eRead 0) (eC (.int 2))) (eCall lenD (aCons (eIx (eRead 0) (eC (.int 0))) aNil)))))
  (sSeq (sSetIx 0 (eC (.int 3)) (eBin modD (eCall intD (aCons (eBin addD (eBin mulD (eIx (eRead 0) (eC (.int 3))) (eC (.int 48271))) (eC (.int 69621))) aNil)) (eC (.int 2147483629))))
  (sSeq (sRet (eBin modD (eCall intD (aCons (eBin fdivD (eIx (eRead 0) (eC (.int 3))) (eC (.int 13))) aNil)) (eRead 1)))
  sNx))
  sNx)
  (sSeq (sIf (eT (eBin eqD (eIx (eRead 0) (eC (.int 1))) (eC (.int 0))))
  (sSeq (sSetIx 0 (eC (.int 1)) (eCall absD (aCons (eIx (eIx (eRead 0) (eC (.int 0))) (eIx (eRead 0) (eC (.int 2)))) aNil)))
  (sSeq (sSetIx 0 (eC (.int 2)) (eBin addD (eIx (eRead 0) (eC (.int 2))) (eC (.int 1))))
  sNx))
  sNx)
  (sSeq (sSet 2 (eBin modD (eCall intD (aCons (eIx (eRead 0) (eC (.int 1))) aNil)) (eRead 1)))
  (sSeq (sSetIx 0 (eC (.int 1)) (eBin fdivD (eIx (eRead 0) (eC (.int 1))) (eRead 1)))
  (sSeq (sRet (eImm (eRead 2)))
  sNx)))))
def D__law_draw : Den := denOf 1 (some 0) f__law_draw
theorem g__law_draw (m : MF K mg) : FnG P w K mg base CX0 1 m.a__law_draw m.fd__law_draw ["state", "many"] (spD K 2 (some 0) D__law_draw) := by
  refine fn_den (A' := [2]) m.F__law_draw sc__law_draw (by intro k hk; first | (cases hk; done) | (cases hk; decide)) (by intro k hk; first | (cases hk; done) | (cases hk; decide)) fun cdv A out s H E room gd => ?_
  have hp : PassesOwn (model P w) (cxOf CX0 P w K mg base ["state", "many", "value"] "_law_draw" (defScope s14) m.a__law_draw cdv A out s H E).A _ _ := passes_of rfl
  have hu : (cxOf CX0 P w K mg base ["state", "many", "value"] "_law_draw" (defScope s14) m.a__law_draw cdv A out s H E).A.units + 64 < cLine := by have := room.un; show (A.deeper _).units + 64 < cLine; omega
  exact db_sub (db_cons (ds_if (p := true) (dt_w (dw_and (p1 := true) (p2 := true) (dt_cmp (p1 := true) (o1 := false) (p2 := true) (o2 := true) (op_eqV hu) (de_ix (p1 := true) (o1 := false) (p2 := true) (o2 := true) (de_read (i := 0)) de_int) de_int) (dw_and1 (p := true) (dt_cmp (p1 := true) (o1 := false) (p2 := true) (o2 := true) (op_geV hu) (de_ix (p1 := true) (o1 := false) (p2 := true) (o2 := true) (de_read (i := 0)) de_int) (de_callB (p := true) (o := false) cr_lenV m.z_len (da_cons (p1 := true) (o1 := false) (p2 := true) (o2 := true) (de_ix (p1 := true) (o1 := false) (p2 := true) (o2 := true) (de_read (i := 0)) de_int) da_nil))))))
  (db_cons (ds_setIx (i := 0) (p := true) (o := true) (de_op (p1 := true) (o1 := true) (p2 := true) (o2 := true) op_modV (de_callT (p := true) (o := true) cr_intV m.z_int (da_cons (p1 := true) (o1 := true) (p2 := true) (o2 := true) (de_op (p1 := true) (o1 := true) (p2 := true) (o2 := true) op_addV (de_op (p1 := true) (o1 := false) (p2 := true) (o2 := true) op_mulV (de_ix (p1 := true) (o1 := false) (p2 := true) (o2 := true) (de_read (i := 0)) de_int) de_int) de_int) da_nil)) de_int) de_int)
  (db_cons (ds_ret (p := true) (de_op (p1 := true) (o1 := true) (p2 := true) (o2 := false) op_modV (de_callT (p := true) (o := true) cr_intV m.z_int (da_cons (p1 := true) (o1 := true) (p2 := true) (o2 := true) (de_op (p1 := true) (o1 := false) (p2 := true) (o2 := true) op_fdivV (de_ix (p1 := true) (o1 := false) (p2 := true) (o2 := true) (de_read (i := 0)) de_int) de_int) da_nil)) (de_read (i := 1))))
  db_nil))
  db_nil)
  (db_cons (ds_if (p := true) (dt_cmp (p1 := true) (o1 := false) (p2 := true) (o2 := true) (op_eqV hu) (de_ix (p1 := true) (o1 := false) (p2 := true) (o2 := true) (de_read (i := 0)) de_int) de_int)
  (db_cons (ds_setIx (i := 0) (p := true) (o := true) (de_callB (p := true) (o := false) cr_absV m.z_abs (da_cons (p1 := true) (o1 := false) (p2 := true) (o2 := true) (de_ix (p1 := true) (o1 := false) (p2 := true) (o2 := false) (de_ix (p1 := true) (o1 := false) (p2 := true) (o2 := true) (de_read (i := 0)) de_int) (de_ix (p1 := true) (o1 := false) (p2 := true) (o2 := true) (de_read (i := 0)) de_int)) da_nil)) de_int)
  (db_cons (ds_setIx (i := 0) (p := true) (o := true) (de_op (p1 := true) (o1 := false) (p2 := true) (o2 := true) op_addV (de_ix (p1 := true) (o1 := false) (p2 := true) (o2 := true) (de_read (i := 0)) de_int) de_int) de_int)
  db_nil))
  db_nil)
  (db_cons (ds_set (i := 2) (p := true) nd__law_draw (de_op (p1 := true) (o1 := true) (p2 := true) (o2 := false) op_modV (de_callT (p := true) (o := false) cr_intV m.z_int (da_cons (p1 := true) (o1 := false) (p2 := true) (o2 := true) (de_ix (p1 := true) (o1 := false) (p2 := true) (o2 := true) (de_read (i := 0)) de_int) da_nil)) (de_read (i := 1))))
  (db_cons (ds_setIx (i := 0) (p := true) (o := true) (de_op (p1 := true) (o1 := false) (p2 := true) (o2 := false) op_fdivV (de_ix (p1 := true) (o1 := false) (p2 := true) (o2 := true) (de_read (i := 0)) de_int) (de_read (i := 1))) de_int)
  (db_cons (ds_ret (p := true) (de_imm (p := true) (o := false) (de_read (i := 2))))
  db_nil))))) (by decide)
/-! _law_pick -/
theorem sc__law_pick : FnScope ["state", "some"] ["state", "some"] (defScope s15) := ⟨rfl, rfl, rfl, by decide +kernel, rfl, by decide +kernel, by decide +kernel⟩
theorem nd__law_pick : List.Nodup (["state", "some"] : List Str) := sc__law_pick.nd
theorem bi__law_pick (m : MF K mg) : Binds K m.fd__law_pick ["state", "some"] [] := m.F__law_pick.bindsN fun _ _ _ _ _ _ us hl => match us, hl with | [_, _], _ => rfl
def f__law_pick : Sv := (sSeq (sRet (eImm (eIx (eReadP 1) (eFnIO 2 0 (D__law_draw) (zHere 0 (aCons (eCall lenD (aCons (eRead 1) aNil)) aNil))))))
  sNx)
def D__law_pick : Den := denOf 0 (some 0) f__law_pick
theorem g__law_pick (m : MF K mg) : FnG P w K mg base CX0 2 m.a__law_pick m.fd__law_pick ["state", "some"] (spD K 2 (some 0) D__law_pick) := by
  refine fn_den (A' := []) m.F__law_pick sc__law_pick (by intro k hk; first | (cases hk; done) | (cases hk; decide)) (by intro k hk; first | (cases hk; done) | (cases hk; decide)) fun cdv A out s H E room gd => ?_
  have hp : PassesOwn (model P w) (cxOf CX0 P w K mg base ["state", "some"] "_law_pick" (defScope s15) m.a__law_pick cdv A out s H E).A _ _ := passes_of rfl
  have hu : (cxOf CX0 P w K mg base ["state", "some"] "_law_pick" (defScope s15) m.a__law_pick cdv A out s H E).A.units + 64 < cLine := by have := room.un; show (A.deeper _).units + 64 < cLine; omega
  exact db_sub (db_cons (ds_ret (p := false) (de_imm (p := false) (o := false) (de_ofQ (p := false) (dq_ix (p1 := true) (p2 := false) (o2 := true) (dq_read (i := 1)) (de_fnIO (p := true) ((g__law_draw m).more (by decide)) room gd m.m__law_draw m.F__law_draw.kp (bi__law_draw m) pass0 (dio_here (p := true) (i := 0) (dza_cons (p1 := true) (p2 := true) (dz_own (p := true) (de_callB (p := true) (o := false) cr_lenV m.z_len (da_cons (p1 := true) (o1 := false) (p2 := true) (o2 := true) (de_read (i := 1)) da_nil))) dza_nil)))))))
  db_nil) (by decide)
/-! _law_cells -/
theorem sc__law_cells : FnScope ["state", "many", "most", "found", "top", "k", "first", "last"] ["state", "many", "most"] (defScope s17) := ⟨rfl, rfl, rfl, by decide +kernel, rfl, by decide +kernel, by decide +kernel⟩
theorem nd__law_cells : List.Nodup (["state", "many", "most", "found", "top", "k", "first", "last"] : List Str) := sc__law_cells.nd
theorem bi__law_cells (m : MF K mg) : Binds K m.fd__law_cells ["state", "many", "most"] [] := m.F__law_cells.bindsN fun _ _ _ _ _ _ us hl => match us, hl with | [_, _, _], _ => rfl
def l0__law_cells : Sv := (sSeq (sSet 6 (eFnIO 2 0 (D__law_draw) (zHere 0 (aCons (eReadP 1) aNil))))
  (sSeq (sSet 7 (eCall minD1 (aCons (eLst (aCons (eBin subD (eRead 1) (eC (.int 1))) (aCons (eBin addD (eImm (eRead 6)) (eFnIO 2 0 (D__law_pick) (zHere 0 (aCons (eLst (aCons (eC (.int 0)) (aCons (eC (.int 0)) (aCons (eC (.int 1)) (aCons (eC (.int 2)) (aCons (eFnIO 2 0 (D__law_draw) (zHere 0 (aCons (eReadP 1) aNil))) aNil)))))) aNil)))) aNil))) aNil)))
  (sSeq (sExpr (eApp 3 (eTup (aCons (eImm (eRead 6)) (aCons (eImm (eRead 7)) (aCons (eFnIO 2 0 (D__law_draw) (zHere 0 (aCons (eBin addD (eBin mulD (eRead 4) (eBin subD (eBin addD (eC (.int 1)) (eRead 7)) (eRead 6))) (eC (.int 1))) aNil))) aNil))))))
  sNx)))
def f__law_cells : Sv := (sSeq (sPar2 3 4 (aCons (eLst aNil) (aCons (eFnIO 2 0 (D__law_pick) (zHere 0 (aCons (eLst (aCons (eC (.int 3)) (aCons (eC (.int 30)) (aCons (eC (.int 200)) aNil)))) aNil))) aNil)))
  (sSeq (sFor [5, 6, 7] (.nm 5) (iFn rng1D (aCons (eFnIO 2 0 (D__law_draw) (zHere 0 (aCons (eBin addD (eRead 2) (eC (.int 1))) aNil))) aNil))
  l0__law_cells)
  (sSeq (sRet (eCall tupleD (aCons (eRead 3) aNil)))
  sNx)))
def D__law_cells : Den := denOf 5 (some 0) f__law_cells
theorem g__law_cells (m : MF K mg) : FnG P w K mg base CX0 3 m.a__law_cells m.fd__law_cells ["state", "many", "most"] (spD K 3 (some 0) D__law_cells) := by
  refine fn_den (A' := [3, 4, 5, 6, 7]) m.F__law_cells sc__law_cells (by intro k hk; first | (cases hk; done) | (cases hk; decide)) (by intro k hk; first | (cases hk; done) | (cases hk; decide)) fun cdv A out s H E room gd => ?_
  have hp : PassesOwn (model P w) (cxOf CX0 P w K mg base ["state", "many", "most", "found", "top", "k", "first", "last"] "_law_cells" (defScope s17) m.a__law_cells cdv A out s H E).A _ _ := passes_of rfl
  have hu : (cxOf CX0 P w K mg base ["state", "many", "most", "found", "top", "k", "first", "last"] "_law_cells" (defScope s17) m.a__law_cells cdv A out s H E).A.units + 64 < cLine := by have := room.un; show (A.deeper _).units + 64 < cLine; omega
  exact db_sub (db_cons (ds_par2 (i := 3) (j := 4) (p := false) rfl nd__law_cells (da_cons (p1 := true) (o1 := true) (p2 := false) (o2 := true) (de_lst (p := true) (o := true) da_nil) (da_cons (p1 := false) (o1 := true) (p2 := true) (o2 := true) (de_fnIO (p := true) ((g__law_pick m).more (by decide)) room gd m.m__law_pick m.F__law_pick.kp (bi__law_pick m) pass0 (dio_here (p := true) (i := 0) (dza_cons (p1 := true) (p2 := true) (dz_own (p := true) (de_lst (p := true) (o := true) (da_cons (p1 := true) (o1 := true) (p2 := true) (o2 := true) de_int (da_cons (p1 := true) (o1 := true) (p2 := true) (o2 := true) de_int (da_cons (p1 := true) (o1 := true) (p2 := true) (o2 := true) de_int da_nil))))) dza_nil))) da_nil)))
  (db_cons (ds_for (p := false) (ks := [5, 6, 7]) hp rfl (di_range1 (p := false) (o := true) m.z_range (da_cons (p1 := false) (o1 := true) (p2 := true) (o2 := true) (de_fnIO (p := true) ((g__law_draw m).more (by decide)) room gd m.m__law_draw m.F__law_draw.kp (bi__law_draw m) pass0 (dio_here (p := true) (i := 0) (dza_cons (p1 := true) (p2 := true) (dz_own (p := true) (de_op (p1 := true) (o1 := false) (p2 := true) (o2 := true) op_addV (de_read (i := 2)) de_int)) dza_nil))) da_nil)) (dg_name nd__law_cells (i := 5))
  (db_cons (ds_set (i := 6) (p := false) nd__law_cells (de_fnIO (p := true) ((g__law_draw m).more (by decide)) room gd m.m__law_draw m.F__law_draw.kp (bi__law_draw m) pass0 (dio_here (p := true) (i := 0) (dza_cons (p1 := true) (p2 := true) (dz_q (p := true) (dq_read (i := 1))) dza_nil))))
  (db_cons (ds_set (i := 7) (p := false) nd__law_cells (de_callB (p := false) (o := true) (cr_minV rfl hu) m.z_min (da_cons (p1 := false) (o1 := true) (p2 := true) (o2 := true) (de_lst (p := false) (o := true) (da_cons (p1 := true) (o1 := true) (p2 := false) (o2 := true) (de_op (p1 := true) (o1 := false) (p2 := true) (o2 := true) op_subV (de_read (i := 1)) de_int) (da_cons (p1 := false) (o1 := true) (p2 := true) (o2 := true) (de_op (p1 := true) (o1 := true) (p2 := false) (o2 := true) op_addV (de_imm (p := true) (o := false) (de_read (i := 6))) (de_fnIO (p := false) ((g__law_pick m).more (by decide)) room gd m.m__law_pick m.F__law_pick.kp (bi__law_pick m) pass0 (dio_here (p := false) (i := 0) (dza_cons (p1 := false) (p2 := true) (dz_own (p := false) (de_lst (p := false) (o := true) (da_cons (p1 := true) (o1 := true) (p2 := false) (o2 := true) de_int (da_cons (p1 := true) (o1 := true) (p2 := false) (o2 := true) de_int (da_cons (p1 := true) (o1 := true) (p2 := false) (o2 := true) de_int (da_cons (p1 := true) (o1 := true) (p2 := false) (o2 := true) de_int (da_cons (p1 := false) (o1 := true) (p2 := true) (o2 := true) (de_fnIO (p := true) ((g__law_draw m).more (by decide)) room gd m.m__law_draw m.F__law_draw.kp (bi__law_draw m) pass0 (dio_here (p := true) (i := 0) (dza_cons (p1 := true) (p2 := true) (dz_q (p := true) (dq_read (i := 1))) dza_nil))) da_nil))))))) dza_nil)))) da_nil))) da_nil)))
  (db_cons (ds_expr (p := false) (o := true) (de_app (p := false) (i := 3) (de_tup (p := false) (o := true) (da_cons (p1 := true) (o1 := true) (p2 := false) (o2 := true) (de_imm (p := true) (o := false) (de_read (i := 6))) (da_cons (p1 := true) (o1 := true) (p2 := false) (o2 := true) (de_imm (p := true) (o := false) (de_read (i := 7))) (da_cons (p1 := false) (o1 := true) (p2 := true) (o2 := true) (de_fnIO (p := true) ((g__law_draw m).more (by decide)) room gd m.m__law_draw m.F__law_draw.kp (bi__law_draw m) pass0 (dio_here (p := true) (i := 0) (dza_cons (p1 := true) (p2 := true) (dz_own (p := true) (de_op (p1 := true) (o1 := true) (p2 := true) (o2 := true) op_addV (de_op (p1 := true) (o1 := false) (p2 := true) (o2 := true) op_mulV (de_read (i := 4)) (de_op (p1 := true) (o1 := true) (p2 := true) (o2 := false) op_subV (de_op (p1 := true) (o1 := true) (p2 := true) (o2 := false) op_addV de_int (de_read (i := 7))) (de_read (i := 6)))) de_int)) dza_nil))) da_nil))))))
  db_nil))))
  (db_cons (ds_ret (p := true) (de_callT (p := true) (o := false) cr_tupleV m.z_tuple (da_cons (p1 := true) (o1 := false) (p2 := true) (o2 := true) (de_read (i := 3)) da_nil)))
  db_nil))) (by decide)
/-! _law_edges -/
theorem sc__law_edges : FnScope ["many", "gap", "cells", "edges", "column", "least", "first", "last", "width"] ["many", "gap", "cells"] (defScope s18) := ⟨rfl, rfl, rfl, by decide +kernel, rfl, by decide +kernel, by decide +kernel⟩
theorem nd__law_edges : List.Nodup (["many", "gap", "cells", "edges", "column", "least", "first", "last", "width"] : List Str) := sc__law_edges.nd
theorem bi__law_edges (m : MF K mg) : Binds K m.fd__law_edges ["many", "gap", "cells"] [] := m.F__law_edges.bindsN fun _ _ _ _ _ _ us hl => match us, hl with | [_, _, _], _ => rfl
def l0__law_edges : Sv := (sSeq (sIf (eT (eBin eqD (eRead 7) (eRead 4)))
  (sSeq (sSet 5 (eCall maxD1 (aCons (eLst (aCons (eImm (eRead 5)) (aCons (eBin subD (eBin addD (eIf (eT (eBin gtD (eRead 6) (eC (.int 0)))) (eImm (eIx (eRead 3) (eBin subD (eRead 6) (eC (.int 1))))) (eC (.int 0))) (eRead 8)) (eBin mulD (eRead 1) (eBin subD (eRead 7) (eRead 6)))) aNil))) aNil)))
  sNx)
  sNx)
  sNx)
def l1__law_edges : Sv := (sSeq (sSet 5 (eIf (eTru (eRead 3)) (eImm (eIx (eRead 3) (eUn negD (eC (.int 1))))) (eC (.int 0))))
  (sSeq (sFor [6, 7, 8] (.tp ((.nm 6) :: ((.nm 7) :: ((.nm 8) :: [])))) (iTpl (eReadP 2))
  l0__law_edges)
  (sSeq (sExpr (eApp 3 (eImm (eRead 5))))
  sNx)))
def f__law_edges : Sv := (sSeq (sSet 3 (eLst aNil))
  (sSeq (sFor [4, 5, 6, 7, 8] (.nm 4) (iFn rng1D (aCons (eRead 0) aNil))
  l1__law_edges)
  (sSeq (sRet (eMove 3))
  sNx)))
def D__law_edges : Den := denOf 6 none f__law_edges
theorem g__law_edges (m : MF K mg) : FnG P w K mg base CX0 1 m.a__law_edges m.fd__law_edges ["many", "gap", "cells"] (spD K 3 none D__law_edges) := by
  refine fn_den (A' := [3, 4, 5, 6, 7, 8]) m.F__law_edges sc__law_edges (by intro k hk; first | (cases hk; done) | (cases hk; decide)) (by intro k hk; first | (cases hk; done) | (cases hk; decide)) fun cdv A out s H E room gd => ?_
  have hp : PassesOwn (model P w) (cxOf CX0 P w K mg base ["many", "gap", "cells", "edges", "column", "least", "first", "last", "width"] "_law_edges" (defScope s18) m.a__law_edges cdv A out s H E).A _ _ := passes_of rfl
  have hu : (cxOf CX0 P w K mg base ["many", "gap", "cells", "edges", "column", "least", "first", "last", "width"] "_law_edges" (defScope s18) m.a__law_edges cdv A out s H E).A.units + 64 < cLine := by have := room.un; show (A.deeper _).units + 64 < cLine; omega
  exact db_sub (db_cons (ds_set (i := 3) (p := true) nd__law_edges (de_lst (p := true) (o := true) da_nil))
  (db_cons (ds_for (p := true) (ks := [4, 5, 6, 7, 8]) hp rfl (di_range1 (p := true) (o := false) m.z_range (da_cons (p1 := true) (o1 := false) (p2 := true) (o2 := true) (de_read (i := 0)) da_nil)) (dg_name nd__law_edges (i := 4))
  (db_cons (ds_set (i := 5) (p := true) nd__law_edges (de_if (pt := true) (p1 := true) (o1 := true) (p2 := true) (o2 := true) (dt_truth (p := true) (o := false) (de_read (i := 3))) (de_imm (p := true) (o := false) (de_ix (p1 := true) (o1 := false) (p2 := true) (o2 := true) (de_read (i := 3)) (de_un (p := true) (o := true) un_negV de_int))) de_int))
  (db_cons (ds_for (p := true) (ks := [6, 7, 8]) hp rfl (di_tup (p := true) (dp_ofQ (p := true) (dq_read (i := 2)))) (dg_tup rfl (dgs_cons (dg_name nd__law_edges (i := 6)) (dgs_cons (dg_name nd__law_edges (i := 7)) (dgs_cons (dg_name nd__law_edges (i := 8)) dgs_nil))))
  (db_cons (ds_if (p := true) (dt_cmp (p1 := true) (o1 := false) (p2 := true) (o2 := false) (op_eqV hu) (de_read (i := 7)) (de_read (i := 4)))
  (db_cons (ds_set (i := 5) (p := true) nd__law_edges (de_callB (p := true) (o := true) (cr_maxV rfl hu) m.z_max (da_cons (p1 := true) (o1 := true) (p2 := true) (o2 := true) (de_lst (p := true) (o := true) (da_cons (p1 := true) (o1 := true) (p2 := true) (o2 := true) (de_imm (p := true) (o := false) (de_read (i := 5))) (da_cons (p1 := true) (o1 := true) (p2 := true) (o2 := true) (de_op (p1 := true) (o1 := true) (p2 := true) (o2 := true) op_subV (de_op (p1 := true) (o1 := true) (p2 := true) (o2 := false) op_addV (de_if (pt := true) (p1 := true) (o1 := true) (p2 := true) (o2 := true) (dt_cmp (p1 := true) (o1 := false) (p2 := true) (o2 := true) (op_gtV hu) (de_read (i := 6)) de_int) (de_imm (p := true) (o := false) (de_ix (p1 := true) (o1 := false) (p2 := true) (o2 := true) (de_read (i := 3)) (de_op (p1 := true) (o1 := false) (p2 := true) (o2 := true) op_subV (de_read (i := 6)) de_int))) de_int) (de_read (i := 8))) (de_op (p1 := true) (o1 := false) (p2 := true) (o2 := true) op_mulV (de_read (i := 1)) (de_op (p1 := true) (o1 := false) (p2 := true) (o2 := false) op_subV (de_read (i := 7)) (de_read (i := 6))))) da_nil))) da_nil)))
  db_nil)
  db_nil)
  db_nil))
  (db_cons (ds_expr (p := false) (o := true) (de_app (p := true) (i := 3) (de_imm (p := true) (o := false) (de_read (i := 5)))))
  db_nil))))
  (db_cons (ds_ret (p := false) (de_move (i := 3)))
  db_nil))) (by decide)
/-! _law_told -/
theorem sc__law_told : FnScope ["many", "gap", "cells", "edges", "widths", "k"] ["many", "gap", "cells"] (defScope s19) := ⟨rfl, rfl, rfl, by decide +kernel, rfl, by decide +kernel, by decide +kernel⟩
theorem nd__law_told : List.Nodup (["many", "gap", "cells", "edges", "widths", "k"] : List Str) := sc__law_told.nd
theorem bi__law_told (m : MF K mg) : Binds K m.fd__law_told ["many", "gap", "cells"] [] := m.F__law_told.bindsN fun _ _ _ _ _ _ us hl => match us, hl with | [_, _, _], _ => rfl
def f__law_told : Sv := (sSeq (sSet 3 (eFn 3 (D__law_edges) (aCons (eRead 0) (aCons (eRead 1) (aCons (eRead 2) aNil)))))
  (sSeq (sSet 4 (eCall tupleD (aCons (eLc [5] (.nm 5) (iFn rng1D (aCons (eRead 0) aNil)) tYesE (eBin subD (eIx (eRead 3) (eRead 5)) (eIf (eT (eBin gtD (eRead 5) (eC (.int 0)))) (eImm (eIx (eRead 3) (eBin subD (eRead 5) (eC (.int 1))))) (eC (.int 0))))) aNil)))
  (sSeq (sRet (eTup (aCons (eBin addD (eIx (eRead 3) (eUn negD (eC (.int 1)))) (eBin mulD (eRead 1) (eBin subD (eRead 0) (eC (.int 1))))) (aCons (eImm (eRead 4)) aNil))))
  sNx)))
def D__law_told : Den := denOf 3 none f__law_told
theorem g__law_told (m : MF K mg) : FnG P w K mg base CX0 2 m.a__law_told m.fd__law_told ["many", "gap", "cells"] (spD K 3 none D__law_told) := by
  refine fn_den (A' := [3, 4]) m.F__law_told sc__law_told (by intro k hk; first | (cases hk; done) | (cases hk; decide)) (by intro k hk; first | (cases hk; done) | (cases hk; decide)) fun cdv A out s H E room gd => ?_
  have hp : PassesOwn (model P w) (cxOf CX0 P w K mg base ["many", "gap", "cells", "edges", "widths", "k"] "_law_told" (defScope s19) m.a__law_told cdv A out s H E).A _ _ := passes_of rfl
  have hu : (cxOf CX0 P w K mg base ["many", "gap", "cells", "edges", "widths", "k"] "_law_told" (defScope s19) m.a__law_told cdv A out s H E).A.units + 64 < cLine := by have := room.un; show (A.deeper _).units + 64 < cLine; omega
  exact db_sub (db_cons (ds_set (i := 3) (p := true) nd__law_told (de_fn (p := true) (o := false) ((g__law_edges m).more (by decide)) room gd m.m__law_edges m.F__law_edges.kp (bi__law_edges m) pass0 (da_cons (p1 := true) (o1 := false) (p2 := true) (o2 := false) (de_read (i := 0)) (da_cons (p1 := true) (o1 := false) (p2 := true) (o2 := false) (de_read (i := 1)) (da_cons (p1 := true) (o1 := false) (p2 := true) (o2 := true) (de_read (i := 2)) da_nil)))))
  (db_cons (ds_set (i := 4) (p := true) nd__law_told (de_callT (p := true) (o := true) cr_tupleV m.z_tuple (da_cons (p1 := true) (o1 := true) (p2 := true) (o2 := true) (de_lc (p1 := true) (p2 := true) (p3 := true) rfl nd__law_told (di_range1 (p := true) (o := false) m.z_range (da_cons (p1 := true) (o1 := false) (p2 := true) (o2 := true) (de_read (i := 0)) da_nil)) (blkOk_by (own := [("k", 5)]) (by kernel_rfl)) (fun _ _ _ _ _ => (dg_name nd__law_told (i := 5))) (fun _ _ _ _ _ => dts_nil) (fun _ _ _ _ _ => (de_op (p1 := true) (o1 := false) (p2 := true) (o2 := true) op_subV (de_ix (p1 := true) (o1 := false) (p2 := true) (o2 := false) (de_read (i := 3)) (de_read (i := 5))) (de_if (pt := true) (p1 := true) (o1 := true) (p2 := true) (o2 := true) (dt_cmp (p1 := true) (o1 := false) (p2 := true) (o2 := true) (op_gtV hu) (de_read (i := 5)) de_int) (de_imm (p := true) (o := false) (de_ix (p1 := true) (o1 := false) (p2 := true) (o2 := true) (de_read (i := 3)) (de_op (p1 := true) (o1 := false) (p2 := true) (o2 := true) op_subV (de_read (i := 5)) de_int))) de_int)))) da_nil)))
  (db_cons (ds_ret (p := true) (de_tup (p := true) (o := true) (da_cons (p1 := true) (o1 := true) (p2 := true) (o2 := true) (de_op (p1 := true) (o1 := false) (p2 := true) (o2 := true) op_addV (de_ix (p1 := true) (o1 := false) (p2 := true) (o2 := true) (de_read (i := 3)) (de_un (p := true) (o := true) un_negV de_int)) (de_op (p1 := true) (o1 := false) (p2 := true) (o2 := true) op_mulV (de_read (i := 1)) (de_op (p1 := true) (o1 := false) (p2 := true) (o2 := true) op_subV (de_read (i := 0)) de_int))) (da_cons (p1 := true) (o1 := true) (p2 := true) (o2 := true) (de_imm (p := true) (o := false) (de_read (i := 4))) da_nil))))
  db_nil))) (by decide)
/-! _law_same -/
theorem sc__law_same : FnScope ["actual", "due"] ["actual", "due"] (defScope s16) := ⟨rfl, rfl, rfl, by decide +kernel, rfl, by decide +kernel, by decide +kernel⟩
theorem nd__law_same : List.Nodup (["actual", "due"] : List Str) := sc__law_same.nd
theorem bi__law_same (m : MF K mg) : Binds K m.fd__law_same ["actual", "due"] [] := m.F__law_same.bindsN fun _ _ _ _ _ _ us hl => match us, hl with | [_, _], _ => rfl
def f__law_same : Sv := (sSeq (sRet (eAnd (eBin eqD (eRead 0) (eRead 1)) (eBin eqD (eCall reprD (aCons (eRead 0) aNil)) (eCall reprD (aCons (eRead 1) aNil)))))
  sNx)
def D__law_same : Den := denOf 0 none f__law_same
theorem g__law_same (m : MF K mg) : FnG P w K mg base CX0 1 m.a__law_same m.fd__law_same ["actual", "due"] (spD K 2 none D__law_same) := by
  refine fn_den (A' := []) m.F__law_same sc__law_same (by intro k hk; first | (cases hk; done) | (cases hk; decide)) (by intro k hk; first | (cases hk; done) | (cases hk; decide)) fun cdv A out s H E room gd => ?_
  have hp : PassesOwn (model P w) (cxOf CX0 P w K mg base ["actual", "due"] "_law_same" (defScope s16) m.a__law_same cdv A out s H E).A _ _ := passes_of rfl
  have hu : (cxOf CX0 P w K mg base ["actual", "due"] "_law_same" (defScope s16) m.a__law_same cdv A out s H E).A.units + 64 < cLine := by have := room.un; show (A.deeper _).units + 64 < cLine; omega
  exact db_sub (db_cons (ds_ret (p := true) (de_and (p1 := true) (o1 := true) (p2 := true) (o2 := true) (de_cmp (p1 := true) (o1 := false) (p2 := true) (o2 := false) (op_eqV hu) (de_read (i := 0)) (de_read (i := 1))) (de_and1 (p := true) (o := true) (de_cmp (p1 := true) (o1 := true) (p2 := true) (o2 := true) (op_eqV hu) (de_callB (p := true) (o := false) (cr_reprV hu gd) m.z_repr (da_cons (p1 := true) (o1 := false) (p2 := true) (o2 := true) (de_read (i := 0)) da_nil)) (de_callB (p := true) (o := false) (cr_reprV hu gd) m.z_repr (da_cons (p1 := true) (o1 := false) (p2 := true) (o2 := true) (de_read (i := 1)) da_nil))))))
  db_nil) (by decide)
/-! is_integer -/
theorem sc_is_integer : FnScope ["value"] ["value"] (defScope s0) := ⟨rfl, rfl, rfl, by decide +kernel, rfl, by decide +kernel, by decide +kernel⟩
theorem nd_is_integer : List.Nodup (["value"] : List Str) := sc_is_integer.nd
theorem bi_is_integer (m : MF K mg) : Binds K m.fd_is_integer ["value"] [] := m.F_is_integer.bindsN fun _ _ _ _ _ _ us hl => match us, hl with | [_], _ => rfl
def f_is_integer : Sv := (sSeq (sRet (eAnd (eIs PyData.isInt (eRead 0)) (eUn notD (eIs PyData.isBool (eRead 0)))))
  sNx)
def D_is_integer : Den := denOf 0 none f_is_integer
theorem g_is_integer (m : MF K mg) : FnG P w K mg base CX0 1 m.a_is_integer m.fd_is_integer ["value"] (spD K 1 none D_is_integer) := by
  refine fn_den (A' := []) m.F_is_integer sc_is_integer (by intro k hk; first | (cases hk; done) | (cases hk; decide)) (by intro k hk; first | (cases hk; done) | (cases hk; decide)) fun cdv A out s H E room gd => ?_
  have hp : PassesOwn (model P w) (cxOf CX0 P w K mg base ["value"] "is_integer" (defScope s0) m.a_is_integer cdv A out s H E).A _ _ := passes_of rfl
  have hu : (cxOf CX0 P w K mg base ["value"] "is_integer" (defScope s0) m.a_is_integer cdv A out s H E).A.units + 64 < cLine := by have := room.un; show (A.deeper _).units + 64 < cLine; omega
  exact db_sub (db_cons (ds_ret (p := true) (de_and (p1 := true) (o1 := true) (p2 := true) (o2 := true) (de_isV (p := true) (o := false) (cr_isV PySem.W.isinstance_int_data) m.z_isinstance m.z_int rfl (de_read (i := 0))) (de_and1 (p := true) (o := true) (de_not (p := true) (o := true) (de_isV (p := true) (o := false) (cr_isV PySem.W.isinstance_bool_data) m.z_isinstance m.z_bool rfl (de_read (i := 0)))))))
  db_nil) (by decide)
/-! check_cells -/
theorem sc_check_cells : FnScope ["many", "gap", "cells", "cell", "part"] ["many", "gap", "cells"] (defScope s1) := ⟨rfl, rfl, rfl, by decide +kernel, rfl, by decide +kernel, by decide +kernel⟩
theorem nd_check_cells : List.Nodup (["many", "gap", "cells", "cell", "part"] : List Str) := sc_check_cells.nd
theorem bi_check_cells (m : MF K mg) : Binds K m.fd_check_cells ["many", "gap", "cells"] [] := m.F_check_cells.bindsN fun _ _ _ _ _ _ us hl => match us, hl with | [_, _, _], _ => rfl
def l0_check_cells : Sv := (sSeq (sIf (tOrE (tNotE (eTru (eIs PyData.isTuple (eRead 3)))) (tOrE (eT (eBin neD (eCall lenD (aCons (eRead 3) aNil)) (eC (.int 3)))) (tNotE (eTru (eCall allD (aCons (eLc [4] (.nm 4) (iTpl (eReadP 3)) tYesE (eFn 1 (D_is_integer) (aCons (eRead 4) aNil))) aNil))))))
  (sSeq sNo
  sNx)
  sNx)
  (sSeq (sIf (tOrE (tNotE (tChain (eC (.int 0)) (cLink leD (eIx (eRead 3) (eC (.int 0))) (cLink leD (eIx (eRead 3) (eC (.int 1))) (cLast ltD (eRead 0)))))) (tNotE (tChain (eC (.int 0)) (cLink leD (eIx (eRead 3) (eC (.int 2))) (cLast leD (eC (.int 100000)))))))
  (sSeq sNo
  sNx)
  sNx)
  sNx))
def f_check_cells : Sv := (sSeq (sIf (tOrE (tNotE (eTru (eFn 1 (D_is_integer) (aCons (eRead 0) aNil)))) (tNotE (tChain (eC (.int 1)) (cLink leD (eRead 0) (cLast leD (eC (.int 8)))))))
  (sSeq sNo
  sNx)
  sNx)
  (sSeq (sIf (tOrE (tNotE (eTru (eFn 1 (D_is_integer) (aCons (eRead 1) aNil)))) (tNotE (tChain (eC (.int 0)) (cLink leD (eRead 1) (cLast leD (eC (.int 100000)))))))
  (sSeq sNo
  sNx)
  sNx)
  (sSeq (sIf (tOrE (tNotE (eTru (eIs PyData.isTuple (eRead 2)))) (eT (eBin gtD (eCall lenD (aCons (eRead 2) aNil)) (eC (.int 60)))))
  (sSeq sNo
  sNx)
  sNx)
  (sSeq (sFor [3] (.nm 3) (iTpl (eReadP 2))
  l0_check_cells)
  sNx))))
def D_check_cells : Den := denOf 2 none f_check_cells
theorem g_check_cells (m : MF K mg) : FnG P w K mg base CX0 2 m.a_check_cells m.fd_check_cells ["many", "gap", "cells"] (spD K 3 none D_check_cells) := by
  refine fn_den (A' := [3]) m.F_check_cells sc_check_cells (by intro k hk; first | (cases hk; done) | (cases hk; decide)) (by intro k hk; first | (cases hk; done) | (cases hk; decide)) fun cdv A out s H E room gd => ?_
  have hp : PassesOwn (model P w) (cxOf CX0 P w K mg base ["many", "gap", "cells", "cell", "part"] "check_cells" (defScope s1) m.a_check_cells cdv A out s H E).A _ _ := passes_of rfl
  have hu : (cxOf CX0 P w K mg base ["many", "gap", "cells", "cell", "part"] "check_cells" (defScope s1) m.a_check_cells cdv A out s H E).A.units + 64 < cLine := by have := room.un; show (A.deeper _).units + 64 < cLine; omega
  exact db_sub (db_cons (ds_if (p := true) (dt_w (dw_or (p1 := true) (p2 := true) (dt_not (p := true) (dt_truth (p := true) (o := true) (de_fn (p := true) (o := false) ((g_is_integer m).more (by decide)) room gd m.m_is_integer m.F_is_integer.kp (bi_is_integer m) pass0 (da_cons (p1 := true) (o1 := false) (p2 := true) (o2 := true) (de_read (i := 0)) da_nil)))) (dw_or1 (p := true) (dt_not (p := true) (dt_chain (o := true) de_int (dct_link (o := false) (op_leV hu) (de_read (i := 0)) (dct_last (o := true) (op_leV hu) (de_gint rfl (m.c_MAX_COLUMNS).choose_spec))))))))
  (db_cons ds_never
  db_nil)
  db_nil)
  (db_cons (ds_if (p := true) (dt_w (dw_or (p1 := true) (p2 := true) (dt_not (p := true) (dt_truth (p := true) (o := true) (de_fn (p := true) (o := false) ((g_is_integer m).more (by decide)) room gd m.m_is_integer m.F_is_integer.kp (bi_is_integer m) pass0 (da_cons (p1 := true) (o1 := false) (p2 := true) (o2 := true) (de_read (i := 1)) da_nil)))) (dw_or1 (p := true) (dt_not (p := true) (dt_chain (o := true) de_int (dct_link (o := false) (op_leV hu) (de_read (i := 1)) (dct_last (o := true) (op_leV hu) (de_gint rfl (m.c_MAX_WIDTH).choose_spec))))))))
  (db_cons ds_never
  db_nil)
  db_nil)
  (db_cons (ds_if (p := true) (dt_w (dw_or (p1 := true) (p2 := true) (dt_not (p := true) (dt_truth (p := true) (o := true) (de_isV (p := true) (o := false) (cr_isV PySem.W.isinstance_tuple_data) m.z_isinstance m.z_tuple rfl (de_read (i := 2))))) (dw_or1 (p := true) (dt_cmp (p1 := true) (o1 := true) (p2 := true) (o2 := true) (op_gtV hu) (de_callB (p := true) (o := false) cr_lenV m.z_len (da_cons (p1 := true) (o1 := false) (p2 := true) (o2 := true) (de_read (i := 2)) da_nil)) (de_gint rfl (m.c_MAX_CELLS).choose_spec)))))
  (db_cons ds_never
  db_nil)
  db_nil)
  (db_cons (ds_for (p := true) (ks := [3]) hp rfl (di_tup (p := true) (dp_ofQ (p := true) (dq_read (i := 2)))) (dg_name nd_check_cells (i := 3))
  (db_cons (ds_if (p := true) (dt_w (dw_or (p1 := true) (p2 := true) (dt_not (p := true) (dt_truth (p := true) (o := true) (de_isV (p := true) (o := false) (cr_isV PySem.W.isinstance_tuple_data) m.z_isinstance m.z_tuple rfl (de_read (i := 3))))) (dw_or (p1 := true) (p2 := true) (dt_cmp (p1 := true) (o1 := true) (p2 := true) (o2 := true) (op_neV hu) (de_callB (p := true) (o := false) cr_lenV m.z_len (da_cons (p1 := true) (o1 := false) (p2 := true) (o2 := true) (de_read (i := 3)) da_nil)) de_int) (dw_or1 (p := true) (dt_not (p := true) (dt_truth (p := true) (o := true) (de_callB (p := true) (o := true) (cr_allV rfl) m.z_all (da_cons (p1 := true) (o1 := true) (p2 := true) (o2 := true) (de_lc (p1 := true) (p2 := true) (p3 := true) rfl nd_check_cells (di_tup (p := true) (dp_ofQ (p := true) (dq_read (i := 3)))) (blkOk_by (own := [("part", 4)]) (by kernel_rfl)) (fun _ _ _ _ _ => (dg_name nd_check_cells (i := 4))) (fun _ _ _ _ _ => dts_nil) (fun _ _ _ _ _ => (de_fn (p := true) (o := false) ((g_is_integer m).more (by decide)) room gd m.m_is_integer m.F_is_integer.kp (bi_is_integer m) pass0 (da_cons (p1 := true) (o1 := false) (p2 := true) (o2 := true) (de_read (i := 4)) da_nil)))) da_nil))))))))
  (db_cons ds_never
  db_nil)
  db_nil)
  (db_cons (ds_if (p := true) (dt_w (dw_or (p1 := true) (p2 := true) (dt_not (p := true) (dt_chain (o := true) de_int (dct_link (o := false) (op_leV hu) (de_ix (p1 := true) (o1 := false) (p2 := true) (o2 := true) (de_read (i := 3)) de_int) (dct_link (o := false) (op_leV hu) (de_ix (p1 := true) (o1 := false) (p2 := true) (o2 := true) (de_read (i := 3)) de_int) (dct_last (o := false) (op_ltV hu) (de_read (i := 0))))))) (dw_or1 (p := true) (dt_not (p := true) (dt_chain (o := true) de_int (dct_link (o := false) (op_leV hu) (de_ix (p1 := true) (o1 := false) (p2 := true) (o2 := true) (de_read (i := 3)) de_int) (dct_last (o := true) (op_leV hu) (de_gint rfl (m.c_MAX_WIDTH).choose_spec))))))))
  (db_cons ds_never
  db_nil)
  db_nil)
  db_nil)))
  db_nil)))) (by decide)
/-! needs_of -/
theorem sc_needs_of : FnScope ["gap", "cells", "width", "last", "first"] ["gap", "cells"] (defScope s2) := ⟨rfl, rfl, rfl, by decide +kernel, rfl, by decide +kernel, by decide +kernel⟩
theorem nd_needs_of : List.Nodup (["gap", "cells", "width", "last", "first"] : List Str) := sc_needs_of.nd
theorem bi_needs_of (m : MF K mg) : Binds K m.fd_needs_of ["gap", "cells"] [] := m.F_needs_of.bindsN fun _ _ _ _ _ _ us hl => match us, hl with | [_, _], _ => rfl
def f_needs_of : Sv := (sSeq (sRet (eLc [4, 3, 2] (.tp ((.nm 4) :: ((.nm 3) :: ((.nm 2) :: [])))) (iTpl (eReadP 1)) tYesE (eImm (eTup (aCons (eRead 4) (aCons (eBin addD (eRead 3) (eC (.int 1))) (aCons (eCall maxD1 (aCons (eC (.int 0)) (aCons (eBin subD (eRead 2) (eBin mulD (eRead 0) (eBin subD (eRead 3) (eRead 4)))) aNil))) aNil)))))))
  sNx)
def D_needs_of : Den := denOf 3 none f_needs_of
theorem g_needs_of (m : MF K mg) : FnG P w K mg base CX0 1 m.a_needs_of m.fd_needs_of ["gap", "cells"] (spD K 2 none D_needs_of) := by
  refine fn_den (A' := []) m.F_needs_of sc_needs_of (by intro k hk; first | (cases hk; done) | (cases hk; decide)) (by intro k hk; first | (cases hk; done) | (cases hk; decide)) fun cdv A out s H E room gd => ?_
  have hp : PassesOwn (model P w) (cxOf CX0 P w K mg base ["gap", "cells", "width", "last", "first"] "needs_of" (defScope s2) m.a_needs_of cdv A out s H E).A _ _ := passes_of rfl
  have hu : (cxOf CX0 P w K mg base ["gap", "cells", "width", "last", "first"] "needs_of" (defScope s2) m.a_needs_of cdv A out s H E).A.units + 64 < cLine := by have := room.un; show (A.deeper _).units + 64 < cLine; omega
  exact db_sub (db_cons (ds_ret (p := true) (de_lc (p1 := true) (p2 := true) (p3 := true) rfl nd_needs_of (di_tup (p := true) (dp_ofQ (p := true) (dq_read (i := 1)))) (blkOk_by (own := [("first", 4), ("last", 3), ("width", 2)]) (by kernel_rfl)) (fun _ _ _ _ _ => (dg_tup rfl (dgs_cons (dg_name nd_needs_of (i := 4)) (dgs_cons (dg_name nd_needs_of (i := 3)) (dgs_cons (dg_name nd_needs_of (i := 2)) dgs_nil))))) (fun _ _ _ _ _ => dts_nil) (fun _ _ _ _ _ => (de_imm (p := true) (o := false) (de_tup (p := true) (o := false) (da_cons (p1 := true) (o1 := false) (p2 := true) (o2 := true) (de_read (i := 4)) (da_cons (p1 := true) (o1 := true) (p2 := true) (o2 := true) (de_op (p1 := true) (o1 := false) (p2 := true) (o2 := true) op_addV (de_read (i := 3)) de_int) (da_cons (p1 := true) (o1 := true) (p2 := true) (o2 := true) (de_callB (p := true) (o := true) (cr_maxV rfl hu) m.z_max (da_cons (p1 := true) (o1 := true) (p2 := true) (o2 := true) de_int (da_cons (p1 := true) (o1 := true) (p2 := true) (o2 := true) (de_op (p1 := true) (o1 := false) (p2 := true) (o2 := true) op_subV (de_read (i := 2)) (de_op (p1 := true) (o1 := false) (p2 := true) (o2 := true) op_mulV (de_read (i := 0)) (de_op (p1 := true) (o1 := false) (p2 := true) (o2 := false) op_subV (de_read (i := 3)) (de_read (i := 4))))) da_nil))) da_nil))))))))
  db_nil) (by decide)
/-! accept_widths -/
theorem sc_accept_widths : FnScope ["many", "gap", "cells", "width", "widths", "first", "last", "need", "own"] ["many", "gap", "cells", "width", "widths"] (defScope s5) := ⟨rfl, rfl, rfl, by decide +kernel, rfl, by decide +kernel, by decide +kernel⟩
theorem nd_accept_widths : List.Nodup (["many", "gap", "cells", "width", "widths", "first", "last", "need", "own"] : List Str) := sc_accept_widths.nd
theorem bi_accept_widths (m : MF K mg) : Binds K m.fd_accept_widths ["many", "gap", "cells", "width", "widths"] [] := m.F_accept_widths.bindsN fun _ _ _ _ _ _ us hl => match us, hl with | [_, _, _, _, _], _ => rfl
def l0_accept_widths : Sv := (sSeq (sIf (eT (eBin ltD (eCall sumD (aCons (eSl (eRead 4) (oSome (eRead 5)) (oSome (eRead 6))) aNil)) (eRead 7)))
  (sSeq sNo
  sNx)
  sNx)
  sNx)
def f_accept_widths : Sv := (sSeq (sExpr (eFn 3 (D_check_cells) (aCons (eRead 0) (aCons (eRead 1) (aCons (eRead 2) aNil)))))
  (sSeq (sIf (tOrE (tNotE (eTru (eFn 1 (D_is_integer) (aCons (eRead 3) aNil)))) (tOrE (tNotE (eTru (eIs PyData.isTuple (eRead 4)))) (eT (eBin neD (eCall lenD (aCons (eRead 4) aNil)) (eRead 0)))))
  (sSeq sNo
  sNx)
  sNx)
  (sSeq (sIf (tNotE (eTru (eCall allD (aCons (eLc [8] (.nm 8) (iTpl (eReadP 4)) tYesE (eAnd (eFn 1 (D_is_integer) (aCons (eRead 8) aNil)) (eBin geD (eRead 8) (eC (.int 0))))) aNil))))
  (sSeq sNo
  sNx)
  sNx)
  (sSeq (sFor [5, 6, 7] (.tp ((.nm 5) :: ((.nm 6) :: ((.nm 7) :: [])))) (iLst (eFn 2 (D_needs_of) (aCons (eRead 1) (aCons (eRead 2) aNil))))
  l0_accept_widths)
  (sSeq (sIf (eT (eBin gtD (eBin addD (eCall sumD (aCons (eRead 4) aNil)) (eBin mulD (eRead 1) (eBin subD (eRead 0) (eC (.int 1))))) (eRead 3)))
  (sSeq sNo
  sNx)
  sNx)
  sNx)))))
def D_accept_widths : Den := denOf 4 none f_accept_widths
theorem g_accept_widths (m : MF K mg) : FnG P w K mg base CX0 3 m.a_accept_widths m.fd_accept_widths ["many", "gap", "cells", "width", "widths"] (spD K 5 none D_accept_widths) := by
  refine fn_den (A' := [5, 6, 7]) m.F_accept_widths sc_accept_widths (by intro k hk; first | (cases hk; done) | (cases hk; decide)) (by intro k hk; first | (cases hk; done) | (cases hk; decide)) fun cdv A out s H E room gd => ?_
  have hp : PassesOwn (model P w) (cxOf CX0 P w K mg base ["many", "gap", "cells", "width", "widths", "first", "last", "need", "own"] "accept_widths" (defScope s5) m.a_accept_widths cdv A out s H E).A _ _ := passes_of rfl
  have hu : (cxOf CX0 P w K mg base ["many", "gap", "cells", "width", "widths", "first", "last", "need", "own"] "accept_widths" (defScope s5) m.a_accept_widths cdv A out s H E).A.units + 64 < cLine := by have := room.un; show (A.deeper _).units + 64 < cLine; omega
  exact db_sub (db_cons (ds_expr (p := true) (o := true) (de_fn (p := true) (o := false) ((g_check_cells m).more (by decide)) room gd m.m_check_cells m.F_check_cells.kp (bi_check_cells m) pass0 (da_cons (p1 := true) (o1 := false) (p2 := true) (o2 := false) (de_read (i := 0)) (da_cons (p1 := true) (o1 := false) (p2 := true) (o2 := false) (de_read (i := 1)) (da_cons (p1 := true) (o1 := false) (p2 := true) (o2 := true) (de_read (i := 2)) da_nil)))))
  (db_cons (ds_if (p := true) (dt_w (dw_or (p1 := true) (p2 := true) (dt_not (p := true) (dt_truth (p := true) (o := true) (de_fn (p := true) (o := false) ((g_is_integer m).more (by decide)) room gd m.m_is_integer m.F_is_integer.kp (bi_is_integer m) pass0 (da_cons (p1 := true) (o1 := false) (p2 := true) (o2 := true) (de_read (i := 3)) da_nil)))) (dw_or (p1 := true) (p2 := true) (dt_not (p := true) (dt_truth (p := true) (o := true) (de_isV (p := true) (o := false) (cr_isV PySem.W.isinstance_tuple_data) m.z_isinstance m.z_tuple rfl (de_read (i := 4))))) (dw_or1 (p := true) (dt_cmp (p1 := true) (o1 := true) (p2 := true) (o2 := false) (op_neV hu) (de_callB (p := true) (o := false) cr_lenV m.z_len (da_cons (p1 := true) (o1 := false) (p2 := true) (o2 := true) (de_read (i := 4)) da_nil)) (de_read (i := 0)))))))
  (db_cons ds_never
  db_nil)
  db_nil)
  (db_cons (ds_if (p := true) (dt_not (p := true) (dt_truth (p := true) (o := true) (de_callB (p := true) (o := true) (cr_allV rfl) m.z_all (da_cons (p1 := true) (o1 := true) (p2 := true) (o2 := true) (de_lc (p1 := true) (p2 := true) (p3 := true) rfl nd_accept_widths (di_tup (p := true) (dp_ofQ (p := true) (dq_read (i := 4)))) (blkOk_by (own := [("own", 8)]) (by kernel_rfl)) (fun _ _ _ _ _ => (dg_name nd_accept_widths (i := 8))) (fun _ _ _ _ _ => dts_nil) (fun _ _ _ _ _ => (de_and (p1 := true) (o1 := true) (p2 := true) (o2 := true) (de_fn (p := true) (o := false) ((g_is_integer m).more (by decide)) room gd m.m_is_integer m.F_is_integer.kp (bi_is_integer m) pass0 (da_cons (p1 := true) (o1 := false) (p2 := true) (o2 := true) (de_read (i := 8)) da_nil)) (de_and1 (p := true) (o := true) (de_cmp (p1 := true) (o1 := false) (p2 := true) (o2 := true) (op_geV hu) (de_read (i := 8)) de_int))))) da_nil))))
  (db_cons ds_never
  db_nil)
  db_nil)
  (db_cons (ds_for (p := true) (ks := [5, 6, 7]) hp rfl (di_list (p := true) (dp_own (p := true) (de_fn (p := true) (o := false) ((g_needs_of m).more (by decide)) room gd m.m_needs_of m.F_needs_of.kp (bi_needs_of m) pass0 (da_cons (p1 := true) (o1 := false) (p2 := true) (o2 := false) (de_read (i := 1)) (da_cons (p1 := true) (o1 := false) (p2 := true) (o2 := true) (de_read (i := 2)) da_nil))))) (dg_tup rfl (dgs_cons (dg_name nd_accept_widths (i := 5)) (dgs_cons (dg_name nd_accept_widths (i := 6)) (dgs_cons (dg_name nd_accept_widths (i := 7)) dgs_nil))))
  (db_cons (ds_if (p := true) (dt_cmp (p1 := true) (o1 := true) (p2 := true) (o2 := false) (op_ltV hu) (de_callB (p := true) (o := true) (cr_sumV rfl) m.z_sum (da_cons (p1 := true) (o1 := true) (p2 := true) (o2 := true) (de_slice (p := true) (o := false) (de_read (i := 4)) (do_some (o := false) (de_read (i := 5))) (do_some (o := false) (de_read (i := 6)))) da_nil)) (de_read (i := 7)))
  (db_cons ds_never
  db_nil)
  db_nil)
  db_nil))
  (db_cons (ds_if (p := true) (dt_cmp (p1 := true) (o1 := true) (p2 := true) (o2 := false) (op_gtV hu) (de_op (p1 := true) (o1 := true) (p2 := true) (o2 := true) op_addV (de_callB (p := true) (o := false) (cr_sumV rfl) m.z_sum (da_cons (p1 := true) (o1 := false) (p2 := true) (o2 := true) (de_read (i := 4)) da_nil)) (de_op (p1 := true) (o1 := false) (p2 := true) (o2 := true) op_mulV (de_read (i := 1)) (de_op (p1 := true) (o1 := false) (p2 := true) (o2 := true) op_subV (de_read (i := 0)) de_int))) (de_read (i := 3)))
  (db_cons ds_never
  db_nil)
  db_nil)
  db_nil))))) (by decide)
/-! edges_of -/
theorem sc_edges_of : FnScope ["many", "gap", "cells", "places", "pushed", "edge", "number", "first", "last", "need"] ["many", "gap", "cells"] (defScope s3) := ⟨rfl, rfl, rfl, by decide +kernel, rfl, by decide +kernel, by decide +kernel⟩
theorem nd_edges_of : List.Nodup (["many", "gap", "cells", "places", "pushed", "edge", "number", "first", "last", "need"] : List Str) := sc_edges_of.nd
theorem bi_edges_of (m : MF K mg) : Binds K m.fd_edges_of ["many", "gap", "cells"] [] := m.F_edges_of.bindsN fun _ _ _ _ _ _ us hl => match us, hl with | [_, _, _], _ => rfl
def l0_edges_of : Sv := (sSeq (sIf (tAndE (eT (eBin eqD (eRead 8) (eRead 5))) (eT (eBin gtD (eBin addD (eIx (eRead 3) (eRead 7)) (eRead 9)) (eIx (eRead 3) (eRead 5)))))
  (sSeq (sSetIx 3 (eRead 5) (eBin addD (eIx (eRead 3) (eRead 7)) (eRead 9)))
  (sSeq (sSetIx 4 (eRead 5) (eImm (eRead 6)))
  sNx))
  sNx)
  sNx)
def l1_edges_of : Sv := (sSeq (sSetIx 3 (eRead 5) (eImm (eIx (eRead 3) (eBin subD (eRead 5) (eC (.int 1))))))
  (sSeq (sFor [6, 7, 8, 9] (.tp ((.nm 6) :: ((.tp ((.nm 7) :: ((.nm 8) :: ((.nm 9) :: [])))) :: []))) (iFn enumD (aCons (eFn 2 (D_needs_of) (aCons (eRead 1) (aCons (eRead 2) aNil))) aNil))
  l0_edges_of)
  sNx))
def f_edges_of : Sv := (sSeq (sSet 3 (eBin mulD (eLst (aCons (eC (.int 0)) aNil)) (eBin addD (eRead 0) (eC (.int 1)))))
  (sSeq (sSet 4 (eBin mulD (eLst (aCons (eC .none) aNil)) (eBin addD (eRead 0) (eC (.int 1)))))
  (sSeq (sFor [5, 6, 7, 8, 9] (.nm 5) (iFn rng2D (aCons (eC (.int 1)) (aCons (eBin addD (eRead 0) (eC (.int 1))) aNil)))
  l1_edges_of)
  (sSeq (sRet (eTup (aCons (eMove 3) (aCons (eMove 4) aNil))))
  sNx))))
def D_edges_of : Den := denOf 7 none f_edges_of
theorem g_edges_of (m : MF K mg) : FnG P w K mg base CX0 2 m.a_edges_of m.fd_edges_of ["many", "gap", "cells"] (spD K 3 none D_edges_of) := by
  refine fn_den (A' := [3, 4, 5, 6, 7, 8, 9]) m.F_edges_of sc_edges_of (by intro k hk; first | (cases hk; done) | (cases hk; decide)) (by intro k hk; first | (cases hk; done) | (cases hk; decide)) fun cdv A out s H E room gd => ?_
  have hp : PassesOwn (model P w) (cxOf CX0 P w K mg base ["many", "gap", "cells", "places", "pushed", "edge", "number", "first", "last", "need"] "edges_of" (defScope s3) m.a_edges_of cdv A out s H E).A _ _ := passes_of rfl
  have hu : (cxOf CX0 P w K mg base ["many", "gap", "cells", "places", "pushed", "edge", "number", "first", "last", "need"] "edges_of" (defScope s3) m.a_edges_of cdv A out s H E).A.units + 64 < cLine := by have := room.un; show (A.deeper _).units + 64 < cLine; omega
  exact db_sub (db_cons (ds_set (i := 3) (p := true) nd_edges_of (de_op (p1 := true) (o1 := true) (p2 := true) (o2 := true) op_mulV (de_lst (p := true) (o := true) (da_cons (p1 := true) (o1 := true) (p2 := true) (o2 := true) de_int da_nil)) (de_op (p1 := true) (o1 := false) (p2 := true) (o2 := true) op_addV (de_read (i := 0)) de_int)))
  (db_cons (ds_set (i := 4) (p := true) nd_edges_of (de_op (p1 := true) (o1 := true) (p2 := true) (o2 := true) op_mulV (de_lst (p := true) (o := true) (da_cons (p1 := true) (o1 := true) (p2 := true) (o2 := true) de_non da_nil)) (de_op (p1 := true) (o1 := false) (p2 := true) (o2 := true) op_addV (de_read (i := 0)) de_int)))
  (db_cons (ds_for (p := true) (ks := [5, 6, 7, 8, 9]) hp rfl (di_range2 (p := true) (o := true) m.z_range (da_cons (p1 := true) (o1 := true) (p2 := true) (o2 := true) de_int (da_cons (p1 := true) (o1 := true) (p2 := true) (o2 := true) (de_op (p1 := true) (o1 := false) (p2 := true) (o2 := true) op_addV (de_read (i := 0)) de_int) da_nil))) (dg_name nd_edges_of (i := 5))
  (db_cons (ds_setIx (i := 3) (p := true) (o := false) (de_imm (p := true) (o := false) (de_ix (p1 := true) (o1 := false) (p2 := true) (o2 := true) (de_read (i := 3)) (de_op (p1 := true) (o1 := false) (p2 := true) (o2 := true) op_subV (de_read (i := 5)) de_int))) (de_read (i := 5)))
  (db_cons (ds_for (p := true) (ks := [6, 7, 8, 9]) hp rfl (di_enum (p := true) m.z_enumerate (dpa_cons (p1 := true) (p2 := true) (dp_own (p := true) (de_fn (p := true) (o := false) ((g_needs_of m).more (by decide)) room gd m.m_needs_of m.F_needs_of.kp (bi_needs_of m) pass0 (da_cons (p1 := true) (o1 := false) (p2 := true) (o2 := false) (de_read (i := 1)) (da_cons (p1 := true) (o1 := false) (p2 := true) (o2 := true) (de_read (i := 2)) da_nil)))) dpa_nil)) (dg_tup rfl (dgs_cons (dg_name nd_edges_of (i := 6)) (dgs_cons (dg_tup rfl (dgs_cons (dg_name nd_edges_of (i := 7)) (dgs_cons (dg_name nd_edges_of (i := 8)) (dgs_cons (dg_name nd_edges_of (i := 9)) dgs_nil)))) dgs_nil)))
  (db_cons (ds_if (p := true) (dt_w (dw_and (p1 := true) (p2 := true) (dt_cmp (p1 := true) (o1 := false) (p2 := true) (o2 := false) (op_eqV hu) (de_read (i := 8)) (de_read (i := 5))) (dw_and1 (p := true) (dt_cmp (p1 := true) (o1 := true) (p2 := true) (o2 := false) (op_gtV hu) (de_op (p1 := true) (o1 := false) (p2 := true) (o2 := false) op_addV (de_ix (p1 := true) (o1 := false) (p2 := true) (o2 := false) (de_read (i := 3)) (de_read (i := 7))) (de_read (i := 9))) (de_ix (p1 := true) (o1 := false) (p2 := true) (o2 := false) (de_read (i := 3)) (de_read (i := 5)))))))
  (db_cons (ds_setIx (i := 3) (p := true) (o := false) (de_op (p1 := true) (o1 := false) (p2 := true) (o2 := false) op_addV (de_ix (p1 := true) (o1 := false) (p2 := true) (o2 := false) (de_read (i := 3)) (de_read (i := 7))) (de_read (i := 9))) (de_read (i := 5)))
  (db_cons (ds_setIx (i := 4) (p := true) (o := false) (de_imm (p := true) (o := false) (de_read (i := 6))) (de_read (i := 5)))
  db_nil))
  db_nil)
  db_nil))
  db_nil)))
  (db_cons (ds_ret (p := false) (de_tup (p := false) (o := true) (da_cons (p1 := false) (o1 := true) (p2 := false) (o2 := true) (de_move (i := 3)) (da_cons (p1 := false) (o1 := true) (p2 := true) (o2 := true) (de_move (i := 4)) da_nil))))
  db_nil)))) (by decide)
/-! least_width -/
theorem sc_least_width : FnScope ["many", "gap", "cells", "places", "widths", "edge"] ["many", "gap", "cells"] (defScope s4) := ⟨rfl, rfl, rfl, by decide +kernel, rfl, by decide +kernel, by decide +kernel⟩
theorem nd_least_width : List.Nodup (["many", "gap", "cells", "places", "widths", "edge"] : List Str) := sc_least_width.nd
theorem bi_least_width (m : MF K mg) : Binds K m.fd_least_width ["many", "gap", "cells"] [] := m.F_least_width.bindsN fun _ _ _ _ _ _ us hl => match us, hl with | [_, _, _], _ => rfl
def f_least_width : Sv := (sSeq (sExpr (eFn 3 (D_check_cells) (aCons (eRead 0) (aCons (eRead 1) (aCons (eRead 2) aNil)))))
  (sSeq (sSet 3 (eIx (eFn 3 (D_edges_of) (aCons (eRead 0) (aCons (eRead 1) (aCons (eRead 2) aNil)))) (eC (.int 0))))
  (sSeq (sSet 4 (eCall tupleD (aCons (eLc [5] (.nm 5) (iFn rng1D (aCons (eRead 0) aNil)) tYesE (eBin subD (eIx (eRead 3) (eBin addD (eRead 5) (eC (.int 1)))) (eIx (eRead 3) (eRead 5)))) aNil)))
  (sSeq (sRet (eTup (aCons (eBin addD (eIx (eRead 3) (eRead 0)) (eBin mulD (eRead 1) (eBin subD (eRead 0) (eC (.int 1))))) (aCons (eImm (eRead 4)) aNil))))
  sNx))))
def D_least_width : Den := denOf 3 none f_least_width
theorem g_least_width (m : MF K mg) : FnG P w K mg base CX0 3 m.a_least_width m.fd_least_width ["many", "gap", "cells"] (spD K 3 none D_least_width) := by
  refine fn_den (A' := [3, 4]) m.F_least_width sc_least_width (by intro k hk; first | (cases hk; done) | (cases hk; decide)) (by intro k hk; first | (cases hk; done) | (cases hk; decide)) fun cdv A out s H E room gd => ?_
  have hp : PassesOwn (model P w) (cxOf CX0 P w K mg base ["many", "gap", "cells", "places", "widths", "edge"] "least_width" (defScope s4) m.a_least_width cdv A out s H E).A _ _ := passes_of rfl
  have hu : (cxOf CX0 P w K mg base ["many", "gap", "cells", "places", "widths", "edge"] "least_width" (defScope s4) m.a_least_width cdv A out s H E).A.units + 64 < cLine := by have := room.un; show (A.deeper _).units + 64 < cLine; omega
  exact db_sub (db_cons (ds_expr (p := true) (o := true) (de_fn (p := true) (o := false) ((g_check_cells m).more (by decide)) room gd m.m_check_cells m.F_check_cells.kp (bi_check_cells m) pass0 (da_cons (p1 := true) (o1 := false) (p2 := true) (o2 := false) (de_read (i := 0)) (da_cons (p1 := true) (o1 := false) (p2 := true) (o2 := false) (de_read (i := 1)) (da_cons (p1 := true) (o1 := false) (p2 := true) (o2 := true) (de_read (i := 2)) da_nil)))))
  (db_cons (ds_set (i := 3) (p := true) nd_least_width (de_ix (p1 := true) (o1 := true) (p2 := true) (o2 := true) (de_fn (p := true) (o := false) ((g_edges_of m).more (by decide)) room gd m.m_edges_of m.F_edges_of.kp (bi_edges_of m) pass0 (da_cons (p1 := true) (o1 := false) (p2 := true) (o2 := false) (de_read (i := 0)) (da_cons (p1 := true) (o1 := false) (p2 := true) (o2 := false) (de_read (i := 1)) (da_cons (p1 := true) (o1 := false) (p2 := true) (o2 := true) (de_read (i := 2)) da_nil)))) de_int))
  (db_cons (ds_set (i := 4) (p := true) nd_least_width (de_callT (p := true) (o := true) cr_tupleV m.z_tuple (da_cons (p1 := true) (o1 := true) (p2 := true) (o2 := true) (de_lc (p1 := true) (p2 := true) (p3 := true) rfl nd_least_width (di_range1 (p := true) (o := false) m.z_range (da_cons (p1 := true) (o1 := false) (p2 := true) (o2 := true) (de_read (i := 0)) da_nil)) (blkOk_by (own := [("edge", 5)]) (by kernel_rfl)) (fun _ _ _ _ _ => (dg_name nd_least_width (i := 5))) (fun _ _ _ _ _ => dts_nil) (fun _ _ _ _ _ => (de_op (p1 := true) (o1 := false) (p2 := true) (o2 := false) op_subV (de_ix (p1 := true) (o1 := false) (p2 := true) (o2 := true) (de_read (i := 3)) (de_op (p1 := true) (o1 := false) (p2 := true) (o2 := true) op_addV (de_read (i := 5)) de_int)) (de_ix (p1 := true) (o1 := false) (p2 := true) (o2 := false) (de_read (i := 3)) (de_read (i := 5)))))) da_nil)))
  (db_cons (ds_ret (p := true) (de_tup (p := true) (o := true) (da_cons (p1 := true) (o1 := true) (p2 := true) (o2 := true) (de_op (p1 := true) (o1 := false) (p2 := true) (o2 := true) op_addV (de_ix (p1 := true) (o1 := false) (p2 := true) (o2 := false) (de_read (i := 3)) (de_read (i := 0))) (de_op (p1 := true) (o1 := false) (p2 := true) (o2 := true) op_mulV (de_read (i := 1)) (de_op (p1 := true) (o1 := false) (p2 := true) (o2 := true) op_subV (de_read (i := 0)) de_int))) (da_cons (p1 := true) (o1 := true) (p2 := true) (o2 := true) (de_imm (p := true) (o := false) (de_read (i := 4))) da_nil))))
  db_nil)))) (by decide)
/-! row_of_cells -/
theorem sc_row_of_cells : FnScope ["many", "gap", "cells", "places", "pushed", "found", "edge"] ["many", "gap", "cells"] (defScope s6) := ⟨rfl, rfl, rfl, by decide +kernel, rfl, by decide +kernel, by decide +kernel⟩
theorem nd_row_of_cells : List.Nodup (["many", "gap", "cells", "places", "pushed", "found", "edge"] : List Str) := sc_row_of_cells.nd
theorem bi_row_of_cells (m : MF K mg) : Binds K m.fd_row_of_cells ["many", "gap", "cells"] [] := m.F_row_of_cells.bindsN fun _ _ _ _ _ _ us hl => match us, hl with | [_, _, _], _ => rfl
def l0_row_of_cells : Sv := (sSeq (sIf (eT (eBin isnD (eIx (eRead 4) (eRead 6)) (eC .none)))
  (sSeq (sAug 6 subD (eC (.int 1)))
  sNx)
  (sSeq (sExpr (eApp 5 (eImm (eIx (eRead 4) (eRead 6)))))
  (sSeq (sSet 6 (eImm (eIx (eIx (eRead 2) (eIx (eRead 4) (eRead 6))) (eC (.int 0)))))
  sNx)))
  sNx)
def f_row_of_cells : Sv := (sSeq (sExpr (eFn 3 (D_check_cells) (aCons (eRead 0) (aCons (eRead 1) (aCons (eRead 2) aNil)))))
  (sSeq (sAsg (.tp ((.nm 3) :: ((.nm 4) :: []))) (eFn 3 (D_edges_of) (aCons (eRead 0) (aCons (eRead 1) (aCons (eRead 2) aNil)))))
  (sSeq (sSet 5 (eLst aNil))
  (sSeq (sSet 6 (eImm (eRead 0)))
  (sSeq (sWhile [] (eT (eBin gtD (eRead 6) (eC (.int 0))))
  l0_row_of_cells)
  (sSeq (sRet (eCall tupleD (aCons (eUn revD (eRead 5)) aNil)))
  sNx))))))
def D_row_of_cells : Den := denOf 4 none f_row_of_cells
theorem g_row_of_cells (m : MF K mg) : FnG P w K mg base CX0 3 m.a_row_of_cells m.fd_row_of_cells ["many", "gap", "cells"] (spD K 3 none D_row_of_cells) := by
  refine fn_den (A' := [3, 4, 5, 6]) m.F_row_of_cells sc_row_of_cells (by intro k hk; first | (cases hk; done) | (cases hk; decide)) (by intro k hk; first | (cases hk; done) | (cases hk; decide)) fun cdv A out s H E room gd => ?_
  have hp : PassesOwn (model P w) (cxOf CX0 P w K mg base ["many", "gap", "cells", "places", "pushed", "found", "edge"] "row_of_cells" (defScope s6) m.a_row_of_cells cdv A out s H E).A _ _ := passes_of rfl
  have hu : (cxOf CX0 P w K mg base ["many", "gap", "cells", "places", "pushed", "found", "edge"] "row_of_cells" (defScope s6) m.a_row_of_cells cdv A out s H E).A.units + 64 < cLine := by have := room.un; show (A.deeper _).units + 64 < cLine; omega
  exact db_sub (db_cons (ds_expr (p := true) (o := true) (de_fn (p := true) (o := false) ((g_check_cells m).more (by decide)) room gd m.m_check_cells m.F_check_cells.kp (bi_check_cells m) pass0 (da_cons (p1 := true) (o1 := false) (p2 := true) (o2 := false) (de_read (i := 0)) (da_cons (p1 := true) (o1 := false) (p2 := true) (o2 := false) (de_read (i := 1)) (da_cons (p1 := true) (o1 := false) (p2 := true) (o2 := true) (de_read (i := 2)) da_nil)))))
  (db_cons (ds_asg (p := true) (dg_tup rfl (dgs_cons (dg_name nd_row_of_cells (i := 3)) (dgs_cons (dg_name nd_row_of_cells (i := 4)) dgs_nil))) (de_fn (p := true) (o := false) ((g_edges_of m).more (by decide)) room gd m.m_edges_of m.F_edges_of.kp (bi_edges_of m) pass0 (da_cons (p1 := true) (o1 := false) (p2 := true) (o2 := false) (de_read (i := 0)) (da_cons (p1 := true) (o1 := false) (p2 := true) (o2 := false) (de_read (i := 1)) (da_cons (p1 := true) (o1 := false) (p2 := true) (o2 := true) (de_read (i := 2)) da_nil)))))
  (db_cons (ds_set (i := 5) (p := true) nd_row_of_cells (de_lst (p := true) (o := true) da_nil))
  (db_cons (ds_set (i := 6) (p := true) nd_row_of_cells (de_imm (p := true) (o := false) (de_read (i := 0))))
  (db_cons (ds_while (p := true) (ks := []) hp (dt_cmp (p1 := true) (o1 := false) (p2 := true) (o2 := true) (op_gtV hu) (de_read (i := 6)) de_int)
  (db_cons (ds_if (p := true) (dt_cmp (p1 := true) (o1 := false) (p2 := true) (o2 := true) op_isnV (de_ix (p1 := true) (o1 := false) (p2 := true) (o2 := false) (de_read (i := 4)) (de_read (i := 6))) de_non)
  (db_cons (ds_aug (i := 6) (o := true) nd_row_of_cells ip_subV de_int)
  db_nil)
  (db_cons (ds_expr (p := false) (o := true) (de_app (p := true) (i := 5) (de_imm (p := true) (o := false) (de_ix (p1 := true) (o1 := false) (p2 := true) (o2 := false) (de_read (i := 4)) (de_read (i := 6))))))
  (db_cons (ds_set (i := 6) (p := true) nd_row_of_cells (de_imm (p := true) (o := false) (de_ix (p1 := true) (o1 := false) (p2 := true) (o2 := true) (de_ix (p1 := true) (o1 := false) (p2 := true) (o2 := false) (de_read (i := 2)) (de_ix (p1 := true) (o1 := false) (p2 := true) (o2 := false) (de_read (i := 4)) (de_read (i := 6)))) de_int)))
  db_nil)))
  db_nil))
  (db_cons (ds_ret (p := true) (de_callT (p := true) (o := true) cr_tupleV m.z_tuple (da_cons (p1 := true) (o1 := true) (p2 := true) (o2 := true) (de_rev (p := true) (o := false) (de_read (i := 5))) da_nil)))
  db_nil)))))) (by decide)
/-! accept_row -/
theorem sc_accept_row : FnScope ["many", "gap", "cells", "width", "numbers", "rows", "needs", "number", "at", "need", "last", "first"] ["many", "gap", "cells", "width", "numbers"] (defScope s7) := ⟨rfl, rfl, rfl, by decide +kernel, rfl, by decide +kernel, by decide +kernel⟩
theorem nd_accept_row : List.Nodup (["many", "gap", "cells", "width", "numbers", "rows", "needs", "number", "at", "need", "last", "first"] : List Str) := sc_accept_row.nd
theorem bi_accept_row (m : MF K mg) : Binds K m.fd_accept_row ["many", "gap", "cells", "width", "numbers"] [] := m.F_accept_row.bindsN fun _ _ _ _ _ _ us hl => match us, hl with | [_, _, _, _, _], _ => rfl
def f_accept_row : Sv := (sSeq (sExpr (eFn 3 (D_check_cells) (aCons (eRead 0) (aCons (eRead 1) (aCons (eRead 2) aNil)))))
  (sSeq (sIf (tOrE (tNotE (eTru (eFn 1 (D_is_integer) (aCons (eRead 3) aNil)))) (tOrE (tNotE (eTru (eIs PyData.isTuple (eRead 4)))) (tNotE (eTru (eCall allD (aCons (eLc [7] (.nm 7) (iTpl (eReadP 4)) tYesE (eFn 1 (D_is_integer) (aCons (eRead 7) aNil))) aNil))))))
  (sSeq sNo
  sNx)
  sNx)
  (sSeq (sIf (tNotE (eTru (eCall allD (aCons (eLc [7] (.nm 7) (iTpl (eReadP 4)) tYesE (eChain (eC (.int 0)) (cLink leD (eRead 7) (cLast ltD (eCall lenD (aCons (eRead 2) aNil)))))) aNil))))
  (sSeq sNo
  sNx)
  sNx)
  (sSeq (sSet 5 (eLc [7] (.nm 7) (iTpl (eReadP 4)) tYesE (eImm (eIx (eRead 2) (eRead 7)))))
  (sSeq (sIf (tNotE (eTru (eCall allD (aCons (eLc [8] (.nm 8) (iFn rng1D (aCons (eBin subD (eCall lenD (aCons (eRead 5) aNil)) (eC (.int 1))) aNil)) tYesE (eBin ltD (eIx (eIx (eRead 5) (eRead 8)) (eC (.int 1))) (eIx (eIx (eRead 5) (eBin addD (eRead 8) (eC (.int 1)))) (eC (.int 0))))) aNil))))
  (sSeq sNo
  sNx)
  sNx)
  (sSeq (sSet 6 (eFn 2 (D_needs_of) (aCons (eRead 1) (aCons (eCall tupleD (aCons (eRead 5) aNil)) aNil))))
  (sFrz [6] (sSeq (sIf (eT (eBin ltD (eBin addD (eCall sumD (aCons (eLc [11, 10, 9] (.tp ((.nm 11) :: ((.nm 10) :: ((.nm 9) :: [])))) (iLst (eReadP 6)) tYesE (eImm (eRead 9))) aNil)) (eBin mulD (eRead 1) (eBin subD (eRead 0) (eC (.int 1))))) (eRead 3)))
  (sSeq sNo
  sNx)
  sNx)
  sNx))))))))
def D_accept_row : Den := denOf 7 none f_accept_row
theorem g_accept_row (m : MF K mg) : FnG P w K mg base CX0 3 m.a_accept_row m.fd_accept_row ["many", "gap", "cells", "width", "numbers"] (spD K 5 none D_accept_row) := by
  refine fn_den (A' := [5, 6]) m.F_accept_row sc_accept_row (by intro k hk; first | (cases hk; done) | (cases hk; decide)) (by intro k hk; first | (cases hk; done) | (cases hk; decide)) fun cdv A out s H E room gd => ?_
  have hp : PassesOwn (model P w) (cxOf CX0 P w K mg base ["many", "gap", "cells", "width", "numbers", "rows", "needs", "number", "at", "need", "last", "first"] "accept_row" (defScope s7) m.a_accept_row cdv A out s H E).A _ _ := passes_of rfl
  have hu : (cxOf CX0 P w K mg base ["many", "gap", "cells", "width", "numbers", "rows", "needs", "number", "at", "need", "last", "first"] "accept_row" (defScope s7) m.a_accept_row cdv A out s H E).A.units + 64 < cLine := by have := room.un; show (A.deeper _).units + 64 < cLine; omega
  exact db_sub (db_cons (ds_expr (p := true) (o := true) (de_fn (p := true) (o := false) ((g_check_cells m).more (by decide)) room gd m.m_check_cells m.F_check_cells.kp (bi_check_cells m) pass0 (da_cons (p1 := true) (o1 := false) (p2 := true) (o2 := false) (de_read (i := 0)) (da_cons (p1 := true) (o1 := false) (p2 := true) (o2 := false) (de_read (i := 1)) (da_cons (p1 := true) (o1 := false) (p2 := true) (o2 := true) (de_read (i := 2)) da_nil)))))
  (db_cons (ds_if (p := true) (dt_w (dw_or (p1 := true) (p2 := true) (dt_not (p := true) (dt_truth (p := true) (o := true) (de_fn (p := true) (o := false) ((g_is_integer m).more (by decide)) room gd m.m_is_integer m.F_is_integer.kp (bi_is_integer m) pass0 (da_cons (p1 := true) (o1 := false) (p2 := true) (o2 := true) (de_read (i := 3)) da_nil)))) (dw_or (p1 := true) (p2 := true) (dt_not (p := true) (dt_truth (p := true) (o := true) (de_isV (p := true) (o := false) (cr_isV PySem.W.isinstance_tuple_data) m.z_isinstance m.z_tuple rfl (de_read (i := 4))))) (dw_or1 (p := true) (dt_not (p := true) (dt_truth (p := true) (o := true) (de_callB (p := true) (o := true) (cr_allV rfl) m.z_all (da_cons (p1 := true) (o1 := true) (p2 := true) (o2 := true) (de_lc (p1 := true) (p2 := true) (p3 := true) rfl nd_accept_row (di_tup (p := true) (dp_ofQ (p := true) (dq_read (i := 4)))) (blkOk_by (own := [("number", 7)]) (by kernel_rfl)) (fun _ _ _ _ _ => (dg_name nd_accept_row (i := 7))) (fun _ _ _ _ _ => dts_nil) (fun _ _ _ _ _ => (de_fn (p := true) (o := false) ((g_is_integer m).more (by decide)) room gd m.m_is_integer m.F_is_integer.kp (bi_is_integer m) pass0 (da_cons (p1 := true) (o1 := false) (p2 := true) (o2 := true) (de_read (i := 7)) da_nil)))) da_nil))))))))
  (db_cons ds_never
  db_nil)
  db_nil)
  (db_cons (ds_if (p := true) (dt_not (p := true) (dt_truth (p := true) (o := true) (de_callB (p := true) (o := true) (cr_allV rfl) m.z_all (da_cons (p1 := true) (o1 := true) (p2 := true) (o2 := true) (de_lc (p1 := true) (p2 := true) (p3 := true) rfl nd_accept_row (di_tup (p := true) (dp_ofQ (p := true) (dq_read (i := 4)))) (blkOk_by (own := [("number", 7)]) (by kernel_rfl)) (fun _ _ _ _ _ => (dg_name nd_accept_row (i := 7))) (fun _ _ _ _ _ => dts_nil) (fun _ _ _ _ _ => (de_chain (o := true) de_int (dcv_link (o := false) (op_leV hu) (de_read (i := 7)) (dcv_last (o := true) (op_ltV hu) (de_callB (p := true) (o := false) cr_lenV m.z_len (da_cons (p1 := true) (o1 := false) (p2 := true) (o2 := true) (de_read (i := 2)) da_nil))))))) da_nil))))
  (db_cons ds_never
  db_nil)
  db_nil)
  (db_cons (ds_set (i := 5) (p := true) nd_accept_row (de_lc (p1 := true) (p2 := true) (p3 := true) rfl nd_accept_row (di_tup (p := true) (dp_ofQ (p := true) (dq_read (i := 4)))) (blkOk_by (own := [("number", 7)]) (by kernel_rfl)) (fun _ _ _ _ _ => (dg_name nd_accept_row (i := 7))) (fun _ _ _ _ _ => dts_nil) (fun _ _ _ _ _ => (de_imm (p := true) (o := false) (de_ix (p1 := true) (o1 := false) (p2 := true) (o2 := false) (de_read (i := 2)) (de_read (i := 7)))))))
  (db_cons (ds_if (p := true) (dt_not (p := true) (dt_truth (p := true) (o := true) (de_callB (p := true) (o := true) (cr_allV rfl) m.z_all (da_cons (p1 := true) (o1 := true) (p2 := true) (o2 := true) (de_lc (p1 := true) (p2 := true) (p3 := true) rfl nd_accept_row (di_range1 (p := true) (o := true) m.z_range (da_cons (p1 := true) (o1 := true) (p2 := true) (o2 := true) (de_op (p1 := true) (o1 := true) (p2 := true) (o2 := true) op_subV (de_callB (p := true) (o := false) cr_lenV m.z_len (da_cons (p1 := true) (o1 := false) (p2 := true) (o2 := true) (de_read (i := 5)) da_nil)) de_int) da_nil)) (blkOk_by (own := [("at", 8)]) (by kernel_rfl)) (fun _ _ _ _ _ => (dg_name nd_accept_row (i := 8))) (fun _ _ _ _ _ => dts_nil) (fun _ _ _ _ _ => (de_cmp (p1 := true) (o1 := false) (p2 := true) (o2 := false) (op_ltV hu) (de_ix (p1 := true) (o1 := false) (p2 := true) (o2 := true) (de_ix (p1 := true) (o1 := false) (p2 := true) (o2 := false) (de_read (i := 5)) (de_read (i := 8))) de_int) (de_ix (p1 := true) (o1 := false) (p2 := true) (o2 := true) (de_ix (p1 := true) (o1 := false) (p2 := true) (o2 := true) (de_read (i := 5)) (de_op (p1 := true) (o1 := false) (p2 := true) (o2 := true) op_addV (de_read (i := 8)) de_int)) de_int)))) da_nil))))
  (db_cons ds_never
  db_nil)
  db_nil)
  (db_cons (ds_set (i := 6) (p := true) nd_accept_row (de_fn (p := true) (o := false) ((g_needs_of m).more (by decide)) room gd m.m_needs_of m.F_needs_of.kp (bi_needs_of m) pass0 (da_cons (p1 := true) (o1 := false) (p2 := true) (o2 := true) (de_read (i := 1)) (da_cons (p1 := true) (o1 := true) (p2 := true) (o2 := true) (de_callT (p := true) (o := false) cr_tupleV m.z_tuple (da_cons (p1 := true) (o1 := false) (p2 := true) (o2 := true) (de_read (i := 5)) da_nil)) da_nil))))
  (db_frz (is := [6]) (db_cons (ds_if (p := true) (dt_cmp (p1 := true) (o1 := true) (p2 := true) (o2 := false) (op_ltV hu) (de_op (p1 := true) (o1 := true) (p2 := true) (o2 := true) op_addV (de_callB (p := true) (o := true) (cr_sumV rfl) m.z_sum (da_cons (p1 := true) (o1 := true) (p2 := true) (o2 := true) (de_lc (p1 := true) (p2 := true) (p3 := true) rfl nd_accept_row (di_list (p := true) (dp_ofQ (p := true) (dq_read (i := 6)))) (blkOk_by (own := [("first", 11), ("last", 10), ("need", 9)]) (by kernel_rfl)) (fun _ _ _ _ _ => (dg_tup rfl (dgs_cons (dg_name nd_accept_row (i := 11)) (dgs_cons (dg_name nd_accept_row (i := 10)) (dgs_cons (dg_name nd_accept_row (i := 9)) dgs_nil))))) (fun _ _ _ _ _ => dts_nil) (fun _ _ _ _ _ => (de_imm (p := true) (o := false) (de_read (i := 9))))) da_nil)) (de_op (p1 := true) (o1 := false) (p2 := true) (o2 := true) op_mulV (de_read (i := 1)) (de_op (p1 := true) (o1 := false) (p2 := true) (o2 := true) op_subV (de_read (i := 0)) de_int))) (de_read (i := 3)))
  (db_cons ds_never
  db_nil)
  db_nil)
  db_nil)))))))) (by decide)
/-! _law_row_holds -/
theorem sc__law_row_holds : FnScope ["many", "gap", "cells", "least", "told", "need", "k"] ["many", "gap", "cells", "least"] (defScope s21) := ⟨rfl, rfl, rfl, by decide +kernel, rfl, by decide +kernel, by decide +kernel⟩
theorem nd__law_row_holds : List.Nodup (["many", "gap", "cells", "least", "told", "need", "k"] : List Str) := sc__law_row_holds.nd
theorem bi__law_row_holds (m : MF K mg) : Binds K m.fd__law_row_holds ["many", "gap", "cells", "least"] [] := m.F__law_row_holds.bindsN fun _ _ _ _ _ _ us hl => match us, hl with | [_, _, _, _], _ => rfl
def f__law_row_holds : Sv := (sSeq (sSet 4 (eFn 3 (D_row_of_cells) (aCons (eRead 0) (aCons (eRead 1) (aCons (eRead 2) aNil)))))
  (sSeq (sIf (tOrE (tNotE (eTru (eIs PyData.isTuple (eRead 4)))) (eTru (eLc [6] (.nm 6) (iTpl (eReadP 4)) (tOrE (tNotE (eTru (eIs PyData.isInt (eRead 6)))) (tNotE (tChain (eC (.int 0)) (cLink leD (eRead 6) (cLast ltD (eCall lenD (aCons (eRead 2) aNil))))))) (eImm (eRead 6)))))
  (sSeq (sRet (eC (.bool false)))
  sNx)
  sNx)
  (sSeq (sIf (eTru (eLc [6] (.nm 6) (iFn rng2D (aCons (eC (.int 1)) (aCons (eCall lenD (aCons (eRead 4) aNil)) aNil))) (eT (eBin geD (eIx (eIx (eRead 2) (eIx (eRead 4) (eBin subD (eRead 6) (eC (.int 1))))) (eC (.int 1))) (eIx (eIx (eRead 2) (eIx (eRead 4) (eRead 6))) (eC (.int 0))))) (eImm (eRead 6))))
  (sSeq (sRet (eC (.bool false)))
  sNx)
  sNx)
  (sSeq (sSet 5 (eCall sumD (aCons (eLc [6] (.nm 6) (iTpl (eReadP 4)) tYesE (eCall maxD1 (aCons (eLst (aCons (eC (.int 0)) (aCons (eBin subD (eIx (eIx (eRead 2) (eRead 6)) (eC (.int 2))) (eBin mulD (eRead 1) (eBin subD (eIx (eIx (eRead 2) (eRead 6)) (eC (.int 1))) (eIx (eIx (eRead 2) (eRead 6)) (eC (.int 0)))))) aNil))) aNil))) aNil)))
  (sSeq (sRet (eAnd (eBin eqD (eBin addD (eRead 5) (eBin mulD (eRead 1) (eBin subD (eRead 0) (eC (.int 1))))) (eRead 3)) (eBin isnD (eFn 5 (D_accept_row) (aCons (eRead 0) (aCons (eRead 1) (aCons (eRead 2) (aCons (eRead 3) (aCons (eRead 4) aNil)))))) (eC .none))))
  sNx)))))
def D__law_row_holds : Den := denOf 3 none f__law_row_holds
theorem g__law_row_holds (m : MF K mg) : FnG P w K mg base CX0 4 m.a__law_row_holds m.fd__law_row_holds ["many", "gap", "cells", "least"] (spD K 4 none D__law_row_holds) := by
  refine fn_den (A' := [4, 5]) m.F__law_row_holds sc__law_row_holds (by intro k hk; first | (cases hk; done) | (cases hk; decide)) (by intro k hk; first | (cases hk; done) | (cases hk; decide)) fun cdv A out s H E room gd => ?_
  have hp : PassesOwn (model P w) (cxOf CX0 P w K mg base ["many", "gap", "cells", "least", "told", "need", "k"] "_law_row_holds" (defScope s21) m.a__law_row_holds cdv A out s H E).A _ _ := passes_of rfl
  have hu : (cxOf CX0 P w K mg base ["many", "gap", "cells", "least", "told", "need", "k"] "_law_row_holds" (defScope s21) m.a__law_row_holds cdv A out s H E).A.units + 64 < cLine := by have := room.un; show (A.deeper _).units + 64 < cLine; omega
  exact db_sub (db_cons (ds_set (i := 4) (p := true) nd__law_row_holds (de_fn (p := true) (o := false) ((g_row_of_cells m).more (by decide)) room gd m.m_row_of_cells m.F_row_of_cells.kp (bi_row_of_cells m) pass0 (da_cons (p1 := true) (o1 := false) (p2 := true) (o2 := false) (de_read (i := 0)) (da_cons (p1 := true) (o1 := false) (p2 := true) (o2 := false) (de_read (i := 1)) (da_cons (p1 := true) (o1 := false) (p2 := true) (o2 := true) (de_read (i := 2)) da_nil)))))
  (db_cons (ds_if (p := true) (dt_w (dw_or (p1 := true) (p2 := true) (dt_not (p := true) (dt_truth (p := true) (o := true) (de_isV (p := true) (o := false) (cr_isV PySem.W.isinstance_tuple_data) m.z_isinstance m.z_tuple rfl (de_read (i := 4))))) (dw_or1 (p := true) (dt_truth (p := true) (o := true) (de_lc (p1 := true) (p2 := true) (p3 := true) rfl nd__law_row_holds (di_tup (p := true) (dp_ofQ (p := true) (dq_read (i := 4)))) (blkOk_by (own := [("k", 6)]) (by kernel_rfl)) (fun _ _ _ _ _ => (dg_name nd__law_row_holds (i := 6))) (fun _ _ _ _ _ => (dts_one (dt_w (dw_or (p1 := true) (p2 := true) (dt_not (p := true) (dt_truth (p := true) (o := true) (de_isV (p := true) (o := false) (cr_isV PySem.W.isinstance_int_data) m.z_isinstance m.z_int rfl (de_read (i := 6))))) (dw_or1 (p := true) (dt_not (p := true) (dt_chain (o := true) de_int (dct_link (o := false) (op_leV hu) (de_read (i := 6)) (dct_last (o := true) (op_ltV hu) (de_callB (p := true) (o := false) cr_lenV m.z_len (da_cons (p1 := true) (o1 := false) (p2 := true) (o2 := true) (de_read (i := 2)) da_nil))))))))))) (fun _ _ _ _ _ => (de_imm (p := true) (o := false) (de_read (i := 6)))))))))
  (db_cons (ds_ret (p := true) de_bl)
  db_nil)
  db_nil)
  (db_cons (ds_if (p := true) (dt_truth (p := true) (o := true) (de_lc (p1 := true) (p2 := true) (p3 := true) rfl nd__law_row_holds (di_range2 (p := true) (o := true) m.z_range (da_cons (p1 := true) (o1 := true) (p2 := true) (o2 := true) de_int (da_cons (p1 := true) (o1 := true) (p2 := true) (o2 := true) (de_callB (p := true) (o := false) cr_lenV m.z_len (da_cons (p1 := true) (o1 := false) (p2 := true) (o2 := true) (de_read (i := 4)) da_nil)) da_nil))) (blkOk_by (own := [("k", 6)]) (by kernel_rfl)) (fun _ _ _ _ _ => (dg_name nd__law_row_holds (i := 6))) (fun _ _ _ _ _ => (dts_one (dt_cmp (p1 := true) (o1 := false) (p2 := true) (o2 := false) (op_geV hu) (de_ix (p1 := true) (o1 := false) (p2 := true) (o2 := true) (de_ix (p1 := true) (o1 := false) (p2 := true) (o2 := false) (de_read (i := 2)) (de_ix (p1 := true) (o1 := false) (p2 := true) (o2 := true) (de_read (i := 4)) (de_op (p1 := true) (o1 := false) (p2 := true) (o2 := true) op_subV (de_read (i := 6)) de_int))) de_int) (de_ix (p1 := true) (o1 := false) (p2 := true) (o2 := true) (de_ix (p1 := true) (o1 := false) (p2 := true) (o2 := false) (de_read (i := 2)) (de_ix (p1 := true) (o1 := false) (p2 := true) (o2 := false) (de_read (i := 4)) (de_read (i := 6)))) de_int)))) (fun _ _ _ _ _ => (de_imm (p := true) (o := false) (de_read (i := 6))))))
  (db_cons (ds_ret (p := true) de_bl)
  db_nil)
  db_nil)
  (db_cons (ds_set (i := 5) (p := true) nd__law_row_holds (de_callB (p := true) (o := true) (cr_sumV rfl) m.z_sum (da_cons (p1 := true) (o1 := true) (p2 := true) (o2 := true) (de_lc (p1 := true) (p2 := true) (p3 := true) rfl nd__law_row_holds (di_tup (p := true) (dp_ofQ (p := true) (dq_read (i := 4)))) (blkOk_by (own := [("k", 6)]) (by kernel_rfl)) (fun _ _ _ _ _ => (dg_name nd__law_row_holds (i := 6))) (fun _ _ _ _ _ => dts_nil) (fun _ _ _ _ _ => (de_callB (p := true) (o := true) (cr_maxV rfl hu) m.z_max (da_cons (p1 := true) (o1 := true) (p2 := true) (o2 := true) (de_lst (p := true) (o := true) (da_cons (p1 := true) (o1 := true) (p2 := true) (o2 := true) de_int (da_cons (p1 := true) (o1 := true) (p2 := true) (o2 := true) (de_op (p1 := true) (o1 := false) (p2 := true) (o2 := true) op_subV (de_ix (p1 := true) (o1 := false) (p2 := true) (o2 := true) (de_ix (p1 := true) (o1 := false) (p2 := true) (o2 := false) (de_read (i := 2)) (de_read (i := 6))) de_int) (de_op (p1 := true) (o1 := false) (p2 := true) (o2 := true) op_mulV (de_read (i := 1)) (de_op (p1 := true) (o1 := false) (p2 := true) (o2 := false) op_subV (de_ix (p1 := true) (o1 := false) (p2 := true) (o2 := true) (de_ix (p1 := true) (o1 := false) (p2 := true) (o2 := false) (de_read (i := 2)) (de_read (i := 6))) de_int) (de_ix (p1 := true) (o1 := false) (p2 := true) (o2 := true) (de_ix (p1 := true) (o1 := false) (p2 := true) (o2 := false) (de_read (i := 2)) (de_read (i := 6))) de_int)))) da_nil))) da_nil)))) da_nil)))
  (db_cons (ds_ret (p := true) (de_and (p1 := true) (o1 := true) (p2 := true) (o2 := true) (de_cmp (p1 := true) (o1 := true) (p2 := true) (o2 := false) (op_eqV hu) (de_op (p1 := true) (o1 := false) (p2 := true) (o2 := true) op_addV (de_read (i := 5)) (de_op (p1 := true) (o1 := false) (p2 := true) (o2 := true) op_mulV (de_read (i := 1)) (de_op (p1 := true) (o1 := false) (p2 := true) (o2 := true) op_subV (de_read (i := 0)) de_int))) (de_read (i := 3))) (de_and1 (p := true) (o := true) (de_cmp (p1 := true) (o1 := true) (p2 := true) (o2 := true) op_isnV (de_fn (p := true) (o := false) ((g_accept_row m).more (by decide)) room gd m.m_accept_row m.F_accept_row.kp (bi_accept_row m) pass0 (da_cons (p1 := true) (o1 := false) (p2 := true) (o2 := false) (de_read (i := 0)) (da_cons (p1 := true) (o1 := false) (p2 := true) (o2 := false) (de_read (i := 1)) (da_cons (p1 := true) (o1 := false) (p2 := true) (o2 := false) (de_read (i := 2)) (da_cons (p1 := true) (o1 := false) (p2 := true) (o2 := false) (de_read (i := 3)) (da_cons (p1 := true) (o1 := false) (p2 := true) (o2 := true) (de_read (i := 4)) da_nil)))))) de_non))))
  db_nil))))) (by decide)
/-! shared_widths -/
theorem sc_shared_widths : FnScope ["many", "gap", "cells", "width", "least", "widths", "weights", "found", "done", "upto", "own", "weight", "place"] ["many", "gap", "cells", "width"] (defScope s8) := ⟨rfl, rfl, rfl, by decide +kernel, rfl, by decide +kernel, by decide +kernel⟩
theorem nd_shared_widths : List.Nodup (["many", "gap", "cells", "width", "least", "widths", "weights", "found", "done", "upto", "own", "weight", "place"] : List Str) := sc_shared_widths.nd
theorem bi_shared_widths (m : MF K mg) : Binds K m.fd_shared_widths ["many", "gap", "cells", "width"] [] := m.F_shared_widths.bindsN fun _ _ _ _ _ _ us hl => match us, hl with | [_, _, _, _], _ => rfl
def l0_shared_widths : Sv := (sSeq (sAug 9 augAdd (eRead 11))
  (sSeq (sSet 12 (eBin fdivD (eBin mulD (eBin subD (eRead 3) (eRead 4)) (eRead 9)) (eCall sumD (aCons (eRead 6) aNil))))
  (sSeq (sExpr (eApp 7 (eBin subD (eBin addD (eRead 10) (eRead 12)) (eRead 8))))
  (sSeq (sSet 8 (eImm (eRead 12)))
  sNx))))
def f_shared_widths : Sv := (sSeq (sExpr (eFn 3 (D_check_cells) (aCons (eRead 0) (aCons (eRead 1) (aCons (eRead 2) aNil)))))
  (sSeq (sIf (tOrE (tNotE (eTru (eFn 1 (D_is_integer) (aCons (eRead 3) aNil)))) (tNotE (tChain (eC (.int 0)) (cLink leD (eRead 3) (cLast leD (eBin mulD (eC (.int 2)) (eC (.int 100000))))))))
  (sSeq sNo
  sNx)
  sNx)
  (sSeq (sAsg (.tp ((.nm 4) :: ((.nm 5) :: []))) (eFn 3 (D_least_width) (aCons (eRead 0) (aCons (eRead 1) (aCons (eRead 2) aNil)))))
  (sSeq (sIf (eT (eBin ltD (eRead 3) (eRead 4)))
  (sSeq (sRet (eC .none))
  sNx)
  sNx)
  (sSeq (sSet 6 (eIf (eT (eBin gtD (eCall sumD (aCons (eRead 5) aNil)) (eC (.int 0)))) (eImm (eRead 5)) (eBin mulD (eTup (aCons (eC (.int 1)) aNil)) (eRead 0))))
  (sSeq (sSet 7 (eLst aNil))
  (sSeq (sSet 8 (eC (.int 0)))
  (sSeq (sSet 9 (eC (.int 0)))
  (sSeq (sFor [10, 11, 12] (.tp ((.nm 10) :: ((.nm 11) :: []))) (iFn zipD (aCons (eReadP 5) (aCons (eReadP 6) aNil)))
  l0_shared_widths)
  (sSeq (sRet (eCall tupleD (aCons (eRead 7) aNil)))
  sNx))))))))))
def D_shared_widths : Den := denOf 9 none f_shared_widths
theorem g_shared_widths (m : MF K mg) : FnG P w K mg base CX0 4 m.a_shared_widths m.fd_shared_widths ["many", "gap", "cells", "width"] (spD K 4 none D_shared_widths) := by
  refine fn_den (A' := [4, 5, 6, 7, 8, 9, 10, 11, 12]) m.F_shared_widths sc_shared_widths (by intro k hk; first | (cases hk; done) | (cases hk; decide)) (by intro k hk; first | (cases hk; done) | (cases hk; decide)) fun cdv A out s H E room gd => ?_
  have hp : PassesOwn (model P w) (cxOf CX0 P w K mg base ["many", "gap", "cells", "width", "least", "widths", "weights", "found", "done", "upto", "own", "weight", "place"] "shared_widths" (defScope s8) m.a_shared_widths cdv A out s H E).A _ _ := passes_of rfl
  have hu : (cxOf CX0 P w K mg base ["many", "gap", "cells", "width", "least", "widths", "weights", "found", "done", "upto", "own", "weight", "place"] "shared_widths" (defScope s8) m.a_shared_widths cdv A out s H E).A.units + 64 < cLine := by have := room.un; show (A.deeper _).units + 64 < cLine; omega
  exact db_sub (db_cons (ds_expr (p := true) (o := true) (de_fn (p := true) (o := false) ((g_check_cells m).more (by decide)) room gd m.m_check_cells m.F_check_cells.kp (bi_check_cells m) pass0 (da_cons (p1 := true) (o1 := false) (p2 := true) (o2 := false) (de_read (i := 0)) (da_cons (p1 := true) (o1 := false) (p2 := true) (o2 := false) (de_read (i := 1)) (da_cons (p1 := true) (o1 := false) (p2 := true) (o2 := true) (de_read (i := 2)) da_nil)))))
  (db_cons (ds_if (p := true) (dt_w (dw_or (p1 := true) (p2 := true) (dt_not (p := true) (dt_truth (p := true) (o := true) (de_fn (p := true) (o := false) ((g_is_integer m).more (by decide)) room gd m.m_is_integer m.F_is_integer.kp (bi_is_integer m) pass0 (da_cons (p1 := true) (o1 := false) (p2 := true) (o2 := true) (de_read (i := 3)) da_nil)))) (dw_or1 (p := true) (dt_not (p := true) (dt_chain (o := true) de_int (dct_link (o := false) (op_leV hu) (de_read (i := 3)) (dct_last (o := true) (op_leV hu) (de_op (p1 := true) (o1 := true) (p2 := true) (o2 := true) op_mulV de_int (de_gint rfl (m.c_MAX_WIDTH).choose_spec)))))))))
  (db_cons ds_never
  db_nil)
  db_nil)
  (db_cons (ds_asg (p := true) (dg_tup rfl (dgs_cons (dg_name nd_shared_widths (i := 4)) (dgs_cons (dg_name nd_shared_widths (i := 5)) dgs_nil))) (de_fn (p := true) (o := false) ((g_least_width m).more (by decide)) room gd m.m_least_width m.F_least_width.kp (bi_least_width m) pass0 (da_cons (p1 := true) (o1 := false) (p2 := true) (o2 := false) (de_read (i := 0)) (da_cons (p1 := true) (o1 := false) (p2 := true) (o2 := false) (de_read (i := 1)) (da_cons (p1 := true) (o1 := false) (p2 := true) (o2 := true) (de_read (i := 2)) da_nil)))))
  (db_cons (ds_if (p := true) (dt_cmp (p1 := true) (o1 := false) (p2 := true) (o2 := false) (op_ltV hu) (de_read (i := 3)) (de_read (i := 4)))
  (db_cons (ds_ret (p := true) de_non)
  db_nil)
  db_nil)
  (db_cons (ds_set (i := 6) (p := true) nd_shared_widths (de_if (pt := true) (p1 := true) (o1 := true) (p2 := true) (o2 := true) (dt_cmp (p1 := true) (o1 := true) (p2 := true) (o2 := true) (op_gtV hu) (de_callB (p := true) (o := false) (cr_sumV rfl) m.z_sum (da_cons (p1 := true) (o1 := false) (p2 := true) (o2 := true) (de_read (i := 5)) da_nil)) de_int) (de_imm (p := true) (o := false) (de_read (i := 5))) (de_op (p1 := true) (o1 := true) (p2 := true) (o2 := false) op_mulV (de_tup (p := true) (o := true) (da_cons (p1 := true) (o1 := true) (p2 := true) (o2 := true) de_int da_nil)) (de_read (i := 0)))))
  (db_cons (ds_set (i := 7) (p := true) nd_shared_widths (de_lst (p := true) (o := true) da_nil))
  (db_cons (ds_set (i := 8) (p := true) nd_shared_widths de_int)
  (db_cons (ds_set (i := 9) (p := true) nd_shared_widths de_int)
  (db_cons (ds_for (p := true) (ks := [10, 11, 12]) hp rfl (di_zip (p := true) m.z_zip (dpa_cons (p1 := true) (p2 := true) (dp_ofQ (p := true) (dq_read (i := 5))) (dpa_cons (p1 := true) (p2 := true) (dp_ofQ (p := true) (dq_read (i := 6))) dpa_nil))) (dg_tup rfl (dgs_cons (dg_name nd_shared_widths (i := 10)) (dgs_cons (dg_name nd_shared_widths (i := 11)) dgs_nil)))
  (db_cons (ds_aug (i := 9) (o := false) nd_shared_widths ip_addV (de_read (i := 11)))
  (db_cons (ds_set (i := 12) (p := true) nd_shared_widths (de_op (p1 := true) (o1 := true) (p2 := true) (o2 := true) op_fdivV (de_op (p1 := true) (o1 := true) (p2 := true) (o2 := false) op_mulV (de_op (p1 := true) (o1 := false) (p2 := true) (o2 := false) op_subV (de_read (i := 3)) (de_read (i := 4))) (de_read (i := 9))) (de_callB (p := true) (o := false) (cr_sumV rfl) m.z_sum (da_cons (p1 := true) (o1 := false) (p2 := true) (o2 := true) (de_read (i := 6)) da_nil))))
  (db_cons (ds_expr (p := false) (o := true) (de_app (p := true) (i := 7) (de_op (p1 := true) (o1 := true) (p2 := true) (o2 := false) op_subV (de_op (p1 := true) (o1 := false) (p2 := true) (o2 := false) op_addV (de_read (i := 10)) (de_read (i := 12))) (de_read (i := 8)))))
  (db_cons (ds_set (i := 8) (p := true) nd_shared_widths (de_imm (p := true) (o := false) (de_read (i := 12))))
  db_nil)))))
  (db_cons (ds_ret (p := true) (de_callT (p := true) (o := false) cr_tupleV m.z_tuple (da_cons (p1 := true) (o1 := false) (p2 := true) (o2 := true) (de_read (i := 7)) da_nil)))
  db_nil)))))))))) (by decide)
/-! _law_shared -/
theorem sc__law_shared : FnScope ["many", "gap", "cells", "width", "least", "widths", "weights", "parts", "k"] ["many", "gap", "cells", "width"] (defScope s20) := ⟨rfl, rfl, rfl, by decide +kernel, rfl, by decide +kernel, by decide +kernel⟩
theorem nd__law_shared : List.Nodup (["many", "gap", "cells", "width", "least", "widths", "weights", "parts", "k"] : List Str) := sc__law_shared.nd
theorem bi__law_shared (m : MF K mg) : Binds K m.fd__law_shared ["many", "gap", "cells", "width"] [] := m.F__law_shared.bindsN fun _ _ _ _ _ _ us hl => match us, hl with | [_, _, _, _], _ => rfl
def f__law_shared : Sv := (sSeq (sAsg (.tp ((.nm 4) :: ((.nm 5) :: []))) (eFn 3 (D__law_told) (aCons (eRead 0) (aCons (eRead 1) (aCons (eRead 2) aNil)))))
  (sSeq (sIf (eT (eBin ltD (eRead 3) (eRead 4)))
  (sSeq (sRet (eC .none))
  sNx)
  sNx)
  (sSeq (sSet 6 (eIf (eT (eBin gtD (eCall sumD (aCons (eRead 5) aNil)) (eC (.int 0)))) (eImm (eRead 5)) (eBin mulD (eTup (aCons (eC (.int 1)) aNil)) (eRead 0))))
  (sSeq (sSet 7 (eLc [8] (.nm 8) (iFn rng1D (aCons (eBin addD (eRead 0) (eC (.int 1))) aNil)) tYesE (eBin fdivD (eBin mulD (eBin subD (eRead 3) (eRead 4)) (eCall sumD (aCons (eSl (eRead 6) oNone (oSome (eRead 8))) aNil))) (eCall sumD (aCons (eRead 6) aNil)))))
  (sSeq (sRet (eCall tupleD (aCons (eLc [8] (.nm 8) (iFn rng1D (aCons (eRead 0) aNil)) tYesE (eBin subD (eBin addD (eIx (eRead 5) (eRead 8)) (eIx (eRead 7) (eBin addD (eRead 8) (eC (.int 1))))) (eIx (eRead 7) (eRead 8)))) aNil)))
  sNx)))))
def D__law_shared : Den := denOf 5 none f__law_shared
theorem g__law_shared (m : MF K mg) : FnG P w K mg base CX0 3 m.a__law_shared m.fd__law_shared ["many", "gap", "cells", "width"] (spD K 4 none D__law_shared) := by
  refine fn_den (A' := [4, 5, 6, 7]) m.F__law_shared sc__law_shared (by intro k hk; first | (cases hk; done) | (cases hk; decide)) (by intro k hk; first | (cases hk; done) | (cases hk; decide)) fun cdv A out s H E room gd => ?_
  have hp : PassesOwn (model P w) (cxOf CX0 P w K mg base ["many", "gap", "cells", "width", "least", "widths", "weights", "parts", "k"] "_law_shared" (defScope s20) m.a__law_shared cdv A out s H E).A _ _ := passes_of rfl
  have hu : (cxOf CX0 P w K mg base ["many", "gap", "cells", "width", "least", "widths", "weights", "parts", "k"] "_law_shared" (defScope s20) m.a__law_shared cdv A out s H E).A.units + 64 < cLine := by have := room.un; show (A.deeper _).units + 64 < cLine; omega
  exact db_sub (db_cons (ds_asg (p := true) (dg_tup rfl (dgs_cons (dg_name nd__law_shared (i := 4)) (dgs_cons (dg_name nd__law_shared (i := 5)) dgs_nil))) (de_fn (p := true) (o := false) ((g__law_told m).more (by decide)) room gd m.m__law_told m.F__law_told.kp (bi__law_told m) pass0 (da_cons (p1 := true) (o1 := false) (p2 := true) (o2 := false) (de_read (i := 0)) (da_cons (p1 := true) (o1 := false) (p2 := true) (o2 := false) (de_read (i := 1)) (da_cons (p1 := true) (o1 := false) (p2 := true) (o2 := true) (de_read (i := 2)) da_nil)))))
  (db_cons (ds_if (p := true) (dt_cmp (p1 := true) (o1 := false) (p2 := true) (o2 := false) (op_ltV hu) (de_read (i := 3)) (de_read (i := 4)))
  (db_cons (ds_ret (p := true) de_non)
  db_nil)
  db_nil)
  (db_cons (ds_set (i := 6) (p := true) nd__law_shared (de_if (pt := true) (p1 := true) (o1 := true) (p2 := true) (o2 := true) (dt_cmp (p1 := true) (o1 := true) (p2 := true) (o2 := true) (op_gtV hu) (de_callB (p := true) (o := false) (cr_sumV rfl) m.z_sum (da_cons (p1 := true) (o1 := false) (p2 := true) (o2 := true) (de_read (i := 5)) da_nil)) de_int) (de_imm (p := true) (o := false) (de_read (i := 5))) (de_op (p1 := true) (o1 := true) (p2 := true) (o2 := false) op_mulV (de_tup (p := true) (o := true) (da_cons (p1 := true) (o1 := true) (p2 := true) (o2 := true) de_int da_nil)) (de_read (i := 0)))))
  (db_cons (ds_set (i := 7) (p := true) nd__law_shared (de_lc (p1 := true) (p2 := true) (p3 := true) rfl nd__law_shared (di_range1 (p := true) (o := true) m.z_range (da_cons (p1 := true) (o1 := true) (p2 := true) (o2 := true) (de_op (p1 := true) (o1 := false) (p2 := true) (o2 := true) op_addV (de_read (i := 0)) de_int) da_nil)) (blkOk_by (own := [("k", 8)]) (by kernel_rfl)) (fun _ _ _ _ _ => (dg_name nd__law_shared (i := 8))) (fun _ _ _ _ _ => dts_nil) (fun _ _ _ _ _ => (de_op (p1 := true) (o1 := true) (p2 := true) (o2 := true) op_fdivV (de_op (p1 := true) (o1 := true) (p2 := true) (o2 := true) op_mulV (de_op (p1 := true) (o1 := false) (p2 := true) (o2 := false) op_subV (de_read (i := 3)) (de_read (i := 4))) (de_callB (p := true) (o := true) (cr_sumV rfl) m.z_sum (da_cons (p1 := true) (o1 := true) (p2 := true) (o2 := true) (de_slice (p := true) (o := false) (de_read (i := 6)) do_none (do_some (o := false) (de_read (i := 8)))) da_nil))) (de_callB (p := true) (o := false) (cr_sumV rfl) m.z_sum (da_cons (p1 := true) (o1 := false) (p2 := true) (o2 := true) (de_read (i := 6)) da_nil))))))
  (db_cons (ds_ret (p := true) (de_callT (p := true) (o := true) cr_tupleV m.z_tuple (da_cons (p1 := true) (o1 := true) (p2 := true) (o2 := true) (de_lc (p1 := true) (p2 := true) (p3 := true) rfl nd__law_shared (di_range1 (p := true) (o := false) m.z_range (da_cons (p1 := true) (o1 := false) (p2 := true) (o2 := true) (de_read (i := 0)) da_nil)) (blkOk_by (own := [("k", 8)]) (by kernel_rfl)) (fun _ _ _ _ _ => (dg_name nd__law_shared (i := 8))) (fun _ _ _ _ _ => dts_nil) (fun _ _ _ _ _ => (de_op (p1 := true) (o1 := true) (p2 := true) (o2 := false) op_subV (de_op (p1 := true) (o1 := false) (p2 := true) (o2 := false) op_addV (de_ix (p1 := true) (o1 := false) (p2 := true) (o2 := false) (de_read (i := 5)) (de_read (i := 8))) (de_ix (p1 := true) (o1 := false) (p2 := true) (o2 := true) (de_read (i := 7)) (de_op (p1 := true) (o1 := false) (p2 := true) (o2 := true) op_addV (de_read (i := 8)) de_int))) (de_ix (p1 := true) (o1 := false) (p2 := true) (o2 := false) (de_read (i := 7)) (de_read (i := 8)))))) da_nil)))
  db_nil))))) (by decide)
/-! _law_tables_hold -/
theorem sc__law_tables_hold : FnScope ["state", "many", "gap", "cells", "least", "widths", "turned", "factor", "scaled", "weaker", "width", "one", "first", "second", "both", "told", "last", "begin", "end"] ["state"] (defScope s22) := ⟨rfl, rfl, rfl, by decide +kernel, rfl, by decide +kernel, by decide +kernel⟩
theorem nd__law_tables_hold : List.Nodup (["state", "many", "gap", "cells", "least", "widths", "turned", "factor", "scaled", "weaker", "width", "one", "first", "second", "both", "told", "last", "begin", "end"] : List Str) := sc__law_tables_hold.nd
theorem bi__law_tables_hold (m : MF K mg) : Binds K m.fd__law_tables_hold ["state"] [] := m.F__law_tables_hold.bindsN fun _ _ _ _ _ _ us hl => match us, hl with | [_], _ => rfl
def l0__law_tables_hold : Sv := (sSeq (sIf (tNotE (eTru (eFn 2 (D__law_same) (aCons (eFn 4 (D_shared_widths) (aCons (eRead 1) (aCons (eRead 2) (aCons (eRead 3) (aCons (eRead 10) aNil))))) (aCons (eFn 4 (D__law_shared) (aCons (eRead 1) (aCons (eRead 2) (aCons (eRead 3) (aCons (eRead 10) aNil))))) aNil)))))
  (sSeq (sRet (eC (.bool false)))
  sNx)
  sNx)
  sNx)
def f__law_tables_hold : Sv := (sSeq (sAsg (.tp ((.nm 1) :: ((.nm 2) :: []))) (eTup (aCons (eBin addD (eC (.int 1)) (eFnIO 2 0 (D__law_draw) (zHere 0 (aCons (eC (.int 8)) aNil)))) (aCons (eFnIO 2 0 (D__law_pick) (zHere 0 (aCons (eLst (aCons (eC (.int 0)) (aCons (eC (.int 1)) (aCons (eC (.int 5)) (aCons (eC (.int 40)) aNil))))) aNil))) aNil))))
  (sSeq (sSet 3 (eFnIO 3 0 (D__law_cells) (zHere 0 (aCons (eReadP 1) (aCons (eFnIO 2 0 (D__law_pick) (zHere 0 (aCons (eLst (aCons (eC (.int 5)) (aCons (eC (.int 20)) (aCons (eC (.int 60)) aNil)))) aNil))) aNil)))))
  (sSeq (sAsg (.tp ((.nm 4) :: ((.nm 5) :: []))) (eFn 3 (D__law_told) (aCons (eRead 1) (aCons (eRead 2) (aCons (eRead 3) aNil)))))
  (sSeq (sIf (tOrE (tNotE (eTru (eFn 2 (D__law_same) (aCons (eFn 3 (D_least_width) (aCons (eRead 1) (aCons (eRead 2) (aCons (eRead 3) aNil)))) (aCons (eTup (aCons (eRead 4) (aCons (eRead 5) aNil))) aNil))))) (tNotE (eTru (eFn 4 (D__law_row_holds) (aCons (eRead 1) (aCons (eRead 2) (aCons (eRead 3) (aCons (eRead 4) aNil))))))))
  (sSeq (sRet (eC (.bool false)))
  sNx)
  sNx)
  (sSeq (sIf (eT (eBin notnD (eFn 5 (D_accept_widths) (aCons (eRead 1) (aCons (eRead 2) (aCons (eRead 3) (aCons (eRead 4) (aCons (eRead 5) aNil)))))) (eC .none)))
  (sSeq (sRet (eC (.bool false)))
  sNx)
  sNx)
  (sSeq (sAsg (.tp ((.nm 6) :: ((.nm 7) :: []))) (eTup (aCons (eCall tupleD (aCons (eLc [12, 16, 10] (.tp ((.nm 12) :: ((.nm 16) :: ((.nm 10) :: [])))) (iTpl (eReadP 3)) tYesE (eImm (eTup (aCons (eBin subD (eBin subD (eRead 1) (eC (.int 1))) (eRead 16)) (aCons (eBin subD (eBin subD (eRead 1) (eC (.int 1))) (eRead 12)) (aCons (eRead 10) aNil)))))) aNil)) (aCons (eFnIO 2 0 (D__law_pick) (zHere 0 (aCons (eLst (aCons (eC (.int 2)) (aCons (eC (.int 5)) (aCons (eC (.int 11)) aNil)))) aNil))) aNil))))
  (sSeq (sSet 8 (eCall tupleD (aCons (eLc [12, 16, 10] (.tp ((.nm 12) :: ((.nm 16) :: ((.nm 10) :: [])))) (iTpl (eReadP 3)) tYesE (eImm (eTup (aCons (eRead 12) (aCons (eRead 16) (aCons (eBin mulD (eRead 10) (eRead 7)) aNil)))))) aNil)))
  (sSeq (sIf (tNotE (eTru (eFn 2 (D__law_same) (aCons (eLst (aCons (eIx (eFn 3 (D_least_width) (aCons (eRead 1) (aCons (eRead 2) (aCons (eRead 6) aNil)))) (eC (.int 0))) (aCons (eFn 3 (D_least_width) (aCons (eRead 1) (aCons (eBin mulD (eRead 2) (eRead 7)) (aCons (eRead 8) aNil)))) aNil))) (aCons (eLst (aCons (eImm (eRead 4)) (aCons (eTup (aCons (eBin mulD (eRead 4) (eRead 7)) (aCons (eCall tupleD (aCons (eLc [10] (.nm 10) (iTpl (eReadP 5)) tYesE (eBin mulD (eRead 10) (eRead 7))) aNil)) aNil))) aNil))) aNil)))))
  (sSeq (sRet (eC (.bool false)))
  sNx)
  sNx)
  (sSeq (sIf (eT (eBin ltD (eCall lenD (aCons (eRead 3) aNil)) (eC (.int 40))))
  (sSeq (sSet 9 (eBin addD (eUn revD (eRead 3)) (eCall tupleD (aCons (eLc [12, 16, 10] (.tp ((.nm 12) :: ((.nm 16) :: ((.nm 10) :: [])))) (iTpl (eSl (eRead 3) oNone (oSome (eC (.int 20))))) tYesE (eTup (aCons (eImm (eRead 12)) (aCons (eImm (eRead 16)) (aCons (eCall maxD1 (aCons (eLst (aCons (eC (.int 0)) (aCons (eBin subD (eBin subD (eRead 10) (eC (.int 1))) (eFnIO 2 0 (D__law_draw) (zHere 0 (aCons (eC (.int 5)) aNil)))) aNil))) aNil)) aNil))))) aNil))))
  (sSeq (sIf (tNotE (eTru (eFn 2 (D__law_same) (aCons (eFn 3 (D_least_width) (aCons (eRead 1) (aCons (eRead 2) (aCons (eRead 9) aNil)))) (aCons (eTup (aCons (eRead 4) (aCons (eRead 5) aNil))) aNil)))))
  (sSeq (sRet (eC (.bool false)))
  sNx)
  sNx)
  sNx))
  sNx)
  (sKill [9] (sSeq (sFor [10] (.nm 10) (iLst (eLst (aCons (eImm (eRead 4)) (aCons (eBin addD (eImm (eRead 4)) (eFnIO 2 0 (D__law_draw) (zHere 0 (aCons (eC (.int 100)) aNil)))) (aCons (eCall maxD1 (aCons (eLst (aCons (eC (.int 0)) (aCons (eBin subD (eRead 4) (eC (.int 1))) aNil))) aNil)) aNil)))))
  l0__law_tables_hold)
  (sSeq (sSet 11 (eBin addD (eC (.int 1)) (eFnIO 2 0 (D__law_draw) (zHere 0 (aCons (eC (.int 7)) aNil)))))
  (sSeq (sPar2 12 13 (aCons (eFnIO 3 0 (D__law_cells) (zHere 0 (aCons (eReadP 11) (aCons (eC (.int 25)) aNil)))) (aCons (eFnIO 3 0 (D__law_cells) (zHere 0 (aCons (eBin subD (eC (.int 8)) (eRead 11)) (aCons (eC (.int 25)) aNil)))) aNil)))
  (sSeq (sSet 14 (eBin addD (eRead 12) (eCall tupleD (aCons (eLc [17, 18, 10] (.tp ((.nm 17) :: ((.nm 18) :: ((.nm 10) :: [])))) (iTpl (eReadP 13)) tYesE (eImm (eTup (aCons (eBin addD (eRead 17) (eRead 11)) (aCons (eBin addD (eRead 18) (eRead 11)) (aCons (eRead 10) aNil)))))) aNil))))
  (sSeq (sSet 15 (eLst (aCons (eFn 3 (D_least_width) (aCons (eRead 11) (aCons (eRead 2) (aCons (eRead 12) aNil)))) (aCons (eFn 3 (D_least_width) (aCons (eBin subD (eC (.int 8)) (eRead 11)) (aCons (eRead 2) (aCons (eRead 13) aNil)))) aNil))))
  (sSeq (sRet (eFn 2 (D__law_same) (aCons (eFn 3 (D_least_width) (aCons (eC (.int 8)) (aCons (eRead 2) (aCons (eRead 14) aNil)))) (aCons (eTup (aCons (eBin addD (eBin addD (eIx (eIx (eRead 15) (eC (.int 0))) (eC (.int 0))) (eRead 2)) (eIx (eIx (eRead 15) (eC (.int 1))) (eC (.int 0)))) (aCons (eBin addD (eIx (eIx (eRead 15) (eC (.int 0))) (eC (.int 1))) (eIx (eIx (eRead 15) (eC (.int 1))) (eC (.int 1)))) aNil))) aNil))))
  sNx))))))))))))))))
def D__law_tables_hold : Den := denOf 18 (some 0) f__law_tables_hold
theorem g__law_tables_hold (m : MF K mg) : FnG P w K mg base CX0 5 m.a__law_tables_hold m.fd__law_tables_hold ["state"] (spD K 1 (some 0) D__law_tables_hold) := by
  refine fn_den (A' := [1, 2, 3, 4, 5, 6, 7, 8, 9, 10, 11, 12, 13, 14, 15]) m.F__law_tables_hold sc__law_tables_hold (by intro k hk; first | (cases hk; done) | (cases hk; decide)) (by intro k hk; first | (cases hk; done) | (cases hk; decide)) fun cdv A out s H E room gd => ?_
  have hp : PassesOwn (model P w) (cxOf CX0 P w K mg base ["state", "many", "gap", "cells", "least", "widths", "turned", "factor", "scaled", "weaker", "width", "one", "first", "second", "both", "told", "last", "begin", "end"] "_law_tables_hold" (defScope s22) m.a__law_tables_hold cdv A out s H E).A _ _ := passes_of rfl
  have hu : (cxOf CX0 P w K mg base ["state", "many", "gap", "cells", "least", "widths", "turned", "factor", "scaled", "weaker", "width", "one", "first", "second", "both", "told", "last", "begin", "end"] "_law_tables_hold" (defScope s22) m.a__law_tables_hold cdv A out s H E).A.units + 64 < cLine := by have := room.un; show (A.deeper _).units + 64 < cLine; omega
  exact db_sub (db_cons (ds_asg (p := false) (dg_tup rfl (dgs_cons (dg_name nd__law_tables_hold (i := 1)) (dgs_cons (dg_name nd__law_tables_hold (i := 2)) dgs_nil))) (de_tup (p := false) (o := true) (da_cons (p1 := false) (o1 := true) (p2 := false) (o2 := true) (de_op (p1 := true) (o1 := true) (p2 := false) (o2 := true) op_addV de_int (de_fnIO (p := true) ((g__law_draw m).more (by decide)) room gd m.m__law_draw m.F__law_draw.kp (bi__law_draw m) pass0 (dio_here (p := true) (i := 0) (dza_cons (p1 := true) (p2 := true) (dz_own (p := true) de_int) dza_nil)))) (da_cons (p1 := false) (o1 := true) (p2 := true) (o2 := true) (de_fnIO (p := true) ((g__law_pick m).more (by decide)) room gd m.m__law_pick m.F__law_pick.kp (bi__law_pick m) pass0 (dio_here (p := true) (i := 0) (dza_cons (p1 := true) (p2 := true) (dz_own (p := true) (de_lst (p := true) (o := true) (da_cons (p1 := true) (o1 := true) (p2 := true) (o2 := true) de_int (da_cons (p1 := true) (o1 := true) (p2 := true) (o2 := true) de_int (da_cons (p1 := true) (o1 := true) (p2 := true) (o2 := true) de_int (da_cons (p1 := true) (o1 := true) (p2 := true) (o2 := true) de_int da_nil)))))) dza_nil))) da_nil))))
  (db_cons (ds_set (i := 3) (p := false) nd__law_tables_hold (de_fnIO (p := false) ((g__law_cells m).more (by decide)) room gd m.m__law_cells m.F__law_cells.kp (bi__law_cells m) pass0 (dio_here (p := false) (i := 0) (dza_cons (p1 := true) (p2 := false) (dz_q (p := true) (dq_read (i := 1))) (dza_cons (p1 := false) (p2 := true) (dz_own (p := false) (de_fnIO (p := true) ((g__law_pick m).more (by decide)) room gd m.m__law_pick m.F__law_pick.kp (bi__law_pick m) pass0 (dio_here (p := true) (i := 0) (dza_cons (p1 := true) (p2 := true) (dz_own (p := true) (de_lst (p := true) (o := true) (da_cons (p1 := true) (o1 := true) (p2 := true) (o2 := true) de_int (da_cons (p1 := true) (o1 := true) (p2 := true) (o2 := true) de_int (da_cons (p1 := true) (o1 := true) (p2 := true) (o2 := true) de_int da_nil))))) dza_nil)))) dza_nil)))))
  (db_cons (ds_asg (p := true) (dg_tup rfl (dgs_cons (dg_name nd__law_tables_hold (i := 4)) (dgs_cons (dg_name nd__law_tables_hold (i := 5)) dgs_nil))) (de_fn (p := true) (o := false) ((g__law_told m).more (by decide)) room gd m.m__law_told m.F__law_told.kp (bi__law_told m) pass0 (da_cons (p1 := true) (o1 := false) (p2 := true) (o2 := false) (de_read (i := 1)) (da_cons (p1 := true) (o1 := false) (p2 := true) (o2 := false) (de_read (i := 2)) (da_cons (p1 := true) (o1 := false) (p2 := true) (o2 := true) (de_read (i := 3)) da_nil)))))
  (db_cons (ds_if (p := true) (dt_w (dw_or (p1 := true) (p2 := true) (dt_not (p := true) (dt_truth (p := true) (o := true) (de_fn (p := true) (o := false) ((g__law_same m).more (by decide)) room gd m.m__law_same m.F__law_same.kp (bi__law_same m) pass0 (da_cons (p1 := true) (o1 := true) (p2 := true) (o2 := false) (de_fn (p := true) (o := false) ((g_least_width m).more (by decide)) room gd m.m_least_width m.F_least_width.kp (bi_least_width m) pass0 (da_cons (p1 := true) (o1 := false) (p2 := true) (o2 := false) (de_read (i := 1)) (da_cons (p1 := true) (o1 := false) (p2 := true) (o2 := false) (de_read (i := 2)) (da_cons (p1 := true) (o1 := false) (p2 := true) (o2 := true) (de_read (i := 3)) da_nil)))) (da_cons (p1 := true) (o1 := false) (p2 := true) (o2 := true) (de_tup (p := true) (o := false) (da_cons (p1 := true) (o1 := false) (p2 := true) (o2 := false) (de_read (i := 4)) (da_cons (p1 := true) (o1 := false) (p2 := true) (o2 := true) (de_read (i := 5)) da_nil))) da_nil))))) (dw_or1 (p := true) (dt_not (p := true) (dt_truth (p := true) (o := true) (de_fn (p := true) (o := false) ((g__law_row_holds m).more (by decide)) room gd m.m__law_row_holds m.F__law_row_holds.kp (bi__law_row_holds m) pass0 (da_cons (p1 := true) (o1 := false) (p2 := true) (o2 := false) (de_read (i := 1)) (da_cons (p1 := true) (o1 := false) (p2 := true) (o2 := false) (de_read (i := 2)) (da_cons (p1 := true) (o1 := false) (p2 := true) (o2 := false) (de_read (i := 3)) (da_cons (p1 := true) (o1 := false) (p2 := true) (o2 := true) (de_read (i := 4)) da_nil))))))))))
  (db_cons (ds_ret (p := true) de_bl)
  db_nil)
  db_nil)
  (db_cons (ds_if (p := true) (dt_cmp (p1 := true) (o1 := true) (p2 := true) (o2 := true) op_notnV (de_fn (p := true) (o := false) ((g_accept_widths m).more (by decide)) room gd m.m_accept_widths m.F_accept_widths.kp (bi_accept_widths m) pass0 (da_cons (p1 := true) (o1 := false) (p2 := true) (o2 := false) (de_read (i := 1)) (da_cons (p1 := true) (o1 := false) (p2 := true) (o2 := false) (de_read (i := 2)) (da_cons (p1 := true) (o1 := false) (p2 := true) (o2 := false) (de_read (i := 3)) (da_cons (p1 := true) (o1 := false) (p2 := true) (o2 := false) (de_read (i := 4)) (da_cons (p1 := true) (o1 := false) (p2 := true) (o2 := true) (de_read (i := 5)) da_nil)))))) de_non)
  (db_cons (ds_ret (p := true) de_bl)
  db_nil)
  db_nil)
  (db_cons (ds_asg (p := false) (dg_tup rfl (dgs_cons (dg_name nd__law_tables_hold (i := 6)) (dgs_cons (dg_name nd__law_tables_hold (i := 7)) dgs_nil))) (de_tup (p := false) (o := true) (da_cons (p1 := true) (o1 := true) (p2 := false) (o2 := true) (de_callT (p := true) (o := true) cr_tupleV m.z_tuple (da_cons (p1 := true) (o1 := true) (p2 := true) (o2 := true) (de_lc (p1 := true) (p2 := true) (p3 := true) rfl nd__law_tables_hold (di_tup (p := true) (dp_ofQ (p := true) (dq_read (i := 3)))) (blkOk_by (own := [("first", 12), ("last", 16), ("width", 10)]) (by kernel_rfl)) (fun _ _ _ _ _ => (dg_tup rfl (dgs_cons (dg_name nd__law_tables_hold (i := 12)) (dgs_cons (dg_name nd__law_tables_hold (i := 16)) (dgs_cons (dg_name nd__law_tables_hold (i := 10)) dgs_nil))))) (fun _ _ _ _ _ => dts_nil) (fun _ _ _ _ _ => (de_imm (p := true) (o := false) (de_tup (p := true) (o := false) (da_cons (p1 := true) (o1 := true) (p2 := true) (o2 := false) (de_op (p1 := true) (o1 := true) (p2 := true) (o2 := false) op_subV (de_op (p1 := true) (o1 := false) (p2 := true) (o2 := true) op_subV (de_read (i := 1)) de_int) (de_read (i := 16))) (da_cons (p1 := true) (o1 := true) (p2 := true) (o2 := false) (de_op (p1 := true) (o1 := true) (p2 := true) (o2 := false) op_subV (de_op (p1 := true) (o1 := false) (p2 := true) (o2 := true) op_subV (de_read (i := 1)) de_int) (de_read (i := 12))) (da_cons (p1 := true) (o1 := false) (p2 := true) (o2 := true) (de_read (i := 10)) da_nil))))))) da_nil)) (da_cons (p1 := false) (o1 := true) (p2 := true) (o2 := true) (de_fnIO (p := true) ((g__law_pick m).more (by decide)) room gd m.m__law_pick m.F__law_pick.kp (bi__law_pick m) pass0 (dio_here (p := true) (i := 0) (dza_cons (p1 := true) (p2 := true) (dz_own (p := true) (de_lst (p := true) (o := true) (da_cons (p1 := true) (o1 := true) (p2 := true) (o2 := true) de_int (da_cons (p1 := true) (o1 := true) (p2 := true) (o2 := true) de_int (da_cons (p1 := true) (o1 := true) (p2 := true) (o2 := true) de_int da_nil))))) dza_nil))) da_nil))))
  (db_cons (ds_set (i := 8) (p := true) nd__law_tables_hold (de_callT (p := true) (o := true) cr_tupleV m.z_tuple (da_cons (p1 := true) (o1 := true) (p2 := true) (o2 := true) (de_lc (p1 := true) (p2 := true) (p3 := true) rfl nd__law_tables_hold (di_tup (p := true) (dp_ofQ (p := true) (dq_read (i := 3)))) (blkOk_by (own := [("first", 12), ("last", 16), ("width", 10)]) (by kernel_rfl)) (fun _ _ _ _ _ => (dg_tup rfl (dgs_cons (dg_name nd__law_tables_hold (i := 12)) (dgs_cons (dg_name nd__law_tables_hold (i := 16)) (dgs_cons (dg_name nd__law_tables_hold (i := 10)) dgs_nil))))) (fun _ _ _ _ _ => dts_nil) (fun _ _ _ _ _ => (de_imm (p := true) (o := false) (de_tup (p := true) (o := false) (da_cons (p1 := true) (o1 := false) (p2 := true) (o2 := false) (de_read (i := 12)) (da_cons (p1 := true) (o1 := false) (p2 := true) (o2 := true) (de_read (i := 16)) (da_cons (p1 := true) (o1 := true) (p2 := true) (o2 := true) (de_op (p1 := true) (o1 := false) (p2 := true) (o2 := false) op_mulV (de_read (i := 10)) (de_read (i := 7))) da_nil))))))) da_nil)))
  (db_cons (ds_if (p := true) (dt_not (p := true) (dt_truth (p := true) (o := true) (de_fn (p := true) (o := true) ((g__law_same m).more (by decide)) room gd m.m__law_same m.F__law_same.kp (bi__law_same m) pass0 (da_cons (p1 := true) (o1 := true) (p2 := true) (o2 := true) (de_lst (p := true) (o := true) (da_cons (p1 := true) (o1 := true) (p2 := true) (o2 := true) (de_ix (p1 := true) (o1 := true) (p2 := true) (o2 := true) (de_fn (p := true) (o := false) ((g_least_width m).more (by decide)) room gd m.m_least_width m.F_least_width.kp (bi_least_width m) pass0 (da_cons (p1 := true) (o1 := false) (p2 := true) (o2 := false) (de_read (i := 1)) (da_cons (p1 := true) (o1 := false) (p2 := true) (o2 := false) (de_read (i := 2)) (da_cons (p1 := true) (o1 := false) (p2 := true) (o2 := true) (de_read (i := 6)) da_nil)))) de_int) (da_cons (p1 := true) (o1 := true) (p2 := true) (o2 := true) (de_fn (p := true) (o := false) ((g_least_width m).more (by decide)) room gd m.m_least_width m.F_least_width.kp (bi_least_width m) pass0 (da_cons (p1 := true) (o1 := false) (p2 := true) (o2 := false) (de_read (i := 1)) (da_cons (p1 := true) (o1 := true) (p2 := true) (o2 := false) (de_op (p1 := true) (o1 := false) (p2 := true) (o2 := false) op_mulV (de_read (i := 2)) (de_read (i := 7))) (da_cons (p1 := true) (o1 := false) (p2 := true) (o2 := true) (de_read (i := 8)) da_nil)))) da_nil))) (da_cons (p1 := true) (o1 := true) (p2 := true) (o2 := true) (de_lst (p := true) (o := true) (da_cons (p1 := true) (o1 := true) (p2 := true) (o2 := true) (de_imm (p := true) (o := false) (de_read (i := 4))) (da_cons (p1 := true) (o1 := true) (p2 := true) (o2 := true) (de_tup (p := true) (o := true) (da_cons (p1 := true) (o1 := true) (p2 := true) (o2 := true) (de_op (p1 := true) (o1 := false) (p2 := true) (o2 := false) op_mulV (de_read (i := 4)) (de_read (i := 7))) (da_cons (p1 := true) (o1 := true) (p2 := true) (o2 := true) (de_callT (p := true) (o := true) cr_tupleV m.z_tuple (da_cons (p1 := true) (o1 := true) (p2 := true) (o2 := true) (de_lc (p1 := true) (p2 := true) (p3 := true) rfl nd__law_tables_hold (di_tup (p := true) (dp_ofQ (p := true) (dq_read (i := 5)))) (blkOk_by (own := [("width", 10)]) (by kernel_rfl)) (fun _ _ _ _ _ => (dg_name nd__law_tables_hold (i := 10))) (fun _ _ _ _ _ => dts_nil) (fun _ _ _ _ _ => (de_op (p1 := true) (o1 := false) (p2 := true) (o2 := false) op_mulV (de_read (i := 10)) (de_read (i := 7))))) da_nil)) da_nil))) da_nil))) da_nil)))))
  (db_cons (ds_ret (p := true) de_bl)
  db_nil)
  db_nil)
  (db_cons (ds_if (p := true) (dt_cmp (p1 := true) (o1 := true) (p2 := true) (o2 := true) (op_ltV hu) (de_callB (p := true) (o := false) cr_lenV m.z_len (da_cons (p1 := true) (o1 := false) (p2 := true) (o2 := true) (de_read (i := 3)) da_nil)) de_int)
  (db_cons (ds_set (i := 9) (p := false) nd__law_tables_hold (de_op (p1 := true) (o1 := true) (p2 := false) (o2 := true) op_addV (de_rev (p := true) (o := false) (de_read (i := 3))) (de_callT (p := false) (o := true) cr_tupleV m.z_tuple (da_cons (p1 := false) (o1 := true) (p2 := true) (o2 := true) (de_lc (p1 := true) (p2 := true) (p3 := false) rfl nd__law_tables_hold (di_tup (p := true) (dp_own (p := true) (de_slice (p := true) (o := false) (de_read (i := 3)) do_none (do_some (o := true) de_int)))) (blkOk_by (own := [("first", 12), ("last", 16), ("width", 10)]) (by kernel_rfl)) (fun _ _ _ _ _ => (dg_tup rfl (dgs_cons (dg_name nd__law_tables_hold (i := 12)) (dgs_cons (dg_name nd__law_tables_hold (i := 16)) (dgs_cons (dg_name nd__law_tables_hold (i := 10)) dgs_nil))))) (fun _ _ _ _ _ => dts_nil) (fun _ _ _ _ _ => (de_tup (p := false) (o := true) (da_cons (p1 := true) (o1 := true) (p2 := false) (o2 := true) (de_imm (p := true) (o := false) (de_read (i := 12))) (da_cons (p1 := true) (o1 := true) (p2 := false) (o2 := true) (de_imm (p := true) (o := false) (de_read (i := 16))) (da_cons (p1 := false) (o1 := true) (p2 := true) (o2 := true) (de_callB (p := false) (o := true) (cr_maxV rfl hu) m.z_max (da_cons (p1 := false) (o1 := true) (p2 := true) (o2 := true) (de_lst (p := false) (o := true) (da_cons (p1 := true) (o1 := true) (p2 := false) (o2 := true) de_int (da_cons (p1 := false) (o1 := true) (p2 := true) (o2 := true) (de_op (p1 := true) (o1 := true) (p2 := false) (o2 := true) op_subV (de_op (p1 := true) (o1 := false) (p2 := true) (o2 := true) op_subV (de_read (i := 10)) de_int) (de_fnIO (p := true) ((g__law_draw m).more (by decide)) room gd m.m__law_draw m.F__law_draw.kp (bi__law_draw m) pass0 (dio_here (p := true) (i := 0) (dza_cons (p1 := true) (p2 := true) (dz_own (p := true) de_int) dza_nil)))) da_nil))) da_nil)) da_nil)))))) da_nil))))
  (db_cons (ds_if (p := true) (dt_not (p := true) (dt_truth (p := true) (o := true) (de_fn (p := true) (o := false) ((g__law_same m).more (by decide)) room gd m.m__law_same m.F__law_same.kp (bi__law_same m) pass0 (da_cons (p1 := true) (o1 := true) (p2 := true) (o2 := false) (de_fn (p := true) (o := false) ((g_least_width m).more (by decide)) room gd m.m_least_width m.F_least_width.kp (bi_least_width m) pass0 (da_cons (p1 := true) (o1 := false) (p2 := true) (o2 := false) (de_read (i := 1)) (da_cons (p1 := true) (o1 := false) (p2 := true) (o2 := false) (de_read (i := 2)) (da_cons (p1 := true) (o1 := false) (p2 := true) (o2 := true) (de_read (i := 9)) da_nil)))) (da_cons (p1 := true) (o1 := false) (p2 := true) (o2 := true) (de_tup (p := true) (o := false) (da_cons (p1 := true) (o1 := false) (p2 := true) (o2 := false) (de_read (i := 4)) (da_cons (p1 := true) (o1 := false) (p2 := true) (o2 := true) (de_read (i := 5)) da_nil))) da_nil)))))
  (db_cons (ds_ret (p := true) de_bl)
  db_nil)
  db_nil)
  db_nil))
  db_nil)
  (db_kill (ks := [9]) (db_cons (ds_for (p := false) (ks := [10]) hp rfl (di_list (p := false) (dp_own (p := false) (de_lst (p := false) (o := true) (da_cons (p1 := true) (o1 := true) (p2 := false) (o2 := true) (de_imm (p := true) (o := false) (de_read (i := 4))) (da_cons (p1 := false) (o1 := true) (p2 := true) (o2 := true) (de_op (p1 := true) (o1 := true) (p2 := false) (o2 := true) op_addV (de_imm (p := true) (o := false) (de_read (i := 4))) (de_fnIO (p := true) ((g__law_draw m).more (by decide)) room gd m.m__law_draw m.F__law_draw.kp (bi__law_draw m) pass0 (dio_here (p := true) (i := 0) (dza_cons (p1 := true) (p2 := true) (dz_own (p := true) de_int) dza_nil)))) (da_cons (p1 := true) (o1 := true) (p2 := true) (o2 := true) (de_callB (p := true) (o := true) (cr_maxV rfl hu) m.z_max (da_cons (p1 := true) (o1 := true) (p2 := true) (o2 := true) (de_lst (p := true) (o := true) (da_cons (p1 := true) (o1 := true) (p2 := true) (o2 := true) de_int (da_cons (p1 := true) (o1 := true) (p2 := true) (o2 := true) (de_op (p1 := true) (o1 := false) (p2 := true) (o2 := true) op_subV (de_read (i := 4)) de_int) da_nil))) da_nil)) da_nil)))))) (dg_name nd__law_tables_hold (i := 10))
  (db_cons (ds_if (p := true) (dt_not (p := true) (dt_truth (p := true) (o := true) (de_fn (p := true) (o := true) ((g__law_same m).more (by decide)) room gd m.m__law_same m.F__law_same.kp (bi__law_same m) pass0 (da_cons (p1 := true) (o1 := true) (p2 := true) (o2 := true) (de_fn (p := true) (o := false) ((g_shared_widths m).more (by decide)) room gd m.m_shared_widths m.F_shared_widths.kp (bi_shared_widths m) pass0 (da_cons (p1 := true) (o1 := false) (p2 := true) (o2 := false) (de_read (i := 1)) (da_cons (p1 := true) (o1 := false) (p2 := true) (o2 := false) (de_read (i := 2)) (da_cons (p1 := true) (o1 := false) (p2 := true) (o2 := false) (de_read (i := 3)) (da_cons (p1 := true) (o1 := false) (p2 := true) (o2 := true) (de_read (i := 10)) da_nil))))) (da_cons (p1 := true) (o1 := true) (p2 := true) (o2 := true) (de_fn (p := true) (o := false) ((g__law_shared m).more (by decide)) room gd m.m__law_shared m.F__law_shared.kp (bi__law_shared m) pass0 (da_cons (p1 := true) (o1 := false) (p2 := true) (o2 := false) (de_read (i := 1)) (da_cons (p1 := true) (o1 := false) (p2 := true) (o2 := false) (de_read (i := 2)) (da_cons (p1 := true) (o1 := false) (p2 := true) (o2 := false) (de_read (i := 3)) (da_cons (p1 := true) (o1 := false) (p2 := true) (o2 := true) (de_read (i := 10)) da_nil))))) da_nil)))))
  (db_cons (ds_ret (p := true) de_bl)
  db_nil)
  db_nil)
  db_nil))
  (db_cons (ds_set (i := 11) (p := false) nd__law_tables_hold (de_op (p1 := true) (o1 := true) (p2 := false) (o2 := true) op_addV de_int (de_fnIO (p := true) ((g__law_draw m).more (by decide)) room gd m.m__law_draw m.F__law_draw.kp (bi__law_draw m) pass0 (dio_here (p := true) (i := 0) (dza_cons (p1 := true) (p2 := true) (dz_own (p := true) de_int) dza_nil)))))
  (db_cons (ds_par2 (i := 12) (j := 13) (p := false) rfl nd__law_tables_hold (da_cons (p1 := false) (o1 := true) (p2 := false) (o2 := true) (de_fnIO (p := true) ((g__law_cells m).more (by decide)) room gd m.m__law_cells m.F__law_cells.kp (bi__law_cells m) pass0 (dio_here (p := true) (i := 0) (dza_cons (p1 := true) (p2 := true) (dz_q (p := true) (dq_read (i := 11))) (dza_cons (p1 := true) (p2 := true) (dz_own (p := true) de_int) dza_nil)))) (da_cons (p1 := false) (o1 := true) (p2 := true) (o2 := true) (de_fnIO (p := true) ((g__law_cells m).more (by decide)) room gd m.m__law_cells m.F__law_cells.kp (bi__law_cells m) pass0 (dio_here (p := true) (i := 0) (dza_cons (p1 := true) (p2 := true) (dz_own (p := true) (de_op (p1 := true) (o1 := true) (p2 := true) (o2 := false) op_subV de_int (de_read (i := 11)))) (dza_cons (p1 := true) (p2 := true) (dz_own (p := true) de_int) dza_nil)))) da_nil)))
  (db_cons (ds_set (i := 14) (p := true) nd__law_tables_hold (de_op (p1 := true) (o1 := false) (p2 := true) (o2 := true) op_addV (de_read (i := 12)) (de_callT (p := true) (o := true) cr_tupleV m.z_tuple (da_cons (p1 := true) (o1 := true) (p2 := true) (o2 := true) (de_lc (p1 := true) (p2 := true) (p3 := true) rfl nd__law_tables_hold (di_tup (p := true) (dp_ofQ (p := true) (dq_read (i := 13)))) (blkOk_by (own := [("begin", 17), ("end", 18), ("width", 10)]) (by kernel_rfl)) (fun _ _ _ _ _ => (dg_tup rfl (dgs_cons (dg_name nd__law_tables_hold (i := 17)) (dgs_cons (dg_name nd__law_tables_hold (i := 18)) (dgs_cons (dg_name nd__law_tables_hold (i := 10)) dgs_nil))))) (fun _ _ _ _ _ => dts_nil) (fun _ _ _ _ _ => (de_imm (p := true) (o := false) (de_tup (p := true) (o := false) (da_cons (p1 := true) (o1 := true) (p2 := true) (o2 := false) (de_op (p1 := true) (o1 := false) (p2 := true) (o2 := false) op_addV (de_read (i := 17)) (de_read (i := 11))) (da_cons (p1 := true) (o1 := true) (p2 := true) (o2 := false) (de_op (p1 := true) (o1 := false) (p2 := true) (o2 := false) op_addV (de_read (i := 18)) (de_read (i := 11))) (da_cons (p1 := true) (o1 := false) (p2 := true) (o2 := true) (de_read (i := 10)) da_nil))))))) da_nil))))
  (db_cons (ds_set (i := 15) (p := true) nd__law_tables_hold (de_lst (p := true) (o := true) (da_cons (p1 := true) (o1 := true) (p2 := true) (o2 := true) (de_fn (p := true) (o := false) ((g_least_width m).more (by decide)) room gd m.m_least_width m.F_least_width.kp (bi_least_width m) pass0 (da_cons (p1 := true) (o1 := false) (p2 := true) (o2 := false) (de_read (i := 11)) (da_cons (p1 := true) (o1 := false) (p2 := true) (o2 := false) (de_read (i := 2)) (da_cons (p1 := true) (o1 := false) (p2 := true) (o2 := true) (de_read (i := 12)) da_nil)))) (da_cons (p1 := true) (o1 := true) (p2 := true) (o2 := true) (de_fn (p := true) (o := false) ((g_least_width m).more (by decide)) room gd m.m_least_width m.F_least_width.kp (bi_least_width m) pass0 (da_cons (p1 := true) (o1 := true) (p2 := true) (o2 := false) (de_op (p1 := true) (o1 := true) (p2 := true) (o2 := false) op_subV de_int (de_read (i := 11))) (da_cons (p1 := true) (o1 := false) (p2 := true) (o2 := false) (de_read (i := 2)) (da_cons (p1 := true) (o1 := false) (p2 := true) (o2 := true) (de_read (i := 13)) da_nil)))) da_nil))))
  (db_cons (ds_ret (p := true) (de_fn (p := true) (o := true) ((g__law_same m).more (by decide)) room gd m.m__law_same m.F__law_same.kp (bi__law_same m) pass0 (da_cons (p1 := true) (o1 := true) (p2 := true) (o2 := true) (de_fn (p := true) (o := false) ((g_least_width m).more (by decide)) room gd m.m_least_width m.F_least_width.kp (bi_least_width m) pass0 (da_cons (p1 := true) (o1 := true) (p2 := true) (o2 := false) de_int (da_cons (p1 := true) (o1 := false) (p2 := true) (o2 := false) (de_read (i := 2)) (da_cons (p1 := true) (o1 := false) (p2 := true) (o2 := true) (de_read (i := 14)) da_nil)))) (da_cons (p1 := true) (o1 := true) (p2 := true) (o2 := true) (de_tup (p := true) (o := true) (da_cons (p1 := true) (o1 := true) (p2 := true) (o2 := true) (de_op (p1 := true) (o1 := true) (p2 := true) (o2 := false) op_addV (de_op (p1 := true) (o1 := false) (p2 := true) (o2 := false) op_addV (de_ix (p1 := true) (o1 := false) (p2 := true) (o2 := true) (de_ix (p1 := true) (o1 := false) (p2 := true) (o2 := true) (de_read (i := 15)) de_int) de_int) (de_read (i := 2))) (de_ix (p1 := true) (o1 := false) (p2 := true) (o2 := true) (de_ix (p1 := true) (o1 := false) (p2 := true) (o2 := true) (de_read (i := 15)) de_int) de_int)) (da_cons (p1 := true) (o1 := true) (p2 := true) (o2 := true) (de_op (p1 := true) (o1 := false) (p2 := true) (o2 := false) op_addV (de_ix (p1 := true) (o1 := false) (p2 := true) (o2 := true) (de_ix (p1 := true) (o1 := false) (p2 := true) (o2 := true) (de_read (i := 15)) de_int) de_int) (de_ix (p1 := true) (o1 := false) (p2 := true) (o2 := true) (de_ix (p1 := true) (o1 := false) (p2 := true) (o2 := true) (de_read (i := 15)) de_int) de_int)) da_nil))) da_nil))))
  db_nil)))))))))))))))) (by decide)
/-! check_grid -/
theorem sc_check_grid : FnScope ["grid", "row", "cell", "part"] ["grid"] (defScope s9) := ⟨rfl, rfl, rfl, by decide +kernel, rfl, by decide +kernel, by decide +kernel⟩
theorem nd_check_grid : List.Nodup (["grid", "row", "cell", "part"] : List Str) := sc_check_grid.nd
theorem bi_check_grid (m : MF K mg) : Binds K m.fd_check_grid ["grid"] [] := m.F_check_grid.bindsN fun _ _ _ _ _ _ us hl => match us, hl with | [_], _ => rfl
def l0_check_grid : Sv := (sSeq (sIf (tOrE (tNotE (eTru (eIs PyData.isTuple (eRead 2)))) (tOrE (eT (eBin neD (eCall lenD (aCons (eRead 2) aNil)) (eC (.int 2)))) (tNotE (eTru (eCall allD (aCons (eLc [3] (.nm 3) (iTpl (eReadP 2)) tYesE (eFn 1 (D_is_integer) (aCons (eRead 3) aNil))) aNil))))))
  (sSeq sNo
  sNx)
  sNx)
  (sSeq (sIf (tOrE (tNotE (tChain (eC (.int 1)) (cLink leD (eIx (eRead 2) (eC (.int 0))) (cLast leD (eC (.int 8)))))) (tNotE (tChain (eC (.int 0)) (cLink leD (eIx (eRead 2) (eC (.int 1))) (cLast leD (eC (.int 100000)))))))
  (sSeq sNo
  sNx)
  sNx)
  sNx))
def l1_check_grid : Sv := (sSeq (sIf (tOrE (tNotE (eTru (eIs PyData.isTuple (eRead 1)))) (tNotE (eTru (eRead 1))))
  (sSeq sNo
  sNx)
  sNx)
  (sSeq (sFor [2] (.nm 2) (iTpl (eReadP 1))
  l0_check_grid)
  (sSeq (sIf (eT (eBin neD (eCall sumD (aCons (eLc [2] (.nm 2) (iTpl (eReadP 1)) tYesE (eImm (eIx (eRead 2) (eC (.int 0))))) aNil)) (eCall sumD (aCons (eLc [2] (.nm 2) (iTpl (eImm (eIx (eRead 0) (eC (.int 0))))) tYesE (eImm (eIx (eRead 2) (eC (.int 0))))) aNil))))
  (sSeq sNo
  sNx)
  sNx)
  sNx)))
def f_check_grid : Sv := (sSeq (sIf (tOrE (tNotE (eTru (eIs PyData.isTuple (eRead 0)))) (tNotE (tChain (eC (.int 1)) (cLink leD (eCall lenD (aCons (eRead 0) aNil)) (cLast leD (eC (.int 60)))))))
  (sSeq sNo
  sNx)
  sNx)
  (sSeq (sFor [1, 2] (.nm 1) (iTpl (eReadP 0))
  l1_check_grid)
  (sSeq (sIf (eT (eBin gtD (eCall sumD (aCons (eLc [2] (.nm 2) (iTpl (eImm (eIx (eRead 0) (eC (.int 0))))) tYesE (eImm (eIx (eRead 2) (eC (.int 0))))) aNil)) (eC (.int 8))))
  (sSeq sNo
  sNx)
  sNx)
  sNx)))
def D_check_grid : Den := denOf 3 none f_check_grid
theorem g_check_grid (m : MF K mg) : FnG P w K mg base CX0 2 m.a_check_grid m.fd_check_grid ["grid"] (spD K 1 none D_check_grid) := by
  refine fn_den (A' := [1, 2]) m.F_check_grid sc_check_grid (by intro k hk; first | (cases hk; done) | (cases hk; decide)) (by intro k hk; first | (cases hk; done) | (cases hk; decide)) fun cdv A out s H E room gd => ?_
  have hp : PassesOwn (model P w) (cxOf CX0 P w K mg base ["grid", "row", "cell", "part"] "check_grid" (defScope s9) m.a_check_grid cdv A out s H E).A _ _ := passes_of rfl
  have hu : (cxOf CX0 P w K mg base ["grid", "row", "cell", "part"] "check_grid" (defScope s9) m.a_check_grid cdv A out s H E).A.units + 64 < cLine := by have := room.un; show (A.deeper _).units + 64 < cLine; omega
  exact db_sub (db_cons (ds_if (p := true) (dt_w (dw_or (p1 := true) (p2 := true) (dt_not (p := true) (dt_truth (p := true) (o := true) (de_isV (p := true) (o := false) (cr_isV PySem.W.isinstance_tuple_data) m.z_isinstance m.z_tuple rfl (de_read (i := 0))))) (dw_or1 (p := true) (dt_not (p := true) (dt_chain (o := true) de_int (dct_link (o := true) (op_leV hu) (de_callB (p := true) (o := false) cr_lenV m.z_len (da_cons (p1 := true) (o1 := false) (p2 := true) (o2 := true) (de_read (i := 0)) da_nil)) (dct_last (o := true) (op_leV hu) (de_gint rfl (m.c_MAX_CELLS).choose_spec))))))))
  (db_cons ds_never
  db_nil)
  db_nil)
  (db_cons (ds_for (p := true) (ks := [1, 2]) hp rfl (di_tup (p := true) (dp_ofQ (p := true) (dq_read (i := 0)))) (dg_name nd_check_grid (i := 1))
  (db_cons (ds_if (p := true) (dt_w (dw_or (p1 := true) (p2 := true) (dt_not (p := true) (dt_truth (p := true) (o := true) (de_isV (p := true) (o := false) (cr_isV PySem.W.isinstance_tuple_data) m.z_isinstance m.z_tuple rfl (de_read (i := 1))))) (dw_or1 (p := true) (dt_not (p := true) (dt_truth (p := true) (o := false) (de_read (i := 1)))))))
  (db_cons ds_never
  db_nil)
  db_nil)
  (db_cons (ds_for (p := true) (ks := [2]) hp rfl (di_tup (p := true) (dp_ofQ (p := true) (dq_read (i := 1)))) (dg_name nd_check_grid (i := 2))
  (db_cons (ds_if (p := true) (dt_w (dw_or (p1 := true) (p2 := true) (dt_not (p := true) (dt_truth (p := true) (o := true) (de_isV (p := true) (o := false) (cr_isV PySem.W.isinstance_tuple_data) m.z_isinstance m.z_tuple rfl (de_read (i := 2))))) (dw_or (p1 := true) (p2 := true) (dt_cmp (p1 := true) (o1 := true) (p2 := true) (o2 := true) (op_neV hu) (de_callB (p := true) (o := false) cr_lenV m.z_len (da_cons (p1 := true) (o1 := false) (p2 := true) (o2 := true) (de_read (i := 2)) da_nil)) de_int) (dw_or1 (p := true) (dt_not (p := true) (dt_truth (p := true) (o := true) (de_callB (p := true) (o := true) (cr_allV rfl) m.z_all (da_cons (p1 := true) (o1 := true) (p2 := true) (o2 := true) (de_lc (p1 := true) (p2 := true) (p3 := true) rfl nd_check_grid (di_tup (p := true) (dp_ofQ (p := true) (dq_read (i := 2)))) (blkOk_by (own := [("part", 3)]) (by kernel_rfl)) (fun _ _ _ _ _ => (dg_name nd_check_grid (i := 3))) (fun _ _ _ _ _ => dts_nil) (fun _ _ _ _ _ => (de_fn (p := true) (o := false) ((g_is_integer m).more (by decide)) room gd m.m_is_integer m.F_is_integer.kp (bi_is_integer m) pass0 (da_cons (p1 := true) (o1 := false) (p2 := true) (o2 := true) (de_read (i := 3)) da_nil)))) da_nil))))))))
  (db_cons ds_never
  db_nil)
  db_nil)
  (db_cons (ds_if (p := true) (dt_w (dw_or (p1 := true) (p2 := true) (dt_not (p := true) (dt_chain (o := true) de_int (dct_link (o := false) (op_leV hu) (de_ix (p1 := true) (o1 := false) (p2 := true) (o2 := true) (de_read (i := 2)) de_int) (dct_last (o := true) (op_leV hu) (de_gint rfl (m.c_MAX_COLUMNS).choose_spec))))) (dw_or1 (p := true) (dt_not (p := true) (dt_chain (o := true) de_int (dct_link (o := false) (op_leV hu) (de_ix (p1 := true) (o1 := false) (p2 := true) (o2 := true) (de_read (i := 2)) de_int) (dct_last (o := true) (op_leV hu) (de_gint rfl (m.c_MAX_WIDTH).choose_spec))))))))
  (db_cons ds_never
  db_nil)
  db_nil)
  db_nil)))
  (db_cons (ds_if (p := true) (dt_cmp (p1 := true) (o1 := true) (p2 := true) (o2 := true) (op_neV hu) (de_callB (p := true) (o := true) (cr_sumV rfl) m.z_sum (da_cons (p1 := true) (o1 := true) (p2 := true) (o2 := true) (de_lc (p1 := true) (p2 := true) (p3 := true) rfl nd_check_grid (di_tup (p := true) (dp_ofQ (p := true) (dq_read (i := 1)))) (blkOk_by (own := [("cell", 2)]) (by kernel_rfl)) (fun _ _ _ _ _ => (dg_name nd_check_grid (i := 2))) (fun _ _ _ _ _ => dts_nil) (fun _ _ _ _ _ => (de_imm (p := true) (o := false) (de_ix (p1 := true) (o1 := false) (p2 := true) (o2 := true) (de_read (i := 2)) de_int)))) da_nil)) (de_callB (p := true) (o := true) (cr_sumV rfl) m.z_sum (da_cons (p1 := true) (o1 := true) (p2 := true) (o2 := true) (de_lc (p1 := true) (p2 := true) (p3 := true) rfl nd_check_grid (di_tup (p := true) (dp_own (p := true) (de_imm (p := true) (o := false) (de_ix (p1 := true) (o1 := false) (p2 := true) (o2 := true) (de_read (i := 0)) de_int)))) (blkOk_by (own := [("cell", 2)]) (by kernel_rfl)) (fun _ _ _ _ _ => (dg_name nd_check_grid (i := 2))) (fun _ _ _ _ _ => dts_nil) (fun _ _ _ _ _ => (de_imm (p := true) (o := false) (de_ix (p1 := true) (o1 := false) (p2 := true) (o2 := true) (de_read (i := 2)) de_int)))) da_nil)))
  (db_cons ds_never
  db_nil)
  db_nil)
  db_nil))))
  (db_cons (ds_if (p := true) (dt_cmp (p1 := true) (o1 := true) (p2 := true) (o2 := true) (op_gtV hu) (de_callB (p := true) (o := true) (cr_sumV rfl) m.z_sum (da_cons (p1 := true) (o1 := true) (p2 := true) (o2 := true) (de_lc (p1 := true) (p2 := true) (p3 := true) rfl nd_check_grid (di_tup (p := true) (dp_own (p := true) (de_imm (p := true) (o := false) (de_ix (p1 := true) (o1 := false) (p2 := true) (o2 := true) (de_read (i := 0)) de_int)))) (blkOk_by (own := [("cell", 2)]) (by kernel_rfl)) (fun _ _ _ _ _ => (dg_name nd_check_grid (i := 2))) (fun _ _ _ _ _ => dts_nil) (fun _ _ _ _ _ => (de_imm (p := true) (o := false) (de_ix (p1 := true) (o1 := false) (p2 := true) (o2 := true) (de_read (i := 2)) de_int)))) da_nil)) (de_gint rfl (m.c_MAX_COLUMNS).choose_spec))
  (db_cons ds_never
  db_nil)
  db_nil)
  db_nil))) (by decide)
/-! spans_of -/
theorem sc_spans_of : FnScope ["grid", "found", "row", "at", "spans", "columns", "height"] ["grid"] (defScope s10) := ⟨rfl, rfl, rfl, by decide +kernel, rfl, by decide +kernel, by decide +kernel⟩
theorem nd_spans_of : List.Nodup (["grid", "found", "row", "at", "spans", "columns", "height"] : List Str) := sc_spans_of.nd
theorem bi_spans_of (m : MF K mg) : Binds K m.fd_spans_of ["grid"] [] := m.F_spans_of.bindsN fun _ _ _ _ _ _ us hl => match us, hl with | [_], _ => rfl
def l0_spans_of : Sv := (sSeq (sExpr (eApp 4 (eImm (eTup (aCons (eRead 3) (aCons (eBin subD (eBin addD (eRead 3) (eRead 5)) (eC (.int 1))) aNil))))))
  (sSeq (sAug 3 augAdd (eRead 5))
  sNx))
def l1_spans_of : Sv := (sSeq (sSet 3 (eC (.int 0)))
  (sSeq (sSet 4 (eLst aNil))
  (sSeq (sFor [5, 6] (.tp ((.nm 5) :: ((.nm 6) :: []))) (iTpl (eReadP 2))
  l0_spans_of)
  (sSeq (sExpr (eApp 1 (eCall tupleD (aCons (eRead 4) aNil))))
  sNx))))
def f_spans_of : Sv := (sSeq (sExpr (eFn 1 (D_check_grid) (aCons (eRead 0) aNil)))
  (sSeq (sSet 1 (eLst aNil))
  (sSeq (sFor [2, 3, 4, 5, 6] (.nm 2) (iTpl (eReadP 0))
  l1_spans_of)
  (sSeq (sRet (eCall tupleD (aCons (eRead 1) aNil)))
  sNx))))
def D_spans_of : Den := denOf 6 none f_spans_of
theorem g_spans_of (m : MF K mg) : FnG P w K mg base CX0 3 m.a_spans_of m.fd_spans_of ["grid"] (spD K 1 none D_spans_of) := by
  refine fn_den (A' := [1, 2, 3, 4, 5, 6]) m.F_spans_of sc_spans_of (by intro k hk; first | (cases hk; done) | (cases hk; decide)) (by intro k hk; first | (cases hk; done) | (cases hk; decide)) fun cdv A out s H E room gd => ?_
  have hp : PassesOwn (model P w) (cxOf CX0 P w K mg base ["grid", "found", "row", "at", "spans", "columns", "height"] "spans_of" (defScope s10) m.a_spans_of cdv A out s H E).A _ _ := passes_of rfl
  have hu : (cxOf CX0 P w K mg base ["grid", "found", "row", "at", "spans", "columns", "height"] "spans_of" (defScope s10) m.a_spans_of cdv A out s H E).A.units + 64 < cLine := by have := room.un; show (A.deeper _).units + 64 < cLine; omega
  exact db_sub (db_cons (ds_expr (p := true) (o := true) (de_fn (p := true) (o := false) ((g_check_grid m).more (by decide)) room gd m.m_check_grid m.F_check_grid.kp (bi_check_grid m) pass0 (da_cons (p1 := true) (o1 := false) (p2 := true) (o2 := true) (de_read (i := 0)) da_nil)))
  (db_cons (ds_set (i := 1) (p := true) nd_spans_of (de_lst (p := true) (o := true) da_nil))
  (db_cons (ds_for (p := true) (ks := [2, 3, 4, 5, 6]) hp rfl (di_tup (p := true) (dp_ofQ (p := true) (dq_read (i := 0)))) (dg_name nd_spans_of (i := 2))
  (db_cons (ds_set (i := 3) (p := true) nd_spans_of de_int)
  (db_cons (ds_set (i := 4) (p := true) nd_spans_of (de_lst (p := true) (o := true) da_nil))
  (db_cons (ds_for (p := true) (ks := [5, 6]) hp rfl (di_tup (p := true) (dp_ofQ (p := true) (dq_read (i := 2)))) (dg_tup rfl (dgs_cons (dg_name nd_spans_of (i := 5)) (dgs_cons (dg_name nd_spans_of (i := 6)) dgs_nil)))
  (db_cons (ds_expr (p := false) (o := true) (de_app (p := true) (i := 4) (de_imm (p := true) (o := false) (de_tup (p := true) (o := false) (da_cons (p1 := true) (o1 := false) (p2 := true) (o2 := true) (de_read (i := 3)) (da_cons (p1 := true) (o1 := true) (p2 := true) (o2 := true) (de_op (p1 := true) (o1 := true) (p2 := true) (o2 := true) op_subV (de_op (p1 := true) (o1 := false) (p2 := true) (o2 := false) op_addV (de_read (i := 3)) (de_read (i := 5))) de_int) da_nil))))))
  (db_cons (ds_aug (i := 3) (o := false) nd_spans_of ip_addV (de_read (i := 5)))
  db_nil)))
  (db_cons (ds_expr (p := false) (o := true) (de_app (p := true) (i := 1) (de_callT (p := true) (o := false) cr_tupleV m.z_tuple (da_cons (p1 := true) (o1 := false) (p2 := true) (o2 := true) (de_read (i := 4)) da_nil))))
  db_nil)))))
  (db_cons (ds_ret (p := true) (de_callT (p := true) (o := false) cr_tupleV m.z_tuple (da_cons (p1 := true) (o1 := false) (p2 := true) (o2 := true) (de_read (i := 1)) da_nil)))
  db_nil)))) (by decide)
/-! heights_of -/
theorem sc_heights_of : FnScope ["grid", "row", "height", "columns"] ["grid"] (defScope s11) := ⟨rfl, rfl, rfl, by decide +kernel, rfl, by decide +kernel, by decide +kernel⟩
theorem nd_heights_of : List.Nodup (["grid", "row", "height", "columns"] : List Str) := sc_heights_of.nd
theorem bi_heights_of (m : MF K mg) : Binds K m.fd_heights_of ["grid"] [] := m.F_heights_of.bindsN fun _ _ _ _ _ _ us hl => match us, hl with | [_], _ => rfl
def f_heights_of : Sv := (sSeq (sExpr (eFn 1 (D_check_grid) (aCons (eRead 0) aNil)))
  (sSeq (sRet (eCall tupleD (aCons (eLc [1] (.nm 1) (iTpl (eReadP 0)) tYesE (eCall maxD1 (aCons (eLc [3, 2] (.tp ((.nm 3) :: ((.nm 2) :: []))) (iTpl (eReadP 1)) tYesE (eImm (eRead 2))) aNil))) aNil)))
  sNx))
def D_heights_of : Den := denOf 3 none f_heights_of
theorem g_heights_of (m : MF K mg) : FnG P w K mg base CX0 3 m.a_heights_of m.fd_heights_of ["grid"] (spD K 1 none D_heights_of) := by
  refine fn_den (A' := []) m.F_heights_of sc_heights_of (by intro k hk; first | (cases hk; done) | (cases hk; decide)) (by intro k hk; first | (cases hk; done) | (cases hk; decide)) fun cdv A out s H E room gd => ?_
  have hp : PassesOwn (model P w) (cxOf CX0 P w K mg base ["grid", "row", "height", "columns"] "heights_of" (defScope s11) m.a_heights_of cdv A out s H E).A _ _ := passes_of rfl
  have hu : (cxOf CX0 P w K mg base ["grid", "row", "height", "columns"] "heights_of" (defScope s11) m.a_heights_of cdv A out s H E).A.units + 64 < cLine := by have := room.un; show (A.deeper _).units + 64 < cLine; omega
  exact db_sub (db_cons (ds_expr (p := true) (o := true) (de_fn (p := true) (o := false) ((g_check_grid m).more (by decide)) room gd m.m_check_grid m.F_check_grid.kp (bi_check_grid m) pass0 (da_cons (p1 := true) (o1 := false) (p2 := true) (o2 := true) (de_read (i := 0)) da_nil)))
  (db_cons (ds_ret (p := true) (de_callT (p := true) (o := true) cr_tupleV m.z_tuple (da_cons (p1 := true) (o1 := true) (p2 := true) (o2 := true) (de_lc (p1 := true) (p2 := true) (p3 := true) rfl nd_heights_of (di_tup (p := true) (dp_ofQ (p := true) (dq_read (i := 0)))) (blkOk_by (own := [("row", 1)]) (by kernel_rfl)) (fun _ _ _ _ _ => (dg_name nd_heights_of (i := 1))) (fun _ _ _ _ _ => dts_nil) (fun _ _ _ _ _ => (de_callB (p := true) (o := true) (cr_maxV rfl hu) m.z_max (da_cons (p1 := true) (o1 := true) (p2 := true) (o2 := true) (de_lc (p1 := true) (p2 := true) (p3 := true) rfl nd_heights_of (di_tup (p := true) (dp_ofQ (p := true) (dq_read (i := 1)))) (blkOk_by (own := [("columns", 3), ("height", 2)]) (by kernel_rfl)) (fun _ _ _ _ _ => (dg_tup rfl (dgs_cons (dg_name nd_heights_of (i := 3)) (dgs_cons (dg_name nd_heights_of (i := 2)) dgs_nil)))) (fun _ _ _ _ _ => dts_nil) (fun _ _ _ _ _ => (de_imm (p := true) (o := false) (de_read (i := 2))))) da_nil)))) da_nil)))
  db_nil)) (by decide)
/-! laid -/
theorem sc_laid : FnScope ["grid", "widths", "gap", "many", "found", "y", "spans", "height", "first", "last", "x", "cell", "own"] ["grid", "widths", "gap"] (defScope s12) := ⟨rfl, rfl, rfl, by decide +kernel, rfl, by decide +kernel, by decide +kernel⟩
theorem nd_laid : List.Nodup (["grid", "widths", "gap", "many", "found", "y", "spans", "height", "first", "last", "x", "cell", "own"] : List Str) := sc_laid.nd
theorem bi_laid (m : MF K mg) : Binds K m.fd_laid ["grid", "widths", "gap"] [] := m.F_laid.bindsN fun _ _ _ _ _ _ us hl => match us, hl with | [_, _, _], _ => rfl
def l0_laid : Sv := (sSeq (sSet 10 (eBin addD (eCall sumD (aCons (eSl (eRead 1) oNone (oSome (eRead 8))) aNil)) (eBin mulD (eRead 2) (eRead 8))))
  (sSeq (sExpr (eApp 4 (eImm (eTup (aCons (eRead 10) (aCons (eRead 5) (aCons (eBin addD (eCall sumD (aCons (eSl (eRead 1) (oSome (eRead 8)) (oSome (eBin addD (eRead 9) (eC (.int 1))))) aNil)) (eBin mulD (eRead 2) (eBin subD (eRead 9) (eRead 8)))) (aCons (eRead 7) aNil))))))))
  sNx))
def l1_laid : Sv := (sSeq (sFor [8, 9, 10] (.tp ((.nm 8) :: ((.nm 9) :: []))) (iTpl (eReadP 6))
  l0_laid)
  (sSeq (sAug 5 augAdd (eBin addD (eRead 7) (eRead 2)))
  sNx))
def f_laid : Sv := (sSeq (sExpr (eFn 1 (D_check_grid) (aCons (eRead 0) aNil)))
  (sSeq (sSet 3 (eCall sumD (aCons (eLc [11] (.nm 11) (iTpl (eImm (eIx (eRead 0) (eC (.int 0))))) tYesE (eImm (eIx (eRead 11) (eC (.int 0))))) aNil)))
  (sSeq (sIf (tOrE (tNotE (eTru (eIs PyData.isTuple (eRead 1)))) (tOrE (eT (eBin neD (eCall lenD (aCons (eRead 1) aNil)) (eRead 3))) (tNotE (eTru (eCall allD (aCons (eLc [12] (.nm 12) (iTpl (eReadP 1)) tYesE (eFn 1 (D_is_integer) (aCons (eRead 12) aNil))) aNil))))))
  (sSeq sNo
  sNx)
  sNx)
  (sSeq (sIf (tNotE (eTru (eCall allD (aCons (eLc [12] (.nm 12) (iTpl (eReadP 1)) tYesE (eChain (eC (.int 0)) (cLink leD (eRead 12) (cLast leD (eC (.int 100000)))))) aNil))))
  (sSeq sNo
  sNx)
  sNx)
  (sSeq (sIf (tOrE (tNotE (eTru (eFn 1 (D_is_integer) (aCons (eRead 2) aNil)))) (tNotE (tChain (eC (.int 0)) (cLink leD (eRead 2) (cLast leD (eC (.int 100000)))))))
  (sSeq sNo
  sNx)
  sNx)
  (sSeq (sSet 4 (eLst aNil))
  (sSeq (sSet 5 (eC (.int 0)))
  (sSeq (sFor [6, 7, 8, 9, 10] (.tp ((.nm 6) :: ((.nm 7) :: []))) (iFn zipD (aCons (eFn 1 (D_spans_of) (aCons (eRead 0) aNil)) (aCons (eFn 1 (D_heights_of) (aCons (eRead 0) aNil)) aNil)))
  l1_laid)
  (sSeq (sRet (eCall tupleD (aCons (eRead 4) aNil)))
  sNx)))))))))
def D_laid : Den := denOf 10 none f_laid
theorem g_laid (m : MF K mg) : FnG P w K mg base CX0 4 m.a_laid m.fd_laid ["grid", "widths", "gap"] (spD K 3 none D_laid) := by
  refine fn_den (A' := [3, 4, 5, 6, 7, 8, 9, 10]) m.F_laid sc_laid (by intro k hk; first | (cases hk; done) | (cases hk; decide)) (by intro k hk; first | (cases hk; done) | (cases hk; decide)) fun cdv A out s H E room gd => ?_
  have hp : PassesOwn (model P w) (cxOf CX0 P w K mg base ["grid", "widths", "gap", "many", "found", "y", "spans", "height", "first", "last", "x", "cell", "own"] "laid" (defScope s12) m.a_laid cdv A out s H E).A _ _ := passes_of rfl
  have hu : (cxOf CX0 P w K mg base ["grid", "widths", "gap", "many", "found", "y", "spans", "height", "first", "last", "x", "cell", "own"] "laid" (defScope s12) m.a_laid cdv A out s H E).A.units + 64 < cLine := by have := room.un; show (A.deeper _).units + 64 < cLine; omega
  exact db_sub (db_cons (ds_expr (p := true) (o := true) (de_fn (p := true) (o := false) ((g_check_grid m).more (by decide)) room gd m.m_check_grid m.F_check_grid.kp (bi_check_grid m) pass0 (da_cons (p1 := true) (o1 := false) (p2 := true) (o2 := true) (de_read (i := 0)) da_nil)))
  (db_cons (ds_set (i := 3) (p := true) nd_laid (de_callB (p := true) (o := true) (cr_sumV rfl) m.z_sum (da_cons (p1 := true) (o1 := true) (p2 := true) (o2 := true) (de_lc (p1 := true) (p2 := true) (p3 := true) rfl nd_laid (di_tup (p := true) (dp_own (p := true) (de_imm (p := true) (o := false) (de_ix (p1 := true) (o1 := false) (p2 := true) (o2 := true) (de_read (i := 0)) de_int)))) (blkOk_by (own := [("cell", 11)]) (by kernel_rfl)) (fun _ _ _ _ _ => (dg_name nd_laid (i := 11))) (fun _ _ _ _ _ => dts_nil) (fun _ _ _ _ _ => (de_imm (p := true) (o := false) (de_ix (p1 := true) (o1 := false) (p2 := true) (o2 := true) (de_read (i := 11)) de_int)))) da_nil)))
  (db_cons (ds_if (p := true) (dt_w (dw_or (p1 := true) (p2 := true) (dt_not (p := true) (dt_truth (p := true) (o := true) (de_isV (p := true) (o := false) (cr_isV PySem.W.isinstance_tuple_data) m.z_isinstance m.z_tuple rfl (de_read (i := 1))))) (dw_or (p1 := true) (p2 := true) (dt_cmp (p1 := true) (o1 := true) (p2 := true) (o2 := false) (op_neV hu) (de_callB (p := true) (o := false) cr_lenV m.z_len (da_cons (p1 := true) (o1 := false) (p2 := true) (o2 := true) (de_read (i := 1)) da_nil)) (de_read (i := 3))) (dw_or1 (p := true) (dt_not (p := true) (dt_truth (p := true) (o := true) (de_callB (p := true) (o := true) (cr_allV rfl) m.z_all (da_cons (p1 := true) (o1 := true) (p2 := true) (o2 := true) (de_lc (p1 := true) (p2 := true) (p3 := true) rfl nd_laid (di_tup (p := true) (dp_ofQ (p := true) (dq_read (i := 1)))) (blkOk_by (own := [("own", 12)]) (by kernel_rfl)) (fun _ _ _ _ _ => (dg_name nd_laid (i := 12))) (fun _ _ _ _ _ => dts_nil) (fun _ _ _ _ _ => (de_fn (p := true) (o := false) ((g_is_integer m).more (by decide)) room gd m.m_is_integer m.F_is_integer.kp (bi_is_integer m) pass0 (da_cons (p1 := true) (o1 := false) (p2 := true) (o2 := true) (de_read (i := 12)) da_nil)))) da_nil))))))))
  (db_cons ds_never
  db_nil)
  db_nil)
  (db_cons (ds_if (p := true) (dt_not (p := true) (dt_truth (p := true) (o := true) (de_callB (p := true) (o := true) (cr_allV rfl) m.z_all (da_cons (p1 := true) (o1 := true) (p2 := true) (o2 := true) (de_lc (p1 := true) (p2 := true) (p3 := true) rfl nd_laid (di_tup (p := true) (dp_ofQ (p := true) (dq_read (i := 1)))) (blkOk_by (own := [("own", 12)]) (by kernel_rfl)) (fun _ _ _ _ _ => (dg_name nd_laid (i := 12))) (fun _ _ _ _ _ => dts_nil) (fun _ _ _ _ _ => (de_chain (o := true) de_int (dcv_link (o := false) (op_leV hu) (de_read (i := 12)) (dcv_last (o := true) (op_leV hu) (de_gint rfl (m.c_MAX_WIDTH).choose_spec)))))) da_nil))))
  (db_cons ds_never
  db_nil)
  db_nil)
  (db_cons (ds_if (p := true) (dt_w (dw_or (p1 := true) (p2 := true) (dt_not (p := true) (dt_truth (p := true) (o := true) (de_fn (p := true) (o := false) ((g_is_integer m).more (by decide)) room gd m.m_is_integer m.F_is_integer.kp (bi_is_integer m) pass0 (da_cons (p1 := true) (o1 := false) (p2 := true) (o2 := true) (de_read (i := 2)) da_nil)))) (dw_or1 (p := true) (dt_not (p := true) (dt_chain (o := true) de_int (dct_link (o := false) (op_leV hu) (de_read (i := 2)) (dct_last (o := true) (op_leV hu) (de_gint rfl (m.c_MAX_WIDTH).choose_spec))))))))
  (db_cons ds_never
  db_nil)
  db_nil)
  (db_cons (ds_set (i := 4) (p := true) nd_laid (de_lst (p := true) (o := true) da_nil))
  (db_cons (ds_set (i := 5) (p := true) nd_laid de_int)
  (db_cons (ds_for (p := true) (ks := [6, 7, 8, 9, 10]) hp rfl (di_zip (p := true) m.z_zip (dpa_cons (p1 := true) (p2 := true) (dp_own (p := true) (de_fn (p := true) (o := false) ((g_spans_of m).more (by decide)) room gd m.m_spans_of m.F_spans_of.kp (bi_spans_of m) pass0 (da_cons (p1 := true) (o1 := false) (p2 := true) (o2 := true) (de_read (i := 0)) da_nil))) (dpa_cons (p1 := true) (p2 := true) (dp_own (p := true) (de_fn (p := true) (o := false) ((g_heights_of m).more (by decide)) room gd m.m_heights_of m.F_heights_of.kp (bi_heights_of m) pass0 (da_cons (p1 := true) (o1 := false) (p2 := true) (o2 := true) (de_read (i := 0)) da_nil))) dpa_nil))) (dg_tup rfl (dgs_cons (dg_name nd_laid (i := 6)) (dgs_cons (dg_name nd_laid (i := 7)) dgs_nil)))
  (db_cons (ds_for (p := true) (ks := [8, 9, 10]) hp rfl (di_tup (p := true) (dp_ofQ (p := true) (dq_read (i := 6)))) (dg_tup rfl (dgs_cons (dg_name nd_laid (i := 8)) (dgs_cons (dg_name nd_laid (i := 9)) dgs_nil)))
  (db_cons (ds_set (i := 10) (p := true) nd_laid (de_op (p1 := true) (o1 := true) (p2 := true) (o2 := true) op_addV (de_callB (p := true) (o := true) (cr_sumV rfl) m.z_sum (da_cons (p1 := true) (o1 := true) (p2 := true) (o2 := true) (de_slice (p := true) (o := false) (de_read (i := 1)) do_none (do_some (o := false) (de_read (i := 8)))) da_nil)) (de_op (p1 := true) (o1 := false) (p2 := true) (o2 := false) op_mulV (de_read (i := 2)) (de_read (i := 8)))))
  (db_cons (ds_expr (p := false) (o := true) (de_app (p := true) (i := 4) (de_imm (p := true) (o := false) (de_tup (p := true) (o := false) (da_cons (p1 := true) (o1 := false) (p2 := true) (o2 := false) (de_read (i := 10)) (da_cons (p1 := true) (o1 := false) (p2 := true) (o2 := false) (de_read (i := 5)) (da_cons (p1 := true) (o1 := true) (p2 := true) (o2 := false) (de_op (p1 := true) (o1 := true) (p2 := true) (o2 := true) op_addV (de_callB (p := true) (o := true) (cr_sumV rfl) m.z_sum (da_cons (p1 := true) (o1 := true) (p2 := true) (o2 := true) (de_slice (p := true) (o := false) (de_read (i := 1)) (do_some (o := false) (de_read (i := 8))) (do_some (o := true) (de_op (p1 := true) (o1 := false) (p2 := true) (o2 := true) op_addV (de_read (i := 9)) de_int))) da_nil)) (de_op (p1 := true) (o1 := false) (p2 := true) (o2 := true) op_mulV (de_read (i := 2)) (de_op (p1 := true) (o1 := false) (p2 := true) (o2 := false) op_subV (de_read (i := 9)) (de_read (i := 8))))) (da_cons (p1 := true) (o1 := false) (p2 := true) (o2 := true) (de_read (i := 7)) da_nil))))))))
  db_nil)))
  (db_cons (ds_aug (i := 5) (o := true) nd_laid ip_addV (de_op (p1 := true) (o1 := false) (p2 := true) (o2 := false) op_addV (de_read (i := 7)) (de_read (i := 2))))
  db_nil)))
  (db_cons (ds_ret (p := true) (de_callT (p := true) (o := false) cr_tupleV m.z_tuple (da_cons (p1 := true) (o1 := false) (p2 := true) (o2 := true) (de_read (i := 4)) da_nil)))
  db_nil))))))))) (by decide)
/-! _law_grids_hold -/
theorem sc__law_grids_hold : FnScope ["state", "columns", "rows", "gap", "k", "row", "left", "wide", "grid", "widths", "spans", "heights", "due", "y", "first", "own", "height", "cell"] ["state"] (defScope s23) := ⟨rfl, rfl, rfl, by decide +kernel, rfl, by decide +kernel, by decide +kernel⟩
theorem nd__law_grids_hold : List.Nodup (["state", "columns", "rows", "gap", "k", "row", "left", "wide", "grid", "widths", "spans", "heights", "due", "y", "first", "own", "height", "cell"] : List Str) := sc__law_grids_hold.nd
theorem bi__law_grids_hold (m : MF K mg) : Binds K m.fd__law_grids_hold ["state"] [] := m.F__law_grids_hold.bindsN fun _ _ _ _ _ _ us hl => match us, hl with | [_], _ => rfl
def l0__law_grids_hold : Sv := (sSeq (sExpr (eApp 15 (eImm (eTup (aCons (eRead 14) (aCons (eBin subD (eBin addD (eRead 14) (eRead 7)) (eC (.int 1))) aNil))))))
  (sSeq (sExpr (eApp 12 (eImm (eTup (aCons (eBin addD (eCall sumD (aCons (eSl (eRead 9) oNone (oSome (eRead 14))) aNil)) (eBin mulD (eRead 3) (eRead 14))) (aCons (eRead 13) (aCons (eBin addD (eCall sumD (aCons (eSl (eRead 9) (oSome (eRead 14)) (oSome (eBin addD (eRead 14) (eRead 7)))) aNil)) (eBin mulD (eRead 3) (eBin subD (eRead 7) (eC (.int 1))))) (aCons (eCall maxD1 (aCons (eLc [17] (.nm 17) (iTpl (eReadP 5)) tYesE (eImm (eIx (eRead 17) (eC (.int 1))))) aNil)) aNil))))))))
  (sSeq (sSet 14 (eBin addD (eRead 14) (eRead 7)))
  sNx)))
def l1__law_grids_hold : Sv := (sSeq (sPar2 14 15 (aCons (eC (.int 0)) (aCons (eLst aNil) aNil)))
  (sSeq (sFor [7, 16] (.tp ((.nm 7) :: ((.nm 16) :: []))) (iTpl (eReadP 5))
  l0__law_grids_hold)
  (sSeq (sExpr (eApp 10 (eCall tupleD (aCons (eRead 15) aNil))))
  (sSeq (sSet 13 (eBin addD (eBin addD (eRead 13) (eCall maxD1 (aCons (eLc [17] (.nm 17) (iTpl (eReadP 5)) tYesE (eImm (eIx (eRead 17) (eC (.int 1))))) aNil))) (eRead 3)))
  sNx))))
def l2__law_grids_hold : Sv := (sSeq (sSet 7 (eBin addD (eC (.int 1)) (eFnIO 2 0 (D__law_draw) (zHere 0 (aCons (eReadP 6) aNil)))))
  (sSeq (sExpr (eApp 5 (eTup (aCons (eImm (eRead 7)) (aCons (eFnIO 2 0 (D__law_draw) (zHere 0 (aCons (eC (.int 50)) aNil))) aNil)))))
  (sSeq (sSet 6 (eBin subD (eRead 6) (eRead 7)))
  sNx)))
def l3__law_grids_hold : Sv := (sSeq (sPar2 5 6 (aCons (eLst aNil) (aCons (eImm (eRead 1)) aNil)))
  (sSeq (sWhile [7] (eT (eBin gtD (eRead 6) (eC (.int 0))))
  l2__law_grids_hold)
  (sSeq (sExpr (eApp 2 (eCall tupleD (aCons (eRead 5) aNil))))
  sNx)))
def f__law_grids_hold : Sv := (sSeq (sPar3 1 2 3 (aCons (eBin addD (eC (.int 1)) (eFnIO 2 0 (D__law_draw) (zHere 0 (aCons (eC (.int 8)) aNil)))) (aCons (eLst aNil) (aCons (eFnIO 2 0 (D__law_draw) (zHere 0 (aCons (eC (.int 9)) aNil))) aNil))))
  (sSeq (sFor [4, 5, 6, 7] (.nm 4) (iFn rng1D (aCons (eBin addD (eC (.int 1)) (eFnIO 2 0 (D__law_draw) (zHere 0 (aCons (eFnIO 2 0 (D__law_pick) (zHere 0 (aCons (eLst (aCons (eC (.int 4)) (aCons (eC (.int 60)) aNil))) aNil))) aNil)))) aNil))
  l3__law_grids_hold)
  (sSeq (sPar2 8 9 (aCons (eCall tupleD (aCons (eRead 2) aNil)) (aCons (eCall tupleD (aCons (eLc [4] (.nm 4) (iFn rng1D (aCons (eRead 1) aNil)) tYesE (eFnIO 2 0 (D__law_draw) (zHere 0 (aCons (eC (.int 90)) aNil)))) aNil)) aNil)))
  (sSeq (sAsg (.tp ((.nm 10) :: ((.nm 11) :: ((.nm 12) :: ((.nm 13) :: []))))) (eTup (aCons (eLst aNil) (aCons (eCall tupleD (aCons (eLc [5] (.nm 5) (iTpl (eReadP 8)) tYesE (eCall maxD1 (aCons (eLc [17] (.nm 17) (iTpl (eReadP 5)) tYesE (eImm (eIx (eRead 17) (eC (.int 1))))) aNil))) aNil)) (aCons (eLst aNil) (aCons (eC (.int 0)) aNil))))))
  (sSeq (sFor [5, 7, 14, 15, 16] (.nm 5) (iTpl (eReadP 8))
  l1__law_grids_hold)
  (sSeq (sRet (eFn 2 (D__law_same) (aCons (eLst (aCons (eFn 1 (D_spans_of) (aCons (eRead 8) aNil)) (aCons (eFn 1 (D_heights_of) (aCons (eRead 8) aNil)) (aCons (eFn 3 (D_laid) (aCons (eRead 8) (aCons (eRead 9) (aCons (eRead 3) aNil)))) aNil)))) (aCons (eLst (aCons (eCall tupleD (aCons (eRead 10) aNil)) (aCons (eImm (eRead 11)) (aCons (eCall tupleD (aCons (eRead 12) aNil)) aNil)))) aNil))))
  sNx))))))
def D__law_grids_hold : Den := denOf 17 (some 0) f__law_grids_hold
theorem g__law_grids_hold (m : MF K mg) : FnG P w K mg base CX0 5 m.a__law_grids_hold m.fd__law_grids_hold ["state"] (spD K 1 (some 0) D__law_grids_hold) := by
  refine fn_den (A' := [1, 2, 3, 4, 5, 6, 7, 8, 9, 10, 11, 12, 13, 14, 15, 16]) m.F__law_grids_hold sc__law_grids_hold (by intro k hk; first | (cases hk; done) | (cases hk; decide)) (by intro k hk; first | (cases hk; done) | (cases hk; decide)) fun cdv A out s H E room gd => ?_
  have hp : PassesOwn (model P w) (cxOf CX0 P w K mg base ["state", "columns", "rows", "gap", "k", "row", "left", "wide", "grid", "widths", "spans", "heights", "due", "y", "first", "own", "height", "cell"] "_law_grids_hold" (defScope s23) m.a__law_grids_hold cdv A out s H E).A _ _ := passes_of rfl
  have hu : (cxOf CX0 P w K mg base ["state", "columns", "rows", "gap", "k", "row", "left", "wide", "grid", "widths", "spans", "heights", "due", "y", "first", "own", "height", "cell"] "_law_grids_hold" (defScope s23) m.a__law_grids_hold cdv A out s H E).A.units + 64 < cLine := by have := room.un; show (A.deeper _).units + 64 < cLine; omega
  exact db_sub (db_cons (ds_par3 (i := 1) (j := 2) (l := 3) (p := false) rfl nd__law_grids_hold (da_cons (p1 := false) (o1 := true) (p2 := false) (o2 := true) (de_op (p1 := true) (o1 := true) (p2 := false) (o2 := true) op_addV de_int (de_fnIO (p := true) ((g__law_draw m).more (by decide)) room gd m.m__law_draw m.F__law_draw.kp (bi__law_draw m) pass0 (dio_here (p := true) (i := 0) (dza_cons (p1 := true) (p2 := true) (dz_own (p := true) de_int) dza_nil)))) (da_cons (p1 := true) (o1 := true) (p2 := false) (o2 := true) (de_lst (p := true) (o := true) da_nil) (da_cons (p1 := false) (o1 := true) (p2 := true) (o2 := true) (de_fnIO (p := true) ((g__law_draw m).more (by decide)) room gd m.m__law_draw m.F__law_draw.kp (bi__law_draw m) pass0 (dio_here (p := true) (i := 0) (dza_cons (p1 := true) (p2 := true) (dz_own (p := true) de_int) dza_nil))) da_nil))))
  (db_cons (ds_for (p := false) (ks := [4, 5, 6, 7]) hp rfl (di_range1 (p := false) (o := true) m.z_range (da_cons (p1 := false) (o1 := true) (p2 := true) (o2 := true) (de_op (p1 := true) (o1 := true) (p2 := false) (o2 := true) op_addV de_int (de_fnIO (p := false) ((g__law_draw m).more (by decide)) room gd m.m__law_draw m.F__law_draw.kp (bi__law_draw m) pass0 (dio_here (p := false) (i := 0) (dza_cons (p1 := false) (p2 := true) (dz_own (p := false) (de_fnIO (p := true) ((g__law_pick m).more (by decide)) room gd m.m__law_pick m.F__law_pick.kp (bi__law_pick m) pass0 (dio_here (p := true) (i := 0) (dza_cons (p1 := true) (p2 := true) (dz_own (p := true) (de_lst (p := true) (o := true) (da_cons (p1 := true) (o1 := true) (p2 := true) (o2 := true) de_int (da_cons (p1 := true) (o1 := true) (p2 := true) (o2 := true) de_int da_nil)))) dza_nil)))) dza_nil)))) da_nil)) (dg_name nd__law_grids_hold (i := 4))
  (db_cons (ds_par2 (i := 5) (j := 6) (p := true) rfl nd__law_grids_hold (da_cons (p1 := true) (o1 := true) (p2 := true) (o2 := true) (de_lst (p := true) (o := true) da_nil) (da_cons (p1 := true) (o1 := true) (p2 := true) (o2 := true) (de_imm (p := true) (o := false) (de_read (i := 1))) da_nil)))
  (db_cons (ds_while (p := true) (ks := [7]) hp (dt_cmp (p1 := true) (o1 := false) (p2 := true) (o2 := true) (op_gtV hu) (de_read (i := 6)) de_int)
  (db_cons (ds_set (i := 7) (p := false) nd__law_grids_hold (de_op (p1 := true) (o1 := true) (p2 := false) (o2 := true) op_addV de_int (de_fnIO (p := true) ((g__law_draw m).more (by decide)) room gd m.m__law_draw m.F__law_draw.kp (bi__law_draw m) pass0 (dio_here (p := true) (i := 0) (dza_cons (p1 := true) (p2 := true) (dz_q (p := true) (dq_read (i := 6))) dza_nil)))))
  (db_cons (ds_expr (p := false) (o := true) (de_app (p := false) (i := 5) (de_tup (p := false) (o := true) (da_cons (p1 := true) (o1 := true) (p2 := false) (o2 := true) (de_imm (p := true) (o := false) (de_read (i := 7))) (da_cons (p1 := false) (o1 := true) (p2 := true) (o2 := true) (de_fnIO (p := true) ((g__law_draw m).more (by decide)) room gd m.m__law_draw m.F__law_draw.kp (bi__law_draw m) pass0 (dio_here (p := true) (i := 0) (dza_cons (p1 := true) (p2 := true) (dz_own (p := true) de_int) dza_nil))) da_nil)))))
  (db_cons (ds_set (i := 6) (p := true) nd__law_grids_hold (de_op (p1 := true) (o1 := false) (p2 := true) (o2 := false) op_subV (de_read (i := 6)) (de_read (i := 7))))
  db_nil))))
  (db_cons (ds_expr (p := false) (o := true) (de_app (p := true) (i := 2) (de_callT (p := true) (o := false) cr_tupleV m.z_tuple (da_cons (p1 := true) (o1 := false) (p2 := true) (o2 := true) (de_read (i := 5)) da_nil))))
  db_nil))))
  (db_cons (ds_par2 (i := 8) (j := 9) (p := false) rfl nd__law_grids_hold (da_cons (p1 := true) (o1 := true) (p2 := false) (o2 := true) (de_callT (p := true) (o := false) cr_tupleV m.z_tuple (da_cons (p1 := true) (o1 := false) (p2 := true) (o2 := true) (de_read (i := 2)) da_nil)) (da_cons (p1 := false) (o1 := true) (p2 := true) (o2 := true) (de_callT (p := false) (o := true) cr_tupleV m.z_tuple (da_cons (p1 := false) (o1 := true) (p2 := true) (o2 := true) (de_lc (p1 := true) (p2 := true) (p3 := false) rfl nd__law_grids_hold (di_range1 (p := true) (o := false) m.z_range (da_cons (p1 := true) (o1 := false) (p2 := true) (o2 := true) (de_read (i := 1)) da_nil)) (blkOk_by (own := [("k", 4)]) (by kernel_rfl)) (fun _ _ _ _ _ => (dg_name nd__law_grids_hold (i := 4))) (fun _ _ _ _ _ => dts_nil) (fun _ _ _ _ _ => (de_fnIO (p := true) ((g__law_draw m).more (by decide)) room gd m.m__law_draw m.F__law_draw.kp (bi__law_draw m) pass0 (dio_here (p := true) (i := 0) (dza_cons (p1 := true) (p2 := true) (dz_own (p := true) de_int) dza_nil))))) da_nil)) da_nil)))
  (db_cons (ds_asg (p := true) (dg_tup rfl (dgs_cons (dg_name nd__law_grids_hold (i := 10)) (dgs_cons (dg_name nd__law_grids_hold (i := 11)) (dgs_cons (dg_name nd__law_grids_hold (i := 12)) (dgs_cons (dg_name nd__law_grids_hold (i := 13)) dgs_nil))))) (de_tup (p := true) (o := true) (da_cons (p1 := true) (o1 := true) (p2 := true) (o2 := true) (de_lst (p := true) (o := true) da_nil) (da_cons (p1 := true) (o1 := true) (p2 := true) (o2 := true) (de_callT (p := true) (o := true) cr_tupleV m.z_tuple (da_cons (p1 := true) (o1 := true) (p2 := true) (o2 := true) (de_lc (p1 := true) (p2 := true) (p3 := true) rfl nd__law_grids_hold (di_tup (p := true) (dp_ofQ (p := true) (dq_read (i := 8)))) (blkOk_by (own := [("row", 5)]) (by kernel_rfl)) (fun _ _ _ _ _ => (dg_name nd__law_grids_hold (i := 5))) (fun _ _ _ _ _ => dts_nil) (fun _ _ _ _ _ => (de_callB (p := true) (o := true) (cr_maxV rfl hu) m.z_max (da_cons (p1 := true) (o1 := true) (p2 := true) (o2 := true) (de_lc (p1 := true) (p2 := true) (p3 := true) rfl nd__law_grids_hold (di_tup (p := true) (dp_ofQ (p := true) (dq_read (i := 5)))) (blkOk_by (own := [("cell", 17)]) (by kernel_rfl)) (fun _ _ _ _ _ => (dg_name nd__law_grids_hold (i := 17))) (fun _ _ _ _ _ => dts_nil) (fun _ _ _ _ _ => (de_imm (p := true) (o := false) (de_ix (p1 := true) (o1 := false) (p2 := true) (o2 := true) (de_read (i := 17)) de_int)))) da_nil)))) da_nil)) (da_cons (p1 := true) (o1 := true) (p2 := true) (o2 := true) (de_lst (p := true) (o := true) da_nil) (da_cons (p1 := true) (o1 := true) (p2 := true) (o2 := true) de_int da_nil))))))
  (db_cons (ds_for (p := true) (ks := [5, 7, 14, 15, 16]) hp rfl (di_tup (p := true) (dp_ofQ (p := true) (dq_read (i := 8)))) (dg_name nd__law_grids_hold (i := 5))
  (db_cons (ds_par2 (i := 14) (j := 15) (p := true) rfl nd__law_grids_hold (da_cons (p1 := true) (o1 := true) (p2 := true) (o2 := true) de_int (da_cons (p1 := true) (o1 := true) (p2 := true) (o2 := true) (de_lst (p := true) (o := true) da_nil) da_nil)))
  (db_cons (ds_for (p := true) (ks := [7, 16]) hp rfl (di_tup (p := true) (dp_ofQ (p := true) (dq_read (i := 5)))) (dg_tup rfl (dgs_cons (dg_name nd__law_grids_hold (i := 7)) (dgs_cons (dg_name nd__law_grids_hold (i := 16)) dgs_nil)))
  (db_cons (ds_expr (p := false) (o := true) (de_app (p := true) (i := 15) (de_imm (p := true) (o := false) (de_tup (p := true) (o := false) (da_cons (p1 := true) (o1 := false) (p2 := true) (o2 := true) (de_read (i := 14)) (da_cons (p1 := true) (o1 := true) (p2 := true) (o2 := true) (de_op (p1 := true) (o1 := true) (p2 := true) (o2 := true) op_subV (de_op (p1 := true) (o1 := false) (p2 := true) (o2 := false) op_addV (de_read (i := 14)) (de_read (i := 7))) de_int) da_nil))))))
  (db_cons (ds_expr (p := false) (o := true) (de_app (p := true) (i := 12) (de_imm (p := true) (o := false) (de_tup (p := true) (o := false) (da_cons (p1 := true) (o1 := true) (p2 := true) (o2 := false) (de_op (p1 := true) (o1 := true) (p2 := true) (o2 := true) op_addV (de_callB (p := true) (o := true) (cr_sumV rfl) m.z_sum (da_cons (p1 := true) (o1 := true) (p2 := true) (o2 := true) (de_slice (p := true) (o := false) (de_read (i := 9)) do_none (do_some (o := false) (de_read (i := 14)))) da_nil)) (de_op (p1 := true) (o1 := false) (p2 := true) (o2 := false) op_mulV (de_read (i := 3)) (de_read (i := 14)))) (da_cons (p1 := true) (o1 := false) (p2 := true) (o2 := true) (de_read (i := 13)) (da_cons (p1 := true) (o1 := true) (p2 := true) (o2 := true) (de_op (p1 := true) (o1 := true) (p2 := true) (o2 := true) op_addV (de_callB (p := true) (o := true) (cr_sumV rfl) m.z_sum (da_cons (p1 := true) (o1 := true) (p2 := true) (o2 := true) (de_slice (p := true) (o := false) (de_read (i := 9)) (do_some (o := false) (de_read (i := 14))) (do_some (o := true) (de_op (p1 := true) (o1 := false) (p2 := true) (o2 := false) op_addV (de_read (i := 14)) (de_read (i := 7))))) da_nil)) (de_op (p1 := true) (o1 := false) (p2 := true) (o2 := true) op_mulV (de_read (i := 3)) (de_op (p1 := true) (o1 := false) (p2 := true) (o2 := true) op_subV (de_read (i := 7)) de_int))) (da_cons (p1 := true) (o1 := true) (p2 := true) (o2 := true) (de_callB (p := true) (o := true) (cr_maxV rfl hu) m.z_max (da_cons (p1 := true) (o1 := true) (p2 := true) (o2 := true) (de_lc (p1 := true) (p2 := true) (p3 := true) rfl nd__law_grids_hold (di_tup (p := true) (dp_ofQ (p := true) (dq_read (i := 5)))) (blkOk_by (own := [("cell", 17)]) (by kernel_rfl)) (fun _ _ _ _ _ => (dg_name nd__law_grids_hold (i := 17))) (fun _ _ _ _ _ => dts_nil) (fun _ _ _ _ _ => (de_imm (p := true) (o := false) (de_ix (p1 := true) (o1 := false) (p2 := true) (o2 := true) (de_read (i := 17)) de_int)))) da_nil)) da_nil))))))))
  (db_cons (ds_set (i := 14) (p := true) nd__law_grids_hold (de_op (p1 := true) (o1 := false) (p2 := true) (o2 := false) op_addV (de_read (i := 14)) (de_read (i := 7))))
  db_nil))))
  (db_cons (ds_expr (p := false) (o := true) (de_app (p := true) (i := 10) (de_callT (p := true) (o := false) cr_tupleV m.z_tuple (da_cons (p1 := true) (o1 := false) (p2 := true) (o2 := true) (de_read (i := 15)) da_nil))))
  (db_cons (ds_set (i := 13) (p := true) nd__law_grids_hold (de_op (p1 := true) (o1 := true) (p2 := true) (o2 := false) op_addV (de_op (p1 := true) (o1 := false) (p2 := true) (o2 := true) op_addV (de_read (i := 13)) (de_callB (p := true) (o := true) (cr_maxV rfl hu) m.z_max (da_cons (p1 := true) (o1 := true) (p2 := true) (o2 := true) (de_lc (p1 := true) (p2 := true) (p3 := true) rfl nd__law_grids_hold (di_tup (p := true) (dp_ofQ (p := true) (dq_read (i := 5)))) (blkOk_by (own := [("cell", 17)]) (by kernel_rfl)) (fun _ _ _ _ _ => (dg_name nd__law_grids_hold (i := 17))) (fun _ _ _ _ _ => dts_nil) (fun _ _ _ _ _ => (de_imm (p := true) (o := false) (de_ix (p1 := true) (o1 := false) (p2 := true) (o2 := true) (de_read (i := 17)) de_int)))) da_nil))) (de_read (i := 3))))
  db_nil)))))
  (db_cons (ds_ret (p := true) (de_fn (p := true) (o := true) ((g__law_same m).more (by decide)) room gd m.m__law_same m.F__law_same.kp (bi__law_same m) pass0 (da_cons (p1 := true) (o1 := true) (p2 := true) (o2 := true) (de_lst (p := true) (o := true) (da_cons (p1 := true) (o1 := true) (p2 := true) (o2 := true) (de_fn (p := true) (o := false) ((g_spans_of m).more (by decide)) room gd m.m_spans_of m.F_spans_of.kp (bi_spans_of m) pass0 (da_cons (p1 := true) (o1 := false) (p2 := true) (o2 := true) (de_read (i := 8)) da_nil)) (da_cons (p1 := true) (o1 := true) (p2 := true) (o2 := true) (de_fn (p := true) (o := false) ((g_heights_of m).more (by decide)) room gd m.m_heights_of m.F_heights_of.kp (bi_heights_of m) pass0 (da_cons (p1 := true) (o1 := false) (p2 := true) (o2 := true) (de_read (i := 8)) da_nil)) (da_cons (p1 := true) (o1 := true) (p2 := true) (o2 := true) (de_fn (p := true) (o := false) ((g_laid m).more (by decide)) room gd m.m_laid m.F_laid.kp (bi_laid m) pass0 (da_cons (p1 := true) (o1 := false) (p2 := true) (o2 := false) (de_read (i := 8)) (da_cons (p1 := true) (o1 := false) (p2 := true) (o2 := false) (de_read (i := 9)) (da_cons (p1 := true) (o1 := false) (p2 := true) (o2 := true) (de_read (i := 3)) da_nil)))) da_nil)))) (da_cons (p1 := true) (o1 := true) (p2 := true) (o2 := true) (de_lst (p := true) (o := true) (da_cons (p1 := true) (o1 := true) (p2 := true) (o2 := true) (de_callT (p := true) (o := false) cr_tupleV m.z_tuple (da_cons (p1 := true) (o1 := false) (p2 := true) (o2 := true) (de_read (i := 10)) da_nil)) (da_cons (p1 := true) (o1 := true) (p2 := true) (o2 := true) (de_imm (p := true) (o := false) (de_read (i := 11))) (da_cons (p1 := true) (o1 := true) (p2 := true) (o2 := true) (de_callT (p := true) (o := false) cr_tupleV m.z_tuple (da_cons (p1 := true) (o1 := false) (p2 := true) (o2 := true) (de_read (i := 12)) da_nil)) da_nil)))) da_nil))))
  db_nil)))))) (by decide)
/-! law -/
theorem sc_law : FnScope ["script", "state"] ["script"] (defScope s24) := ⟨rfl, rfl, rfl, by decide +kernel, rfl, by decide +kernel, by decide +kernel⟩
theorem nd_law : List.Nodup (["script", "state"] : List Str) := sc_law.nd
theorem bi_law (m : MF K mg) : Binds K m.fd_law ["script"] [] := m.F_law.bindsN fun _ _ _ _ _ _ us hl => match us, hl with | [_], _ => rfl
def f_law : Sv := (sSeq (sRet (eAnd (eFnIO 1 1 (D__law_tables_hold) (zHere 1 aNil)) (eAnd (eFnIO 1 1 (D__law_tables_hold) (zHere 1 aNil)) (eFnIO 1 1 (D__law_grids_hold) (zHere 1 aNil)))))
  sNx)
theorem g_law (m : MF K mg) (hf : ∀ ns : List Int, ns.length ≤ 63 → ∃ env', f_law (.dead :: .own (stateD ns (seedOf ns)) :: List.replicate 0 .dead) = .ok (.rt (.bool true) env')) : FnG P w K mg base CX0 6 m.a_law m.fd_law ["script"] (spLaw K) := by
  refine FunD.okG m.F_law sc_law (fun vs H Q E ⟨a, ns, e, _⟩ => by rw [e]; rfl) fun cdv A out s H vs Q E room gd pr => ⟨tLaw K E [] f_law, ?_, law_run pr (by decide) hf⟩
  have hp : PassesOwn (model P w) (cxOf CX0 P w K mg base ["script", "state"] "law" (defScope s24) m.a_law cdv A out s H E).A _ _ := passes_of rfl
  have hu : (cxOf CX0 P w K mg base ["script", "state"] "law" (defScope s24) m.a_law cdv A out s H E).A.units + 64 < cLine := by have := room.un; show (A.deeper _).units + 64 < cLine; omega
  exact pss_cons (ps_set (i := 1) nd_law rfl (by first | exact .inl rfl | exact .inr rfl) (pe_fnG ((g__law_start m).more (by decide)) room gd rfl m.m__law_start m.F__law_start.kp (bi__law_start m) pass0 (pa_cons (pe_var (i := 0) rfl (by first | exact .inl rfl | exact .inr (.inl rfl)) (by decide) (by decide)) pa_nil)))
    (db_sub (A := []) (db_cons (ds_ret (p := false) (de_and (p1 := false) (o1 := true) (p2 := false) (o2 := true) (de_fnIO (p := true) ((g__law_tables_hold m).more (by decide)) room gd m.m__law_tables_hold m.F__law_tables_hold.kp (bi__law_tables_hold m) pass0 (dio_here (p := true) (i := 1) dza_nil)) (de_and (p1 := false) (o1 := true) (p2 := false) (o2 := true) (de_fnIO (p := true) ((g__law_tables_hold m).more (by decide)) room gd m.m__law_tables_hold m.F__law_tables_hold.kp (bi__law_tables_hold m) pass0 (dio_here (p := true) (i := 1) dza_nil)) (de_and1 (p := false) (o := true) (de_fnIO (p := true) ((g__law_grids_hold m).more (by decide)) room gd m.m__law_grids_hold m.F__law_grids_hold.kp (bi__law_grids_hold m) pass0 (dio_here (p := true) (i := 1) dza_nil))))))
  db_nil) (by decide))
end
end FnT
end
section
set_option Elab.async false
set_option linter.all false
namespace M61
/-! tables: right edges as far left as all cells let -/
/-- a cell: its first column, its last, its width -/
structure Cell where
  f : Nat
  l : Nat
  w : Int
structure Cell.Ok (n : Nat) (c : Cell) : Prop where
  fl : c.f ≤ c.l
  ln : c.l < n
  w0 : 0 ≤ c.w
  w1 : c.w ≤ 200 * (1 + c.l - c.f)
def need (g : Int) (c : Cell) : Int := max 0 (c.w - g * (c.l - c.f))
theorem need_nn {g : Int} {c : Cell} : 0 ≤ need g c := by unfold need; omega
/-- the greatest of a and the v of those that p tells -/
def mx {α : Type} (p : α → Bool) (v : α → Int) (a : Int) (cs : List α) : Int := cs.foldl (fun acc c => if p c = true then max acc (v c) else acc) a
theorem mx_le {α : Type} {p : α → Bool} {v : α → Int} {b : Int} : ∀ {cs : List α} {a : Int}, mx p v a cs ≤ b ↔ a ≤ b ∧ ∀ c ∈ cs, p c = true → v c ≤ b
  | [], a => by simp [mx]
  | c :: cs, a => by
    have ih := mx_le (p := p) (v := v) (b := b) (cs := cs) (a := if p c = true then max a (v c) else a)
    have e : mx p v a (c :: cs) = mx p v (if p c = true then max a (v c) else a) cs := rfl
    rw [e, ih]
    simp only [List.mem_cons, forall_eq_or_imp]
    by_cases h : p c = true
    · simp only [h, if_true, forall_const]
      constructor
      · rintro ⟨h1, h2⟩
        exact ⟨by omega, by omega, h2⟩
      · rintro ⟨h1, h2, h3⟩
        exact ⟨by omega, h3⟩
    · simp [h]
theorem mx_at {α : Type} {p : α → Bool} {v : α → Int} : ∀ {cs : List α} {a : Int}, mx p v a cs = a ∨ ∃ c ∈ cs, p c = true ∧ mx p v a cs = v c
  | [], a => .inl rfl
  | c :: cs, a => by
    have ih := mx_at (p := p) (v := v) (cs := cs) (a := if p c = true then max a (v c) else a)
    have e : mx p v a (c :: cs) = mx p v (if p c = true then max a (v c) else a) cs := rfl
    rw [e]
    rcases ih with ih | ⟨c', h1, h2, h3⟩
    · rw [ih]
      by_cases h : p c = true
      · rw [if_pos h]
        rcases Int.le_total a (v c) with z | z
        · exact .inr ⟨c, List.mem_cons_self, h, Int.max_eq_right z⟩
        · exact .inl (Int.max_eq_left z)
      · rw [if_neg h]
        exact .inl rfl
    · exact .inr ⟨c', List.mem_cons_of_mem _ h1, h2, h3⟩
theorem mx_congr {α : Type} {p : α → Bool} {v v' : α → Int} {a : Int} : ∀ {cs : List α}, (∀ c ∈ cs, p c = true → v c = v' c) → mx p v a cs = mx p v' a cs := fun {cs} => by
  induction cs generalizing a with
  | nil => intro _; rfl
  | cons c cs ih =>
    intro h
    show mx p v (if p c = true then max a (v c) else a) cs = mx p v' (if p c = true then max a (v' c) else a) cs
    have : (if p c = true then max a (v c) else a) = (if p c = true then max a (v' c) else a) := by
      by_cases hp : p c = true
      · rw [if_pos hp, if_pos hp, h c List.mem_cons_self hp]
      · rw [if_neg hp, if_neg hp]
    rw [this]
    exact ih fun c hc => h c (List.mem_cons_of_mem _ hc)
/-- the edges up to n -/
def EL (g : Int) (cs : List Cell) : Nat → List Int
  | 0 => [0]
  | n + 1 => EL g cs n ++ [mx (fun c => decide (c.l = n)) (fun c => (EL g cs n).getD c.f 0 + need g c) ((EL g cs n).getD n 0) cs]
def E (g : Int) (cs : List Cell) (n : Nat) : Int := (EL g cs n).getD n 0
section
variable {g : Int} {cs : List Cell}
@[simp] theorem EL_len : ∀ {n : Nat}, (EL g cs n).length = n + 1
  | 0 => rfl
  | n + 1 => by simp [EL, EL_len (n := n)]
theorem EL_get : ∀ {n i : Nat}, i ≤ n → (EL g cs n).getD i 0 = E g cs i
  | 0, i, h => by
    have : i = 0 := by omega
    subst this
    rfl
  | n + 1, i, h => by
    by_cases e : i = n + 1
    · subst e; rfl
    · have h' : i ≤ n := by omega
      rw [← EL_get h']
      have hl : i < (EL g cs n).length := by rw [EL_len]; omega
      simp only [EL, List.getD_eq_getElem?_getD, List.getElem?_append_left hl]
theorem EL_get? {n i : Nat} (h : i ≤ n) : (EL g cs n)[i]? = some (E g cs i) := by
  have hl : i < (EL g cs n).length := by rw [EL_len]; omega
  have := EL_get (g := g) (cs := cs) h
  rw [List.getD_eq_getElem?_getD, List.getElem?_eq_getElem hl] at this
  rw [List.getElem?_eq_getElem hl]
  exact congrArg some this
@[simp] theorem E_zero : E g cs 0 = 0 := rfl
theorem E_succ {n : Nat} (h : ∀ c ∈ cs, c.f ≤ c.l) : E g cs (n + 1) = mx (fun c => decide (c.l = n)) (fun c => E g cs c.f + need g c) (E g cs n) cs := by
  have e : E g cs (n + 1) = mx (fun c => decide (c.l = n)) (fun c => (EL g cs n).getD c.f 0 + need g c) ((EL g cs n).getD n 0) cs := by
    show (EL g cs (n + 1)).getD (n + 1) 0 = _
    have hl : (EL g cs n).length = n + 1 := EL_len
    simp only [EL, List.getD_eq_getElem?_getD]
    rw [List.getElem?_append_right (by omega), hl]
    simp
  rw [e, EL_get (Nat.le_refl n)]
  exact mx_congr fun c hc hp => by
    have hl : c.l = n := by simpa using hp
    have := h c hc
    rw [EL_get (by omega)]
theorem EL_snoc {n : Nat} (h : ∀ c ∈ cs, c.f ≤ c.l) : EL g cs (n + 1) = EL g cs n ++ [E g cs (n + 1)] := by
  show EL g cs n ++ [_] = _
  have hl : (EL g cs n).length = n + 1 := EL_len
  congr 2
  show _ = (EL g cs (n + 1)).getD (n + 1) 0
  simp only [EL, List.getD_eq_getElem?_getD]
  rw [List.getElem?_append_right (by omega), hl]
  simp
theorem E_mono1 {n : Nat} (h : ∀ c ∈ cs, c.f ≤ c.l) : E g cs n ≤ E g cs (n + 1) := by
  rw [E_succ h]
  exact (mx_le.mp (Int.le_refl _)).1
theorem E_mono {i j : Nat} (h : ∀ c ∈ cs, c.f ≤ c.l) (hij : i ≤ j) : E g cs i ≤ E g cs j := by
  induction hij with
  | refl => exact Int.le_refl _
  | step _ ih => exact Int.le_trans ih (E_mono1 h)
theorem E_nn {n : Nat} (h : ∀ c ∈ cs, c.f ≤ c.l) : 0 ≤ E g cs n := by
  have := E_mono (g := g) h (Nat.zero_le n)
  simpa using this
theorem E_cell {c : Cell} (h : ∀ c ∈ cs, c.f ≤ c.l) (hc : c ∈ cs) : E g cs c.f + need g c ≤ E g cs (c.l + 1) := by
  rw [E_succ h]
  exact (mx_le.mp (Int.le_refl _)).2 c hc (by simp)
theorem E_at {n : Nat} (h : ∀ c ∈ cs, c.f ≤ c.l) : E g cs (n + 1) = E g cs n ∨ ∃ c ∈ cs, c.l = n ∧ E g cs (n + 1) = E g cs c.f + need g c := by
  rw [E_succ h]
  rcases mx_at (p := fun c : Cell => decide (c.l = n)) (v := fun c => E g cs c.f + need g c) (cs := cs) (a := E g cs n) with z | ⟨c, h1, h2, h3⟩
  · exact .inl z
  · exact .inr ⟨c, h1, by simpa using h2, h3⟩
/-- they are the least of all that let the cells be -/
theorem E_least {x : Nat → Int} {n : Nat} (h : ∀ c ∈ cs, c.f ≤ c.l) (h0 : 0 ≤ x 0) (h1 : ∀ i, i < n → x i ≤ x (i + 1)) (h2 : ∀ c ∈ cs, c.l < n → x c.f + need g c ≤ x (c.l + 1)) : ∀ i, i ≤ n → E g cs i ≤ x i := fun i => by
  induction i using Nat.strongRecOn with
  | _ i ih =>
    intro hi
    cases i with
    | zero => simpa using h0
    | succ i =>
      rw [E_succ h, mx_le]
      refine ⟨Int.le_trans (ih i (Nat.lt_succ_self _) (by omega)) (h1 i (by omega)), fun c hc hp => ?_⟩
      have hl : c.l = i := by simpa using hp
      have hf := h c hc
      have := ih c.f (by omega) (by omega)
      have := h2 c hc (by omega)
      rw [hl] at this
      omega
end
/-! which cell pushes an edge -/
def pstep (g : Int) (cs : List Cell) (n : Nat) (s : Int × Option Nat) (x : Cell × Nat) : Int × Option Nat := if x.1.l = n ∧ s.1 < E g cs x.1.f + need g x.1 then (E g cs x.1.f + need g x.1, some x.2) else s
def PS (g : Int) (cs : List Cell) (n : Nat) : Int × Option Nat := cs.zipIdx.foldl (pstep g cs n) (E g cs n, none)
section
variable {g : Int} {cs : List Cell} {n : Nat}
theorem pstep_fst (s : Int × Option Nat) (x : Cell × Nat) : (pstep g cs n s x).1 = if decide (x.1.l = n) = true then max s.1 (E g cs x.1.f + need g x.1) else s.1 := by
  unfold pstep
  by_cases h1 : x.1.l = n
  · simp only [h1, true_and, decide_true, if_true]
    split
    · simp only; omega
    · omega
  · simp [h1]
theorem pfold_fst : ∀ (xs : List Cell) (k : Nat) (s : Int × Option Nat), ((xs.zipIdx k).foldl (pstep g cs n) s).1 = mx (fun c : Cell => decide (c.l = n)) (fun c => E g cs c.f + need g c) s.1 xs
  | [], _, _ => rfl
  | x :: xs, k, s => by
    have ih := pfold_fst xs (k + 1) (pstep g cs n s (x, k))
    rw [List.zipIdx_cons, List.foldl_cons, ih, pstep_fst]
    rfl
theorem PS_fst (h : ∀ c ∈ cs, c.f ≤ c.l) : (PS g cs n).1 = E g cs (n + 1) := by
  unfold PS
  rw [pfold_fst, E_succ h]
theorem pfold_snd (a0 : Int) : ∀ (xs : List Cell) (k : Nat) (s : Int × Option Nat), (∀ i c, xs[i]? = some c → cs[k + i]? = some c) → (match s.2 with
    | none => s.1 = a0
    | some j => ∃ c, cs[j]? = some c ∧ c.l = n ∧ s.1 = E g cs c.f + need g c) → match ((xs.zipIdx k).foldl (pstep g cs n) s).2 with
    | none => ((xs.zipIdx k).foldl (pstep g cs n) s).1 = a0
    | some j => ∃ c, cs[j]? = some c ∧ c.l = n ∧ ((xs.zipIdx k).foldl (pstep g cs n) s).1 = E g cs c.f + need g c
  | [], _, _, _, h => h
  | x :: xs, k, s, hx, h => by
    rw [List.zipIdx_cons, List.foldl_cons]
    refine pfold_snd a0 xs (k + 1) _ (fun i c e => ?_) ?_
    · have := hx (i + 1) c (by simpa using e)
      rw [show k + 1 + i = k + (i + 1) by omega]
      exact this
    · unfold pstep
      by_cases c : x.l = n ∧ s.1 < E g cs x.f + need g x
      · rw [if_pos c]
        exact ⟨x, by simpa using hx 0 x rfl, c.1, rfl⟩
      · rw [if_neg c]
        exact h
theorem PS_snd : match (PS g cs n).2 with
    | none => (PS g cs n).1 = E g cs n
    | some j => ∃ c, cs[j]? = some c ∧ c.l = n ∧ (PS g cs n).1 = E g cs c.f + need g c :=
  pfold_snd (E g cs n) cs 0 _ (fun i c e => by simpa using e) rfl
end
/-! a row of cells, from right to left -/
inductive Row (g : Int) (cs : List Cell) : Nat → List Nat → Prop where
  | nil : Row g cs 0 []
  | skip {e : Nat} {ks : List Nat} : E g cs (e + 1) = E g cs e → Row g cs e ks → Row g cs (e + 1) ks
  | push {c : Cell} {k : Nat} {ks : List Nat} : cs[k]? = some c → E g cs (c.l + 1) = E g cs c.f + need g c → Row g cs c.f ks → Row g cs (c.l + 1) (k :: ks)
section
variable {g : Int} {cs : List Cell}
theorem Row.len {e : Nat} {ks : List Nat} (h : Row g cs e ks) (hf : ∀ c ∈ cs, c.f ≤ c.l) : ks.length ≤ e := by
  induction h with
  | nil => simp
  | skip _ _ ih => omega
  | @push c k ks hc _ _ ih =>
    have := hf c (List.mem_of_getElem? hc)
    simp
    omega
theorem Row.lt {e : Nat} {ks : List Nat} (h : Row g cs e ks) : ∀ k ∈ ks, k < cs.length := by
  induction h with
  | nil => simp
  | skip _ _ ih => exact ih
  | @push c k ks hc _ _ ih =>
    intro j hj
    rcases List.mem_cons.mp hj with rfl | hj
    · exact (List.getElem?_eq_some_iff.mp hc).1
    · exact ih j hj
def cellAt (cs : List Cell) (k : Nat) : Cell := cs.getD k ⟨0, 0, 0⟩
theorem cellAt_of {k : Nat} {c : Cell} (h : cs[k]? = some c) : cellAt cs k = c := by
  unfold cellAt
  rw [List.getD_eq_getElem?_getD, h]
  rfl
theorem Row.sum {e : Nat} {ks : List Nat} (h : Row g cs e ks) : (ks.map fun k => need g (cellAt cs k)).sum = E g cs e := by
  induction h with
  | nil => rfl
  | skip h _ ih => rw [ih, h]
  | @push c k ks hc he _ ih =>
    simp only [List.map_cons, List.sum_cons, ih, cellAt_of hc]
    omega
theorem Row.under {e : Nat} {ks : List Nat} (h : Row g cs e ks) (hf : ∀ c ∈ cs, c.f ≤ c.l) : ∀ k ∈ ks, (cellAt cs k).l < e := by
  induction h with
  | nil => simp
  | skip _ _ ih => intro k hk; have := ih k hk; omega
  | @push c k ks hc _ _ ih =>
    intro j hj
    have := hf c (List.mem_of_getElem? hc)
    rcases List.mem_cons.mp hj with rfl | hj
    · rw [cellAt_of hc]; omega
    · have := ih j hj; omega
/-- each stands apart from the next one -/
theorem Row.apart {e : Nat} {ks : List Nat} (h : Row g cs e ks) (hf : ∀ c ∈ cs, c.f ≤ c.l) : ks.Pairwise fun a b => (cellAt cs b).l < (cellAt cs a).f := by
  induction h with
  | nil => exact .nil
  | skip _ _ ih => exact ih
  | @push c k ks hc _ hr ih =>
    refine List.pairwise_cons.mpr ⟨fun b hb => ?_, ih⟩
    rw [cellAt_of hc]
    exact hr.under hf b hb
end
end M61
end
section
set_option Elab.async false
set_option linter.all false
namespace M61
/-! tables turned round, scaled, with weaker cells, side by side -/
def turn (n : Nat) (c : Cell) : Cell := ⟨n - 1 - c.l, n - 1 - c.f, c.w⟩
theorem turn_need {n : Nat} {g : Int} {c : Cell} (h1 : c.f ≤ c.l) (h2 : c.l < n) : need g (turn n c) = need g c := by
  unfold need turn
  simp only
  have : (((n - 1 - c.f : Nat) : Int) - ((n - 1 - c.l : Nat) : Int)) = (c.l : Int) - c.f := by omega
  rw [this]
theorem turn_turn {n : Nat} {c : Cell} (h1 : c.f ≤ c.l) (h2 : c.l < n) : turn n (turn n c) = c := by
  obtain ⟨f, l, w⟩ := c
  simp only at h1 h2
  unfold turn
  simp only [Cell.mk.injEq, and_true]
  omega
theorem turned_le {n : Nat} {g : Int} {cs : List Cell} (h : ∀ c ∈ cs, c.f ≤ c.l ∧ c.l < n) : E g cs n ≤ E g (cs.map (turn n)) n := by
  have hf : ∀ c ∈ cs, c.f ≤ c.l := fun c hc => (h c hc).1
  have hf' : ∀ c ∈ cs.map (turn n), c.f ≤ c.l := fun c hc => by
    obtain ⟨d, hd, rfl⟩ := List.mem_map.mp hc
    have := h d hd
    simp only [turn]
    omega
  have key := E_least (g := g) (x := fun i => E g (cs.map (turn n)) n - E g (cs.map (turn n)) (n - i)) (n := n) hf (by simp) (fun i hi => ?_) (fun c hc hl => ?_) n (Nat.le_refl n)
  · simpa using key
  · have := E_mono (g := g) hf' (show n - (i + 1) ≤ n - i by omega)
    try simp only
    omega
  · have hc' := h c hc
    have := E_cell (g := g) hf' (List.mem_map_of_mem (f := turn n) hc)
    rw [turn_need hc'.1 hc'.2] at this
    simp only [turn] at this
    rw [show n - 1 - c.f + 1 = n - c.f by omega, show n - 1 - c.l = n - (c.l + 1) by omega] at this
    try simp only
    omega
theorem turned_eq {n : Nat} {g : Int} {cs : List Cell} (h : ∀ c ∈ cs, c.f ≤ c.l ∧ c.l < n) : E g (cs.map (turn n)) n = E g cs n := by
  refine Int.le_antisymm ?_ (turned_le h)
  have h2 := turned_le (g := g) (n := n) (cs := cs.map (turn n)) fun c hc => by
    obtain ⟨d, hd, rfl⟩ := List.mem_map.mp hc
    have := h d hd
    simp only [turn]
    omega
  rw [List.map_map] at h2
  have e : cs.map (turn n ∘ turn n) = cs := by
    conv => rhs; rw [← List.map_id cs]
    exact List.map_congr_left fun c hc => turn_turn (h c hc).1 (h c hc).2
  rwa [e] at h2
/-! scaled -/
def scale (k : Int) (c : Cell) : Cell := ⟨c.f, c.l, c.w * k⟩
theorem max_mul {k a b : Int} (hk : 0 ≤ k) : max (k * a) (k * b) = k * max a b := by
  rcases Int.le_total a b with h | h
  · rw [Int.max_eq_right h, Int.max_eq_right (Int.mul_le_mul_of_nonneg_left h hk)]
  · rw [Int.max_eq_left h, Int.max_eq_left (Int.mul_le_mul_of_nonneg_left h hk)]
theorem mx_scale {α : Type} {p : α → Bool} {v : α → Int} {k : Int} (hk : 0 ≤ k) : ∀ {cs : List α} {a : Int}, mx p (fun c => k * v c) (k * a) cs = k * mx p v a cs
  | [], a => rfl
  | c :: cs, a => by
    have ih := mx_scale (p := p) (v := v) hk (cs := cs) (a := if p c = true then max a (v c) else a)
    show mx p (fun c => k * v c) (if p c = true then max (k * a) (k * v c) else k * a) cs = k * mx p v (if p c = true then max a (v c) else a) cs
    rw [← ih]
    congr 1
    split
    · exact max_mul hk
    · rfl
theorem mx_map {α β : Type} {p : β → Bool} {v : β → Int} {f : α → β} : ∀ {cs : List α} {a : Int}, mx p v a (cs.map f) = mx (fun c => p (f c)) (fun c => v (f c)) a cs := fun {cs a} => by
  unfold mx
  rw [List.foldl_map]
theorem scale_need {k g : Int} {c : Cell} (hk : 0 ≤ k) : need (g * k) (scale k c) = k * need g c := by
  unfold need scale
  simp only
  have e : c.w * k - g * k * ((c.l : Int) - c.f) = k * (c.w - g * ((c.l : Int) - c.f)) := by
    generalize ((c.l : Int) - c.f) = x
    rw [Int.mul_sub, Int.mul_comm c.w k, Int.mul_comm g k, Int.mul_assoc]
  rw [e]
  have := max_mul (k := k) (a := 0) (b := c.w - g * ((c.l : Int) - c.f)) hk
  rwa [Int.mul_zero] at this
theorem scaled_eq {g k : Int} {cs : List Cell} (hk : 0 ≤ k) (h : ∀ c ∈ cs, c.f ≤ c.l) : ∀ i, E (g * k) (cs.map (scale k)) i = k * E g cs i := fun i => by
  have h' : ∀ c ∈ cs.map (scale k), c.f ≤ c.l := fun c hc => by
    obtain ⟨d, hd, rfl⟩ := List.mem_map.mp hc
    exact h d hd
  induction i using Nat.strongRecOn with
  | _ i ih =>
    cases i with
    | zero => simp
    | succ i =>
      rw [E_succ h', E_succ h, mx_map, ← mx_scale hk, ih i (Nat.lt_succ_self _)]
      refine mx_congr fun c hc hp => ?_
      have hl : c.l = i := of_decide_eq_true hp
      have := h c hc
      rw [scale_need hk]
      have e : (scale k c).f = c.f := rfl
      rw [e, ih c.f (by omega), Int.mul_add]
/-! weaker cells -/
theorem weaker_eq {g : Int} {cs ds : List Cell} (h : ∀ c ∈ cs, c.f ≤ c.l) (h1 : ∀ c ∈ cs, c ∈ ds) (h2 : ∀ d ∈ ds, ∃ c ∈ cs, d.f = c.f ∧ d.l = c.l ∧ need g d ≤ need g c) (i : Nat) : E g ds i = E g cs i := by
  have hd : ∀ d ∈ ds, d.f ≤ d.l := fun d hd => by
    obtain ⟨c, hc, e1, e2, _⟩ := h2 d hd
    rw [e1, e2]
    exact h c hc
  refine Int.le_antisymm ?_ ?_
  · refine E_least (x := E g cs) (n := i) hd (by simp) (fun j _ => E_mono1 h) (fun d hd _ => ?_) i (Nat.le_refl _)
    obtain ⟨c, hc, e1, e2, hn⟩ := h2 d hd
    have := E_cell (g := g) h hc
    rw [e1, e2]
    omega
  · exact E_least (x := E g ds) (n := i) h (by simp) (fun j _ => E_mono1 hd) (fun c hc _ => E_cell hd (h1 c hc)) i (Nat.le_refl _)
/-! side by side -/
def shift (k : Nat) (c : Cell) : Cell := ⟨c.f + k, c.l + k, c.w⟩
theorem shift_need {g : Int} {k : Nat} {c : Cell} : need g (shift k c) = need g c := by
  unfold need shift
  simp only
  have : (((c.l + k : Nat) : Int) - ((c.f + k : Nat) : Int)) = (c.l : Int) - c.f := by omega
  rw [this]
def sideX (g : Int) (m : Nat) (a b : List Cell) (i : Nat) : Int := if i ≤ m then E g a i else E g a m + E g b (i - m)
theorem side_le {g : Int} {m i : Nat} {a b : List Cell} (h : i ≤ m) : sideX g m a b i = E g a i := if_pos h
theorem side_gt {g : Int} {m i : Nat} {a b : List Cell} (h : ¬ i ≤ m) : sideX g m a b i = E g a m + E g b (i - m) := if_neg h
theorem both_eq {g : Int} {m k : Nat} {a b : List Cell} (ha : ∀ c ∈ a, c.f ≤ c.l ∧ c.l < m) (hb : ∀ c ∈ b, c.f ≤ c.l) : (∀ i, i ≤ m → E g (a ++ b.map (shift m)) i = E g a i) ∧ ∀ j, E g (a ++ b.map (shift m)) (m + j) = E g a m + E g b j := by
  have ha' : ∀ c ∈ a, c.f ≤ c.l := fun c hc => (ha c hc).1
  have hc' : ∀ c ∈ a ++ b.map (shift m), c.f ≤ c.l := fun c hc => by
    rcases List.mem_append.mp hc with z | z
    · exact ha' c z
    · obtain ⟨d, hd, rfl⟩ := List.mem_map.mp z
      have := hb d hd
      simp only [shift]
      omega
  -- the whole lets both parts be
  have l1 : ∀ i, i ≤ m → E g a i ≤ E g (a ++ b.map (shift m)) i := fun i hi => E_least (x := E g (a ++ b.map (shift m))) (n := m) ha' (by simp) (fun j _ => E_mono1 hc') (fun c hc _ => E_cell hc' (List.mem_append_left _ hc)) i hi
  have l2 : ∀ j, E g b j ≤ E g (a ++ b.map (shift m)) (m + j) - E g (a ++ b.map (shift m)) m := fun j => by
    refine E_least (x := fun j => E g (a ++ b.map (shift m)) (m + j) - E g (a ++ b.map (shift m)) m) (n := j) hb (by simp) (fun i _ => ?_) (fun c hc _ => ?_) j (Nat.le_refl _)
    · have := E_mono1 (g := g) (n := m + i) hc'
      try simp only
      rw [show m + (i + 1) = m + i + 1 by omega]
      omega
    · have := E_cell (g := g) hc' (List.mem_append_right a (List.mem_map_of_mem (f := shift m) hc))
      rw [shift_need] at this
      simp only [shift] at this
      try simp only
      rw [show m + (c.l + 1) = c.l + m + 1 by omega, show m + c.f = c.f + m by omega]
      omega
  -- both parts let the whole be
  have u : ∀ i, E g (a ++ b.map (shift m)) i ≤ sideX g m a b i := fun i => by
    refine E_least (x := sideX g m a b) (n := i) hc' (by rw [side_le (Nat.zero_le _)]; simp) (fun j _ => ?_) (fun c hc _ => ?_) i (Nat.le_refl _)
    · by_cases c1 : j + 1 ≤ m
      · rw [side_le (show j ≤ m by omega), side_le c1]
        exact E_mono1 ha'
      · rw [side_gt (show ¬ j + 1 ≤ m from c1)]
        by_cases c2 : j ≤ m
        · have : j = m := by omega
          subst this
          rw [side_le (Nat.le_refl _)]
          have := E_nn (g := g) (n := j + 1 - j) hb
          omega
        · rw [side_gt c2]
          have := E_mono1 (g := g) (n := j - m) hb
          rw [show j + 1 - m = j - m + 1 by omega]
          omega
    · rcases List.mem_append.mp hc with z | z
      · have h1 := ha c z
        rw [side_le (show c.f ≤ m by omega), side_le (show c.l + 1 ≤ m by omega)]
        exact E_cell ha' z
      · obtain ⟨d, hd, rfl⟩ := List.mem_map.mp z
        have h1 := hb d hd
        have h2 := E_cell (g := g) hb hd
        rw [shift_need]
        have e1 : (shift m d).f = d.f + m := rfl
        have e2 : (shift m d).l + 1 = d.l + m + 1 := rfl
        rw [e1, e2, side_gt (show ¬ d.l + m + 1 ≤ m by omega), show d.l + m + 1 - m = d.l + 1 by omega]
        by_cases c2 : d.f + m ≤ m
        · have e3 : d.f = 0 := by omega
          rw [side_le c2, show d.f + m = m by omega]
          rw [e3] at h2
          simp only [E_zero] at h2
          omega
        · rw [side_gt c2, show d.f + m - m = d.f by omega]
          omega
  refine ⟨fun i hi => Int.le_antisymm ?_ (l1 i hi), fun j => ?_⟩
  · have := u i
    rwa [side_le hi] at this
  · have h1 := u (m + j)
    have h2 := l2 j
    have h3 := l1 m (Nat.le_refl _)
    by_cases c : m + j ≤ m
    · have : j = 0 := by omega
      subst this
      rw [side_le c] at h1
      simp only [Nat.add_zero, E_zero] at h1 ⊢
      omega
    · rw [side_gt c, show m + j - m = j by omega] at h1
      omega
end M61
end
section
set_option Elab.async false
set_option linter.all false
set_option maxRecDepth 100000
namespace FnT
open PySem PySem.Spec DV M61
def _root_.M61.Cell.d (c : Cell) : D := .tuple [.int c.f, .int c.l, .int c.w]
/-! ### what is common to all laws: numbers drawn -/
theorem is_integer_int {i : Int} : D_is_integer [.int i] = .ok (.bool true, .none) := by
  simp [D_is_integer, denOf_is, argEnv, f_is_integer]
/-- the state of the numbers to be drawn -/
def St (d : D) : Prop := ∃ (ns : List Int) (a c : Int) (b : Nat), d = .list [.list (ns.map .int), .int a, .int b, .int c] ∧ 0 ≤ a ∧ 0 ≤ c
theorem ix0 {x : D} {l : List D} : ixD (.list (x :: l)) (.int 0) = some x := atI_zero
theorem ix1 {x y : D} {l : List D} : ixD (.list (x :: y :: l)) (.int 1) = some y := ixD_list (k := 1)
theorem ix2 {x y z : D} {l : List D} : ixD (.list (x :: y :: z :: l)) (.int 2) = some z := ixD_list (k := 2)
theorem ix3 {x y z u : D} {l : List D} : ixD (.list (x :: y :: z :: u :: l)) (.int 3) = some u := ixD_list (k := 3)
theorem st1 {x y e : D} {l : List D} : setD (x :: y :: l) (.int 1) e = some (x :: e :: l) := setD_nat (k := 1) (by simp)
theorem st2 {x y z e : D} {l : List D} : setD (x :: y :: z :: l) (.int 2) e = some (x :: y :: e :: l) := setD_nat (k := 2) (by simp)
theorem st3 {x y z u e : D} {l : List D} : setD (x :: y :: z :: u :: l) (.int 3) e = some (x :: y :: z :: e :: l) := setD_nat (k := 3) (by simp)
theorem draw_ok {st : D} (h : St st) {m : Int} (h1 : 1 ≤ m) (h2 : m < 1073741824) : ∃ v st', D__law_draw [st, .int m] = .ok (.int v, st') ∧ St st' ∧ 0 ≤ v ∧ v < m := by
  obtain ⟨ns, a, c, b, rfl, ha, hc⟩ := h
  have m0 : 0 < m := by omega
  by_cases a0 : a = 0
  · subst a0
    by_cases hb : b < ns.length
    · have eb : ixD (.list (ns.map .int)) (.int (b : Int)) = some (.int ns[b]) := by rw [ixD_list]; simp [hb]
      refine ⟨(if ns[b] < 0 then -ns[b] else ns[b]) % m, .list [.list (ns.map .int), .int ((if ns[b] < 0 then -ns[b] else ns[b]) / m), .int ((b + 1 : Nat) : Int), .int c], ?_, ⟨ns, _, c, b + 1, rfl, Int.ediv_nonneg (by split <;> omega) (by omega), hc⟩, Int.emod_nonneg _ (by omega), Int.emod_lt_of_pos _ m0⟩
      have hb' : ¬ (ns.length : Int) ≤ b := by omega
      simp [D__law_draw, denOf_is, argEnv, f__law_draw, ix0, ix1, ix2, ix3, st1, st2, st3, hb', eb, modD_int m0, fdivD_int m0 h2]
    · refine ⟨(c * 48271 + 69621) % 2147483629 / 13 % m, .list [.list (ns.map .int), .int 0, .int b, .int ((c * 48271 + 69621) % 2147483629)], ?_, ⟨ns, 0, _, b, rfl, by omega, Int.emod_nonneg _ (by omega)⟩, Int.emod_nonneg _ (by omega), Int.emod_lt_of_pos _ m0⟩
      have hb' : (ns.length : Int) ≤ b := by omega
      simp [D__law_draw, denOf_is, argEnv, f__law_draw, ix0, ix1, ix2, ix3, st1, st2, st3, hb', modD_int m0, fdivD_int, mulD_r, modD_int]
  · refine ⟨a % m, .list [.list (ns.map .int), .int (a / m), .int b, .int c], ?_, ⟨ns, _, c, b, rfl, Int.ediv_nonneg ha (by omega), hc⟩, Int.emod_nonneg _ (by omega), Int.emod_lt_of_pos _ m0⟩
    simp [D__law_draw, denOf_is, argEnv, f__law_draw, ix0, ix1, ix2, ix3, st1, st2, st3, a0, modD_int m0, fdivD_int m0 h2]
theorem pick_ok {st : D} (h : St st) {xs : List D} (h1 : xs ≠ []) (h2 : xs.length < 1000000) (hi : immL xs = true) : ∃ x st', D__law_pick [st, .list xs] = .ok (x, st') ∧ St st' ∧ x ∈ xs := by
  have hl : 0 < xs.length := List.length_pos_iff.mpr h1
  obtain ⟨v, st', e, hs, v0, v1⟩ := draw_ok h (m := xs.length) (by omega) (by omega)
  have hv : v.toNat < xs.length := by omega
  have ev : v = ((v.toNat : Nat) : Int) := by omega
  have ix : ixD (.list xs) (.int v) = some xs[v.toNat] := by
    have z : ixD (.list xs) (.int ((v.toNat : Nat) : Int)) = some xs[v.toNat] := by rw [ixD_list]; exact List.getElem?_eq_getElem hv
    rwa [← ev] at z
  have hm : imm xs[v.toNat] = true := immL_all.mp hi _ (List.getElem_mem hv)
  exact ⟨xs[v.toNat], st', by simp [D__law_pick, denOf_is, argEnv, f__law_pick, e, ix, hm], hs, List.getElem_mem hv⟩
theorem pick_int {st : D} (h : St st) {ns : List Int} (h1 : ns ≠ []) (h2 : ns.length < 1000000) : ∃ x st', D__law_pick [st, .list (ns.map .int)] = .ok (.int x, st') ∧ St st' ∧ x ∈ ns := by
  obtain ⟨x, st', e, hs, hx⟩ := pick_ok h (xs := ns.map .int) (by simpa using h1) (by simpa using h2) immL_ints
  obtain ⟨i, hi, rfl⟩ := List.mem_map.mp hx
  exact ⟨i, st', e, hs, hi⟩
theorem same_ok {d : D} (h : smallD d = true) (hd : d.depth ≤ 60) (hw : wtD d ≤ 16000000) : D__law_same [d, d] = .ok (.bool true, .none) := by
  simp [D__law_same, denOf_is, argEnv, f__law_same, eqD_same h hd, reprD_ok h hd hw, eqD_str]
theorem imm_cell {c : Cell} : imm c.d = true := by simp [Cell.d]
theorem immL_cells {cs : List Cell} : immL (cs.map Cell.d) = true := immL_map fun _ _ => imm_cell
theorem cell_turn {st : D} (h : St st) {n : Nat} (h1 : 1 ≤ n) (h2 : n ≤ 8) {top : Int} (t0 : 3 ≤ top) (t1 : top ≤ 200) (acc : List D) (hz : acc.length < 100) (m k : D) : ∃ (c : Cell) (st' : D) (e2 : DV.Env), c.Ok n ∧ St st' ∧
    l0__law_cells [.own st, .view (.int n), .view m, .own (.list acc), .own (.int top), .view k, .dead, .dead] = .ok (.nx e2) ∧ killS [5, 6, 7] e2 = [.own st', .view (.int n), .view m, .own (.list (acc ++ [c.d])), .own (.int top), .dead, .dead, .dead] := by
  obtain ⟨v, st1, e1, s1, v0, v1⟩ := draw_ok h (m := n) (by omega) (by omega)
  obtain ⟨u, st2, e2, s2, u0, u1⟩ := draw_ok s1 (m := n) (by omega) (by omega)
  obtain ⟨x, st3, e3, s3, hx⟩ := pick_int s2 (ns := [0, 0, 1, 2, u]) (by simp) (by simp)
  simp only [List.map_cons, List.map_nil] at e3
  have x0 : 0 ≤ x := by
    simp at hx
    omega
  obtain ⟨l, hl⟩ : ∃ l : Int, min ((n : Int) - 1) (v + x) = l := ⟨_, rfl⟩
  have l0 : v ≤ l := by omega
  have l1 : l < n := by omega
  have p1 : top * (1 + l - v) ≤ 200 * (1 + l - v) := Int.mul_le_mul_of_nonneg_right t1 (by omega)
  have p0 : 0 ≤ top * (1 + l - v) := Int.mul_nonneg (by omega) (by omega)
  obtain ⟨w, st4, e4, s4, w0, w1⟩ := draw_ok s3 (m := top * (1 + l - v) + 1) (by omega) (by omega)
  have ev : ((v.toNat : Nat) : Int) = v := by omega
  have el : ((l.toNat : Nat) : Int) = l := by omega
  refine ⟨⟨v.toNat, l.toNat, w⟩, st4, [.own st4, .view (.int n), .view m, .own (.list (acc ++ [.tuple [.int v, .int l, .int w]])), .own (.int top), .view k, .own (.int v), .own (.int l)], ⟨by simp only; omega, by simp only; omega, w0, by simp only; omega⟩, s4, ?_, ?_⟩
  · have hz' : acc.length < 16000000 := by omega
    simp [l0__law_cells, e1, e2, e3, mulD_l (i := top) (by omega) (by omega), hz', hl, e4]
  · simp [Cell.d, ev, el]
theorem cells_ok {st : D} (h : St st) {n : Nat} (h1 : 1 ≤ n) (h2 : n ≤ 8) {m : Nat} (h3 : m ≤ 60) : ∃ (cs : List Cell) (st' : D), D__law_cells [st, .int n, .int m] = .ok (.tuple (cs.map Cell.d), st') ∧ St st' ∧ cs.length ≤ m ∧ ∀ c ∈ cs, c.Ok n := by
  obtain ⟨top, st1, e1, s1, ht⟩ := pick_int h (ns := [3, 30, 200]) (by simp) (by simp)
  have top0 : 3 ≤ top ∧ top ≤ 200 := by
    simp at ht
    omega
  obtain ⟨k, st2, e2, s2, k0, k1⟩ := draw_ok s1 (m := (m : Int) + 1) (by omega) (by omega)
  have ek : k = ((k.toNat : Nat) : Int) := by omega
  have er : rng1D [.int k] = some ((List.range k.toNat).map fun (i : Nat) => PyData.int (i : Int)) := by
    rw [ek]; exact rng1_nat (by omega)
  simp only [List.map_cons, List.map_nil] at e1
  -- the loop
  let I : Nat → DV.Env → Prop := fun i env => ∃ (st : D) (cs : List Cell), env = [.own st, .view (.int n), .view (.int m), .own (.list (cs.map Cell.d)), .own (.int top), .dead, .dead, .dead] ∧ St st ∧ cs.length = i ∧ ∀ c ∈ cs, c.Ok n
  obtain ⟨env2, ef, hI⟩ := for_rel (ks := [5, 6, 7]) (t := .nm 5) (b := l0__law_cells) I ((List.range k.toNat).map fun (i : Nat) => PyData.int (i : Int)) 0 [.own st2, .view (.int n), .view (.int m), .own (.list []), .own (.int top), .dead, .dead, .dead] ⟨st2, [], rfl, s2, rfl, by simp⟩ (by
    rintro i d env hd ⟨st, cs, rfl, hs, hc, hok⟩
    have hi : i < k.toNat := by simpa using (List.getElem?_eq_some_iff.mp hd).1
    obtain ⟨c, st', e3, ok, hs', run, kl⟩ := cell_turn hs h1 h2 top0.1 top0.2 (cs.map Cell.d) (by simp; omega) (.int m) d
    refine ⟨[.own st, .view (.int n), .view (.int m), .own (.list (cs.map Cell.d)), .own (.int top), .view d, .dead, .dead], e3, by simp, .inl run, st', cs ++ [c], by rw [kl]; simp, hs', by simp; omega, fun c' hc' => ?_⟩
    rcases List.mem_append.mp hc' with z | z
    · exact hok c' z
    · simp at z; subst z; exact ok)
  obtain ⟨st3, cs, rfl, hs, hc, hok⟩ := hI
  simp only [List.length_map, List.length_range] at hc
  refine ⟨cs, st3, ?_, hs, by omega, hok⟩
  simp [D__law_cells, denOf_is, argEnv, f__law_cells, e1, e2, er, ef, tupleD_list immL_cells]
end FnT
end
section
set_option Elab.async false
set_option linter.all false
set_option maxRecDepth 100000
namespace FnT
open PySem PySem.Spec DV M61
structure _root_.M61.Cell.Fit (n : Nat) (c : Cell) : Prop where
  fl : c.f ≤ c.l
  ln : c.l < n
  w0 : 0 ≤ c.w
  w1 : c.w ≤ 20000
theorem _root_.M61.Cell.Ok.fit {n : Nat} {c : Cell} (h : c.Ok n) (hn : n ≤ 8) : c.Fit n := ⟨h.fl, h.ln, h.w0, by have := h.w1; have := h.ln; omega⟩
theorem tix0 {x : D} {l : List D} : ixD (.tuple (x :: l)) (.int 0) = some x := atI_zero
theorem tix1 {x y : D} {l : List D} : ixD (.tuple (x :: y :: l)) (.int 1) = some y := ixD_tuple (k := 1)
theorem tix2 {x y z : D} {l : List D} : ixD (.tuple (x :: y :: z :: l)) (.int 2) = some z := ixD_tuple (k := 2)
theorem check_turn {n : Nat} {c : Cell} (h : c.Fit n) (a b : Slot) : l0_check_cells [.view (.int n), a, b, .view c.d, .dead] = .ok (.nx [.view (.int n), a, b, .view c.d, .dead]) := by
  have e : eLc [4] (.nm 4) (iTpl (eReadP 3)) tYesE (eFn 1 D_is_integer (aCons (eRead 4) aNil)) [.view (.int n), a, b, .view c.d, .dead] = .ok (.list ([(c.f : Int), (c.l : Int), c.w].map fun _ => .bool true), [.view (.int n), a, b, .view c.d, .dead]) :=
    lc_map (xs := [(c.f : Int), (c.l : Int), c.w]) PyData.int (fun _ => .bool true) (by simp [Cell.d]) (by simp) fun x _ => ⟨_, rfl, by simp [is_integer_int]⟩
  obtain ⟨h1, h2, h3, h4⟩ := h
  have ea : allD [.list [.bool true, .bool true, .bool true]] = some (.bool true) := allD_true (l := [(0 : Int), 0, 0])
  simp only [List.map_cons, List.map_nil, Cell.d] at e ⊢
  have q1 : (c.f : Int) ≤ c.l := by omega
  have q2 : (c.l : Int) < n := by omega
  have q3 : c.w ≤ 100000 := by omega
  simp [l0_check_cells, e, ea, tix0, tix1, tix2, q1, q2, h3, q3, h1, h2, PyData.plain, PyData.plainAll]
theorem check_ok {n : Nat} {g : Int} {cs : List Cell} (n1 : 1 ≤ n) (n8 : n ≤ 8) (g0 : 0 ≤ g) (g1 : g ≤ 1000) (hl : cs.length ≤ 60) (h : ∀ c ∈ cs, c.Fit n) : D_check_cells [.int n, .int g, .tuple (cs.map Cell.d)] = .ok (.none, .none) := by
  have ef := (for_fold (ks := [3]) (t := .nm 3) (b := l0_check_cells) (E := fun _ : Unit => [.view (.int n), .view (.int g), .view (.tuple (cs.map Cell.d)), .dead, .dead]) (J := fun _ => True) (step := fun _ _ => ()) Cell.d cs [.view (.int n), .view (.int g), .view (.tuple (cs.map Cell.d)), .dead, .dead] () rfl trivial
    fun _ _ c hc => ⟨_, _, rfl, .inl (check_turn (h c hc) _ _), rfl, trivial⟩).1
  have q1 : (1 : Int) ≤ n := by omega
  have q2 : (n : Int) ≤ 8 := by omega
  have q3 : g ≤ 100000 := by omega
  have q4 : ¬ (60 : Int) < (cs.length : Nat) := by omega
  have pc : PyData.plainAll (cs.map Cell.d) = true := by
    have : ∀ cs : List Cell, PyData.plainAll (cs.map Cell.d) = true := fun cs => by
      induction cs with
      | nil => simp [PyData.plainAll]
      | cons c cs ih => simp [PyData.plainAll, Cell.d, PyData.plain, ih]
    exact this cs
  simp [D_check_cells, denOf_is, argEnv, f_check_cells, is_integer_int, q1, q2, g0, q3, q4, PyData.plain, pc, ef]
/-! needs, edges -/
def needD (g : Int) (c : Cell) : D := .tuple [.int c.f, .int ((c.l + 1 : Nat) : Int), .int (need g c)]
theorem needs_ok {g : Int} {cs : List Cell} (g0 : 0 ≤ g) (g1 : g ≤ 1000) (hl : cs.length ≤ 200) : D_needs_of [.int g, .tuple (cs.map Cell.d)] = .ok (.list (cs.map (needD g)), .none) := by
  have e : eLc [4, 3, 2] (.tp ((.nm 4) :: ((.nm 3) :: ((.nm 2) :: [])))) (iTpl (eReadP 1)) tYesE (eImm (eTup (aCons (eRead 4) (aCons (eBin addD (eRead 3) (eC (.int 1))) (aCons (eCall maxD1 (aCons (eC (.int 0)) (aCons (eBin subD (eRead 2) (eBin mulD (eRead 0) (eBin subD (eRead 3) (eRead 4)))) aNil))) aNil))))) [.view (.int g), .view (.tuple (cs.map Cell.d)), .dead, .dead, .dead] =
      .ok (.list (cs.map (needD g)), [.view (.int g), .view (.tuple (cs.map Cell.d)), .dead, .dead, .dead]) :=
    lc_map Cell.d (needD g) (by simp) (by omega) fun c _ => ⟨_, rfl, by simp [needD, need, mulD_l (i := g) (by omega) (by omega)]⟩
  simp [D_needs_of, denOf_is, argEnv, f_needs_of, e]
theorem mid_ix {A B : List D} {x : D} {k : Int} (h : k = (A.length : Nat)) : ixD (.list (A ++ x :: B)) (.int k) = some x := by
  subst h
  rw [ixD_list, List.getElem?_append_right (Nat.le_refl _)]
  simp
theorem mid_set {A B : List D} {x y : D} {k : Int} (h : k = (A.length : Nat)) : setD (A ++ x :: B) (.int k) y = some (A ++ y :: B) := by
  subst h
  rw [setD_nat (by simp), List.set_append_right _ _ (Nat.le_refl _)]
  simp
theorem pre_ix {A B : List D} {x : D} {k : Int} {j : Nat} (h : k = (j : Nat)) (e : A[j]? = some x) : ixD (.list (A ++ B)) (.int k) = some x := by
  subst h
  rw [ixD_list, List.getElem?_append_left (List.getElem?_eq_some_iff.mp e).1]
  exact e
def optD : Option Nat → D
  | none => .none
  | some k => .int k
/-- the numbers of the cells that push, up to edge n -/
def WL (g : Int) (cs : List Cell) (n : Nat) : List D := .none :: (List.range n).map fun i => optD (PS g cs i).2
theorem WL_len {g : Int} {cs : List Cell} {n : Nat} : (WL g cs n).length = n + 1 := by simp [WL]
theorem WL_snoc {g : Int} {cs : List Cell} {n : Nat} : WL g cs (n + 1) = WL g cs n ++ [optD (PS g cs n).2] := by simp [WL, List.range_succ]
theorem enum_needs {g : Int} {cs : List Cell} : enumD [.list (cs.map (needD g))] = some (cs.zipIdx.map fun x => .tuple [.int (x.2 : Nat), needD g x.1]) := by
  show some _ = _
  congr 1
  rw [List.mapIdx_eq_zipIdx_map, List.zipIdx_map, List.map_map]
  rfl
abbrev EI (n : Nat) (g : Int) (cs : List Cell) (i : Nat) (s : Int × Option Nat) : DV.Env := [.view (.int n), .view (.int g), .view (.tuple (cs.map Cell.d)), .own (.list ((EL g cs i).map PyData.int ++ .int s.1 :: List.replicate (n - (i + 1)) (.int 0))), .own (.list (WL g cs i ++ optD s.2 :: List.replicate (n - (i + 1)) .none)), .view (.int ((i : Int) + 1)), .dead, .dead, .dead, .dead]
abbrev EJ (n : Nat) (g : Int) (cs : List Cell) (i : Nat) (s : Int × Option Nat) (k : Nat) (c : Cell) : DV.Env := [.view (.int n), .view (.int g), .view (.tuple (cs.map Cell.d)), .own (.list ((EL g cs i).map PyData.int ++ .int s.1 :: List.replicate (n - (i + 1)) (.int 0))), .own (.list (WL g cs i ++ optD s.2 :: List.replicate (n - (i + 1)) .none)), .view (.int ((i : Int) + 1)), .view (.int k), .view (.int c.f), .view (.int ((c.l : Int) + 1)), .view (.int (need g c))]
theorem edge_turn {n : Nat} {g : Int} {cs : List Cell} {i : Nat} (s : Int × Option Nat) {x : Cell × Nat} (hf : x.1.f ≤ x.1.l) : ∃ e1 e2, bindV (.tp ((.nm 6) :: ((.tp ((.nm 7) :: ((.nm 8) :: ((.nm 9) :: [])))) :: []))) (.tuple [.int (x.2 : Nat), needD g x.1]) (EI n g cs i s) = some e1 ∧
    l0_edges_of e1 = .ok (.nx e2) ∧ killS [6, 7, 8, 9] e2 = EI n g cs i (pstep g cs i s x) := by
  obtain ⟨c, k⟩ := x
  have la : ((i : Int) + 1) = (((EL g cs i).map PyData.int).length : Nat) := by simp
  have lb : ((i : Int) + 1) = ((WL g cs i).length : Nat) := by simp [WL_len]
  have r1 : ∀ a : Int, ixD (.list ((EL g cs i).map PyData.int ++ .int a :: List.replicate (n - (i + 1)) (.int 0))) (.int ((i : Int) + 1)) = some (.int a) := fun a => mid_ix la
  have t1 : ∀ a b : D, setD ((EL g cs i).map PyData.int ++ a :: List.replicate (n - (i + 1)) (.int 0)) (.int ((i : Int) + 1)) b = some ((EL g cs i).map PyData.int ++ b :: List.replicate (n - (i + 1)) (.int 0)) := fun a b => mid_set la
  have t2 : ∀ a b : D, setD (WL g cs i ++ a :: List.replicate (n - (i + 1)) .none) (.int ((i : Int) + 1)) b = some (WL g cs i ++ b :: List.replicate (n - (i + 1)) .none) := fun a b => mid_set lb
  have hb : bindV (.tp ((.nm 6) :: ((.tp ((.nm 7) :: ((.nm 8) :: ((.nm 9) :: [])))) :: []))) (.tuple [.int (k : Nat), needD g c]) (EI n g cs i s) = some (EJ n g cs i s k c) := by simp [needD, EJ]
  have kl : ∀ s, killS [6, 7, 8, 9] (EJ n g cs i s k c) = EI n g cs i s := fun s => by simp [EJ]
  by_cases h1 : c.l = i
  · have r0 : ∀ B : List D, ixD (.list ((EL g cs i).map PyData.int ++ B)) (.int (c.f : Nat)) = some (.int (E g cs c.f)) := fun B => pre_ix rfl (by
      have := hf
      simp only at this
      rw [List.getElem?_map, EL_get? (by omega)]
      rfl)
    by_cases h2 : s.1 < E g cs c.f + need g c
    · refine ⟨_, EJ n g cs i (E g cs c.f + need g c, some k) k c, hb, ?_, ?_⟩
      · simp [l0_edges_of, EJ, EI, h1, r0, r1, t1, t2, h2, optD]
      · rw [kl]
        simp [pstep, h1, h2]
    · refine ⟨_, EJ n g cs i s k c, hb, ?_, ?_⟩
      · simp [l0_edges_of, EJ, EI, h1, r0, r1, h2]
      · rw [kl]
        simp [pstep, h1, h2]
  · refine ⟨_, EJ n g cs i s k c, hb, ?_, ?_⟩
    · have h3 : ¬ (c.l : Int) = i := by omega
      simp [l0_edges_of, EJ, EI, h3]
    · rw [kl]
      simp [pstep, h1]
abbrev EO (n : Nat) (g : Int) (cs : List Cell) (i : Nat) : DV.Env := [.view (.int n), .view (.int g), .view (.tuple (cs.map Cell.d)), .own (.list ((EL g cs i).map PyData.int ++ List.replicate (n - i) (.int 0))), .own (.list (WL g cs i ++ List.replicate (n - i) .none)), .dead, .dead, .dead, .dead, .dead]
theorem edges_turn {n : Nat} {g : Int} {cs : List Cell} {i : Nat} (hi : i < n) (g0 : 0 ≤ g) (g1 : g ≤ 1000) (hl : cs.length ≤ 200) (hf : ∀ c ∈ cs, c.f ≤ c.l) : ∃ e1 e2, bindV (.nm 5) (.int ((i + 1 : Nat) : Int)) (EO n g cs i) = some e1 ∧ l1_edges_of e1 = .ok (.nx e2) ∧ killS [5, 6, 7, 8, 9] e2 = EO n g cs (i + 1) := by
  have er : n - i = (n - (i + 1)) + 1 := by omega
  have la : ((i : Int) + 1) = (((EL g cs i).map PyData.int).length : Nat) := by simp
  have r0 : ∀ B : List D, ixD (.list ((EL g cs i).map PyData.int ++ B)) (.int (i : Nat)) = some (.int (E g cs i)) := fun B => pre_ix rfl (by rw [List.getElem?_map, EL_get? (Nat.le_refl _)]; rfl)
  have t1 : ∀ a b : D, setD ((EL g cs i).map PyData.int ++ a :: List.replicate (n - (i + 1)) (.int 0)) (.int ((i : Int) + 1)) b = some ((EL g cs i).map PyData.int ++ b :: List.replicate (n - (i + 1)) (.int 0)) := fun a b => mid_set la
  have ef := (for_fold (ks := [6, 7, 8, 9]) (t := .tp ((.nm 6) :: ((.tp ((.nm 7) :: ((.nm 8) :: ((.nm 9) :: [])))) :: []))) (b := l0_edges_of) (E := EI n g cs i) (J := fun _ => True) (step := pstep g cs i) (fun x : Cell × Nat => .tuple [.int (x.2 : Nat), needD g x.1]) cs.zipIdx (EI n g cs i (E g cs i, none)) (E g cs i, none) rfl trivial
    fun s _ x hx => by
      obtain ⟨e1, e2, h1, h2, h3⟩ := edge_turn (n := n) (g := g) (cs := cs) (i := i) s (x := x) (hf x.1 (List.fst_mem_of_mem_zipIdx hx))
      exact ⟨e1, e2, h1, .inl h2, h3, trivial⟩).1
  refine ⟨_, EI n g cs i (PS g cs i), rfl, ?_, ?_⟩
  · have eo : optD none = .none := rfl
    simp only [EI, eo] at ef
    simp [l1_edges_of, er, List.replicate_succ, r0, t1, needs_ok g0 g1 hl, enum_needs, ef]
    exact ⟨rfl, rfl⟩
  · have e1 : (EL g cs (i + 1)).map PyData.int = (EL g cs i).map PyData.int ++ [.int (PS g cs i).1] := by rw [EL_snoc hf, PS_fst hf]; simp
    simp [EI, EO, e1, WL_snoc]
theorem mul_one {x : D} {k : Nat} {j : Int} (hj : j = (k : Nat)) (hx : imm x = true) (hk : k ≤ 1000) : mulD (.list [x]) (.int j) = some (.list (List.replicate k x)) := by
  subst hj
  have h : immL [x] = true ∧ [x].length * ((k : Int)).toNat ≤ 16000000 ∧ -(2 ^ 63) ≤ (k : Int) ∧ (k : Int) < 2 ^ 63 := by
    refine ⟨by simp [hx], ?_, ?_, ?_⟩
    · have : [x].length * ((k : Int)).toNat = k := by simp
      rw [this]
      omega
    · omega
    · omega
  have e : mulD (.list [x]) (.int (k : Int)) = if immL [x] = true ∧ [x].length * ((k : Int)).toNat ≤ 16000000 ∧ -(2 ^ 63) ≤ (k : Int) ∧ (k : Int) < 2 ^ 63 then some (.list (List.replicate ((k : Int)).toNat [x]).flatten) else none := by
    unfold mulD
    rfl
  rw [e, if_pos h]
  simp
theorem edges_ok {n : Nat} {g : Int} {cs : List Cell} (n8 : n ≤ 8) (g0 : 0 ≤ g) (g1 : g ≤ 1000) (hl : cs.length ≤ 200) (hf : ∀ c ∈ cs, c.f ≤ c.l) : D_edges_of [.int n, .int g, .tuple (cs.map Cell.d)] = .ok (.tuple [.list ((EL g cs n).map PyData.int), .list (WL g cs n)], .none) := by
  have m1 : mulD (.list [.int 0]) (.int ((n : Int) + 1)) = some (.list (List.replicate (n + 1) (.int 0))) := mul_one (k := n + 1) (by omega) rfl (by omega)
  have m2 : mulD (.list [.none]) (.int ((n : Int) + 1)) = some (.list (List.replicate (n + 1) .none)) := mul_one (k := n + 1) (by omega) rfl (by omega)
  have er : rng2D [.int 1, .int ((n : Int) + 1)] = some ((List.range n).map fun (i : Nat) => PyData.int ((i : Int) + 1)) := by
    have := rng2_nat (lo := 1) (n := n) (by omega)
    rw [show ((1 + n : Nat) : Int) = (n : Int) + 1 by omega] at this
    rw [show ((1 : Nat) : Int) = 1 from rfl] at this
    rw [this]
    refine congrArg some (List.map_congr_left fun i _ => congrArg PyData.int ?_)
    omega
  obtain ⟨env2, e2, hI⟩ := for_rel (ks := [5, 6, 7, 8, 9]) (t := .nm 5) (b := l1_edges_of) (fun i env => env = EO n g cs i) ((List.range n).map fun (i : Nat) => PyData.int ((i : Int) + 1)) 0 (EO n g cs 0) rfl (by
    rintro i d env hd rfl
    have hi : i < n := by simpa using (List.getElem?_eq_some_iff.mp hd).1
    have ed : d = .int ((i + 1 : Nat) : Int) := by
      rw [List.getElem?_map, List.getElem?_range hi] at hd
      exact (Option.some.inj hd).symm
    subst ed
    rw [Nat.zero_add]
    obtain ⟨e1, e3, h1, h2, h3⟩ := edges_turn (n := n) (g := g) (cs := cs) hi g0 g1 hl hf
    exact ⟨e1, e3, h1, .inl h2, h3⟩)
  simp only [List.length_map, List.length_range, Nat.zero_add] at hI
  subst hI
  have s0 : EO n g cs 0 = [.view (.int n), .view (.int g), .view (.tuple (cs.map Cell.d)), .own (.list (List.replicate (n + 1) (.int 0))), .own (.list (List.replicate (n + 1) .none)), .dead, .dead, .dead, .dead, .dead] := by
    simp [EO, EL, WL, List.replicate_succ]
  rw [s0] at e2
  have s1 : EO n g cs n = [.view (.int n), .view (.int g), .view (.tuple (cs.map Cell.d)), .own (.list ((EL g cs n).map PyData.int)), .own (.list (WL g cs n)), .dead, .dead, .dead, .dead, .dead] := by
    simp [EO]
  rw [s1] at e2
  simp [D_edges_of, denOf_is, argEnv, f_edges_of, m1, m2, er, e2]
/-- the columns' widths -/
def WD (g : Int) (cs : List Cell) (n : Nat) : List Int := (List.range n).map fun i => E g cs (i + 1) - E g cs i
theorem least_ok {n : Nat} {g : Int} {cs : List Cell} (n1 : 1 ≤ n) (n8 : n ≤ 8) (g0 : 0 ≤ g) (g1 : g ≤ 1000) (hl : cs.length ≤ 60) (h : ∀ c ∈ cs, c.Fit n) :
    D_least_width [.int n, .int g, .tuple (cs.map Cell.d)] = .ok (.tuple [.int (E g cs n + g * ((n : Int) - 1)), .tuple ((WD g cs n).map PyData.int)], .none) := by
  have r : ∀ i, i ≤ n → ∀ k : Int, k = (i : Nat) → ixD (.list ((EL g cs n).map PyData.int)) (.int k) = some (.int (E g cs i)) := fun i hi k hk => by
    subst hk
    rw [ixD_list, List.getElem?_map, EL_get? hi]
    rfl
  have er : rng1D [.int (n : Int)] = some ((List.range n).map fun (i : Nat) => PyData.int (i : Int)) := rng1_nat (by omega)
  have e : eLc [5] (.nm 5) (iFn rng1D (aCons (eRead 0) aNil)) tYesE (eBin subD (eIx (eRead 3) (eBin addD (eRead 5) (eC (.int 1)))) (eIx (eRead 3) (eRead 5))) [.view (.int n), .view (.int g), .view (.tuple (cs.map Cell.d)), .own (.list ((EL g cs n).map PyData.int)), .dead, .dead] =
      .ok (.list ((List.range n).map fun i => .int (E g cs (i + 1) - E g cs i)), [.view (.int n), .view (.int g), .view (.tuple (cs.map Cell.d)), .own (.list ((EL g cs n).map PyData.int)), .dead, .dead]) :=
    lc_map (fun (i : Nat) => PyData.int (i : Int)) (fun i => .int (E g cs (i + 1) - E g cs i)) (by simp [er]) (by simp; omega) fun i hi => ⟨_, rfl, by
      have hi' : i < n := by simpa using hi
      simp [r (i + 1) (by omega) ((i : Int) + 1) (by omega), r i (by omega) i rfl]⟩
  have w : (List.range n).map (fun i => PyData.int (E g cs (i + 1) - E g cs i)) = (WD g cs n).map PyData.int := by simp [WD]
  rw [w] at e
  simp [D_least_width, denOf_is, argEnv, f_least_width, check_ok n1 n8 g0 g1 hl h, edges_ok n8 g0 g1 (by omega) (fun c hc => (h c hc).fl), tix0, e, tupleD_list immL_ints, r n (Nat.le_refl _) n rfl, mulD_l (i := g) (by omega) (by omega)]
end FnT
end
section
set_option Elab.async false
set_option linter.all false
set_option maxRecDepth 100000
namespace FnT
open PySem PySem.Spec DV M61
/-! the law's own edges -/
def FL (g : Int) (cs : List Cell) (i : Nat) : List D := (List.range i).map fun k => .int (E g cs (k + 1))
theorem FL_snoc {g : Int} {cs : List Cell} {i : Nat} : FL g cs (i + 1) = FL g cs i ++ [.int (E g cs (i + 1))] := by simp [FL, List.range_succ]
theorem FL_get {g : Int} {cs : List Cell} {i k : Nat} (h : k < i) : (FL g cs i)[k]? = some (.int (E g cs (k + 1))) := by simp [FL, h]
theorem FL_len {g : Int} {cs : List Cell} {i : Nat} : (FL g cs i).length = i := by simp [FL]
abbrev EP (n : Nat) (g : Int) (cs : List Cell) (i : Nat) (s : Int) : DV.Env := [.view (.int n), .view (.int g), .view (.tuple (cs.map Cell.d)), .own (.list (FL g cs i)), .view (.int (i : Nat)), .own (.int s), .dead, .dead, .dead]
def lstep (g : Int) (cs : List Cell) (i : Nat) (s : Int) (c : Cell) : Int := if decide (c.l = i) = true then max s (E g cs c.f + need g c) else s
theorem ledge_turn {n : Nat} {g : Int} {cs : List Cell} {i : Nat} {s : Int} {c : Cell} (g0 : 0 ≤ g) (g1 : g ≤ 1000) (hf : ∀ c ∈ cs, c.f ≤ c.l) (hc : c ∈ cs) (hs : E g cs i ≤ s) : ∃ e1 e2, bindV (.tp ((.nm 6) :: ((.nm 7) :: ((.nm 8) :: [])))) c.d (EP n g cs i s) = some e1 ∧ l0__law_edges e1 = .ok (.nx e2) ∧ killS [6, 7, 8] e2 = EP n g cs i (lstep g cs i s c) := by
  have fl := hf c hc
  let e1 : DV.Env := [.view (.int n), .view (.int g), .view (.tuple (cs.map Cell.d)), .own (.list (FL g cs i)), .view (.int (i : Nat)), .own (.int s), .view (.int c.f), .view (.int c.l), .view (.int c.w)]
  have hb : bindV (.tp ((.nm 6) :: ((.nm 7) :: ((.nm 8) :: [])))) c.d (EP n g cs i s) = some e1 := by simp [Cell.d, EP, e1]
  by_cases h1 : c.l = i
  · subst h1
    have hE : E g cs c.f ≤ E g cs c.l := E_mono hf fl
    have hm : max s (E g cs c.f + c.w - g * (c.l - c.f)) = max s (E g cs c.f + need g c) := by unfold need; omega
    refine ⟨e1, [.view (.int n), .view (.int g), .view (.tuple (cs.map Cell.d)), .own (.list (FL g cs c.l)), .view (.int (c.l : Nat)), .own (.int (max s (E g cs c.f + c.w - g * (c.l - c.f)))), .view (.int c.f), .view (.int c.l), .view (.int c.w)], hb, ?_, ?_⟩
    · by_cases h2 : c.f = 0
      · have h3 : ¬ (0 : Int) < (c.f : Nat) := by omega
        have h4 : E g cs c.f = 0 := by rw [h2]; rfl
        simp [l0__law_edges, e1, h2, mulD_l (i := g) (by omega) (by omega)]
      · have h3 : (0 : Int) < (c.f : Nat) := by omega
        have r : ixD (.list (FL g cs c.l)) (.int ((c.f : Int) - 1)) = some (.int (E g cs c.f)) := by
          have e : ((c.f : Int) - 1) = ((c.f - 1 : Nat) : Int) := by omega
          rw [e, ixD_list, FL_get (by omega)]
          rw [show c.f - 1 + 1 = c.f by omega]
        simp [l0__law_edges, e1, show 0 < c.f by omega, mulD_l (i := g) (by omega) (by omega), r]
    · simp [EP, lstep, hm]
  · refine ⟨e1, e1, hb, ?_, ?_⟩
    · have h3 : ¬ (c.l : Int) = i := by omega
      simp [l0__law_edges, e1, h3]
    · simp [EP, lstep, h1, e1]
abbrev EQ (n : Nat) (g : Int) (cs : List Cell) (i : Nat) : DV.Env := [.view (.int n), .view (.int g), .view (.tuple (cs.map Cell.d)), .own (.list (FL g cs i)), .dead, .dead, .dead, .dead, .dead]
theorem ledges_turn {n : Nat} {g : Int} {cs : List Cell} {i : Nat} (hi : i < 100) (g0 : 0 ≤ g) (g1 : g ≤ 1000) (hf : ∀ c ∈ cs, c.f ≤ c.l) : ∃ e1 e2, bindV (.nm 4) (.int (i : Nat)) (EQ n g cs i) = some e1 ∧ l1__law_edges e1 = .ok (.nx e2) ∧ killS [4, 5, 6, 7, 8] e2 = EQ n g cs (i + 1) := by
  have ef := for_fold (ks := [6, 7, 8]) (t := .tp ((.nm 6) :: ((.nm 7) :: ((.nm 8) :: [])))) (b := l0__law_edges) (E := EP n g cs i) (J := fun s => E g cs i ≤ s) (step := lstep g cs i) Cell.d cs (EP n g cs i (E g cs i)) (E g cs i) rfl (Int.le_refl _)
    fun s hs c hc => by
      obtain ⟨e1, e2, h1, h2, h3⟩ := ledge_turn (n := n) (s := s) g0 g1 hf hc hs
      refine ⟨e1, e2, h1, .inl h2, h3, ?_⟩
      unfold lstep
      split <;> omega
  have ev : cs.foldl (lstep g cs i) (E g cs i) = E g cs (i + 1) := by
    rw [E_succ hf]
    rfl
  rw [ev] at ef
  have ef := ef.1
  simp only [EP] at ef
  have hl : (FL g cs i).length < 16000000 := by rw [FL_len]; omega
  refine ⟨_, [.view (.int n), .view (.int g), .view (.tuple (cs.map Cell.d)), .own (.list (FL g cs (i + 1))), .view (.int (i : Nat)), .own (.int (E g cs (i + 1))), .dead, .dead, .dead], rfl, ?_, rfl⟩
  by_cases h0 : i = 0
  · subst h0
    have e0 : FL g cs 0 = [] := rfl
    have e1 : E g cs 0 = 0 := rfl
    rw [FL_snoc]
    simp only [e0, e1, List.nil_append, Int.cast_ofNat_Int] at ef ⊢
    simp [l1__law_edges, e0, ef]
  · have hne : FL g cs i ≠ [] := fun z => by
      have := FL_len (g := g) (cs := cs) (i := i)
      rw [z] at this
      exact h0 this.symm
    have r : ixD (.list (FL g cs i)) (.int (-1)) = some (.int (E g cs i)) := by
      show L2.atI _ _ = _
      rw [atI_last hne, List.getLast?_eq_getElem?, FL_len, FL_get (by omega), show i - 1 + 1 = i by omega]
    rw [FL_snoc]
    simp [l1__law_edges, hne, r, ef, hl]
theorem ledges_ok {n : Nat} {g : Int} {cs : List Cell} (n8 : n ≤ 8) (g0 : 0 ≤ g) (g1 : g ≤ 1000) (hf : ∀ c ∈ cs, c.f ≤ c.l) : D__law_edges [.int n, .int g, .tuple (cs.map Cell.d)] = .ok (.list (FL g cs n), .none) := by
  have er : rng1D [.int (n : Int)] = some ((List.range n).map fun (i : Nat) => PyData.int (i : Int)) := rng1_nat (by omega)
  obtain ⟨env2, e2, hI⟩ := for_rel (ks := [4, 5, 6, 7, 8]) (t := .nm 4) (b := l1__law_edges) (fun i env => env = EQ n g cs i) ((List.range n).map fun (i : Nat) => PyData.int (i : Int)) 0 (EQ n g cs 0) rfl (by
    rintro i d env hd rfl
    have hi : i < n := by simpa using (List.getElem?_eq_some_iff.mp hd).1
    have ed : d = .int (i : Nat) := by
      rw [List.getElem?_map, List.getElem?_range hi] at hd
      exact (Option.some.inj hd).symm
    subst ed
    rw [Nat.zero_add]
    obtain ⟨e1, e3, h1, h2, h3⟩ := ledges_turn (n := n) (g := g) (cs := cs) (i := i) (by omega) g0 g1 hf
    exact ⟨e1, e3, h1, .inl h2, h3⟩)
  simp only [List.length_map, List.length_range, Nat.zero_add] at hI
  subst hI
  simp only [EQ, show FL g cs 0 = [] from rfl] at e2
  simp [D__law_edges, denOf_is, argEnv, f__law_edges, er, e2]
theorem told_ok {n : Nat} {g : Int} {cs : List Cell} (n1 : 1 ≤ n) (n8 : n ≤ 8) (g0 : 0 ≤ g) (g1 : g ≤ 1000) (hf : ∀ c ∈ cs, c.f ≤ c.l) :
    D__law_told [.int n, .int g, .tuple (cs.map Cell.d)] = .ok (.tuple [.int (E g cs n + g * ((n : Int) - 1)), .tuple ((WD g cs n).map PyData.int)], .none) := by
  have er : rng1D [.int (n : Int)] = some ((List.range n).map fun (i : Nat) => PyData.int (i : Int)) := rng1_nat (by omega)
  have r : ∀ i, i < n → ixD (.list (FL g cs n)) (.int (i : Nat)) = some (.int (E g cs (i + 1))) := fun i hi => by rw [ixD_list, FL_get hi]
  have hne : FL g cs n ≠ [] := fun z => by
    have := FL_len (g := g) (cs := cs) (i := n)
    rw [z] at this
    simp at this
    omega
  have rl : ixD (.list (FL g cs n)) (.int (-1)) = some (.int (E g cs n)) := by
    show L2.atI _ _ = _
    rw [atI_last hne, List.getLast?_eq_getElem?, FL_len, FL_get (by omega), show n - 1 + 1 = n by omega]
  have e : eLc [5] (.nm 5) (iFn rng1D (aCons (eRead 0) aNil)) tYesE (eBin subD (eIx (eRead 3) (eRead 5)) (eIf (eT (eBin gtD (eRead 5) (eC (.int 0)))) (eImm (eIx (eRead 3) (eBin subD (eRead 5) (eC (.int 1))))) (eC (.int 0)))) [.view (.int n), .view (.int g), .view (.tuple (cs.map Cell.d)), .own (.list (FL g cs n)), .dead, .dead] =
      .ok (.list ((List.range n).map fun i => .int (E g cs (i + 1) - E g cs i)), [.view (.int n), .view (.int g), .view (.tuple (cs.map Cell.d)), .own (.list (FL g cs n)), .dead, .dead]) :=
    lc_map (fun (i : Nat) => PyData.int (i : Int)) (fun i => .int (E g cs (i + 1) - E g cs i)) (by simp [er]) (by simp; omega) fun i hi => ⟨_, rfl, by
      have hi' : i < n := by simpa using hi
      by_cases h0 : i = 0
      · subst h0
        have := r 0 hi'
        simp only [Int.natCast_zero] at this
        simp [this]
      · have h3 : (0 : Int) < (i : Nat) := by omega
        have q : ixD (.list (FL g cs n)) (.int ((i : Int) - 1)) = some (.int (E g cs i)) := by
          have e : ((i : Int) - 1) = ((i - 1 : Nat) : Int) := by omega
          rw [e, r (i - 1) (by omega), show i - 1 + 1 = i by omega]
        simp [r i hi', show 0 < i by omega, q]⟩
  have w : (List.range n).map (fun i => PyData.int (E g cs (i + 1) - E g cs i)) = (WD g cs n).map PyData.int := by simp [WD]
  rw [w] at e
  simp [D__law_told, denOf_is, argEnv, f__law_told, ledges_ok n8 g0 g1 hf, e, tupleD_list immL_ints, rl, mulD_l (i := g) (by omega) (by omega)]
end FnT
end
section
set_option Elab.async false
set_option linter.all false
set_option maxRecDepth 100000
namespace FnT
open PySem PySem.Spec DV M61
/-! widths, accepted -/
theorem WD_len {g : Int} {cs : List Cell} {n : Nat} : (WD g cs n).length = n := by simp [WD]
theorem WD_snoc {g : Int} {cs : List Cell} {n : Nat} : WD g cs (n + 1) = WD g cs n ++ [E g cs (n + 1) - E g cs n] := by simp [WD, List.range_succ]
theorem WD_sum {g : Int} {cs : List Cell} {n : Nat} : (WD g cs n).sum = E g cs n := by
  induction n with
  | zero => rfl
  | succ n ih => rw [WD_snoc, List.sum_append, ih]; simp; omega
theorem WD_take {g : Int} {cs : List Cell} {n k : Nat} (h : k ≤ n) : (WD g cs n).take k = WD g cs k := by
  unfold WD
  rw [← List.map_take, List.take_range, Nat.min_eq_left h]
theorem WD_part {g : Int} {cs : List Cell} {n a b : Nat} (h1 : a ≤ b) (h2 : b ≤ n) : (((WD g cs n).drop a).take (b - a)).sum = E g cs b - E g cs a := by
  have e : (WD g cs n).take b = (WD g cs n).take a ++ ((WD g cs n).drop a).take (b - a) := by
    rw [← List.take_append_drop a ((WD g cs n).take b), List.take_take, Nat.min_eq_left h1, List.drop_take]
  have := congrArg List.sum e
  rw [List.sum_append, WD_take h2, WD_take (by omega), WD_sum, WD_sum] at this
  omega
theorem accept_turn {n : Nat} {g : Int} {cs : List Cell} {c : Cell} (a b d e : Slot) (h : ∀ c ∈ cs, c.Fit n) (hc : c ∈ cs) : ∃ e1 e2, bindV (.tp ((.nm 5) :: ((.nm 6) :: ((.nm 7) :: [])))) (needD g c) [a, b, d, e, .view (.tuple ((WD g cs n).map PyData.int)), .dead, .dead, .dead, .dead] = some e1 ∧ l0_accept_widths e1 = .ok (.nx e2) ∧ killS [5, 6, 7] e2 = [a, b, d, e, .view (.tuple ((WD g cs n).map PyData.int)), .dead, .dead, .dead, .dead] := by
  have hf := (h c hc).fl
  have hn := (h c hc).ln
  have hE : E g cs c.f + need g c ≤ E g cs (c.l + 1) := E_cell (fun c hc => (h c hc).fl) hc
  have e1 : sliceD (.tuple ((WD g cs n).map PyData.int)) (some (c.f : Nat)) (some ((c.l : Int) + 1)) = some (.tuple ((((WD g cs n).drop c.f).take (c.l + 1 - c.f)).map PyData.int)) := by
    rw [slice_tuple immL_ints]
    have : ((c.l : Int) + 1) = ((c.l + 1 : Nat) : Int) := by omega
    rw [this, cut_map, cut_nat (by rw [WD_len]; omega)]
  have e2 : ¬ ((((WD g cs n).drop c.f).take (c.l + 1 - c.f)).sum < need g c) := by
    rw [WD_part (by omega) (by omega)]
    omega
  obtain ⟨P, hP⟩ : ∃ P, (((WD g cs n).drop c.f).take (c.l + 1 - c.f)) = P := ⟨_, rfl⟩
  rw [hP] at e1 e2
  refine ⟨_, [a, b, d, e, .view (.tuple ((WD g cs n).map PyData.int)), .view (.int c.f), .view (.int ((c.l : Int) + 1)), .view (.int (need g c)), .dead], rfl, ?_, ?_⟩
  · simp [l0_accept_widths, e1, sumD_intsT, e2]
  · simp
theorem accept_widths_ok {n : Nat} {g : Int} {cs : List Cell} (n1 : 1 ≤ n) (n8 : n ≤ 8) (g0 : 0 ≤ g) (g1 : g ≤ 1000) (hl : cs.length ≤ 60) (h : ∀ c ∈ cs, c.Fit n) :
    D_accept_widths [.int n, .int g, .tuple (cs.map Cell.d), .int (E g cs n + g * ((n : Int) - 1)), .tuple ((WD g cs n).map PyData.int)] = .ok (.none, .none) := by
  let env : DV.Env := [.view (.int n), .view (.int g), .view (.tuple (cs.map Cell.d)), .view (.int (E g cs n + g * ((n : Int) - 1))), .view (.tuple ((WD g cs n).map PyData.int)), .dead, .dead, .dead, .dead]
  have hf : ∀ c ∈ cs, c.f ≤ c.l := fun c hc => (h c hc).fl
  have e : eLc [8] (.nm 8) (iTpl (eReadP 4)) tYesE (eAnd (eFn 1 (D_is_integer) (aCons (eRead 8) aNil)) (eBin geD (eRead 8) (eC (.int 0)))) env = .ok (.list ((WD g cs n).map fun _ => .bool true), env) :=
    lc_map PyData.int (fun _ => .bool true) (by simp [env]) (by rw [WD_len]; omega) fun x hx => ⟨_, rfl, by
      have hx' : 0 ≤ x := by
        obtain ⟨i, _, rfl⟩ := List.mem_map.mp hx
        have := E_mono1 (g := g) (n := i) hf
        omega
      simp [is_integer_int, hx', env]⟩
  have ef := (for_fold (ks := [5, 6, 7]) (t := .tp ((.nm 5) :: ((.nm 6) :: ((.nm 7) :: [])))) (b := l0_accept_widths) (E := fun _ : Unit => env) (J := fun _ => True) (step := fun _ _ => ()) (needD g) cs env () rfl trivial
    fun _ _ c hc => by
      obtain ⟨e1, e2, h1, h2, h3⟩ := accept_turn (.view (.int n)) (.view (.int g)) (.view (.tuple (cs.map Cell.d))) (.view (.int (E g cs n + g * ((n : Int) - 1)))) h hc
      exact ⟨e1, e2, h1, .inl h2, h3, trivial⟩).1
  simp only [env] at e ef
  have p1 : PyData.plainAll ((WD g cs n).map PyData.int) = true := by
    have : ∀ ns : List Int, PyData.plainAll (ns.map PyData.int) = true := fun ns => by
      induction ns with
      | nil => simp [PyData.plainAll]
      | cons c cs ih => simp [PyData.plainAll, ih]
    exact this _
  have gn : 0 ≤ g * ((n : Int) - 1) := Int.mul_nonneg g0 (by omega)
  simp [D_accept_widths, denOf_is, argEnv, f_accept_widths, check_ok n1 n8 g0 g1 hl h, is_integer_int, PyData.plain, p1, WD_len, e, allD_true, needs_ok g0 g1 (by omega : cs.length ≤ 200), ef, sumD_intsT, WD_sum, mulD_l (i := g) (by omega) (by omega)]
/-! the told row -/
abbrev ER (n : Nat) (g : Int) (cs : List Cell) (acc : List Nat) (e : Nat) : DV.Env := [.view (.int n), .view (.int g), .view (.tuple (cs.map Cell.d)), .own (.list ((EL g cs n).map PyData.int)), .own (.list (WL g cs n)), .own (.list (acc.map fun (k : Nat) => PyData.int (k : Int))), .own (.int (e : Nat))]
theorem WL_get {g : Int} {cs : List Cell} {n i : Nat} (h : i < n) : ixD (.list (WL g cs n)) (.int ((i : Int) + 1)) = some (optD (PS g cs i).2) := by
  have : ((i : Int) + 1) = ((i + 1 : Nat) : Int) := by omega
  rw [this, ixD_list]
  simp [WL, h]
theorem row_loop {n : Nat} {g : Int} {cs : List Cell} (hf : ∀ c ∈ cs, c.f ≤ c.l) : ∀ (e : Nat), e ≤ n → ∀ (acc : List Nat), acc.length + e ≤ 100 → ∃ ks, Row g cs e ks ∧ sWhile [] (eT (eBin gtD (eRead 6) (eC (.int 0)))) l0_row_of_cells (ER n g cs acc e) = .ok (.nx (ER n g cs (acc ++ ks) 0)) := fun e => by
  induction e using Nat.strongRecOn with
  | _ e ih =>
    intro he acc hz
    rw [sWhile_eq]
    cases e with
    | zero => exact ⟨[], .nil, by simp [ER]⟩
    | succ e =>
      have hw := WL_get (g := g) (cs := cs) (n := n) (i := e) (by omega)
      have hp := PS_snd (g := g) (cs := cs) (n := e)
      have hz' : acc.length < 16000000 := by omega
      cases ew : (PS g cs e).2 with
      | none =>
        rw [ew] at hp hw
        obtain ⟨ks, hr, hq⟩ := ih e (Nat.lt_succ_self _) (by omega) acc (by omega)
        refine ⟨ks, .skip (by rw [← PS_fst hf]; exact hp) hr, ?_⟩
        have body : l0_row_of_cells (ER n g cs acc (e + 1)) = .ok (.nx (ER n g cs acc e)) := by simp [ER, l0_row_of_cells, hw, optD]
        simp only [ER, Int.cast_ofNat_Int, Int.natCast_add] at hq body
        simp [ER, body, loopK, show (0 : Int) < (e : Int) + 1 by omega, hq]
      | some k =>
        rw [ew] at hp hw
        obtain ⟨c, hc, hl, hE⟩ := hp
        have hfl := hf c (List.mem_of_getElem? hc)
        obtain ⟨ks, hr, hq⟩ := ih c.f (by omega) (by omega) (acc ++ [k]) (by simp; omega)
        refine ⟨k :: ks, ?_, ?_⟩
        · subst hl
          exact .push hc (by rw [← PS_fst hf]; exact hE) hr
        · have r1 : ixD (.tuple (cs.map Cell.d)) (.int (k : Nat)) = some c.d := by
            rw [ixD_tuple, List.getElem?_map, hc]
            rfl
          have r2 : ixD c.d (.int 0) = some (.int c.f) := tix0
          have body : l0_row_of_cells (ER n g cs acc (e + 1)) = .ok (.nx (ER n g cs (acc ++ [k]) c.f)) := by simp [ER, l0_row_of_cells, hw, optD, hz', r1, r2]
          simp only [ER, List.append_assoc, List.singleton_append, List.map_append, List.map_cons, List.map_nil, Int.cast_ofNat_Int, Int.natCast_add] at hq body
          simp [ER, body, loopK, show (0 : Int) < (e : Int) + 1 by omega, hq]
theorem row_ok {n : Nat} {g : Int} {cs : List Cell} (n1 : 1 ≤ n) (n8 : n ≤ 8) (g0 : 0 ≤ g) (g1 : g ≤ 1000) (hl : cs.length ≤ 60) (h : ∀ c ∈ cs, c.Fit n) :
    ∃ ks, Row g cs n ks ∧ D_row_of_cells [.int n, .int g, .tuple (cs.map Cell.d)] = .ok (.tuple (ks.reverse.map fun (k : Nat) => PyData.int (k : Int)), .none) := by
  have hf : ∀ c ∈ cs, c.f ≤ c.l := fun c hc => (h c hc).fl
  obtain ⟨ks, hr, hq⟩ := row_loop (n := n) (g := g) hf n (Nat.le_refl _) [] (by simp; omega)
  refine ⟨ks, hr, ?_⟩
  simp only [ER, List.nil_append, List.map_nil, Int.cast_ofNat_Int] at hq
  have hi : immL (ks.map fun (k : Nat) => PyData.int (k : Int)) = true := immL_map fun _ _ => rfl
  have hi2 : immL (ks.reverse.map fun (k : Nat) => PyData.int (k : Int)) = true := immL_map fun _ _ => rfl
  have er : (ks.map fun (k : Nat) => PyData.int (k : Int)).reverse = ks.reverse.map fun (k : Nat) => PyData.int (k : Int) := by rw [List.map_reverse]
  have hi3 : immL (ks.map fun (k : Nat) => PyData.int (k : Int)).reverse = true := by rw [er]; exact hi2
  have hr1 : revD (.list (ks.map fun (k : Nat) => PyData.int (k : Int))) = some (.list (ks.reverse.map fun (k : Nat) => PyData.int (k : Int))) := by rw [← er]; exact if_pos hi
  simp [D_row_of_cells, denOf_is, argEnv, f_row_of_cells, -revD_list, check_ok n1 n8 g0 g1 hl h, edges_ok n8 g0 g1 (by omega : cs.length ≤ 200) hf, hq, hr1, tupleD_list hi3]
end FnT
end
section
set_option Elab.async false
set_option linter.all false
set_option maxRecDepth 100000
namespace FnT
open PySem PySem.Spec DV M61
/-- a row that stands apart, from left to right -/
structure RowOk (g : Int) (cs : List Cell) (n : Nat) (rs : List Nat) : Prop where
  len : rs.length ≤ n
  lt : ∀ k ∈ rs, k < cs.length
  sum : (rs.map fun k => need g (cellAt cs k)).sum = E g cs n
  ap : rs.Pairwise fun a b => (cellAt cs a).l < (cellAt cs b).f
theorem rowOk_of {g : Int} {cs : List Cell} {n : Nat} {ks : List Nat} (h : M61.Row g cs n ks) (hf : ∀ c ∈ cs, c.f ≤ c.l) : RowOk g cs n ks.reverse where
  len := by simpa using h.len hf
  lt := fun k hk => h.lt k (by simpa using hk)
  sum := by rw [List.map_reverse, List.sum_reverse]; exact h.sum
  ap := by
    rw [List.pairwise_reverse]
    exact h.apart hf
abbrev numD (k : Nat) : D := .int (k : Int)
theorem plain_ints (ns : List Int) : PyData.plainAll (ns.map PyData.int) = true := by
  induction ns with
  | nil => simp [PyData.plainAll]
  | cons c cs ih => simp [PyData.plainAll, ih]
theorem plain_nums (ns : List Nat) : PyData.plainAll (ns.map numD) = true := by
  induction ns with
  | nil => simp [PyData.plainAll]
  | cons c cs ih => simp [PyData.plainAll, ih]
theorem rng1_pred {m : Nat} (h : m < 1000) : rng1D [.int ((m : Int) - 1)] = some ((List.range (m - 1)).map fun (i : Nat) => PyData.int (i : Int)) := by
  have hs : sml ((m : Int) - 1) := ⟨by omega, by omega⟩
  show (if sml ((m : Int) - 1) then some (rng 0 ((m : Int) - 1).toNat) else none) = _
  rw [if_pos hs, rng_map]
  have : ((m : Int) - 1).toNat = m - 1 := by omega
  rw [this]
  simp
theorem cell_at {cs : List Cell} {k : Nat} (h : k < cs.length) : ixD (.tuple (cs.map Cell.d)) (.int (k : Nat)) = some (cellAt cs k).d := by
  rw [ixD_tuple, List.getElem?_map, List.getElem?_eq_getElem h, cellAt_of (List.getElem?_eq_getElem h)]
  rfl
theorem accept_row_ok {n : Nat} {g : Int} {cs : List Cell} {rs : List Nat} (n1 : 1 ≤ n) (n8 : n ≤ 8) (g0 : 0 ≤ g) (g1 : g ≤ 1000) (hl : cs.length ≤ 60) (h : ∀ c ∈ cs, c.Fit n) (hr : RowOk g cs n rs) :
    D_accept_row [.int n, .int g, .tuple (cs.map Cell.d), .int (E g cs n + g * ((n : Int) - 1)), .tuple (rs.map numD)] = .ok (.none, .none) := by
  let env : DV.Env := [.view (.int n), .view (.int g), .view (.tuple (cs.map Cell.d)), .view (.int (E g cs n + g * ((n : Int) - 1))), .view (.tuple (rs.map numD)), .dead, .dead, .dead, .dead, .dead, .dead, .dead]
  have hz : rs.length ≤ 16000000 := by have := hr.len; omega
  have e1 : eLc [7] (.nm 7) (iTpl (eReadP 4)) tYesE (eFn 1 (D_is_integer) (aCons (eRead 7) aNil)) env = .ok (.list (rs.map fun _ => .bool true), env) :=
    lc_map numD (fun _ => .bool true) (by simp [env]) hz fun x hx => ⟨_, rfl, by simp [is_integer_int, env]⟩
  have e2 : eLc [7] (.nm 7) (iTpl (eReadP 4)) tYesE (eChain (eC (.int 0)) (cLink leD (eRead 7) (cLast ltD (eCall lenD (aCons (eRead 2) aNil))))) env = .ok (.list (rs.map fun _ => .bool true), env) :=
    lc_map numD (fun _ => .bool true) (by simp [env]) hz fun x hx => ⟨_, rfl, by
      have := hr.lt x hx
      simp [env, this]⟩
  have e3 : eLc [7] (.nm 7) (iTpl (eReadP 4)) tYesE (eImm (eIx (eRead 2) (eRead 7))) env = .ok (.list (rs.map fun k => (cellAt cs k).d), env) :=
    lc_map numD (fun k => (cellAt cs k).d) (by simp [env]) hz fun x hx => ⟨_, rfl, by
      have := cell_at (hr.lt x hx)
      simp [env, this, imm_cell]⟩
  let L : List D := rs.map fun k => (cellAt cs k).d
  have hL : ∀ i, (hi : i < rs.length) → ixD (.list L) (.int (i : Nat)) = some (cellAt cs rs[i]).d := fun i hi => by
    rw [ixD_list]
    simp [L, hi]
  let env2 : DV.Env := [.view (.int n), .view (.int g), .view (.tuple (cs.map Cell.d)), .view (.int (E g cs n + g * ((n : Int) - 1))), .view (.tuple (rs.map numD)), .own (.list L), .dead, .dead, .dead, .dead, .dead, .dead]
  have e4 : eLc [8] (.nm 8) (iFn rng1D (aCons (eBin subD (eCall lenD (aCons (eRead 5) aNil)) (eC (.int 1))) aNil)) tYesE (eBin ltD (eIx (eIx (eRead 5) (eRead 8)) (eC (.int 1))) (eIx (eIx (eRead 5) (eBin addD (eRead 8) (eC (.int 1)))) (eC (.int 0)))) env2 = .ok (.list ((List.range (rs.length - 1)).map fun _ => .bool true), env2) :=
    lc_map (fun (i : Nat) => PyData.int (i : Int)) (fun _ => .bool true) (by
      have := rng1_pred (m := rs.length) (by have := hr.len; omega)
      simp [env2, L, this]) (by simp; omega) fun i hi => ⟨_, rfl, by
      have hi' : i < rs.length - 1 := by simpa using hi
      have a1 := hL i (by omega)
      have a2 := hL (i + 1) (by omega)
      have a3 : ((i + 1 : Nat) : Int) = (i : Int) + 1 := by omega
      rw [a3] at a2
      have ap : (cellAt cs rs[i]).l < (cellAt cs rs[i + 1]).f := (List.pairwise_iff_getElem.mp hr.ap) i (i + 1) (by omega) (by omega) (by omega)
      simp [env2, a1, a2, Cell.d, tix0, tix1, ap]⟩
  have hcs : L = ((rs.map fun k => cellAt cs k).map Cell.d) := by simp [L]
  have e5 : D_needs_of [.int g, .tuple L] = .ok (.list (rs.map fun k => needD g (cellAt cs k)), .none) := by
    rw [hcs, needs_ok g0 g1 (by have := hr.len; simp; omega)]
    simp
  let N : List D := rs.map fun k => needD g (cellAt cs k)
  let env3 : DV.Env := [.view (.int n), .view (.int g), .view (.tuple (cs.map Cell.d)), .view (.int (E g cs n + g * ((n : Int) - 1))), .view (.tuple (rs.map numD)), .own (.list L), .view (.list N), .dead, .dead, .dead, .dead, .dead]
  have e6 : eLc [11, 10, 9] (.tp ((.nm 11) :: ((.nm 10) :: ((.nm 9) :: [])))) (iLst (eReadP 6)) tYesE (eImm (eRead 9)) env3 = .ok (.list ((rs.map fun k => need g (cellAt cs k)).map PyData.int), env3) := by
    rw [List.map_map]
    exact lc_map (fun k => needD g (cellAt cs k)) (fun k => .int (need g (cellAt cs k))) (by simp [env3, N]) hz fun x hx => ⟨_, rfl, by simp [env3, needD]⟩
  have e7 : sumD [.list ((rs.map fun k => need g (cellAt cs k)).map PyData.int)] = some (.int (E g cs n)) := by rw [sumD_ints, hr.sum]
  have iL : immL L = true := immL_map fun _ _ => imm_cell
  have lL : (L.length : Int) = rs.length := by simp [L]
  simp only [env, env2, env3] at e1 e2 e3 e4 e6
  have eL : (rs.map fun k => (cellAt cs k).d) = L := rfl
  have eN : (rs.map fun k => needD g (cellAt cs k)) = N := rfl
  rw [eL] at e3
  rw [eN] at e5
  obtain ⟨S, hS⟩ : ∃ S, ((rs.map fun k => need g (cellAt cs k)).map PyData.int) = S := ⟨_, rfl⟩
  rw [hS] at e6 e7
  clear_value L N
  simp [D_accept_row, denOf_is, argEnv, f_accept_row, check_ok n1 n8 g0 g1 hl h, is_integer_int, PyData.plain, plain_nums, e1, e2, allD_true, e3, e4, e5, tupleD_list iL, e6, e7, mulD_l (i := g) (by omega) (by omega)]
theorem any_none {α : Type} {l : List α} {p : α → Bool} (h : ∀ x ∈ l, p x = false) : l.filter p = [] := List.filter_eq_nil_iff.mpr fun x hx => by simp [h x hx]
theorem row_holds_ok {n : Nat} {g : Int} {cs : List Cell} (n1 : 1 ≤ n) (n8 : n ≤ 8) (g0 : 0 ≤ g) (g1 : g ≤ 1000) (hl : cs.length ≤ 60) (h : ∀ c ∈ cs, c.Fit n) :
    D__law_row_holds [.int n, .int g, .tuple (cs.map Cell.d), .int (E g cs n + g * ((n : Int) - 1))] = .ok (.bool true, .none) := by
  have hf : ∀ c ∈ cs, c.f ≤ c.l := fun c hc => (h c hc).fl
  obtain ⟨ks, hk, er⟩ := row_ok n1 n8 g0 g1 hl h
  have hr := rowOk_of hk hf
  obtain ⟨rs, hrs⟩ : ∃ rs, ks.reverse = rs := ⟨_, rfl⟩
  rw [hrs] at er hr
  have hz : rs.length ≤ 16000000 := by have := hr.len; omega
  let env : DV.Env := [.view (.int n), .view (.int g), .view (.tuple (cs.map Cell.d)), .view (.int (E g cs n + g * ((n : Int) - 1))), .own (.tuple (rs.map numD)), .dead, .dead]
  have iN : immL (rs.map numD) = true := immL_map fun _ _ => rfl
  have rix : ∀ i (hi : i < rs.length), ixD (.tuple (rs.map numD)) (.int (i : Nat)) = some (numD rs[i]) := fun i hi => by
    rw [ixD_tuple]
    simp [hi]
  have e1 : eLc [6] (.nm 6) (iTpl (eReadP 4)) (tOrE (tNotE (eTru (eIs PyData.isInt (eRead 6)))) (tNotE (tChain (eC (.int 0)) (cLink leD (eRead 6) (cLast ltD (eCall lenD (aCons (eRead 2) aNil))))))) (eImm (eRead 6)) env = .ok (.list [], env) := by
    have := lc_pure (vs := [6]) (t := .nm 6) (it := iTpl (eReadP 4)) (c := tOrE (tNotE (eTru (eIs PyData.isInt (eRead 6)))) (tNotE (tChain (eC (.int 0)) (cLink leD (eRead 6) (cLast ltD (eCall lenD (aCons (eRead 2) aNil))))))) (e := eImm (eRead 6)) (env := env) (xs := rs) numD numD (fun _ => false) (by simp [env, iN]) hz (fun x hx => ⟨_, rfl, by
      have := hr.lt x hx
      simp [env, this], fun z => nomatch z⟩)
    rw [this, any_none fun _ _ => rfl]
    rfl
  have e2 : eLc [6] (.nm 6) (iFn rng2D (aCons (eC (.int 1)) (aCons (eCall lenD (aCons (eRead 4) aNil)) aNil))) (eT (eBin geD (eIx (eIx (eRead 2) (eIx (eRead 4) (eBin subD (eRead 6) (eC (.int 1))))) (eC (.int 1))) (eIx (eIx (eRead 2) (eIx (eRead 4) (eRead 6))) (eC (.int 0))))) (eImm (eRead 6)) env = .ok (.list [], env) := by
    have r2 : rng2D [.int 1, .int (rs.length : Nat)] = some ((List.range (rs.length - 1)).map fun (i : Nat) => PyData.int ((i : Int) + 1)) := by
      have hs : sml (1 : Int) ∧ sml (rs.length : Int) := ⟨⟨by omega, by omega⟩, ⟨by omega, by have := hr.len; omega⟩⟩
      show (if sml (1 : Int) ∧ sml (rs.length : Int) then some (rng 1 ((rs.length : Int) - 1).toNat) else none) = _
      rw [if_pos hs, rng_map]
      have : ((rs.length : Int) - 1).toNat = rs.length - 1 := by omega
      rw [this]
      refine congrArg some (List.map_congr_left fun i _ => congrArg PyData.int ?_)
      omega
    have := lc_pure (vs := [6]) (t := .nm 6) (it := iFn rng2D (aCons (eC (.int 1)) (aCons (eCall lenD (aCons (eRead 4) aNil)) aNil))) (c := eT (eBin geD (eIx (eIx (eRead 2) (eIx (eRead 4) (eBin subD (eRead 6) (eC (.int 1))))) (eC (.int 1))) (eIx (eIx (eRead 2) (eIx (eRead 4) (eRead 6))) (eC (.int 0))))) (e := eImm (eRead 6)) (env := env) (xs := List.range (rs.length - 1)) (fun (i : Nat) => PyData.int ((i : Int) + 1)) (fun (i : Nat) => PyData.int ((i : Int) + 1)) (fun _ => false) (by simp [env, r2]) (by simp; omega) (fun i hi => ⟨_, rfl, by
      have hi' : i < rs.length - 1 := by simpa using hi
      have a1 := rix i (by omega)
      have a2 := rix (i + 1) (by omega)
      have a3 : ((i + 1 : Nat) : Int) = (i : Int) + 1 := by omega
      rw [a3] at a2
      have c1 := cell_at (hr.lt rs[i] (List.getElem_mem _))
      have c2 := cell_at (hr.lt rs[i + 1] (List.getElem_mem _))
      have ap : (cellAt cs rs[i]).l < (cellAt cs rs[i + 1]).f := (List.pairwise_iff_getElem.mp hr.ap) i (i + 1) (by omega) (by omega) (by omega)
      have ap' : ¬ (cellAt cs rs[i + 1]).f ≤ (cellAt cs rs[i]).l := by omega
      simp [env, a1, a2, c1, c2, Cell.d, tix0, tix1, ap'], fun z => nomatch z⟩)
    rw [this, any_none fun _ _ => rfl]
    rfl
  have e3 : eLc [6] (.nm 6) (iTpl (eReadP 4)) tYesE (eCall maxD1 (aCons (eLst (aCons (eC (.int 0)) (aCons (eBin subD (eIx (eIx (eRead 2) (eRead 6)) (eC (.int 2))) (eBin mulD (eRead 1) (eBin subD (eIx (eIx (eRead 2) (eRead 6)) (eC (.int 1))) (eIx (eIx (eRead 2) (eRead 6)) (eC (.int 0)))))) aNil))) aNil)) env = .ok (.list ((rs.map fun k => need g (cellAt cs k)).map PyData.int), env) := by
    rw [List.map_map]
    exact lc_map numD (fun k => .int (need g (cellAt cs k))) (by simp [env, iN]) hz fun x hx => ⟨_, rfl, by
      have c1 := cell_at (hr.lt x hx)
      simp [env, c1, Cell.d, tix0, tix1, tix2, need, mulD_l (i := g) (by omega) (by omega)]⟩
  have e7 : sumD [.list ((rs.map fun k => need g (cellAt cs k)).map PyData.int)] = some (.int (E g cs n)) := by rw [sumD_ints, hr.sum]
  obtain ⟨S, hS⟩ : ∃ S, ((rs.map fun k => need g (cellAt cs k)).map PyData.int) = S := ⟨_, rfl⟩
  rw [hS] at e3 e7
  have ea := accept_row_ok n1 n8 g0 g1 hl h hr
  simp only [env] at e1 e2 e3
  have er' : D_row_of_cells [.int n, .int g, .tuple (cs.map Cell.d)] = .ok (.tuple (rs.map numD), .none) := er
  simp [D__law_row_holds, denOf_is, argEnv, f__law_row_holds, er', PyData.plain, plain_nums, e1, e2, e3, e7, ea, mulD_l (i := g) (by omega) (by omega)]
end FnT
end
section
set_option Elab.async false
set_option linter.all false
set_option maxRecDepth 100000
namespace FnT
open PySem PySem.Spec DV M61
/-! what is left, shared -/
theorem need_le {n : Nat} {g : Int} {c : Cell} (g0 : 0 ≤ g) (h : c.Fit n) : need g c ≤ 20000 := by
  have h1 := h.w1
  have h2 := h.w0
  have h3 := h.fl
  have : 0 ≤ g * ((c.l : Int) - c.f) := Int.mul_nonneg g0 (by omega)
  unfold need
  omega
theorem E_le {n : Nat} {g : Int} {cs : List Cell} (g0 : 0 ≤ g) (h : ∀ c ∈ cs, c.Fit n) (i : Nat) : E g cs i ≤ i * 20000 := by
  refine E_least (x := fun i => (i : Int) * 20000) (n := i) (fun c hc => (h c hc).fl) (by simp) (fun j _ => by omega) (fun c hc _ => ?_) i (Nat.le_refl _)
  have h1 := need_le g0 (h c hc)
  have h2 := (h c hc).fl
  omega
def WS (g : Int) (cs : List Cell) (n : Nat) : List Int := if 0 < E g cs n then WD g cs n else List.replicate n 1
theorem WS_len {g : Int} {cs : List Cell} {n : Nat} : (WS g cs n).length = n := by
  unfold WS
  split
  · exact WD_len
  · simp
theorem rep_sum : ∀ n : Nat, (List.replicate n (1 : Int)).sum = n
  | 0 => rfl
  | n + 1 => by rw [List.replicate_succ, List.sum_cons, rep_sum n]; omega
theorem WS_sum {g : Int} {cs : List Cell} {n : Nat} (g0 : 0 ≤ g) (n1 : 1 ≤ n) (n8 : n ≤ 8) (h : ∀ c ∈ cs, c.Fit n) : 0 < (WS g cs n).sum ∧ (WS g cs n).sum < 1073741824 := by
  have := E_le g0 h n
  unfold WS
  split
  · rw [WD_sum]
    omega
  · rw [rep_sum]
    omega
def part (g : Int) (cs : List Cell) (n : Nat) (v : Int) (k : Nat) : Int := v * ((WS g cs n).take k).sum / (WS g cs n).sum
def shr (g : Int) (cs : List Cell) (n : Nat) (v : Int) (i : Nat) : Int := E g cs (i + 1) - E g cs i + part g cs n v (i + 1) - part g cs n v i
def SH (g : Int) (cs : List Cell) (n : Nat) (v : Int) : D := .tuple (((List.range n).map (shr g cs n v)).map PyData.int)
theorem part_zero {g : Int} {cs : List Cell} {n : Nat} {v : Int} : part g cs n v 0 = 0 := by simp [part]
abbrev least (g : Int) (cs : List Cell) (n : Nat) : Int := E g cs n + g * ((n : Int) - 1)
theorem weights_ok {g : Int} {cs : List Cell} {n : Nat} (n1 : 1 ≤ n) (n8 : n ≤ 8) (a b d e : Slot) (rest : DV.Env) :
    (eIf (eT (eBin gtD (eCall sumD (aCons (eRead 5) aNil)) (eC (.int 0)))) (eImm (eRead 5)) (eBin mulD (eTup (aCons (eC (.int 1)) aNil)) (eRead 0))) (.view (.int n) :: a :: b :: d :: e :: .own (.tuple ((WD g cs n).map PyData.int)) :: rest) =
      .ok (.tuple ((WS g cs n).map PyData.int), .view (.int n) :: a :: b :: d :: e :: .own (.tuple ((WD g cs n).map PyData.int)) :: rest) := by
  have m : mulD (.tuple [.int 1]) (.int (n : Nat)) = some (.tuple (List.replicate n (.int 1))) := by
    have hh : immL [PyData.int 1] = true ∧ [PyData.int 1] ≠ [] ∧ [PyData.int 1].length ≤ 1000 ∧ 1 ≤ ((n : Nat) : Int) ∧ ((n : Nat) : Int) ≤ 1000 := ⟨rfl, by simp, by simp, by omega, by omega⟩
    have e : mulD (.tuple [.int 1]) (.int (n : Nat)) = if immL [PyData.int 1] = true ∧ [PyData.int 1] ≠ [] ∧ [PyData.int 1].length ≤ 1000 ∧ 1 ≤ ((n : Nat) : Int) ∧ ((n : Nat) : Int) ≤ 1000 then some (.tuple (List.replicate ((n : Nat) : Int).toNat [PyData.int 1]).flatten) else none := by
      unfold mulD
      rfl
    rw [e, if_pos hh]
    simp
  unfold WS
  by_cases h : 0 < E g cs n
  · rw [if_pos h]
    simp [sumD_intsT, WD_sum, h]
  · rw [if_neg h]
    simp [sumD_intsT, WD_sum, h, m]
theorem share_turn {g : Int} {cs : List Cell} {n i : Nat} {v w l : Int} (g0 : 0 ≤ g) (n1 : 1 ≤ n) (n8 : n ≤ 8) (h : ∀ c ∈ cs, c.Fit n) (hi : i < n) (hv : w - l = v) (v0 : 0 ≤ v) (v1 : v ≤ 200000) (a b d : Slot) : ∃ e1 e2,
    bindV (.tp ((.nm 10) :: ((.nm 11) :: []))) (.tuple [.int (E g cs (i + 1) - E g cs i), .int ((WS g cs n)[i]'(by rw [WS_len]; exact hi))]) [a, b, d, .view (.int w), .own (.int l), .own (.tuple ((WD g cs n).map PyData.int)), .own (.tuple ((WS g cs n).map PyData.int)), .own (.list (((List.range i).map (shr g cs n v)).map PyData.int)), .own (.int (part g cs n v i)), .own (.int ((WS g cs n).take i).sum), .dead, .dead, .dead] = some e1 ∧
    l0_shared_widths e1 = .ok (.nx e2) ∧ killS [10, 11, 12] e2 = [a, b, d, .view (.int w), .own (.int l), .own (.tuple ((WD g cs n).map PyData.int)), .own (.tuple ((WS g cs n).map PyData.int)), .own (.list (((List.range (i + 1)).map (shr g cs n v)).map PyData.int)), .own (.int (part g cs n v (i + 1))), .own (.int ((WS g cs n).take (i + 1)).sum), .dead, .dead, .dead] := by
  have hw : i < (WS g cs n).length := by rw [WS_len]; exact hi
  have hs : ((WS g cs n).take (i + 1)).sum = ((WS g cs n).take i).sum + (WS g cs n)[i] := by
    rw [List.take_succ_eq_append_getElem hw, List.sum_append]
    simp
  have T := WS_sum g0 n1 n8 h
  have sw : sumD [.tuple ((WS g cs n).map PyData.int)] = some (.int (WS g cs n).sum) := sumD_intsT
  have hp : part g cs n v (i + 1) = v * (((WS g cs n).take i).sum + (WS g cs n)[i]) / (WS g cs n).sum := by unfold part; rw [hs]
  have hr : (List.range (i + 1)).map (shr g cs n v) = (List.range i).map (shr g cs n v) ++ [E g cs (i + 1) - E g cs i + part g cs n v (i + 1) - part g cs n v i] := by rw [List.range_succ]; simp [shr]
  refine ⟨_, [a, b, d, .view (.int w), .own (.int l), .own (.tuple ((WD g cs n).map PyData.int)), .own (.tuple ((WS g cs n).map PyData.int)), .own (.list (((List.range (i + 1)).map (shr g cs n v)).map PyData.int)), .own (.int (part g cs n v (i + 1))), .own (.int ((WS g cs n).take (i + 1)).sum), .view (.int (E g cs (i + 1) - E g cs i)), .view (.int (WS g cs n)[i]), .own (.int (part g cs n v (i + 1)))], rfl, ?_, by simp⟩
  rw [hr, hs]
  have hz : ((List.range i).map (shr g cs n v)).length < 16000000 := by simp; omega
  obtain ⟨L, hL⟩ : ∃ L, (List.range i).map (shr g cs n v) = L := ⟨_, rfl⟩
  rw [hL] at hz ⊢
  obtain ⟨q, hq⟩ : ∃ q, (WS g cs n)[i] = q := ⟨_, rfl⟩
  rw [hq] at hp ⊢
  simp [l0_shared_widths, sw, hv, mulD_l (i := v) (by omega) (by omega), fdivD_int T.1 T.2, hz, ← hp]
def shared (g : Int) (cs : List Cell) (n : Nat) (w : Int) : D := if w < least g cs n then .none else SH g cs n (w - least g cs n)
theorem shared_ok {n : Nat} {g : Int} {cs : List Cell} {w : Int} (n1 : 1 ≤ n) (n8 : n ≤ 8) (g0 : 0 ≤ g) (g1 : g ≤ 1000) (hl : cs.length ≤ 60) (h : ∀ c ∈ cs, c.Fit n) (w0 : 0 ≤ w) (w1 : w ≤ 200000) :
    D_shared_widths [.int n, .int g, .tuple (cs.map Cell.d), .int w] = .ok (shared g cs n w, .none) := by
  have hf : ∀ c ∈ cs, c.f ≤ c.l := fun c hc => (h c hc).fl
  have hle := least_ok n1 n8 g0 g1 hl h
  have l0 : 0 ≤ least g cs n := by
    have := E_nn (g := g) (n := n) hf
    have : 0 ≤ g * ((n : Int) - 1) := Int.mul_nonneg g0 (by omega)
    unfold least
    omega
  unfold shared
  have hle : D_least_width [.int n, .int g, .tuple (cs.map Cell.d)] = .ok (.tuple [.int (least g cs n), .tuple ((WD g cs n).map PyData.int)], .none) := hle
  obtain ⟨l, el⟩ : ∃ l, least g cs n = l := ⟨_, rfl⟩
  rw [el] at hle l0 ⊢
  by_cases c : w < l
  · rw [if_pos c]
    simp [D_shared_widths, denOf_is, argEnv, f_shared_widths, check_ok n1 n8 g0 g1 hl h, is_integer_int, w0, show w ≤ 200000 from w1, hle, c, mulD_l (i := 2) (by omega) (by omega)]
  · rw [if_neg c]
    have v0 : 0 ≤ w - l := by omega
    have v1 : w - l ≤ 200000 := by omega
    obtain ⟨v, ev⟩ : ∃ v, w - l = v := ⟨_, rfl⟩
    rw [ev] at v0 v1 ⊢
    let I : Nat → DV.Env → Prop := fun i env => env = [.view (.int n), .view (.int g), .view (.tuple (cs.map Cell.d)), .view (.int w), .own (.int l), .own (.tuple ((WD g cs n).map PyData.int)), .own (.tuple ((WS g cs n).map PyData.int)), .own (.list (((List.range i).map (shr g cs n v)).map PyData.int)), .own (.int (part g cs n v i)), .own (.int ((WS g cs n).take i).sum), .dead, .dead, .dead]
    let Z : List D := (((WD g cs n).map PyData.int).zip ((WS g cs n).map PyData.int)).map fun x => .tuple [x.1, x.2]
    have zl : Z.length = n := by simp [Z, WD_len, WS_len]
    obtain ⟨env2, ef, hI⟩ := for_rel (ks := [10, 11, 12]) (t := .tp ((.nm 10) :: ((.nm 11) :: []))) (b := l0_shared_widths) I Z 0 [.view (.int n), .view (.int g), .view (.tuple (cs.map Cell.d)), .view (.int w), .own (.int l), .own (.tuple ((WD g cs n).map PyData.int)), .own (.tuple ((WS g cs n).map PyData.int)), .own (.list []), .own (.int 0), .own (.int 0), .dead, .dead, .dead] (by simp [I, part_zero]) (by
      rintro i d env hd rfl
      have hi : i < n := by rw [← zl]; exact (List.getElem?_eq_some_iff.mp hd).1
      have ed : d = .tuple [.int (E g cs (i + 1) - E g cs i), .int ((WS g cs n)[i]'(by rw [WS_len]; exact hi))] := by
        have hw : i < (WS g cs n).length := by rw [WS_len]; exact hi
        have : Z[i]? = some (.tuple [.int (E g cs (i + 1) - E g cs i), .int (WS g cs n)[i]]) := by
          simp [Z, List.zip, List.getElem?_zipWith, WD, hi, hw]
        rw [this] at hd
        exact (Option.some.inj hd).symm
      subst ed
      obtain ⟨e1, e2, h1, h2, h3⟩ := share_turn (w := w) (l := l) g0 n1 n8 h hi ev v0 v1 (.view (.int n)) (.view (.int g)) (.view (.tuple (cs.map Cell.d)))
      exact ⟨e1, e2, by simpa using h1, .inl h2, by simpa [I] using h3⟩)
    rw [zl, Nat.zero_add] at hI
    subst hI
    have ez : zipD [.tuple ((WD g cs n).map PyData.int), .tuple ((WS g cs n).map PyData.int)] = some Z := rfl
    have wo := weights_ok (g := g) (cs := cs) n1 n8
    have iw : immL ((WD g cs n).map PyData.int) = true := immL_ints
    have is : immL ((WS g cs n).map PyData.int) = true := immL_ints
    unfold SH
    obtain ⟨L, hL⟩ : ∃ L, (List.range n).map (shr g cs n v) = L := ⟨_, rfl⟩
    rw [hL] at ef ⊢
    clear_value Z
    have iL : immL (L.map PyData.int) = true := immL_ints
    obtain ⟨L', hL'⟩ : ∃ L', L.map PyData.int = L' := ⟨_, rfl⟩
    rw [hL'] at ef iL ⊢
    simp [D_shared_widths, denOf_is, argEnv, f_shared_widths, check_ok n1 n8 g0 g1 hl h, is_integer_int, w0, show w ≤ 200000 from w1, hle, c, mulD_l (i := 2) (by omega) (by omega), -eIf_is, wo, ez, iw, is, ef, tupleD_list iL]
theorem law_shared_ok {n : Nat} {g : Int} {cs : List Cell} {w : Int} (n1 : 1 ≤ n) (n8 : n ≤ 8) (g0 : 0 ≤ g) (g1 : g ≤ 1000) (h : ∀ c ∈ cs, c.Fit n) (w0 : 0 ≤ w) (w1 : w ≤ 200000) :
    D__law_shared [.int n, .int g, .tuple (cs.map Cell.d), .int w] = .ok (shared g cs n w, .none) := by
  have hf : ∀ c ∈ cs, c.f ≤ c.l := fun c hc => (h c hc).fl
  have hle := told_ok n1 n8 g0 g1 hf
  have l0 : 0 ≤ least g cs n := by
    have := E_nn (g := g) (n := n) hf
    have : 0 ≤ g * ((n : Int) - 1) := Int.mul_nonneg g0 (by omega)
    unfold least
    omega
  unfold shared
  have hle : D__law_told [.int n, .int g, .tuple (cs.map Cell.d)] = .ok (.tuple [.int (least g cs n), .tuple ((WD g cs n).map PyData.int)], .none) := hle
  obtain ⟨l, el⟩ : ∃ l, least g cs n = l := ⟨_, rfl⟩
  rw [el] at hle l0 ⊢
  by_cases c : w < l
  · rw [if_pos c]
    simp [D__law_shared, denOf_is, argEnv, f__law_shared, hle, c]
  · rw [if_neg c]
    have v0 : 0 ≤ w - l := by omega
    have v1 : w - l ≤ 200000 := by omega
    obtain ⟨v, ev⟩ : ∃ v, w - l = v := ⟨_, rfl⟩
    rw [ev] at v0 v1 ⊢
    have T := WS_sum g0 n1 n8 h
    have iw : immL ((WD g cs n).map PyData.int) = true := immL_ints
    have is : immL ((WS g cs n).map PyData.int) = true := immL_ints
    have wo := weights_ok (g := g) (cs := cs) n1 n8
    have sw : sumD [.tuple ((WS g cs n).map PyData.int)] = some (.int (WS g cs n).sum) := sumD_intsT
    have st : ∀ k : Nat, (sliceD (.tuple ((WS g cs n).map PyData.int)) none (some (k : Nat))) = some (.tuple (((WS g cs n).take k).map PyData.int)) := fun k => by
      rw [slice_tuple immL_ints, cut_map, cut_to]
    have er : rng1D [.int ((n : Int) + 1)] = some ((List.range (n + 1)).map fun (i : Nat) => PyData.int (i : Int)) := by
      have := rng1_nat (n := n + 1) (by omega)
      rwa [show ((n + 1 : Nat) : Int) = (n : Int) + 1 by omega] at this
    have er2 : rng1D [.int (n : Int)] = some ((List.range n).map fun (i : Nat) => PyData.int (i : Int)) := rng1_nat (by omega)
    let env : DV.Env := [.view (.int n), .view (.int g), .view (.tuple (cs.map Cell.d)), .view (.int w), .own (.int l), .own (.tuple ((WD g cs n).map PyData.int)), .own (.tuple ((WS g cs n).map PyData.int)), .dead, .dead]
    have e1 : eLc [8] (.nm 8) (iFn rng1D (aCons (eBin addD (eRead 0) (eC (.int 1))) aNil)) tYesE (eBin fdivD (eBin mulD (eBin subD (eRead 3) (eRead 4)) (eCall sumD (aCons (eSl (eRead 6) oNone (oSome (eRead 8))) aNil))) (eCall sumD (aCons (eRead 6) aNil))) env = .ok (.list ((List.range (n + 1)).map fun k => .int (part g cs n v k)), env) :=
      lc_map (fun (i : Nat) => PyData.int (i : Int)) (fun k => .int (part g cs n v k)) (by simp [env, er]) (by simp; omega) fun k hk => ⟨_, rfl, by
        have s2 : sumD [.tuple (((WS g cs n).take k).map PyData.int)] = some (.int ((WS g cs n).take k).sum) := sumD_intsT
        have st := st k
        obtain ⟨L, hL⟩ : ∃ L, ((WS g cs n).take k).map PyData.int = L := ⟨_, rfl⟩
        rw [hL] at st s2
        simp [env, st, s2, sw, ev, mulD_l (i := v) (by omega) (by omega), fdivD_int T.1 T.2, part]⟩
    let PL : List D := (List.range (n + 1)).map fun k => .int (part g cs n v k)
    have hP : ∀ k, k ≤ n → ixD (.list PL) (.int (k : Nat)) = some (.int (part g cs n v k)) := fun k hk => by
      rw [ixD_list]
      simp [PL, show k < n + 1 by omega]
    have hW : ∀ k, k < n → ixD (.tuple ((WD g cs n).map PyData.int)) (.int (k : Nat)) = some (.int (E g cs (k + 1) - E g cs k)) := fun k hk => by
      rw [ixD_tuple]
      simp [WD, hk]
    let env2 : DV.Env := [.view (.int n), .view (.int g), .view (.tuple (cs.map Cell.d)), .view (.int w), .own (.int l), .own (.tuple ((WD g cs n).map PyData.int)), .own (.tuple ((WS g cs n).map PyData.int)), .own (.list PL), .dead]
    have e2 : eLc [8] (.nm 8) (iFn rng1D (aCons (eRead 0) aNil)) tYesE (eBin subD (eBin addD (eIx (eRead 5) (eRead 8)) (eIx (eRead 7) (eBin addD (eRead 8) (eC (.int 1))))) (eIx (eRead 7) (eRead 8))) env2 = .ok (.list (((List.range n).map (shr g cs n v)).map PyData.int), env2) := by
      rw [List.map_map]
      exact lc_map (fun (i : Nat) => PyData.int (i : Int)) (fun k => .int (shr g cs n v k)) (by simp [env2, er2]) (by simp; omega) fun k hk => ⟨_, rfl, by
        have hk' : k < n := by simpa using hk
        have a1 := hP k (by omega)
        have a2 := hP (k + 1) (by omega)
        have a3 : ((k + 1 : Nat) : Int) = (k : Int) + 1 := by omega
        rw [a3] at a2
        have a4 := hW k hk'
        simp [env2, a1, a2, a4, shr]⟩
    have eP : ((List.range (n + 1)).map fun k => PyData.int (part g cs n v k)) = PL := rfl
    simp only [env, env2] at e1 e2
    rw [eP] at e1
    unfold SH
    obtain ⟨L, hL⟩ : ∃ L, (List.range n).map (shr g cs n v) = L := ⟨_, rfl⟩
    rw [hL] at e2 ⊢
    have iL : immL (L.map PyData.int) = true := immL_ints
    obtain ⟨L', hL'⟩ : ∃ L', L.map PyData.int = L' := ⟨_, rfl⟩
    rw [hL'] at e2 iL ⊢
    clear_value PL
    simp [D__law_shared, denOf_is, argEnv, f__law_shared, hle, c, -eIf_is, wo, e1, e2, tupleD_list iL]
end FnT
end
section
set_option Elab.async false
set_option linter.all false
set_option maxRecDepth 100000
namespace FnT
open PySem PySem.Spec DV M61
theorem seq_nx {s s' : Sv} {env env1 : DV.Env} (h : s env = .ok (.nx env1)) : sSeq s s' env = s' env1 := by simp [h]
/-- what a table's least width is told as -/
def lw (g : Int) (cs : List Cell) (n : Nat) : D := .tuple [.int (least g cs n), .tuple ((WD g cs n).map PyData.int)]
theorem least_lw {n : Nat} {g : Int} {cs : List Cell} (n1 : 1 ≤ n) (n8 : n ≤ 8) (g0 : 0 ≤ g) (g1 : g ≤ 1000) (hl : cs.length ≤ 60) (h : ∀ c ∈ cs, c.Fit n) : D_least_width [.int n, .int g, .tuple (cs.map Cell.d)] = .ok (lw g cs n, .none) := least_ok n1 n8 g0 g1 hl h
theorem least_bd {n : Nat} {g : Int} {cs : List Cell} (n1 : 1 ≤ n) (n8 : n ≤ 8) (g0 : 0 ≤ g) (g1 : g ≤ 1000) (h : ∀ c ∈ cs, c.Fit n) : 0 ≤ least g cs n ∧ least g cs n ≤ 170000 := by
  have a := E_le g0 h n
  have b := E_nn (g := g) (n := n) fun c hc => (h c hc).fl
  have c : 0 ≤ g * ((n : Int) - 1) := Int.mul_nonneg g0 (by omega)
  have d : g * ((n : Int) - 1) ≤ 1000 * ((n : Int) - 1) := Int.mul_le_mul_of_nonneg_right g1 (by omega)
  unfold least
  omega
theorem WD_bd {n : Nat} {g : Int} {cs : List Cell} (n8 : n ≤ 8) (g0 : 0 ≤ g) (h : ∀ c ∈ cs, c.Fit n) : ∀ x ∈ WD g cs n, 0 ≤ x ∧ x ≤ 160000 := by
  intro x hx
  obtain ⟨i, hi, rfl⟩ := List.mem_map.mp hx
  have hi' : i < n := by simpa using hi
  have a := E_le g0 h (i + 1)
  have b := E_nn (g := g) (n := i) fun c hc => (h c hc).fl
  have c := E_mono1 (g := g) (n := i) fun c hc => (h c hc).fl
  omega
theorem small_ints {l : List Int} (h : ∀ x ∈ l, x.natAbs < 10 ^ 20) : smallL (l.map PyData.int) = true := smallL_map fun x hx => by simpa using h x hx
theorem wt_ints {l : List Int} : wtL (l.map PyData.int) = l.length * 23 := by
  induction l with
  | nil => simp
  | cons x l ih => simp [ih]; omega
theorem dp_ints {l : List Int} : PyData.depthAll (l.map PyData.int) = 0 := depthAll_ints l
theorem lw_small {n : Nat} {g : Int} {cs : List Cell} (n1 : 1 ≤ n) (n8 : n ≤ 8) (g0 : 0 ≤ g) (g1 : g ≤ 1000) (h : ∀ c ∈ cs, c.Fit n) : smallD (lw g cs n) = true ∧ (lw g cs n).depth ≤ 10 ∧ wtD (lw g cs n) ≤ 1000 := by
  have a := least_bd n1 n8 g0 g1 h
  have b := WD_bd n8 g0 h
  refine ⟨?_, ?_, ?_⟩
  · have : smallL ((WD g cs n).map PyData.int) = true := small_ints fun x hx => by have := b x hx; omega
    simp [lw, this]
    omega
  · simp [lw, PyData.depth, PyData.depthAll, dp_ints]
  · simp [lw, wt_ints, WD_len]
    omega
theorem same_lw {n : Nat} {g : Int} {cs : List Cell} (n1 : 1 ≤ n) (n8 : n ≤ 8) (g0 : 0 ≤ g) (g1 : g ≤ 1000) (h : ∀ c ∈ cs, c.Fit n) : D__law_same [lw g cs n, lw g cs n] = .ok (.bool true, .none) := by
  have s := lw_small n1 n8 g0 g1 h
  exact same_ok s.1 (by omega) (by omega)
/-! turned, scaled -/
theorem turn_fit {n : Nat} {c : Cell} (h : c.Fit n) : (turn n c).Fit n := ⟨by have := h.fl; have := h.ln; simp only [turn]; omega, by have := h.ln; have := h.fl; simp only [turn]; omega, h.w0, h.w1⟩
theorem turn_d {n : Nat} {c : Cell} (h : c.Fit n) : (turn n c).d = .tuple [.int ((n : Int) - 1 - c.l), .int ((n : Int) - 1 - c.f), .int c.w] := by
  have := h.fl
  have := h.ln
  have e1 : ((n - 1 - c.l : Nat) : Int) = (n : Int) - 1 - c.l := by omega
  have e2 : ((n - 1 - c.f : Nat) : Int) = (n : Int) - 1 - c.f := by omega
  simp [turn, Cell.d, e1, e2]
theorem scale_fit {n : Nat} {c : Cell} {k : Int} (h : c.Ok n) (hn : n ≤ 8) (k0 : 0 ≤ k) (k1 : k ≤ 11) : (scale k c).Fit n := by
  have h1 := h.fl
  have h2 := h.ln
  have h3 := h.w0
  have h4 := h.w1
  refine ⟨h1, h2, Int.mul_nonneg h3 k0, ?_⟩
  show c.w * k ≤ 20000
  have a : c.w * k ≤ 1600 * k := Int.mul_le_mul_of_nonneg_right (by omega) k0
  omega
theorem least_turned {n : Nat} {g : Int} {cs : List Cell} (h : ∀ c ∈ cs, c.Fit n) : least g (cs.map (turn n)) n = least g cs n := by
  unfold least
  rw [turned_eq fun c hc => ⟨(h c hc).fl, (h c hc).ln⟩]
theorem lw_scaled {n : Nat} {g k : Int} {cs : List Cell} (hk : 0 ≤ k) (h : ∀ c ∈ cs, c.f ≤ c.l) : lw (g * k) (cs.map (scale k)) n = .tuple [.int (least g cs n * k), .tuple (((WD g cs n).map fun x => x * k).map PyData.int)] := by
  have e := scaled_eq (g := g) hk h
  have e1 : least (g * k) (cs.map (scale k)) n = least g cs n * k := by
    unfold least
    rw [e n, Int.add_mul, Int.mul_comm k, Int.mul_assoc, Int.mul_assoc, Int.mul_comm k]
  have e2 : WD (g * k) (cs.map (scale k)) n = (WD g cs n).map fun x => x * k := by
    unfold WD
    rw [List.map_map]
    refine List.map_congr_left fun i _ => ?_
    simp only [Function.comp]
    rw [e, e, Int.sub_mul, Int.mul_comm k, Int.mul_comm k]
  rw [lw, e1, e2]
theorem lw_weaker {n : Nat} {g : Int} {cs ds : List Cell} (h : ∀ c ∈ cs, c.f ≤ c.l) (h1 : ∀ c ∈ cs, c ∈ ds) (h2 : ∀ d ∈ ds, ∃ c ∈ cs, d.f = c.f ∧ d.l = c.l ∧ need g d ≤ need g c) : lw g ds n = lw g cs n := by
  have e := weaker_eq (g := g) h h1 h2
  have e1 : least g ds n = least g cs n := by unfold least; rw [e]
  have e2 : WD g ds n = WD g cs n := by unfold WD; simp only [e]
  rw [lw, e1, e2, lw]
theorem lw_both {m k : Nat} {g : Int} {a b : List Cell} (ha : ∀ c ∈ a, c.f ≤ c.l ∧ c.l < m) (hb : ∀ c ∈ b, c.f ≤ c.l) : lw g (a ++ b.map (shift m)) (m + k) = .tuple [.int (least g a m + g + least g b k), .tuple ((WD g a m ++ WD g b k).map PyData.int)] := by
  obtain ⟨e1, e2⟩ := both_eq (g := g) (k := 0) ha hb
  have l : least g (a ++ b.map (shift m)) (m + k) = least g a m + g + least g b k := by
    unfold least
    rw [e2 k]
    have : g * (((m + k : Nat) : Int) - 1) = g * ((m : Int) - 1) + g + g * ((k : Int) - 1) := by
      rw [show (((m + k : Nat) : Int) - 1) = ((m : Int) - 1) + 1 + ((k : Int) - 1) by omega, Int.mul_add, Int.mul_add, Int.mul_one]
    omega
  have w : WD g (a ++ b.map (shift m)) (m + k) = WD g a m ++ WD g b k := by
    unfold WD
    rw [List.range_add, List.map_append, List.map_map]
    congr 1
    · refine List.map_congr_left fun i hi => ?_
      have hi' : i < m := by simpa using hi
      rw [e1 i (by omega), e1 (i + 1) (by omega)]
    · refine List.map_congr_left fun i _ => ?_
      simp only [Function.comp]
      rw [show m + i + 1 = m + (i + 1) by omega, e2, e2]
      omega
  rw [lw, l, w]
/-! what is shared, told alike -/
theorem ws_take {n k : Nat} {g : Int} {cs : List Cell} (n8 : n ≤ 8) (hk : k ≤ n) (g0 : 0 ≤ g) (h : ∀ c ∈ cs, c.Fit n) : 0 ≤ ((WS g cs n).take k).sum ∧ ((WS g cs n).take k).sum ≤ 160000 := by
  unfold WS
  split
  · rw [WD_take hk, WD_sum]
    have a := E_le g0 h k
    have b := E_nn (g := g) (n := k) fun c hc => (h c hc).fl
    omega
  · rw [List.take_replicate, rep_sum]
    omega
theorem part_bd {n k : Nat} {g : Int} {cs : List Cell} {v : Int} (n1 : 1 ≤ n) (n8 : n ≤ 8) (hk : k ≤ n) (g0 : 0 ≤ g) (h : ∀ c ∈ cs, c.Fit n) (v0 : 0 ≤ v) (v1 : v ≤ 200000) : 0 ≤ part g cs n v k ∧ part g cs n v k ≤ 32000000000 := by
  have s := ws_take n8 hk g0 h
  have t := WS_sum g0 n1 n8 h
  have p0 : 0 ≤ v * ((WS g cs n).take k).sum := Int.mul_nonneg v0 s.1
  have p1 : v * ((WS g cs n).take k).sum ≤ 200000 * ((WS g cs n).take k).sum := Int.mul_le_mul_of_nonneg_right v1 s.1
  have d := Int.ediv_le_self (b := (WS g cs n).sum) p0
  have e := Int.ediv_nonneg (b := (WS g cs n).sum) p0 (by omega)
  unfold part
  omega
theorem shared_small {n : Nat} {g : Int} {cs : List Cell} {w : Int} (n1 : 1 ≤ n) (n8 : n ≤ 8) (g0 : 0 ≤ g) (g1 : g ≤ 1000) (h : ∀ c ∈ cs, c.Fit n) (w1 : w ≤ 200000) : D__law_same [shared g cs n w, shared g cs n w] = .ok (.bool true, .none) := by
  have lb := least_bd n1 n8 g0 g1 h
  unfold shared
  split
  · exact same_ok (by simp) (by simp [PyData.depth]) (by simp)
  · rename_i c
    have v0 : 0 ≤ w - least g cs n := by omega
    have v1 : w - least g cs n ≤ 200000 := by omega
    obtain ⟨v, ev⟩ : ∃ v, w - least g cs n = v := ⟨_, rfl⟩
    rw [ev] at v0 v1 ⊢
    have sm : smallL (((List.range n).map (shr g cs n v)).map PyData.int) = true := small_ints fun x hx => by
      obtain ⟨i, hi, rfl⟩ := List.mem_map.mp hx
      have hi' : i < n := by simpa using hi
      have p1 := part_bd n1 n8 (show i ≤ n by omega) g0 h v0 v1
      have p2 := part_bd n1 n8 (show i + 1 ≤ n by omega) g0 h v0 v1
      have e1 := E_le g0 h (i + 1)
      have e2 := E_nn (g := g) (n := i) fun c hc => (h c hc).fl
      have e3 := E_mono1 (g := g) (n := i) fun c hc => (h c hc).fl
      unfold shr
      omega
    refine same_ok ?_ ?_ ?_
    · simp only [SH, smallD_tuple, sm]
    · simp only [SH, PyData.depth, dp_ints]
      omega
    · simp only [SH, wtD_tuple, wt_ints, List.length_map, List.length_range]
      omega
end FnT
end
section
set_option Elab.async false
set_option linter.all false
set_option maxRecDepth 100000
namespace FnT
open PySem PySem.Spec DV M61
abbrev dd : Slot := .dead
/-- the three widths are shared alike -/
theorem share_loop {n : Nat} {g : Int} {cs : List Cell} (n1 : 1 ≤ n) (n8 : n ≤ 8) (g0 : 0 ≤ g) (g1 : g ≤ 1000) (hl : cs.length ≤ 60) (h : ∀ c ∈ cs, c.Fit n) (s a b c d e : Slot) (rest : DV.Env) {w : Int} (w0 : 0 ≤ w) (w1 : w ≤ 200000) :
    l0__law_tables_hold (s :: .own (.int n) :: .own (.int g) :: .own (.tuple (cs.map Cell.d)) :: a :: b :: c :: d :: e :: dd :: .view (.int w) :: rest) = .ok (.nx (s :: .own (.int n) :: .own (.int g) :: .own (.tuple (cs.map Cell.d)) :: a :: b :: c :: d :: e :: dd :: .view (.int w) :: rest)) := by
  simp [l0__law_tables_hold, shared_ok n1 n8 g0 g1 hl h w0 w1, law_shared_ok n1 n8 g0 g1 h w0 w1, shared_small n1 n8 g0 g1 h w1]
/-- weaker cells put in, and more of them: nothing changes -/
theorem weak_step {n : Nat} {g : Int} {cs : List Cell} {s5 : D} (n1 : 1 ≤ n) (n8 : n ≤ 8) (g0 : 0 ≤ g) (g1 : g ≤ 1000) (h : ∀ c ∈ cs, c.Fit n) (hs : St s5) (T : D) (k : Int) (S : D) :
    ∃ s6 e9, (sIf (eT (eBin ltD (eCall lenD (aCons (eRead 3) aNil)) (eC (.int 40))))
  (sSeq (sSet 9 (eBin addD (eUn revD (eRead 3)) (eCall tupleD (aCons (eLc [12, 16, 10] (.tp ((.nm 12) :: ((.nm 16) :: ((.nm 10) :: [])))) (iTpl (eSl (eRead 3) oNone (oSome (eC (.int 20))))) tYesE (eTup (aCons (eImm (eRead 12)) (aCons (eImm (eRead 16)) (aCons (eCall maxD1 (aCons (eLst (aCons (eC (.int 0)) (aCons (eBin subD (eBin subD (eRead 10) (eC (.int 1))) (eFnIO 2 0 (D__law_draw) (zHere 0 (aCons (eC (.int 5)) aNil)))) aNil))) aNil)) aNil))))) aNil))))
  (sSeq (sIf (tNotE (eTru (eFn 2 (D__law_same) (aCons (eFn 3 (D_least_width) (aCons (eRead 1) (aCons (eRead 2) (aCons (eRead 9) aNil)))) (aCons (eTup (aCons (eRead 4) (aCons (eRead 5) aNil))) aNil)))))
  (sSeq (sRet (eC (.bool false)))
  sNx)
  sNx)
  sNx))
  sNx) [.own s5, .own (.int n), .own (.int g), .own (.tuple (cs.map Cell.d)), .own (.int (least g cs n)), .own (.tuple ((WD g cs n).map PyData.int)), .own T, .own (.int k), .own S, dd, dd, dd, dd, dd, dd, dd, dd, dd, dd] = .ok (.nx e9) ∧
    killS [9] e9 = [.own s6, .own (.int n), .own (.int g), .own (.tuple (cs.map Cell.d)), .own (.int (least g cs n)), .own (.tuple ((WD g cs n).map PyData.int)), .own T, .own (.int k), .own S, dd, dd, dd, dd, dd, dd, dd, dd, dd, dd] ∧ St s6 := by
  by_cases c40 : cs.length < 40
  · let env : D → DV.Env := fun s => [.own s, .own (.int n), .own (.int g), .own (.tuple (cs.map Cell.d)), .own (.int (least g cs n)), .own (.tuple ((WD g cs n).map PyData.int)), .own T, .own (.int k), .own S, dd, dd, dd, dd, dd, dd, dd, dd, dd, dd]
    have sl : sliceD (.tuple (cs.map Cell.d)) none (some 20) = some (.tuple ((cs.take 20).map Cell.d)) := by
      rw [slice_tuple immL_cells, cut_map]
      have := cut_to (xs := cs) (b := 20)
      rw [show ((20 : Nat) : Int) = 20 from rfl] at this
      rw [this]
    obtain ⟨ys, e2, r1, r2, s6, r3, r4⟩ := lc_rel (vs := [12, 16, 10]) (t := .tp ((.nm 12) :: ((.nm 16) :: ((.nm 10) :: [])))) (it := iTpl (eSl (eRead 3) oNone (oSome (eC (.int 20))))) (c := tYesE) (e := eTup (aCons (eImm (eRead 12)) (aCons (eImm (eRead 16)) (aCons (eCall maxD1 (aCons (eLst (aCons (eC (.int 0)) (aCons (eBin subD (eBin subD (eRead 10) (eC (.int 1))) (eFnIO 2 0 (D__law_draw) (zHere 0 (aCons (eC (.int 5)) aNil)))) aNil))) aNil)) aNil)))) (env := env s5) (env1 := env s5) (xs := cs.take 20) Cell.d
      (fun e => ∃ s, e = env s ∧ St s) (fun c y => ∃ d : Cell, y = d.d ∧ d.f = c.f ∧ d.l = c.l ∧ 0 ≤ d.w ∧ d.w ≤ c.w) (by simp [env, sl]) (by rw [List.length_take]; omega) ⟨s5, rfl, hs⟩ (by
        rintro c hc e ⟨s, rfl, hs⟩
        obtain ⟨u, s', eu, hs', u0, u1⟩ := draw_ok hs (m := 5) (by omega) (by omega)
        have hf := h c (List.mem_of_mem_take hc)
        have w0 := hf.w0
        refine ⟨_, _, (⟨c.f, c.l, max 0 (c.w - 1 - u)⟩ : Cell).d, [.own s', .own (.int n), .own (.int g), .own (.tuple (cs.map Cell.d)), .own (.int (least g cs n)), .own (.tuple ((WD g cs n).map PyData.int)), .own T, .own (.int k), .own S, dd, .view (.int c.w), dd, .view (.int c.f), dd, dd, dd, .view (.int c.l), dd, dd], rfl, rfl, ?_, ⟨⟨c.f, c.l, max 0 (c.w - 1 - u)⟩, rfl, rfl, rfl, by simp only; omega, by simp only; omega⟩, s', by simp [env], hs'⟩
        simp [env, eu, Cell.d])
    obtain ⟨ws, rfl, rw2⟩ := F2.unmap (f := Cell.d) (r2.mono fun c y ⟨d, e1, e2⟩ => ⟨d, e1, e2⟩)
    subst r3
    have wl : ws.length ≤ 20 := by
      rw [rw2.length, List.length_take]
      omega
    have wk : ∀ d ∈ ws, ∃ c ∈ cs, d.f = c.f ∧ d.l = c.l ∧ 0 ≤ d.w ∧ d.w ≤ c.w := rw2.all_right fun c d hc hd => ⟨c, List.mem_of_mem_take hc, hd⟩
    have e1 : cs.reverse.map Cell.d ++ ws.map Cell.d = (cs.reverse ++ ws).map Cell.d := by simp
    have ad : addD (.tuple (cs.map Cell.d).reverse) (.tuple (ws.map Cell.d)) = some (.tuple ((cs.reverse ++ ws).map Cell.d)) := by
      rw [← e1, List.map_reverse]
      refine addD_tuple ?_ immL_cells (by simp; omega)
      rw [← List.map_reverse]
      exact immL_cells
    have hd : ∀ d ∈ cs.reverse ++ ws, d.Fit n := fun d hd => by
      rcases List.mem_append.mp hd with z | z
      · exact h d (by simpa using z)
      · obtain ⟨c, hc, e1, e2, e3, e4⟩ := wk d z
        have hf := h c hc
        exact ⟨by rw [e1, e2]; exact hf.fl, by rw [e2]; exact hf.ln, e3, by have := hf.w1; omega⟩
    have hlw : lw g (cs.reverse ++ ws) n = lw g cs n := lw_weaker (fun c hc => (h c hc).fl) (fun c hc => List.mem_append_left _ (by simpa using hc)) fun d hd => by
      rcases List.mem_append.mp hd with z | z
      · exact ⟨d, by simpa using z, rfl, rfl, Int.le_refl _⟩
      · obtain ⟨c, hc, e1, e2, e3, e4⟩ := wk d z
        refine ⟨c, hc, e1, e2, ?_⟩
        unfold need
        rw [e1, e2]
        omega
    have q2 := least_lw n1 n8 g0 g1 (show (cs.reverse ++ ws).length ≤ 60 by simp; omega) hd
    have q3 := same_lw n1 n8 g0 g1 h
    rw [hlw] at q2
    have el : lw g cs n = .tuple [.int (least g cs n), .tuple ((WD g cs n).map PyData.int)] := rfl
    rw [el] at q2 q3
    obtain ⟨X, hX⟩ : ∃ X, (cs.reverse ++ ws).map Cell.d = X := ⟨_, rfl⟩
    rw [hX] at ad q2
    refine ⟨s6, [.own s6, .own (.int n), .own (.int g), .own (.tuple (cs.map Cell.d)), .own (.int (least g cs n)), .own (.tuple ((WD g cs n).map PyData.int)), .own T, .own (.int k), .own S, .own (.tuple X), dd, dd, dd, dd, dd, dd, dd, dd, dd], ?_, by simp, r4⟩
    simp only [env] at r1
    have c40' : (cs.length : Int) < 40 := by omega
    simp [c40', immL_cells, r1, tupleD_list immL_cells, ad, q2, q3]
  · refine ⟨s5, [.own s5, .own (.int n), .own (.int g), .own (.tuple (cs.map Cell.d)), .own (.int (least g cs n)), .own (.tuple ((WD g cs n).map PyData.int)), .own T, .own (.int k), .own S, dd, dd, dd, dd, dd, dd, dd, dd, dd, dd], ?_, by simp, hs⟩
    have c40' : ¬ (cs.length : Int) < 40 := by omega
    simp [c40']
theorem tables_ok {st : D} (h : St st) : ∃ st', D__law_tables_hold [st] = .ok (.bool true, st') ∧ St st' := by
  obtain ⟨v, s1, e1, h1, v0, v1⟩ := draw_ok h (m := 8) (by omega) (by omega)
  obtain ⟨g, s2, e2, h2, hg⟩ := pick_int h1 (ns := [0, 1, 5, 40]) (by simp) (by simp)
  obtain ⟨m, s3, e3, h3, hm⟩ := pick_int h2 (ns := [5, 20, 60]) (by simp) (by simp)
  obtain ⟨n, hn⟩ : ∃ n : Nat, 1 + v = (n : Int) := ⟨(1 + v).toNat, by omega⟩
  have n1 : 1 ≤ n := by omega
  have n8 : n ≤ 8 := by omega
  have g0 : 0 ≤ g := by simp at hg; omega
  have g1 : g ≤ 40 := by simp at hg; omega
  obtain ⟨mm, hmm⟩ : ∃ mm : Nat, m = (mm : Int) := ⟨m.toNat, by simp at hm; omega⟩
  have m60 : mm ≤ 60 := by simp at hm; omega
  subst hmm
  obtain ⟨cs, s4, e4, h4, hl, hc⟩ := cells_ok h3 n1 n8 m60
  obtain ⟨k, s5, e5, h5, hk⟩ := pick_int h4 (ns := [2, 5, 11]) (by simp) (by simp)
  have k0 : 0 ≤ k := by simp at hk; omega
  have k1 : k ≤ 11 := by simp at hk; omega
  simp only [List.map_cons, List.map_nil] at e2 e3 e5
  have okc := hc
  have fit : ∀ c ∈ cs, c.Fit n := fun c h => (hc c h).fit n8
  have fl : ∀ c ∈ cs, c.f ≤ c.l := fun c h => (fit c h).fl
  have cl : cs.length ≤ 60 := by omega
  have lb := least_bd n1 n8 g0 (by omega : g ≤ 1000) fit
  have wd := WD_bd (g := g) n8 g0 fit
  have q1 := told_ok n1 n8 g0 (by omega : g ≤ 1000) fl
  have q2 := least_lw n1 n8 g0 (by omega : g ≤ 1000) cl fit
  have q3 := same_lw n1 n8 g0 (by omega : g ≤ 1000) fit
  have q4 := row_holds_ok n1 n8 g0 (by omega : g ≤ 1000) cl fit
  have q5 := accept_widths_ok n1 n8 g0 (by omega : g ≤ 1000) cl fit
  have q1' : D__law_told [.int n, .int g, .tuple (cs.map Cell.d)] = .ok (lw g cs n, .none) := q1
  have q4' : D__law_row_holds [.int n, .int g, .tuple (cs.map Cell.d), .int (least g cs n)] = .ok (.bool true, .none) := q4
  have q5' : D_accept_widths [.int n, .int g, .tuple (cs.map Cell.d), .int (least g cs n), .tuple ((WD g cs n).map PyData.int)] = .ok (.none, .none) := q5
  have el : lw g cs n = .tuple [.int (least g cs n), .tuple ((WD g cs n).map PyData.int)] := rfl
  obtain ⟨TL, hTL⟩ : ∃ TL, (cs.map (turn n)).map Cell.d = TL := ⟨_, rfl⟩
  obtain ⟨SL, hSL⟩ : ∃ SL, (cs.map (scale k)).map Cell.d = SL := ⟨_, rfl⟩
  obtain ⟨KL, hKL⟩ : ∃ KL, ((WD g cs n).map fun x => x * k).map PyData.int = KL := ⟨_, rfl⟩
  have iTL : immL TL = true := by rw [← hTL]; exact immL_cells
  have iSL : immL SL = true := by rw [← hSL]; exact immL_cells
  have iKL : immL KL = true := by rw [← hKL]; exact immL_ints
  obtain ⟨s6, e9, w1, w2, h6⟩ := weak_step n1 n8 g0 (by omega : g ≤ 1000) fit h5 (.tuple TL) k (.tuple SL)
  obtain ⟨u, s7, e7, h7, u0, u1⟩ := draw_ok h6 (m := 100) (by omega) (by omega)
  obtain ⟨v8, s8, e8, h8, v80, v81⟩ := draw_ok h7 (m := 7) (by omega) (by omega)
  obtain ⟨o, ho⟩ : ∃ o : Nat, 1 + v8 = (o : Int) := ⟨(1 + v8).toNat, by omega⟩
  have o1 : 1 ≤ o := by omega
  have o7 : o ≤ 7 := by omega
  have ho2 : (8 : Int) - (o : Int) = ((8 - o : Nat) : Int) := by omega
  obtain ⟨ca, sA, eA, hA, lA, okA⟩ := cells_ok h8 o1 (by omega) (show 25 ≤ 60 by omega)
  obtain ⟨cb, sB, eB, hB, lB, okB⟩ := cells_ok hA (show 1 ≤ 8 - o by omega) (by omega) (show 25 ≤ 60 by omega)
  rw [show ((25 : Nat) : Int) = 25 from rfl] at eA eB
  have fA : ∀ c ∈ ca, c.Fit o := fun c h => (okA c h).fit (by omega)
  have fB : ∀ c ∈ cb, c.Fit (8 - o) := fun c h => (okB c h).fit (by omega)
  -- turned, scaled
  let C : D := .tuple (cs.map Cell.d)
  let W : D := .tuple ((WD g cs n).map PyData.int)
  let L : Int := least g cs n
  let E3 : DV.Env := [.own s4, .own (.int n), .own (.int g), .own C, .own (.int L), .own W, dd, dd, dd, dd, dd, dd, dd, dd, dd, dd, dd, dd, dd]
  have c1 : eLc [12, 16, 10] (.tp ((.nm 12) :: ((.nm 16) :: ((.nm 10) :: [])))) (iTpl (eReadP 3)) tYesE (eImm (eTup (aCons (eBin subD (eBin subD (eRead 1) (eC (.int 1))) (eRead 16)) (aCons (eBin subD (eBin subD (eRead 1) (eC (.int 1))) (eRead 12)) (aCons (eRead 10) aNil))))) E3 = .ok (.list TL, E3) := by
    rw [← hTL, List.map_map]
    exact lc_map Cell.d (fun c => (turn n c).d) (by simp [E3, C, immL_cells]) (by omega) fun c hc => ⟨_, rfl, by rw [turn_d (fit c hc)]; simp [E3]⟩
  let T : D := .tuple TL
  let S : D := .tuple SL
  let E4 : DV.Env := [.own s5, .own (.int n), .own (.int g), .own C, .own (.int L), .own W, .own T, .own (.int k), dd, dd, dd, dd, dd, dd, dd, dd, dd, dd, dd]
  have c2 : eLc [12, 16, 10] (.tp ((.nm 12) :: ((.nm 16) :: ((.nm 10) :: [])))) (iTpl (eReadP 3)) tYesE (eImm (eTup (aCons (eRead 12) (aCons (eRead 16) (aCons (eBin mulD (eRead 10) (eRead 7)) aNil))))) E4 = .ok (.list SL, E4) := by
    rw [← hSL, List.map_map]
    exact lc_map Cell.d (fun c => (scale k c).d) (by simp [E4, C, immL_cells]) (by omega) fun c hc => ⟨_, rfl, by simp [E4, Cell.d, scale, mulD_r (j := k) (by omega) (by omega)]⟩
  let E5 : DV.Env := [.own s5, .own (.int n), .own (.int g), .own C, .own (.int L), .own W, .own T, .own (.int k), .own S, dd, dd, dd, dd, dd, dd, dd, dd, dd, dd]
  have c3 : eLc [10] (.nm 10) (iTpl (eReadP 5)) tYesE (eBin mulD (eRead 10) (eRead 7)) E5 = .ok (.list KL, E5) := by
    rw [← hKL, List.map_map]
    exact lc_map PyData.int (fun x => .int (x * k)) (by simp [E5, W]) (by rw [WD_len]; omega) fun c hc => ⟨_, rfl, by simp [E5, mulD_r (j := k) (by omega) (by omega)]⟩
  have ft : ∀ c ∈ cs.map (turn n), c.Fit n := fun c hc => by
    obtain ⟨d, hd, rfl⟩ := List.mem_map.mp hc
    exact turn_fit (fit d hd)
  have fs : ∀ c ∈ cs.map (scale k), c.Fit n := fun c hc => by
    obtain ⟨d, hd, rfl⟩ := List.mem_map.mp hc
    exact scale_fit (okc d hd) n8 k0 k1
  have gk0 : 0 ≤ g * k := Int.mul_nonneg g0 k0
  have gk1 : g * k ≤ 1000 := by
    have : g * k ≤ 40 * k := Int.mul_le_mul_of_nonneg_right g1 k0
    omega
  have qt := least_lw n1 n8 g0 (by omega : g ≤ 1000) (show (cs.map (turn n)).length ≤ 60 by simpa using cl) ft
  have qs := least_lw n1 n8 gk0 gk1 (show (cs.map (scale k)).length ≤ 60 by simpa using cl) fs
  rw [lw_scaled k0 fl, hSL, hKL] at qs
  have et : lw g (cs.map (turn n)) n = .tuple [.int L, .tuple ((WD g (cs.map (turn n)) n).map PyData.int)] := by
    rw [lw, least_turned fit]
  rw [et, hTL] at qt
  -- two tables told alike
  let Z : D := .list [.int L, .tuple [.int (L * k), .tuple KL]]
  have z1 : D__law_same [Z, Z] = .ok (.bool true, .none) := by
    simp only [Z]
    rw [← hKL]
    have lk : 0 ≤ L * k := Int.mul_nonneg lb.1 k0
    have lk1 : L * k ≤ L * 11 := Int.mul_le_mul_of_nonneg_left k1 lb.1
    have lb2 : L ≤ 170000 := lb.2
    have lb1 : 0 ≤ L := lb.1
    have sm : smallL (((WD g cs n).map fun x => x * k).map PyData.int) = true := small_ints fun x hx => by
      obtain ⟨y, hy, rfl⟩ := List.mem_map.mp hx
      have := wd y hy
      have a : 0 ≤ y * k := Int.mul_nonneg this.1 k0
      have b : y * k ≤ y * 11 := Int.mul_le_mul_of_nonneg_left k1 this.1
      omega
    refine same_ok ?_ ?_ ?_
    · simp only [smallD_list, smallL_cons, smallD_int, smallD_tuple, sm, smallL_nil, Bool.and_true, Bool.and_eq_true, decide_eq_true_eq]
      omega
    · simp only [PyData.depth, PyData.depthAll, dp_ints]
      omega
    · simp only [wtD_list, wtL_cons, wtD_int, wtD_tuple, wt_ints, List.length_map, WD_len, wtL_nil]
      omega
  have mk : ∀ i : Int, mulD (.int i) (.int k) = some (.int (i * k)) := fun i => mulD_r (by omega) (by omega)
  let E6 : DV.Env := [.own s6, .own (.int n), .own (.int g), .own C, .own (.int L), .own W, .own T, .own (.int k), .own S, dd, dd, dd, dd, dd, dd, dd, dd, dd, dd]
  -- the three widths
  let E7 : DV.Env := [.own s7, .own (.int n), .own (.int g), .own C, .own (.int L), .own W, .own T, .own (.int k), .own S, dd, dd, dd, dd, dd, dd, dd, dd, dd, dd]
  have lp := (for_fold (ks := [10]) (t := .nm 10) (b := l0__law_tables_hold) (E := fun _ : Unit => E7) (J := fun _ => True) (step := fun _ _ => ()) PyData.int [L, L + u, max 0 (L - 1)] E7 () rfl trivial
    fun _ _ w hw => by
      have lb2 : L ≤ 170000 := lb.2
      have lb1 : 0 ≤ L := lb.1
      have w0 : 0 ≤ w ∧ w ≤ 200000 := by
        simp at hw
        omega
      exact ⟨_, _, rfl, .inl (share_loop n1 n8 g0 (by omega : g ≤ 1000) cl fit _ _ _ _ _ _ _ w0.1 w0.2), rfl, trivial⟩).1
  -- side by side
  let A : D := .tuple (ca.map Cell.d)
  let B : D := .tuple (cb.map Cell.d)
  let E9 : DV.Env := [.own sB, .own (.int n), .own (.int g), .own C, .own (.int L), .own W, .own T, .own (.int k), .own S, dd, dd, .own (.int o), .own A, .own B, dd, dd, dd, dd, dd]
  obtain ⟨BL, hBL⟩ : ∃ BL, (cb.map (shift o)).map Cell.d = BL := ⟨_, rfl⟩
  obtain ⟨XL, hXL⟩ : ∃ XL, (ca ++ cb.map (shift o)).map Cell.d = XL := ⟨_, rfl⟩
  have iBL : immL BL = true := by rw [← hBL]; exact immL_cells
  have c4 : eLc [17, 18, 10] (.tp ((.nm 17) :: ((.nm 18) :: ((.nm 10) :: [])))) (iTpl (eReadP 13)) tYesE (eImm (eTup (aCons (eBin addD (eRead 17) (eRead 11)) (aCons (eBin addD (eRead 18) (eRead 11)) (aCons (eRead 10) aNil))))) E9 = .ok (.list BL, E9) := by
    rw [← hBL, List.map_map]
    exact lc_map Cell.d (fun c => (shift o c).d) (by simp [E9, B, immL_cells]) (by omega) fun c hc => ⟨_, rfl, by simp [E9, Cell.d, shift]⟩
  have e1' : ca.map Cell.d ++ (cb.map (shift o)).map Cell.d = (ca ++ cb.map (shift o)).map Cell.d := by simp
  have ad : addD A (.tuple BL) = some (.tuple XL) := by
    rw [← hXL, ← e1', ← hBL]
    exact addD_tuple immL_cells immL_cells (by simp; omega)
  have fab : ∀ c ∈ ca ++ cb.map (shift o), c.Fit 8 := fun c hc => by
    rcases List.mem_append.mp hc with z | z
    · have := fA c z
      exact ⟨this.fl, by have := this.ln; omega, this.w0, this.w1⟩
    · obtain ⟨d, hd, rfl⟩ := List.mem_map.mp z
      have := fB d hd
      exact ⟨by have := this.fl; simp only [shift]; omega, by have := this.ln; simp only [shift]; omega, this.w0, this.w1⟩
  have qA := least_lw o1 (by omega) g0 (by omega : g ≤ 1000) (by omega : ca.length ≤ 60) fA
  have qB := least_lw (show 1 ≤ 8 - o by omega) (by omega) g0 (by omega : g ≤ 1000) (by omega : cb.length ≤ 60) fB
  have qAB := least_lw (show 1 ≤ 8 by omega) (by omega) g0 (by omega : g ≤ 1000) (show (ca ++ cb.map (shift o)).length ≤ 60 by simp; omega) fab
  have sAB := same_lw (show 1 ≤ 8 by omega) (by omega) g0 (by omega : g ≤ 1000) fab
  have lAB := lw_both (g := g) (m := o) (k := 8 - o) (a := ca) (b := cb) (fun c h => ⟨(fA c h).fl, (fA c h).ln⟩) (fun c h => (fB c h).fl)
  rw [show o + (8 - o) = 8 by omega] at lAB
  rw [lAB] at qAB sAB
  rw [hXL, show ((8 : Nat) : Int) = 8 from rfl] at qAB
  have s0 : least g ca o + g + least g cb (8 - o) = least g ca o + g + least g cb (8 - o) := rfl
  let E10 : DV.Env := [.own sB, .own (.int n), .own (.int g), .own C, .own (.int L), .own W, .own T, .own (.int k), .own S, dd, dd, .own (.int o), .own A, .own B, .own (.tuple XL), dd, dd, dd, dd]
  let E11 : DV.Env := [.own sB, .own (.int n), .own (.int g), .own C, .own (.int L), .own W, .own T, .own (.int k), .own S, dd, dd, .own (.int o), .own A, .own B, .own (.tuple XL), .own (.list [lw g ca o, lw g cb (8 - o)]), dd, dd, dd]
  have f1 : f__law_tables_hold [.own st, dd, dd, dd, dd, dd, dd, dd, dd, dd, dd, dd, dd, dd, dd, dd, dd, dd, dd] = .ok (.rt (.bool true) E11) := by
    unfold f__law_tables_hold
    refine (seq_nx (env1 := [.own s2, .own (.int n), .own (.int g), dd, dd, dd, dd, dd, dd, dd, dd, dd, dd, dd, dd, dd, dd, dd, dd]) ?_).trans ?_
    · simp [e1, e2, hn]
    refine (seq_nx (env1 := [.own s4, .own (.int n), .own (.int g), .own C, dd, dd, dd, dd, dd, dd, dd, dd, dd, dd, dd, dd, dd, dd, dd]) ?_).trans ?_
    · simp [e3, e4, C]
    refine (seq_nx (env1 := E3) ?_).trans ?_
    · simp [q1', el, E3, C, L, W]
    refine (seq_nx (env1 := E3) ?_).trans ?_
    · rw [el] at q2 q3
      simp [E3, C, L, W, q2, q3, q4']
    refine (seq_nx (env1 := E3) ?_).trans ?_
    · simp [E3, C, L, W, q5']
    refine (seq_nx (env1 := E4) ?_).trans ?_
    · simp [c1, tupleD_list iTL]
      simp [E3, E4, e5, T]
    refine (seq_nx (env1 := E5) ?_).trans ?_
    · simp [c2, tupleD_list iSL]
      simp [E4, E5, S]
    refine (seq_nx (env1 := E5) ?_).trans ?_
    · simp only [E5, L, T, S, W] at c3 ⊢
      simp only [L] at qt
      simp only [Z, L] at z1
      simp [qt, tix0, mk, qs, c3, tupleD_list iKL, z1]
    refine (seq_nx (env1 := e9) ?_).trans ?_
    · exact w1
    refine (show _ = _ from congrArg _ (show killS [9] e9 = E6 from w2)).trans ?_
    refine (seq_nx (env1 := E7) ?_).trans ?_
    · simp only [List.map_cons, List.map_nil] at lp
      simp [E6, e7]
      exact lp
    refine (seq_nx (env1 := [.own s8, .own (.int n), .own (.int g), .own C, .own (.int L), .own W, .own T, .own (.int k), .own S, dd, dd, .own (.int o), dd, dd, dd, dd, dd, dd, dd]) ?_).trans ?_
    · simp [E7, e8, ho]
    refine (seq_nx (env1 := E9) ?_).trans ?_
    · simp [E9, eA, eB, ho2, A, B]
    refine (seq_nx (env1 := E10) ?_).trans ?_
    · simp only [E9] at c4
      simp [E9, E10, c4, tupleD_list iBL, ad]
    refine (seq_nx (env1 := E11) ?_).trans ?_
    · simp [E10, E11, qA, qB, ho2, A, B]
    have t0 : ixD (lw g ca o) (.int 0) = some (.int (least g ca o)) := tix0
    have t1 : ixD (lw g ca o) (.int 1) = some (.tuple ((WD g ca o).map PyData.int)) := tix1
    have t2 : ixD (lw g cb (8 - o)) (.int 0) = some (.int (least g cb (8 - o))) := tix0
    have t3 : ixD (lw g cb (8 - o)) (.int 1) = some (.tuple ((WD g cb (8 - o)).map PyData.int)) := tix1
    have t4 : addD (.tuple ((WD g ca o).map PyData.int)) (.tuple ((WD g cb (8 - o)).map PyData.int)) = some (.tuple ((WD g ca o ++ WD g cb (8 - o)).map PyData.int)) := by
      rw [List.map_append]
      exact addD_tuple immL_ints immL_ints (by simp [WD_len]; omega)
    obtain ⟨YL, hYL⟩ : ∃ YL, (WD g ca o ++ WD g cb (8 - o)).map PyData.int = YL := ⟨_, rfl⟩
    rw [hYL] at t4 qAB sAB
    simp [E11, qAB, ix0, ix1, t0, t1, t2, t3, t4, sAB]
  refine ⟨sB, ?_, hB⟩
  simp only [dd] at f1
  simp [D__law_tables_hold, denOf_is, argEnv, f1]
  simp [E11]
end FnT
end
section
set_option Elab.async false
set_option linter.all false
set_option maxRecDepth 100000
namespace FnT
open PySem PySem.Spec DV M61
/-! grids -/
structure GC where
  b : Nat
  h : Int
def GC.d (c : GC) : D := .tuple [.int c.b, .int c.h]
def rowD (r : List GC) : D := .tuple (r.map GC.d)
def brd (r : List GC) : Nat := (r.map GC.b).sum
structure ROk (n : Nat) (r : List GC) : Prop where
  ne : r ≠ []
  b1 : ∀ c ∈ r, 1 ≤ c.b
  b8 : ∀ c ∈ r, c.b ≤ 8
  h0 : ∀ c ∈ r, 0 ≤ c.h
  h1 : ∀ c ∈ r, c.h ≤ 50
  sum : brd r = n
theorem brd_len {r : List GC} (h : ∀ c ∈ r, 1 ≤ c.b) : r.length ≤ brd r := by
  induction r with
  | nil => simp [brd]
  | cons c r ih =>
    have h1 := h c List.mem_cons_self
    have h2 := ih fun c hc => h c (List.mem_cons_of_mem _ hc)
    simp only [brd, List.map_cons, List.sum_cons, List.length_cons] at h2 ⊢
    omega
theorem imm_gc {c : GC} : imm c.d = true := by simp [GC.d]
theorem immL_row {r : List GC} : immL (r.map GC.d) = true := immL_map fun _ _ => imm_gc
theorem imm_row {r : List GC} : imm (rowD r) = true := by simp only [rowD, imm_tuple]; exact immL_row
theorem immL_grid {gr : List (List GC)} : immL (gr.map rowD) = true := immL_map fun _ _ => imm_row
theorem plain_row (r : List GC) : PyData.plainAll (r.map GC.d) = true := by
  induction r with
  | nil => simp [PyData.plainAll]
  | cons c r ih => simp [PyData.plainAll, GC.d, PyData.plain, ih]
theorem plain_grid (gr : List (List GC)) : PyData.plainAll (gr.map rowD) = true := by
  induction gr with
  | nil => simp [PyData.plainAll]
  | cons c r ih => simp [PyData.plainAll, rowD, PyData.plain, plain_row, ih]
theorem sum_nat (l : List Nat) : ((l.map fun (b : Nat) => (b : Int)).sum) = ((l.sum : Nat) : Int) := by
  induction l with
  | nil => rfl
  | cons x l ih => simp [ih]
theorem grid_cell {c : GC} (b1 : 1 ≤ c.b) (b8 : c.b ≤ 8) (h0 : 0 ≤ c.h) (h1 : c.h ≤ 50) (a b : Slot) : l0_check_grid [a, b, .view c.d, dd] = .ok (.nx [a, b, .view c.d, dd]) := by
  have e : eLc [3] (.nm 3) (iTpl (eReadP 2)) tYesE (eFn 1 D_is_integer (aCons (eRead 3) aNil)) [a, b, .view c.d, dd] = .ok (.list ([(c.b : Int), c.h].map fun _ => .bool true), [a, b, .view c.d, dd]) :=
    lc_map (xs := [(c.b : Int), c.h]) PyData.int (fun _ => .bool true) (by simp [GC.d]) (by simp) fun x _ => ⟨_, rfl, by simp [is_integer_int]⟩
  have ea : allD [.list [.bool true, .bool true]] = some (.bool true) := allD_true (l := [(0 : Int), 0])
  simp only [List.map_cons, List.map_nil, GC.d] at e ⊢
  have q1 : (1 : Int) ≤ c.b := by omega
  have q2 : (c.b : Int) ≤ 8 := by omega
  have q3 : c.h ≤ 100000 := by omega
  simp [l0_check_grid, e, ea, tix0, tix1, q1, q2, q3, h0, b1, b8, PyData.plain, PyData.plainAll]
theorem brds {r : List GC} (env : DV.Env) {i : Nat} {it : Ei} (hi : it env = .ok (r.map GC.d, env)) (hz : r.length ≤ 1000) (hl : i < env.length) : eLc [i] (.nm i) it tYesE (eImm (eIx (eRead i) (eC (.int 0)))) env = .ok (.list ((r.map fun c => (c.b : Int)).map PyData.int), env) := by
  rw [List.map_map]
  refine lc_map GC.d (fun c => .int c.b) hi (by omega) (fun c hc => ⟨(killS [i] env).set i (.view c.d), by simp [hl], ?_⟩) (by simp [Tg.slots])
  have : Env.at ((killS [i] env).set i (.view c.d)) i = .view c.d := by
    rw [at_set (by simp [hl]), if_pos rfl]
  simp only [eImm_is, eIx_is, eRead_is, this, get_view, bind_ok, eC_is]
  simp [GC.d, tix0]
theorem brd_sum {r : List GC} : sumD [.list ((r.map fun c => (c.b : Int)).map PyData.int)] = some (.int (brd r : Nat)) := by
  rw [sumD_ints, brd, ← sum_nat, List.map_map]
  rfl
structure GrOk (n : Nat) (gr : List (List GC)) : Prop where
  n1 : 1 ≤ n
  n8 : n ≤ 8
  l1 : 1 ≤ gr.length
  l60 : gr.length ≤ 60
  rows : ∀ r ∈ gr, ROk n r
abbrev gridD (gr : List (List GC)) : D := .tuple (gr.map rowD)
theorem row_small {n : Nat} {r : List GC} (h : ROk n r) (hn : n ≤ 8) : r.length ≤ 8 := by
  have := brd_len h.b1
  rw [h.sum] at this
  omega
theorem grid_first {n : Nat} {gr : List (List GC)} (h : GrOk n gr) : ∃ r, r ∈ gr ∧ ixD (gridD gr) (.int 0) = some (rowD r) := by
  cases gr with
  | nil => have := h.l1; simp at this
  | cons r rs => exact ⟨r, List.mem_cons_self, by simp only [gridD, List.map_cons]; exact tix0⟩
theorem grid_row {n : Nat} {gr : List (List GC)} (h : GrOk n gr) {r : List GC} (hr : r ∈ gr) : l1_check_grid [.view (gridD gr), .view (rowD r), dd, dd] = .ok (.nx [.view (gridD gr), .view (rowD r), dd, dd]) := by
  have ok := h.rows r hr
  have n8 := h.n8
  have ef := (for_fold (ks := [2]) (t := .nm 2) (b := l0_check_grid) (E := fun _ : Unit => [.view (gridD gr), .view (rowD r), dd, dd]) (J := fun _ => True) (step := fun _ _ => ()) GC.d r [.view (gridD gr), .view (rowD r), dd, dd] () rfl trivial
    fun _ _ c hc => ⟨_, _, rfl, .inl (grid_cell (ok.b1 c hc) (ok.b8 c hc) (ok.h0 c hc) (ok.h1 c hc) _ _), rfl, trivial⟩).1
  obtain ⟨r0, hr0, i0⟩ := grid_first h
  have ok0 := h.rows r0 hr0
  have e1 := brds (r := r) (i := 2) (it := iTpl (eReadP 1)) [.view (gridD gr), .view (rowD r), dd, dd] (by simp [rowD]) (by have := row_small ok n8; omega) (by simp)
  have e2 := brds (r := r0) (i := 2) (it := iTpl (eImm (eIx (eRead 0) (eC (.int 0))))) [.view (gridD gr), .view (rowD r), dd, dd] (by simp [i0, imm_row]; simp [rowD]) (by have := row_small ok0 n8; omega) (by simp)
  have s1 := brd_sum (r := r)
  have s2 := brd_sum (r := r0)
  rw [ok.sum] at s1
  rw [ok0.sum] at s2
  obtain ⟨X, hX⟩ : ∃ X, (r.map fun c => (c.b : Int)).map PyData.int = X := ⟨_, rfl⟩
  obtain ⟨Y, hY⟩ : ∃ Y, (r0.map fun c => (c.b : Int)).map PyData.int = Y := ⟨_, rfl⟩
  rw [hX] at e1 s1
  rw [hY] at e2 s2
  have hp : PyData.plain (rowD r) = true := by simp [rowD, PyData.plain, plain_row]
  have hT : PyData.isTuple (rowD r) = true := rfl
  have ht : truthD (rowD r) = some true := by
    show some (!(r.map GC.d).isEmpty) = _
    cases r with
    | nil => exact absurd rfl ok.ne
    | cons c r => rfl
  have it : iTpl (eReadP 1) [.view (gridD gr), .view (rowD r), dd, dd] = .ok (r.map GC.d, [.view (gridD gr), .view (rowD r), dd, dd]) := by simp [rowD]
  simp [l1_check_grid, hp, hT, ht, -iTpl_is, it, ef, e1, e2, s1, s2]
theorem check_grid_ok {n : Nat} {gr : List (List GC)} (h : GrOk n gr) : D_check_grid [gridD gr] = .ok (.none, .none) := by
  have ef := (for_fold (ks := [1, 2]) (t := .nm 1) (b := l1_check_grid) (E := fun _ : Unit => [.view (gridD gr), dd, dd, dd]) (J := fun _ => True) (step := fun _ _ => ()) rowD gr [.view (gridD gr), dd, dd, dd] () rfl trivial
    fun _ _ r hr => ⟨_, _, rfl, .inl (grid_row h hr), rfl, trivial⟩).1
  obtain ⟨r0, hr0, i0⟩ := grid_first h
  have ok0 := h.rows r0 hr0
  have n8 := h.n8
  have e2 := brds (r := r0) (i := 2) (it := iTpl (eImm (eIx (eRead 0) (eC (.int 0))))) [.view (gridD gr), dd, dd, dd] (by simp [i0, imm_row]; simp [rowD]) (by have := row_small ok0 n8; omega) (by simp)
  have s2 := brd_sum (r := r0)
  rw [ok0.sum] at s2
  obtain ⟨Y, hY⟩ : ∃ Y, (r0.map fun c => (c.b : Int)).map PyData.int = Y := ⟨_, rfl⟩
  rw [hY] at e2 s2
  have q1 : (1 : Int) ≤ gr.length := by have := h.l1; omega
  have q2 : (gr.length : Int) ≤ 60 := by have := h.l60; omega
  have q3 : ¬ (8 : Int) < n := by omega
  have q4 : (1 : Nat) ≤ gr.length := h.l1
  have q5 : ¬ 8 < n := by omega
  have q6 : gr.length ≤ 60 := h.l60
  simp [D_check_grid, denOf_is, argEnv, f_check_grid, PyData.plain, plain_grid, q1, q2, q4, q5, q6, ef, e2, s2, q3]
/-! spans -/
def spanD (a b : Nat) : D := .tuple [.int (a : Nat), .int ((a : Int) + b - 1)]
def spansR : Nat → List GC → List D
  | _, [] => []
  | a, c :: r => spanD a c.b :: spansR (a + c.b) r
theorem spansR_imm : ∀ (a : Nat) (r : List GC), immL (spansR a r) = true
  | _, [] => rfl
  | a, c :: r => by simp [spansR, spanD, spansR_imm (a + c.b) r]
theorem spansR_len : ∀ (a : Nat) (r : List GC), (spansR a r).length = r.length
  | _, [] => rfl
  | a, c :: r => by simp [spansR, spansR_len (a + c.b) r]
theorem spans_row (g : D) (F : List D) (row : Slot) : ∀ (r : List GC) (a : Nat) (acc : List D), acc.length + r.length ≤ 1000 → ∃ e2, forL [5, 6] (.tp ((.nm 5) :: ((.nm 6) :: []))) l0_spans_of (r.map GC.d) [.view g, .own (.list F), row, .own (.int (a : Nat)), .own (.list acc), dd, dd] = .ok (.nx e2) ∧
    e2 = [.view g, .own (.list F), row, .own (.int ((a + brd r : Nat) : Int)), .own (.list (acc ++ spansR a r)), dd, dd]
  | [], a, acc, _ => ⟨_, rfl, by simp [brd, spansR]⟩
  | c :: r, a, acc, hz => by
    have hz' : acc.length < 16000000 := by simp at hz; omega
    obtain ⟨e2, h1, h2⟩ := spans_row g F row r (a + c.b) (acc ++ [spanD a c.b]) (by simp at hz ⊢; omega)
    refine ⟨e2, ?_, ?_⟩
    · rw [← h1, List.map_cons]
      refine (forL_cons (e2 := [.view g, .own (.list F), row, .own (.int ((a + c.b : Nat) : Int)), .own (.list (acc ++ [spanD a c.b])), .view (.int c.b), .view (.int c.h)]) rfl ?_).trans ?_
      · simp [l0_spans_of, hz', spanD]
      · rfl
    · rw [h2]
      simp [brd, spansR, Nat.add_assoc]
def spanT (r : List GC) : D := .tuple (spansR 0 r)
theorem spans_turn {g : D} {F : List D} {r : List GC} (hF : F.length ≤ 100) (hr : r.length ≤ 100) : l1_spans_of [.view g, .own (.list F), .view (rowD r), dd, dd, dd, dd] = .ok (.nx [.view g, .own (.list (F ++ [spanT r])), .view (rowD r), .own (.int (brd r : Nat)), .own (.list (spansR 0 r)), dd, dd]) := by
  obtain ⟨e2, h1, h2⟩ := spans_row g F (.view (rowD r)) r 0 [] (by simp; omega)
  subst h2
  simp only [Int.cast_ofNat_Int, Nat.zero_add, List.nil_append] at h1
  have hF' : F.length < 16000000 := by omega
  have it : ∀ a b c d : Slot, iTpl (eReadP 2) [a, b, .view (rowD r), c, d, dd, dd] = .ok (r.map GC.d, [a, b, .view (rowD r), c, d, dd, dd]) := fun a b c d => by simp [rowD]
  simp [l1_spans_of, -iTpl_is, it, h1, tupleD_list (spansR_imm 0 r), hF', spanT]
theorem spans_ok {n : Nat} {gr : List (List GC)} (h : GrOk n gr) : D_spans_of [gridD gr] = .ok (.tuple (gr.map spanT), .none) := by
  obtain ⟨env2, ef, hI⟩ := for_rel (ks := [2, 3, 4, 5, 6]) (t := .nm 2) (b := l1_spans_of) (fun i env => env = [.view (gridD gr), .own (.list ((gr.take i).map spanT)), dd, dd, dd, dd, dd]) (gr.map rowD) 0 [.view (gridD gr), .own (.list []), dd, dd, dd, dd, dd] rfl (by
    rintro i d env hd rfl
    have hi : i < gr.length := by simpa using (List.getElem?_eq_some_iff.mp hd).1
    have ed : d = rowD gr[i] := by
      rw [List.getElem?_map, List.getElem?_eq_getElem hi] at hd
      exact (Option.some.inj hd).symm
    subst ed
    have rs := row_small (h.rows _ (List.getElem_mem hi)) h.n8
    refine ⟨_, _, rfl, .inl (spans_turn (by rw [Nat.zero_add, List.length_map, List.length_take]; have := h.l60; omega) (by omega)), ?_⟩
    rw [Nat.zero_add, List.take_succ_eq_append_getElem hi, List.map_append]
    simp)
  rw [List.length_map, Nat.zero_add, List.take_length] at hI
  subst hI
  have im : immL (gr.map spanT) = true := immL_map fun r _ => by simp [spanT, spansR_imm]
  obtain ⟨X, hX⟩ : ∃ X, gr.map spanT = X := ⟨_, rfl⟩
  rw [hX] at ef im ⊢
  simp [D_spans_of, denOf_is, argEnv, f_spans_of, check_grid_ok h, ef, tupleD_list im]
/-! heights -/
def hi : List GC → Int
  | [] => 0
  | c :: r => (r.map GC.h).foldl max c.h
theorem hi_max {r : List GC} (h : r ≠ []) : maxD1 [.list ((r.map GC.h).map PyData.int)] = some (.int (hi r)) := by
  cases r with
  | nil => exact absurd rfl h
  | cons c r => exact maxD1_ints
theorem foldl_max_bd {l : List Int} {a m : Int} (ha : 0 ≤ a ∧ a ≤ m) (h : ∀ x ∈ l, x ≤ m) : 0 ≤ l.foldl max a ∧ l.foldl max a ≤ m := by
  induction l generalizing a with
  | nil => exact ha
  | cons x l ih =>
    have := h x List.mem_cons_self
    exact ih (a := max a x) (by omega) fun y hy => h y (List.mem_cons_of_mem _ hy)
theorem hi_bd {n : Nat} {r : List GC} (h : ROk n r) : 0 ≤ hi r ∧ hi r ≤ 50 := by
  cases r with
  | nil => exact absurd rfl h.ne
  | cons c r =>
    refine foldl_max_bd ⟨h.h0 c List.mem_cons_self, h.h1 c List.mem_cons_self⟩ fun x hx => ?_
    obtain ⟨d, hd, rfl⟩ := List.mem_map.mp hx
    exact h.h1 d (List.mem_cons_of_mem _ hd)
def hiD (r : List GC) : D := .int (hi r)
theorem heights_ok {n : Nat} {gr : List (List GC)} (h : GrOk n gr) : D_heights_of [gridD gr] = .ok (.tuple (gr.map hiD), .none) := by
  have e1 : eLc [1] (.nm 1) (iTpl (eReadP 0)) tYesE (eCall maxD1 (aCons (eLc [3, 2] (.tp ((.nm 3) :: ((.nm 2) :: []))) (iTpl (eReadP 1)) tYesE (eImm (eRead 2))) aNil)) [.view (gridD gr), dd, dd, dd] = .ok (.list (gr.map hiD), [.view (gridD gr), dd, dd, dd]) :=
    lc_map rowD hiD (by simp) (by have := h.l60; omega) fun r hr => ⟨_, rfl, by
      have ok := h.rows r hr
      have e2 : eLc [3, 2] (.tp ((.nm 3) :: ((.nm 2) :: []))) (iTpl (eReadP 1)) tYesE (eImm (eRead 2)) [.view (gridD gr), .view (rowD r), dd, dd] = .ok (.list ((r.map GC.h).map PyData.int), [.view (gridD gr), .view (rowD r), dd, dd]) := by
        rw [List.map_map]
        exact lc_map GC.d (fun c => .int c.h) (by simp [rowD]) (by have := row_small ok h.n8; omega) fun c _ => ⟨_, rfl, by simp⟩
      have m := hi_max ok.ne
      obtain ⟨X, hX⟩ : ∃ X, (r.map GC.h).map PyData.int = X := ⟨_, rfl⟩
      rw [hX] at e2 m
      simp [e2, m, hiD]⟩
  have im : immL (gr.map hiD) = true := immL_map fun _ _ => rfl
  simp [D_heights_of, denOf_is, argEnv, f_heights_of, check_grid_ok h, e1, tupleD_list im]
end FnT
end
section
set_option Elab.async false
set_option linter.all false
set_option maxRecDepth 100000
namespace FnT
open PySem PySem.Spec DV M61
/-! cells, laid -/
def boxD (ws : List Int) (g y hh : Int) (a b : Nat) : D := .tuple [.int ((ws.take a).sum + g * a), .int y, .int (((ws.drop a).take b).sum + g * ((b : Int) - 1)), .int hh]
def rowBox (ws : List Int) (g y hh : Int) : Nat → List GC → List D
  | _, [] => []
  | a, c :: r => boxD ws g y hh a c.b :: rowBox ws g y hh (a + c.b) r
def boxes (ws : List Int) (g : Int) : Int → List (List GC) → List D
  | _, [] => []
  | y, r :: rs => rowBox ws g y (hi r) 0 r ++ boxes ws g (y + hi r + g) rs
theorem rowBox_len (ws : List Int) (g y hh : Int) : ∀ (a : Nat) (r : List GC), (rowBox ws g y hh a r).length = r.length
  | _, [] => rfl
  | a, c :: r => by simp [rowBox, rowBox_len ws g y hh (a + c.b) r]
theorem rowBox_imm (ws : List Int) (g y hh : Int) : ∀ (a : Nat) (r : List GC), immL (rowBox ws g y hh a r) = true
  | _, [] => rfl
  | a, c :: r => by simp [rowBox, boxD, rowBox_imm ws g y hh (a + c.b) r]
theorem immL_app {xs ys : List D} (h1 : immL xs = true) (h2 : immL ys = true) : immL (xs ++ ys) = true := immL_all.mpr fun d hd => (List.mem_append.mp hd).elim (immL_all.mp h1 d) (immL_all.mp h2 d)
theorem boxes_imm (ws : List Int) (g : Int) : ∀ (y : Int) (gr : List (List GC)), immL (boxes ws g y gr) = true
  | _, [] => rfl
  | y, r :: rs => immL_app (rowBox_imm ..) (boxes_imm ws g _ rs)
/-- the two sums a cell is laid by -/
theorem cut_sums {ws : List Int} {a b : Nat} (h : a + b ≤ ws.length) : sliceD (.tuple (ws.map PyData.int)) none (some (a : Nat)) = some (.tuple ((ws.take a).map PyData.int)) ∧ ∀ e : Int, e = ((a + b : Nat) : Int) → sliceD (.tuple (ws.map PyData.int)) (some (a : Nat)) (some e) = some (.tuple (((ws.drop a).take b).map PyData.int)) := by
  refine ⟨by rw [slice_tuple immL_ints, cut_map, cut_to], fun e he => ?_⟩
  subst he
  rw [slice_tuple immL_ints, cut_map, cut_nat h, show a + b - a = b by omega]
theorem laid_row {ws : List Int} {g y hh : Int} (gd m sp : Slot) (g0 : 0 ≤ g) (g1 : g ≤ 1000) : ∀ (r : List GC) (a : Nat) (acc : List D), (∀ c ∈ r, 1 ≤ c.b) → a + brd r ≤ ws.length → acc.length + r.length ≤ 10000 →
    forL [8, 9, 10] (.tp ((.nm 8) :: ((.nm 9) :: []))) l0_laid (spansR a r) [gd, .view (.tuple (ws.map PyData.int)), .view (.int g), m, .own (.list acc), .own (.int y), sp, .view (.int hh), dd, dd, dd, dd, dd] = .ok (.nx [gd, .view (.tuple (ws.map PyData.int)), .view (.int g), m, .own (.list (acc ++ rowBox ws g y hh a r)), .own (.int y), sp, .view (.int hh), dd, dd, dd, dd, dd])
  | [], a, acc, _, _, _ => by simp [spansR, rowBox, forL]
  | c :: r, a, acc, hb, hs, hz => by
    have c1 := hb c List.mem_cons_self
    have hs' : a + c.b + brd r ≤ ws.length := by
      have : brd (c :: r) = c.b + brd r := by simp [brd]
      omega
    have ih := laid_row (ws := ws) (g := g) (y := y) (hh := hh) gd m sp g0 g1 r (a + c.b) (acc ++ [boxD ws g y hh a c.b]) (fun c hc => hb c (List.mem_cons_of_mem _ hc)) hs' (by simp at hz ⊢; omega)
    have hz' : acc.length < 16000000 := by simp at hz; omega
    obtain ⟨k1, k2⟩ := cut_sums (ws := ws) (a := a) (b := c.b) (by omega)
    have k2 := k2 ((a : Int) + c.b) (by omega)
    have e1 : (a : Int) + c.b - 1 - a = (c.b : Int) - 1 := by omega
    have s1 : sumD [.tuple ((ws.take a).map PyData.int)] = some (.int (ws.take a).sum) := sumD_intsT
    have s2 : sumD [.tuple (((ws.drop a).take c.b).map PyData.int)] = some (.int ((ws.drop a).take c.b).sum) := sumD_intsT
    obtain ⟨p, hp⟩ : ∃ p, (ws.take a).sum = p := ⟨_, rfl⟩
    obtain ⟨q, hq⟩ : ∃ q, ((ws.drop a).take c.b).sum = q := ⟨_, rfl⟩
    obtain ⟨P, hP⟩ : ∃ P, (ws.take a).map PyData.int = P := ⟨_, rfl⟩
    obtain ⟨Q, hQ⟩ : ∃ Q, ((ws.drop a).take c.b).map PyData.int = Q := ⟨_, rfl⟩
    rw [hP] at k1 s1
    rw [hQ] at k2 s2
    rw [hp] at s1
    rw [hq] at s2
    have bx : boxD ws g y hh a c.b = .tuple [.int (p + g * a), .int y, .int (q + g * ((c.b : Int) - 1)), .int hh] := by rw [boxD, hp, hq]
    show forL _ _ _ (spanD a c.b :: spansR (a + c.b) r) _ = _
    refine (forL_cons (e2 := [gd, .view (.tuple (ws.map PyData.int)), .view (.int g), m, .own (.list (acc ++ [boxD ws g y hh a c.b])), .own (.int y), sp, .view (.int hh), .view (.int a), .view (.int ((a : Int) + c.b - 1)), .own (.int (p + g * a)), dd, dd]) rfl ?_).trans ?_
    · rw [bx]
      simp [l0_laid, k1, k2, s1, s2, mulD_l (i := g) (by omega) (by omega), e1, hz']
    · refine Eq.trans ?_ (ih.trans ?_)
      · rfl
      · simp [rowBox]
structure WOk (n : Nat) (ws : List Int) : Prop where
  len : ws.length = n
  w0 : ∀ x ∈ ws, 0 ≤ x
  w1 : ∀ x ∈ ws, x ≤ 100
theorem spanT_iter {r : List GC} (e : DV.Env) (i : Nat) (h : e.at i = .view (spanT r)) : iTpl (eReadP i) e = .ok (spansR 0 r, e) := by
  simp [h, spanT]
theorem laid_turn {n : Nat} {ws : List Int} {g y : Int} {r : List GC} (gd m : Slot) (F : List D) (g0 : 0 ≤ g) (g1 : g ≤ 1000) (hw : WOk n ws) (hr : ROk n r) (hn : n ≤ 8) (hF : F.length ≤ 1000) :
    ∃ e2, l1_laid [gd, .view (.tuple (ws.map PyData.int)), .view (.int g), m, .own (.list F), .own (.int y), .view (spanT r), .view (.int (hi r)), dd, dd, dd, dd, dd] = .ok (.nx e2) ∧ killS [6, 7, 8, 9, 10] e2 = [gd, .view (.tuple (ws.map PyData.int)), .view (.int g), m, .own (.list (F ++ rowBox ws g y (hi r) 0 r)), .own (.int (y + hi r + g)), dd, dd, dd, dd, dd, dd, dd] := by
  have rs := row_small hr hn
  have lr := laid_row (ws := ws) (g := g) (y := y) (hh := hi r) gd m (.view (spanT r)) g0 g1 r 0 F hr.b1 (by rw [hr.sum, hw.len]; omega) (by omega)
  have it := spanT_iter (r := r) [gd, .view (.tuple (ws.map PyData.int)), .view (.int g), m, .own (.list F), .own (.int y), .view (spanT r), .view (.int (hi r)), dd, dd, dd, dd, dd] 6 rfl
  refine ⟨[gd, .view (.tuple (ws.map PyData.int)), .view (.int g), m, .own (.list (F ++ rowBox ws g y (hi r) 0 r)), .own (.int (y + (hi r + g))), .view (spanT r), .view (.int (hi r)), dd, dd, dd, dd, dd], ?_, ?_⟩
  · simp [l1_laid, -iTpl_is, it, lr]
  · simp; omega
theorem laid_loop {n : Nat} {ws : List Int} {g : Int} (gd m : Slot) (g0 : 0 ≤ g) (g1 : g ≤ 1000) (hw : WOk n ws) (hn : n ≤ 8) : ∀ (gr : List (List GC)) (y : Int) (F : List D), (∀ r ∈ gr, ROk n r) → F.length + 8 * gr.length ≤ 1000 →
    ∃ y', forL [6, 7, 8, 9, 10] (.tp ((.nm 6) :: ((.nm 7) :: []))) l1_laid (gr.map fun r => .tuple [spanT r, hiD r]) [gd, .view (.tuple (ws.map PyData.int)), .view (.int g), m, .own (.list F), .own (.int y), dd, dd, dd, dd, dd, dd, dd] = .ok (.nx [gd, .view (.tuple (ws.map PyData.int)), .view (.int g), m, .own (.list (F ++ boxes ws g y gr)), .own (.int y'), dd, dd, dd, dd, dd, dd, dd])
  | [], y, F, _, _ => ⟨y, by simp [boxes, forL]⟩
  | r :: gr, y, F, h, hz => by
    have hr := h r List.mem_cons_self
    have rs := row_small hr hn
    simp only [List.length_cons] at hz
    obtain ⟨e2, h1, h2⟩ := laid_turn (y := y) gd m F g0 g1 hw hr hn (by omega)
    obtain ⟨y', ih⟩ := laid_loop gd m g0 g1 hw hn gr (y + hi r + g) (F ++ rowBox ws g y (hi r) 0 r) (fun r hr => h r (List.mem_cons_of_mem _ hr)) (by rw [List.length_append, rowBox_len]; omega)
    refine ⟨y', ?_⟩
    rw [List.map_cons]
    refine (forL_cons rfl h1).trans ?_
    rw [h2, ih]
    simp [boxes]
theorem laid_ok {n : Nat} {gr : List (List GC)} {ws : List Int} {g : Int} (h : GrOk n gr) (hw : WOk n ws) (g0 : 0 ≤ g) (g1 : g ≤ 1000) : D_laid [gridD gr, .tuple (ws.map PyData.int), .int g] = .ok (.tuple (boxes ws g 0 gr), .none) := by
  have n8 := h.n8
  have hz := hw.len
  obtain ⟨r0, hr0, i0⟩ := grid_first h
  have ok0 := h.rows r0 hr0
  let env : DV.Env := [.view (gridD gr), .view (.tuple (ws.map PyData.int)), .view (.int g), dd, dd, dd, dd, dd, dd, dd, dd, dd, dd]
  let env2 : DV.Env := [.view (gridD gr), .view (.tuple (ws.map PyData.int)), .view (.int g), .own (.int n), dd, dd, dd, dd, dd, dd, dd, dd, dd]
  have e1 := brds (r := r0) (i := 11) (it := iTpl (eImm (eIx (eRead 0) (eC (.int 0))))) env (by simp [env, i0, imm_row]; simp [rowD]) (by have := row_small ok0 n8; omega) (by simp [env])
  have s1 := brd_sum (r := r0)
  rw [ok0.sum] at s1
  obtain ⟨Y, hY⟩ : ∃ Y, (r0.map fun c => (c.b : Int)).map PyData.int = Y := ⟨_, rfl⟩
  rw [hY] at e1 s1
  have e2 : eLc [12] (.nm 12) (iTpl (eReadP 1)) tYesE (eFn 1 (D_is_integer) (aCons (eRead 12) aNil)) env2 = .ok (.list (ws.map fun _ => .bool true), env2) :=
    lc_map PyData.int (fun _ => .bool true) (by simp [env2]) (by omega) fun x _ => ⟨_, rfl, by simp [is_integer_int, env2]⟩
  have e3 : eLc [12] (.nm 12) (iTpl (eReadP 1)) tYesE (eChain (eC (.int 0)) (cLink leD (eRead 12) (cLast leD (eC (.int 100000))))) env2 = .ok (.list (ws.map fun _ => .bool true), env2) :=
    lc_map PyData.int (fun _ => .bool true) (by simp [env2]) (by omega) fun x hx => ⟨_, rfl, by
      have a := hw.w0 x hx
      have b := hw.w1 x hx
      simp [env2, a, show x ≤ 100000 by omega]⟩
  have zp : zipD [.tuple (gr.map spanT), .tuple (gr.map hiD)] = some (gr.map fun r => .tuple [spanT r, hiD r]) := by
    show some _ = _
    rw [List.zip_map', List.map_map]
    rfl
  have i1 : immL (gr.map spanT) = true := immL_map fun r _ => by simp [spanT, spansR_imm]
  have i2 : immL (gr.map hiD) = true := immL_map fun _ _ => rfl
  obtain ⟨y', lp⟩ := laid_loop (ws := ws) (g := g) (.view (gridD gr)) (.own (.int n)) g0 g1 hw n8 gr 0 [] h.rows (by have := h.l60; simp; omega)
  obtain ⟨P, hP⟩ : ∃ P, gr.map spanT = P := ⟨_, rfl⟩
  obtain ⟨Q, hQ⟩ : ∃ Q, gr.map hiD = Q := ⟨_, rfl⟩
  obtain ⟨Z, hZ⟩ : ∃ Z, (gr.map fun r => PyData.tuple [spanT r, hiD r]) = Z := ⟨_, rfl⟩
  have sp := spans_ok h
  have hs := heights_ok h
  rw [hP, hQ, hZ] at zp
  rw [hZ] at lp
  rw [hP] at sp i1
  rw [hQ] at hs i2
  simp only [env, env2, List.nil_append] at e1 e2 e3 lp
  have q1 : g ≤ 100000 := by omega
  have al : allD [.list (ws.map fun _ => .bool true)] = some (.bool true) := allD_true
  obtain ⟨B, hB⟩ : ∃ B, (ws.map fun _ => PyData.bool true) = B := ⟨_, rfl⟩
  rw [hB] at e2 e3 al
  obtain ⟨X, hX⟩ : ∃ X, boxes ws g 0 gr = X := ⟨_, rfl⟩
  have iX : immL X = true := by rw [← hX]; exact boxes_imm ws g 0 gr
  rw [hX] at lp ⊢
  simp [D_laid, denOf_is, argEnv, f_laid, check_grid_ok h, e1, s1, PyData.plain, plain_ints, hw.len, e2, e3, al, is_integer_int, g0, q1, sp, hs, zp, lp, tupleD_list iX]
end FnT
end
section
set_option Elab.async false
set_option linter.all false
set_option maxRecDepth 100000
namespace FnT
open PySem PySem.Spec DV M61
/-! the law's grids -/
theorem hts {r : List GC} (env : DV.Env) {i : Nat} {it : Ei} (hi : it env = .ok (r.map GC.d, env)) (hz : r.length ≤ 1000) (hl : i < env.length) : eLc [i] (.nm i) it tYesE (eImm (eIx (eRead i) (eC (.int 1)))) env = .ok (.list ((r.map GC.h).map PyData.int), env) := by
  rw [List.map_map]
  refine lc_map GC.d (fun c => .int c.h) hi (by omega) (fun c hc => ⟨(killS [i] env).set i (.view c.d), by simp [hl], ?_⟩) (by simp [Tg.slots])
  have : Env.at ((killS [i] env).set i (.view c.d)) i = .view c.d := by
    rw [at_set (by simp [hl]), if_pos rfl]
  simp only [eImm_is, eIx_is, eRead_is, this, get_view, bind_ok, eC_is]
  simp [GC.d, tix1]
abbrev EG (s : D) (n : Nat) (R : List D) (g : Int) (k : Slot) (acc : List GC) (left : Int) (w : Slot) : DV.Env := [.own s, .own (.int n), .own (.list R), .own (.int g), k, .own (.list (acc.map GC.d)), .own (.int left), w, dd, dd, dd, dd, dd, dd, dd, dd, dd, dd]
theorem gen_row {n : Nat} {g : Int} {R : List D} {k : Slot} : ∀ (left : Nat) (s : D) (acc : List GC) (w : Slot), St s → left ≤ 8 → acc.length + left ≤ 100 → ∃ r s', sWhile [7] (eT (eBin gtD (eRead 6) (eC (.int 0)))) l2__law_grids_hold (EG s n R g k acc (left : Nat) w) = .ok (.nx (EG s' n R g k (acc ++ r) 0 dd)) ∧ St s' ∧ brd r = left ∧ ∀ c ∈ r, 1 ≤ c.b ∧ c.b ≤ 8 ∧ 0 ≤ c.h ∧ c.h ≤ 50 := fun left => by
  induction left using Nat.strongRecOn with
  | _ left ih =>
    intro s acc w hs h8 hz
    by_cases h0 : left = 0
    · subst h0
      refine ⟨[], s, ?_, hs, rfl, by simp⟩
      rw [sWhile_eq]
      simp [EG]
    · obtain ⟨v, s1, e1, h1, v0, v1⟩ := draw_ok hs (m := left) (by omega) (by omega)
      obtain ⟨x, s2, e2, h2, x0, x1⟩ := draw_ok h1 (m := 50) (by omega) (by omega)
      obtain ⟨b, hb⟩ : ∃ b : Nat, 1 + v = (b : Int) := ⟨(1 + v).toNat, by omega⟩
      have eb : ((left : Nat) : Int) - b = ((left - b : Nat) : Int) := by omega
      obtain ⟨r, s', er, hs', hr, hc⟩ := ih (left - b) (by omega) s2 (acc ++ [⟨b, x⟩]) (.own (.int b)) h2 (by omega) (by simp; omega)
      refine ⟨⟨b, x⟩ :: r, s', ?_, hs', by simp only [brd, List.map_cons, List.sum_cons] at hr ⊢; omega, fun c hc' => ?_⟩
      · have hz' : acc.length < 16000000 := by omega
        have body : l2__law_grids_hold (EG s n R g k acc (left : Nat) dd) = .ok (.nx (EG s2 n R g k (acc ++ [⟨b, x⟩]) ((left - b : Nat) : Int) (.own (.int b)))) := by
          simp [EG, l2__law_grids_hold, e1, e2, hb, hz', GC.d, eb]
        rw [sWhile_eq]
        have pos : (0 : Int) < (left : Nat) := by omega
        have tk : eT (eBin gtD (eRead 6) (eC (.int 0))) (killS [7] (EG s n R g k acc (left : Nat) w)) = .ok (true, EG s n R g k acc (left : Nat) dd) := by
          simp [EG]
          omega
        rw [tk]
        simp only [bind_ok, if_true, body, loopK]
        rw [er]
        simp
      · rcases List.mem_cons.mp hc' with rfl | z
        · simp only
          omega
        · exact hc c z
/-- the slots while the law lays its grid -/
abbrev EL8 (s : D) (n : Nat) (R2 : Slot) (g : Int) (row : Slot) (wd : Slot) (G : D) (ws : List Int) (sp : List D) (hg : D) (due : List D) (y : Int) (f o h : Slot) : DV.Env := [.own s, .own (.int n), R2, .own (.int g), dd, row, dd, wd, .own G, .own (.tuple (ws.map PyData.int)), .own (.list sp), .own hg, .own (.list due), .own (.int y), f, o, h, dd]
theorem grid_inner {s : D} {n : Nat} {R2 : Slot} {g y : Int} {G hg : D} {ws : List Int} {sp : List D} {r : List GC} (g0 : 0 ≤ g) (g1 : g ≤ 1000) (hne : r ≠ []) (hrl : r.length ≤ 100) : ∀ (q : List GC) (a : Nat) (acc due : List D), (∀ c ∈ q, 1 ≤ c.b) → a + brd q ≤ ws.length → acc.length + q.length ≤ 1000 → due.length + q.length ≤ 10000 →
    forL [7, 16] (.tp ((.nm 7) :: ((.nm 16) :: []))) l0__law_grids_hold (q.map GC.d) (EL8 s n R2 g (.view (rowD r)) dd G ws sp hg due y (.own (.int (a : Nat))) (.own (.list acc)) dd) = .ok (.nx (EL8 s n R2 g (.view (rowD r)) dd G ws sp hg (due ++ rowBox ws g y (hi r) a q) y (.own (.int ((a + brd q : Nat) : Int))) (.own (.list (acc ++ spansR a q))) dd))
  | [], a, acc, due, _, _, _, _ => by simp [EL8, forL, rowBox, spansR, brd]
  | c :: q, a, acc, due, hb, hs, hz, hz2 => by
    have c1 := hb c List.mem_cons_self
    have bq : brd (c :: q) = c.b + brd q := by simp [brd]
    have ih := grid_inner (R2 := R2) (ws := ws) (s := s) (n := n) (y := y) (G := G) (hg := hg) (sp := sp) (r := r) g0 g1 hne hrl q (a + c.b) (acc ++ [spanD a c.b]) (due ++ [boxD ws g y (hi r) a c.b]) (fun c hc => hb c (List.mem_cons_of_mem _ hc)) (by omega) (by simp at hz ⊢; omega) (by simp at hz2 ⊢; omega)
    have z1 : acc.length < 16000000 := by simp at hz; omega
    have z2 : due.length < 16000000 := by simp at hz2; omega
    obtain ⟨k1, k2⟩ := cut_sums (ws := ws) (a := a) (b := c.b) (by omega)
    have k2 := k2 ((a : Int) + c.b) (by omega)
    have s1 : sumD [.tuple ((ws.take a).map PyData.int)] = some (.int (ws.take a).sum) := sumD_intsT
    have s2 : sumD [.tuple (((ws.drop a).take c.b).map PyData.int)] = some (.int ((ws.drop a).take c.b).sum) := sumD_intsT
    obtain ⟨p, hp⟩ : ∃ p, (ws.take a).sum = p := ⟨_, rfl⟩
    obtain ⟨u, hu⟩ : ∃ u, ((ws.drop a).take c.b).sum = u := ⟨_, rfl⟩
    obtain ⟨P, hP⟩ : ∃ P, (ws.take a).map PyData.int = P := ⟨_, rfl⟩
    obtain ⟨Q, hQ⟩ : ∃ Q, ((ws.drop a).take c.b).map PyData.int = Q := ⟨_, rfl⟩
    rw [hP] at k1 s1
    rw [hQ] at k2 s2
    rw [hp] at s1
    rw [hu] at s2
    have bx : boxD ws g y (hi r) a c.b = .tuple [.int (p + g * a), .int y, .int (u + g * ((c.b : Int) - 1)), .int (hi r)] := by rw [boxD, hp, hu]
    -- the highest of the row
    have mh := hi_max hne
    have e1 := hts (r := r) (i := 17) (it := iTpl (eReadP 5)) (EL8 s n R2 g (.view (rowD r)) (.view (.int c.b)) G ws sp hg due y (.own (.int (a : Nat))) (.own (.list (acc ++ [spanD a c.b]))) (.view (.int c.h))) (by simp [EL8, rowD]) (by omega) (by simp [EL8])
    obtain ⟨X, hX⟩ : ∃ X, (r.map GC.h).map PyData.int = X := ⟨_, rfl⟩
    rw [hX] at mh e1
    have body : l0__law_grids_hold (EL8 s n R2 g (.view (rowD r)) (.view (.int c.b)) G ws sp hg due y (.own (.int (a : Nat))) (.own (.list acc)) (.view (.int c.h))) = .ok (.nx (EL8 s n R2 g (.view (rowD r)) (.view (.int c.b)) G ws sp hg (due ++ [boxD ws g y (hi r) a c.b]) y (.own (.int ((a + c.b : Nat) : Int))) (.own (.list (acc ++ [spanD a c.b]))) (.view (.int c.h)))) := by
      simp only [EL8, spanD] at e1
      rw [bx]
      simp [l0__law_grids_hold, EL8, spanD, z1, z2, k1, k2, s1, s2, e1, mh, mulD_l (i := g) (by omega) (by omega)]
    rw [List.map_cons]
    refine (forL_cons rfl body).trans ?_
    refine Eq.trans ?_ (ih.trans ?_)
    · rfl
    · simp [rowBox, spansR, bq, Nat.add_assoc]
theorem grid_turn {s : D} {n : Nat} {R2 : Slot} {g y : Int} {G hg : D} {ws : List Int} {sp due : List D} {r : List GC} (g0 : 0 ≤ g) (g1 : g ≤ 1000) (hr : ROk n r) (hn : n ≤ 8) (hw : WOk n ws) (hz : sp.length ≤ 100) (hz2 : due.length ≤ 1000) :
    ∃ e2, l1__law_grids_hold (EL8 s n R2 g (.view (rowD r)) dd G ws sp hg due y dd dd dd) = .ok (.nx e2) ∧ killS [5, 7, 14, 15, 16] e2 = EL8 s n R2 g dd dd G ws (sp ++ [spanT r]) hg (due ++ rowBox ws g y (hi r) 0 r) (y + hi r + g) dd dd dd := by
  have rs := row_small hr hn
  have lp := grid_inner (R2 := R2) (s := s) (n := n) (y := y) (G := G) (hg := hg) (sp := sp) (r := r) (ws := ws) g0 g1 hr.ne (by omega) r 0 [] due hr.b1 (by rw [hr.sum, hw.len]; omega) (by simp; omega) (by omega)
  have mh := hi_max hr.ne
  obtain ⟨B, hB⟩ : ∃ B, rowBox ws g y (hi r) 0 r = B := ⟨_, rfl⟩
  rw [hB] at lp ⊢
  let e0 : DV.Env := EL8 s n R2 g (.view (rowD r)) dd G ws (sp ++ [spanT r]) hg (due ++ B) y (.own (.int (brd r : Nat))) (.own (.list (spansR 0 r))) dd
  have e1 := hts (r := r) (i := 17) (it := iTpl (eReadP 5)) e0 (by simp [e0, EL8, rowD]) (by omega) (by simp [e0, EL8])
  obtain ⟨X, hX⟩ : ∃ X, (r.map GC.h).map PyData.int = X := ⟨_, rfl⟩
  rw [hX] at mh e1
  simp only [e0, EL8, spanT] at e1
  have it : ∀ f o : Slot, iTpl (eReadP 5) (EL8 s n R2 g (.view (rowD r)) dd G ws sp hg due y f o dd) = .ok (r.map GC.d, EL8 s n R2 g (.view (rowD r)) dd G ws sp hg due y f o dd) := fun f o => by simp [EL8, rowD]
  simp only [EL8, Int.cast_ofNat_Int, Nat.zero_add, List.nil_append] at lp it
  have z1 : sp.length < 16000000 := by omega
  refine ⟨EL8 s n R2 g (.view (rowD r)) dd G ws (sp ++ [spanT r]) hg (due ++ B) (y + hi r + g) (.own (.int (brd r : Nat))) (.own (.list (spansR 0 r))) dd, ?_, rfl⟩
  simp [l1__law_grids_hold, EL8, -iTpl_is, it, lp, tupleD_list (spansR_imm 0 r), z1, spanT, e1, mh]
theorem grid_loop {s : D} {n : Nat} {R2 : Slot} {g : Int} {G hg : D} {ws : List Int} (g0 : 0 ≤ g) (g1 : g ≤ 1000) (hn : n ≤ 8) (hw : WOk n ws) : ∀ (gr : List (List GC)) (y : Int) (sp due : List D), (∀ r ∈ gr, ROk n r) → sp.length + gr.length ≤ 100 → due.length + 8 * gr.length ≤ 1000 →
    ∃ y', forL [5, 7, 14, 15, 16] (.nm 5) l1__law_grids_hold (gr.map rowD) (EL8 s n R2 g dd dd G ws sp hg due y dd dd dd) = .ok (.nx (EL8 s n R2 g dd dd G ws (sp ++ gr.map spanT) hg (due ++ boxes ws g y gr) y' dd dd dd))
  | [], y, sp, due, _, _, _ => ⟨y, by simp [EL8, forL, boxes]⟩
  | r :: gr, y, sp, due, h, hz, hz2 => by
    have hr := h r List.mem_cons_self
    have rs := row_small hr hn
    simp only [List.length_cons] at hz hz2
    obtain ⟨e2, h1, h2⟩ := grid_turn (R2 := R2) (s := s) (G := G) (hg := hg) (y := y) (sp := sp) (due := due) g0 g1 hr hn hw (by omega) (by omega)
    obtain ⟨y', ih⟩ := grid_loop (R2 := R2) (s := s) (G := G) (hg := hg) g0 g1 hn hw gr (y + hi r + g) (sp ++ [spanT r]) (due ++ rowBox ws g y (hi r) 0 r) (fun r hr => h r (List.mem_cons_of_mem _ hr)) (by simp; omega) (by rw [List.length_append, rowBox_len]; omega)
    refine ⟨y', ?_⟩
    rw [List.map_cons]
    refine (forL_cons rfl h1).trans ?_
    rw [h2, ih]
    simp [boxes]
end FnT
end
section
set_option Elab.async false
set_option linter.all false
set_option maxRecDepth 100000
namespace FnT
open PySem PySem.Spec DV M61
theorem rows_turn {n : Nat} {g : Int} {s : D} {gr : List (List GC)} {d : D} (n1 : 1 ≤ n) (n8 : n ≤ 8) (hs : St s) (hz : gr.length ≤ 100) : ∃ r s' e2, l3__law_grids_hold [.own s, .own (.int n), .own (.list (gr.map rowD)), .own (.int g), .view d, dd, dd, dd, dd, dd, dd, dd, dd, dd, dd, dd, dd, dd] = .ok (.nx e2) ∧
    killS [4, 5, 6, 7] e2 = [.own s', .own (.int n), .own (.list ((gr ++ [r]).map rowD)), .own (.int g), dd, dd, dd, dd, dd, dd, dd, dd, dd, dd, dd, dd, dd, dd] ∧ St s' ∧ ROk n r := by
  obtain ⟨r, s', er, hs', hr, hc⟩ := gen_row (n := n) (g := g) (R := gr.map rowD) (k := .view d) n s [] dd hs n8 (by simp; omega)
  have ok : ROk n r := by
    refine ⟨fun z => ?_, fun c h => (hc c h).1, fun c h => (hc c h).2.1, fun c h => (hc c h).2.2.1, fun c h => (hc c h).2.2.2, hr⟩
    subst z
    simp [brd] at hr
    omega
  refine ⟨r, s', [.own s', .own (.int n), .own (.list ((gr ++ [r]).map rowD)), .own (.int g), .view d, .own (.list (r.map GC.d)), .own (.int 0), dd, dd, dd, dd, dd, dd, dd, dd, dd, dd, dd], ?_, rfl, hs', ok⟩
  simp only [EG, List.map_nil, List.nil_append] at er
  have hz' : gr.length < 16000000 := by omega
  simp [l3__law_grids_hold, er, tupleD_list immL_row, hz', rowD]
/-! what is told of grids fits -/
theorem sum_bd {l : List Int} (h : ∀ x ∈ l, 0 ≤ x ∧ x ≤ 100) : 0 ≤ l.sum ∧ l.sum ≤ 100 * (l.length : Int) := by
  induction l with
  | nil => simp
  | cons x l ih =>
    have a := h x List.mem_cons_self
    have b := ih fun y hy => h y (List.mem_cons_of_mem _ hy)
    simp only [List.sum_cons, List.length_cons]
    omega
theorem box_small {ws : List Int} {g y hh : Int} {a b : Nat} (hw : ∀ x ∈ ws, 0 ≤ x ∧ x ≤ 100) (hl : ws.length ≤ 8) (g0 : 0 ≤ g) (g1 : g ≤ 10) (y0 : 0 ≤ y) (y1 : y ≤ 1000000) (h0 : 0 ≤ hh) (h1 : hh ≤ 50) (ha : a ≤ 8) (hb : b ≤ 8) : smallD (boxD ws g y hh a b) = true := by
  have t1 := sum_bd (l := ws.take a) fun x hx => hw x (List.mem_of_mem_take hx)
  have t2 := sum_bd (l := (ws.drop a).take b) fun x hx => hw x (List.mem_of_mem_drop (List.mem_of_mem_take hx))
  have t3 : ((ws.take a).length : Int) ≤ 8 := by rw [List.length_take]; omega
  have t4 : (((ws.drop a).take b).length : Int) ≤ 8 := by rw [List.length_take, List.length_drop]; omega
  have p1 : 0 ≤ g * (a : Int) := Int.mul_nonneg g0 (by omega)
  have p2 : g * (a : Int) ≤ 10 * (a : Int) := Int.mul_le_mul_of_nonneg_right g1 (by omega)
  have p3 : g * ((b : Int) - 1) ≤ 10 * 8 := by
    have : g * ((b : Int) - 1) ≤ g * 8 := Int.mul_le_mul_of_nonneg_left (by omega) g0
    omega
  have p4 : g * (-1) ≤ g * ((b : Int) - 1) := Int.mul_le_mul_of_nonneg_left (by omega) g0
  simp only [boxD, smallD_tuple, smallL_cons, smallD_int, smallL_nil, Bool.and_true, Bool.and_eq_true, decide_eq_true_eq]
  omega
theorem rowBox_small {ws : List Int} {g y hh : Int} (hw : ∀ x ∈ ws, 0 ≤ x ∧ x ≤ 100) (hl : ws.length ≤ 8) (g0 : 0 ≤ g) (g1 : g ≤ 10) (y0 : 0 ≤ y) (y1 : y ≤ 1000000) (h0 : 0 ≤ hh) (h1 : hh ≤ 50) : ∀ (r : List GC) (a : Nat), a + brd r ≤ 8 → smallL (rowBox ws g y hh a r) = true
  | [], _, _ => rfl
  | c :: r, a, h => by
    have : brd (c :: r) = c.b + brd r := by simp [brd]
    have ih := rowBox_small (y := y) (hh := hh) hw hl g0 g1 y0 y1 h0 h1 r (a + c.b) (by omega)
    simp only [rowBox, smallL_cons, ih, box_small hw hl g0 g1 y0 y1 h0 h1 (show a ≤ 8 by omega) (show c.b ≤ 8 by omega), Bool.and_true]
theorem smallL_app {xs ys : List D} (h1 : smallL xs = true) (h2 : smallL ys = true) : smallL (xs ++ ys) = true := smallL_all.mpr fun d hd => (List.mem_append.mp hd).elim (smallL_all.mp h1 d) (smallL_all.mp h2 d)
theorem boxes_small {n : Nat} {ws : List Int} {g : Int} (hw : ∀ x ∈ ws, 0 ≤ x ∧ x ≤ 100) (hl : ws.length ≤ 8) (g0 : 0 ≤ g) (g1 : g ≤ 10) (hn : n ≤ 8) : ∀ (gr : List (List GC)) (y : Int), (∀ r ∈ gr, ROk n r) → 0 ≤ y → y + 100 * gr.length ≤ 1000000 → smallL (boxes ws g y gr) = true
  | [], _, _, _, _ => rfl
  | r :: gr, y, h, y0, y1 => by
    have hr := h r List.mem_cons_self
    have hb := hi_bd hr
    simp only [List.length_cons] at y1
    exact smallL_app (rowBox_small hw hl g0 g1 y0 (by omega) hb.1 hb.2 r 0 (by rw [hr.sum]; omega)) (boxes_small hw hl g0 g1 hn gr (y + hi r + g) (fun r hr => h r (List.mem_cons_of_mem _ hr)) (by omega) (by omega))
theorem rowBox_wt {ws : List Int} {g y hh : Int} : ∀ (r : List GC) (a : Nat), ∀ d ∈ rowBox ws g y hh a r, wtD d ≤ 95 ∧ d.depth ≤ 1
  | [], _, d, hd => by simp [rowBox] at hd
  | c :: r, a, d, hd => by
    rcases List.mem_cons.mp (show d ∈ boxD ws g y hh a c.b :: rowBox ws g y hh (a + c.b) r from hd) with rfl | z
    · simp [boxD, PyData.depth, PyData.depthAll]
    · exact rowBox_wt r (a + c.b) d z
theorem boxes_wt {ws : List Int} {g : Int} : ∀ (gr : List (List GC)) (y : Int), ∀ d ∈ boxes ws g y gr, wtD d ≤ 95 ∧ d.depth ≤ 1
  | [], _, d, hd => by simp [boxes] at hd
  | r :: gr, y, d, hd => (List.mem_append.mp hd).elim (rowBox_wt r 0 d) (boxes_wt gr (y + hi r + g) d)
theorem boxes_len {n : Nat} {ws : List Int} {g : Int} (hn : n ≤ 8) : ∀ (gr : List (List GC)) (y : Int), (∀ r ∈ gr, ROk n r) → (boxes ws g y gr).length ≤ 8 * gr.length
  | [], _, _ => by simp [boxes]
  | r :: gr, y, h => by
    have a := row_small (h r List.mem_cons_self) hn
    have b := boxes_len (ws := ws) (g := g) hn gr (y + hi r + g) fun r hr => h r (List.mem_cons_of_mem _ hr)
    simp only [boxes, List.length_append, rowBox_len, List.length_cons]
    omega
theorem depth_le {l : List D} {k : Nat} (h : ∀ d ∈ l, d.depth ≤ k) : PyData.depthAll l ≤ k := by
  induction l with
  | nil => simp [PyData.depthAll]
  | cons d l ih =>
    have a := h d List.mem_cons_self
    have b := ih fun x hx => h x (List.mem_cons_of_mem _ hx)
    simp only [PyData.depthAll]
    omega
theorem spansR_ok : ∀ (r : List GC) (a : Nat), a + brd r ≤ 100 → smallL (spansR a r) = true ∧ (∀ d ∈ spansR a r, wtD d ≤ 60 ∧ d.depth ≤ 1)
  | [], _, _ => by simp [spansR]
  | c :: r, a, h => by
    have e : brd (c :: r) = c.b + brd r := by simp [brd]
    obtain ⟨i1, i2⟩ := spansR_ok r (a + c.b) (by omega)
    constructor
    · simp only [spansR, spanD, smallL_cons, smallD_tuple, smallD_int, smallL_nil, i1, Bool.and_true, Bool.and_eq_true, decide_eq_true_eq]
      omega
    · intro d hd
      rcases List.mem_cons.mp (show d ∈ spanD a c.b :: spansR (a + c.b) r from hd) with rfl | z
      · simp [spanD, PyData.depth, PyData.depthAll]
      · exact i2 d z
theorem spanT_ok {n : Nat} {r : List GC} (h : ROk n r) (hn : n ≤ 8) : smallD (spanT r) = true ∧ wtD (spanT r) ≤ 600 ∧ (spanT r).depth ≤ 2 := by
  obtain ⟨i1, i2⟩ := spansR_ok r 0 (by rw [h.sum]; omega)
  have rs := row_small h hn
  have w := wtL_le (xs := spansR 0 r) (k := 60) fun d hd => (i2 d hd).1
  have dp := depth_le (l := spansR 0 r) (k := 1) fun d hd => (i2 d hd).2
  rw [spansR_len] at w
  refine ⟨by simp only [spanT, smallD_tuple, i1], ?_, ?_⟩
  · simp only [spanT, wtD_tuple]
    omega
  · simp only [spanT, PyData.depth]
    omega
theorem grid_same {n : Nat} {ws : List Int} {g : Int} {gr : List (List GC)} (h : GrOk n gr) (hw : WOk n ws) (g0 : 0 ≤ g) (g1 : g ≤ 10) : D__law_same [.list [.tuple (gr.map spanT), .tuple (gr.map hiD), .tuple (boxes ws g 0 gr)], .list [.tuple (gr.map spanT), .tuple (gr.map hiD), .tuple (boxes ws g 0 gr)]] = .ok (.bool true, .none) := by
  have n8 := h.n8
  have l60 := h.l60
  have s1 : smallL (gr.map spanT) = true := smallL_map fun r hr => (spanT_ok (h.rows r hr) n8).1
  have s2 : smallL (gr.map hiD) = true := smallL_map fun r hr => by
    have := hi_bd (h.rows r hr)
    simp only [hiD, smallD_int, decide_eq_true_eq]
    omega
  have s3 : smallL (boxes ws g 0 gr) = true := boxes_small (n := n) (fun x hx => ⟨hw.w0 x hx, hw.w1 x hx⟩) (by rw [hw.len]; exact n8) g0 g1 n8 gr 0 h.rows (by omega) (by omega)
  have w1 := wtL_map (f := spanT) (l := gr) (k := 600) fun r hr => (spanT_ok (h.rows r hr) n8).2.1
  have w2 := wtL_map (f := hiD) (l := gr) (k := 21) fun r hr => by simp [hiD]
  have w3 := wtL_le (xs := boxes ws g 0 gr) (k := 95) fun d hd => (boxes_wt gr 0 d hd).1
  have bl := boxes_len (ws := ws) (g := g) n8 gr 0 h.rows
  have d1 := depth_le (l := gr.map spanT) (k := 2) fun d hd => by
    obtain ⟨r, hr, rfl⟩ := List.mem_map.mp hd
    exact (spanT_ok (h.rows r hr) n8).2.2
  have d2 := depth_le (l := gr.map hiD) (k := 0) fun d hd => by
    obtain ⟨r, hr, rfl⟩ := List.mem_map.mp hd
    simp [hiD, PyData.depth]
  have d3 := depth_le (l := boxes ws g 0 gr) (k := 1) fun d hd => (boxes_wt gr 0 d hd).2
  refine same_ok ?_ ?_ ?_
  · simp only [smallD_list, smallL_cons, smallD_tuple, s1, s2, s3, smallL_nil, Bool.and_true]
  · simp only [PyData.depth, PyData.depthAll]
    omega
  · simp only [wtD_list, wtL_cons, wtD_tuple, wtL_nil]
    omega
theorem grids_ok {st : D} (h : St st) : ∃ st', D__law_grids_hold [st] = .ok (.bool true, st') ∧ St st' := by
  obtain ⟨v, s1, e1, h1, v0, v1⟩ := draw_ok h (m := 8) (by omega) (by omega)
  obtain ⟨g, s2, e2, h2, g0, g1⟩ := draw_ok h1 (m := 9) (by omega) (by omega)
  obtain ⟨m, s3, e3, h3, hm⟩ := pick_int h2 (ns := [4, 60]) (by simp) (by simp)
  have hm' : 4 ≤ m ∧ m ≤ 60 := by simp at hm; omega
  obtain ⟨k, s4, e4, h4, k0, k1⟩ := draw_ok h3 (m := m) (by omega) (by omega)
  obtain ⟨n, hn⟩ : ∃ n : Nat, 1 + v = (n : Int) := ⟨(1 + v).toNat, by omega⟩
  obtain ⟨q, hq⟩ : ∃ q : Nat, 1 + k = (q : Int) := ⟨(1 + k).toNat, by omega⟩
  have n1 : 1 ≤ n := by omega
  have n8 : n ≤ 8 := by omega
  simp only [List.map_cons, List.map_nil] at e3
  -- the rows
  obtain ⟨env2, ef, s5, gr, hI, h5, hl, hrows⟩ := for_rel (ks := [4, 5, 6, 7]) (t := .nm 4) (b := l3__law_grids_hold) (fun i env => ∃ (s : D) (gr : List (List GC)), env = [.own s, .own (.int n), .own (.list (gr.map rowD)), .own (.int g), dd, dd, dd, dd, dd, dd, dd, dd, dd, dd, dd, dd, dd, dd] ∧ St s ∧ gr.length = i ∧ ∀ r ∈ gr, ROk n r) ((List.range q).map fun (i : Nat) => PyData.int (i : Int)) 0 [.own s4, .own (.int n), .own (.list []), .own (.int g), dd, dd, dd, dd, dd, dd, dd, dd, dd, dd, dd, dd, dd, dd] ⟨s4, [], rfl, h4, rfl, by simp⟩ (by
    rintro i d env hd ⟨s, gr, rfl, hs, hl, hr⟩
    have hi : i < q := by simpa using (List.getElem?_eq_some_iff.mp hd).1
    obtain ⟨r, s', e2, a1, a2, a3, a4⟩ := rows_turn (g := g) (d := d) n1 n8 hs (show gr.length ≤ 100 by omega)
    refine ⟨_, e2, rfl, .inl a1, s', gr ++ [r], a2, a3, by simp; omega, fun r' hr' => ?_⟩
    rcases List.mem_append.mp hr' with z | z
    · exact hr r' z
    · simp at z; subst z; exact a4)
  subst hI
  simp only [List.length_map, List.length_range, Nat.zero_add] at hl
  have gok : GrOk n gr := ⟨n1, n8, by omega, by omega, hrows⟩
  -- the widths
  let E1 : D → DV.Env := fun s => [.own s, .own (.int n), .own (.list (gr.map rowD)), .own (.int g), dd, dd, dd, dd, dd, dd, dd, dd, dd, dd, dd, dd, dd, dd]
  have er1 : rng1D [.int (n : Int)] = some ((List.range n).map fun (i : Nat) => PyData.int (i : Int)) := rng1_nat (by omega)
  obtain ⟨ys, e6, r1, r2, s6, r3, h6⟩ := lc_rel (vs := [4]) (t := .nm 4) (it := iFn rng1D (aCons (eRead 1) aNil)) (c := tYesE) (e := eFnIO 2 0 (D__law_draw) (zHere 0 (aCons (eC (.int 90)) aNil))) (env := E1 s5) (env1 := E1 s5) (xs := List.range n) (fun (i : Nat) => PyData.int (i : Int))
    (fun e => ∃ s, e = E1 s ∧ St s) (fun _ y => ∃ x : Int, y = .int x ∧ (0 ≤ x ∧ x ≤ 100)) (by simp [E1, er1]) (by simp; omega) ⟨s5, rfl, h5⟩ (by
      rintro i hi e ⟨s, rfl, hs⟩
      obtain ⟨u, s', eu, hs', u0, u1⟩ := draw_ok hs (m := 90) (by omega) (by omega)
      refine ⟨_, _, .int u, [.own s', .own (.int n), .own (.list (gr.map rowD)), .own (.int g), .view (.int i), dd, dd, dd, dd, dd, dd, dd, dd, dd, dd, dd, dd, dd], rfl, rfl, ?_, ⟨u, rfl, u0, by omega⟩, s', by simp [E1], hs'⟩
      simp [E1, eu])
  obtain ⟨ws, rfl, rw2⟩ := F2.unmap (f := PyData.int) (r := fun (_ : Nat) (x : Int) => 0 ≤ x ∧ x ≤ 100) r2
  subst r3
  have wok : WOk n ws := ⟨by rw [rw2.length]; simp, rw2.all_right fun _ _ _ z => z.1, rw2.all_right fun _ _ _ z => z.2⟩
  -- the heights
  let W : D := .tuple (ws.map PyData.int)
  have hz := gok.l60
  have eh : eLc [5] (.nm 5) (iTpl (eReadP 8)) tYesE (eCall maxD1 (aCons (eLc [17] (.nm 17) (iTpl (eReadP 5)) tYesE (eImm (eIx (eRead 17) (eC (.int 1))))) aNil)) [.own s6, .own (.int n), .own (.list (gr.map rowD)), .own (.int g), dd, dd, dd, dd, .own (gridD gr), .own W, dd, dd, dd, dd, dd, dd, dd, dd] = .ok (.list (gr.map hiD), [.own s6, .own (.int n), .own (.list (gr.map rowD)), .own (.int g), dd, dd, dd, dd, .own (gridD gr), .own W, dd, dd, dd, dd, dd, dd, dd, dd]) :=
    lc_map rowD hiD (by simp [gridD, immL_grid]) (by omega) fun r hr => ⟨_, rfl, by
      have ok := gok.rows r hr
      have rs := row_small ok n8
      have e2 := hts (r := r) (i := 17) (it := iTpl (eReadP 5)) [.own s6, .own (.int n), .own (.list (gr.map rowD)), .own (.int g), dd, .view (rowD r), dd, dd, .own (gridD gr), .own W, dd, dd, dd, dd, dd, dd, dd, dd] (by simp [rowD]) (by omega) (by simp)
      have m := hi_max ok.ne
      obtain ⟨X, hX⟩ : ∃ X, (r.map GC.h).map PyData.int = X := ⟨_, rfl⟩
      rw [hX] at e2 m
      simp [e2, m, hiD]⟩
  have imH : immL (gr.map hiD) = true := immL_map fun _ _ => rfl
  have imS : immL (gr.map spanT) = true := immL_map fun r _ => by simp only [spanT, imm_tuple]; exact spansR_imm 0 r
  have imB := boxes_imm ws g 0 gr
  obtain ⟨y', gl⟩ := grid_loop (s := s6) (n := n) (R2 := .own (.list (gr.map rowD))) (g := g) (G := gridD gr) (hg := .tuple (gr.map hiD)) (ws := ws) g0 (by omega) n8 wok gr 0 [] [] gok.rows (by simp; omega) (by simp; omega)
  simp only [List.nil_append] at gl
  have c1 := spans_ok gok
  have c2 := heights_ok gok
  have c3 := laid_ok gok wok g0 (show g ≤ 1000 by omega)
  have c4 := grid_same gok wok g0 (show g ≤ 10 by omega)
  have nx := r1
  have tG : tupleD [.list (gr.map rowD)] = some (gridD gr) := tupleD_list immL_grid
  have tW : tupleD [.list (ws.map PyData.int)] = some W := tupleD_list immL_ints
  have tH : tupleD [.list (gr.map hiD)] = some (.tuple (gr.map hiD)) := tupleD_list imH
  have tS : tupleD [.list (gr.map spanT)] = some (.tuple (gr.map spanT)) := tupleD_list imS
  have tB : tupleD [.list (boxes ws g 0 gr)] = some (.tuple (boxes ws g 0 gr)) := tupleD_list imB
  have er2 : rng1D [.int (q : Int)] = some ((List.range q).map fun (i : Nat) => PyData.int (i : Int)) := rng1_nat (by omega)
  obtain ⟨GL, hGL⟩ : ∃ GL, gr.map rowD = GL := ⟨_, rfl⟩
  have iGL : immL GL = true := by rw [← hGL]; exact immL_grid
  have gGL : gridD gr = .tuple GL := by rw [← hGL, gridD]
  obtain ⟨WL, hWL⟩ : ∃ WL, ws.map PyData.int = WL := ⟨_, rfl⟩
  obtain ⟨HL, hHL⟩ : ∃ HL, gr.map hiD = HL := ⟨_, rfl⟩
  obtain ⟨SL, hSL⟩ : ∃ SL, gr.map spanT = SL := ⟨_, rfl⟩
  obtain ⟨BL, hBL⟩ : ∃ BL, boxes ws g 0 gr = BL := ⟨_, rfl⟩
  simp only [EL8] at gl
  simp only [W] at eh tW
  simp only [E1] at nx
  simp only [hGL, hWL, hHL, hSL, hBL, gGL] at ef eh gl c1 c2 c3 c4 nx tG tW tH tS tB imH imS imB
  have f1 : f__law_grids_hold [.own st, dd, dd, dd, dd, dd, dd, dd, dd, dd, dd, dd, dd, dd, dd, dd, dd, dd] = .ok (.rt (.bool true) [.own s6, .own (.int n), .own (.list GL), .own (.int g), dd, dd, dd, dd, .own (.tuple GL), .own (.tuple WL), .own (.list SL), .own (.tuple HL), .own (.list BL), .own (.int y'), dd, dd, dd, dd]) := by
    unfold f__law_grids_hold
    refine (seq_nx (env1 := [.own s2, .own (.int n), .own (.list []), .own (.int g), dd, dd, dd, dd, dd, dd, dd, dd, dd, dd, dd, dd, dd, dd]) ?_).trans ?_
    · simp [e1, e2, hn]
    refine (seq_nx (env1 := [.own s5, .own (.int n), .own (.list GL), .own (.int g), dd, dd, dd, dd, dd, dd, dd, dd, dd, dd, dd, dd, dd, dd]) ?_).trans ?_
    · simp [e3, e4, hq, er2]
      exact ef
    refine (seq_nx (env1 := [.own s6, .own (.int n), .own (.list GL), .own (.int g), dd, dd, dd, dd, .own (.tuple GL), .own (.tuple WL), dd, dd, dd, dd, dd, dd, dd, dd]) ?_).trans ?_
    · simp [tG, nx, tW]
    refine (seq_nx (env1 := [.own s6, .own (.int n), .own (.list GL), .own (.int g), dd, dd, dd, dd, .own (.tuple GL), .own (.tuple WL), .own (.list []), .own (.tuple HL), .own (.list []), .own (.int 0), dd, dd, dd, dd]) ?_).trans ?_
    · simp [eh, tH]
    refine (seq_nx (env1 := [.own s6, .own (.int n), .own (.list GL), .own (.int g), dd, dd, dd, dd, .own (.tuple GL), .own (.tuple WL), .own (.list SL), .own (.tuple HL), .own (.list BL), .own (.int y'), dd, dd, dd, dd]) ?_).trans ?_
    · simp [iGL]
      exact gl
    simp [c1, c2, c3, c4, tS, tB, imH, hGL]
  refine ⟨s6, ?_, h6⟩
  simp only [dd] at f1
  simp [D__law_grids_hold, denOf_is, argEnv, f1]
end FnT
end
section
set_option Elab.async false
set_option linter.all false
set_option maxRecDepth 100000
set_option maxHeartbeats 0
namespace FnT
open PySem PySem.Spec PyProof.Rows L2 DV HeadT
/-- all that stands behind the top is there -/
theorem mf_of {K : PySem.W.Frag} {h : Heap} {mg : Str → Option Value} (X : K.In h) (G : h.Ns mainGlobals mg) (c : He.SaysD fa fn K) : Nonempty (MF K mg) := by
  obtain ⟨fd13, F13⟩ := c.def_ 13 (d := d13) rfl
  obtain ⟨fd14, F14⟩ := c.def_ 14 (d := d14) rfl
  obtain ⟨fd15, F15⟩ := c.def_ 15 (d := d15) rfl
  obtain ⟨fd17, F17⟩ := c.def_ 17 (d := d17) rfl
  obtain ⟨fd18, F18⟩ := c.def_ 18 (d := d18) rfl
  obtain ⟨fd19, F19⟩ := c.def_ 19 (d := d19) rfl
  obtain ⟨fd16, F16⟩ := c.def_ 16 (d := d16) rfl
  obtain ⟨fd0, F0⟩ := c.def_ 0 (d := d0) rfl
  obtain ⟨fd1, F1⟩ := c.def_ 1 (d := d1) rfl
  obtain ⟨fd2, F2⟩ := c.def_ 2 (d := d2) rfl
  obtain ⟨fd5, F5⟩ := c.def_ 5 (d := d5) rfl
  obtain ⟨fd3, F3⟩ := c.def_ 3 (d := d3) rfl
  obtain ⟨fd4, F4⟩ := c.def_ 4 (d := d4) rfl
  obtain ⟨fd6, F6⟩ := c.def_ 6 (d := d6) rfl
  obtain ⟨fd7, F7⟩ := c.def_ 7 (d := d7) rfl
  obtain ⟨fd21, F21⟩ := c.def_ 21 (d := d21) rfl
  obtain ⟨fd8, F8⟩ := c.def_ 8 (d := d8) rfl
  obtain ⟨fd20, F20⟩ := c.def_ 20 (d := d20) rfl
  obtain ⟨fd22, F22⟩ := c.def_ 22 (d := d22) rfl
  obtain ⟨fd9, F9⟩ := c.def_ 9 (d := d9) rfl
  obtain ⟨fd10, F10⟩ := c.def_ 10 (d := d10) rfl
  obtain ⟨fd11, F11⟩ := c.def_ 11 (d := d11) rfl
  obtain ⟨fd12, F12⟩ := c.def_ 12 (d := d12) rfl
  obtain ⟨fd23, F23⟩ := c.def_ 23 (d := d23) rfl
  obtain ⟨fd24, F24⟩ := c.def_ 24 (d := d24) rfl
  exact ⟨{
    a__law_start := _
    fd__law_start := fd13
    F__law_start := F13
    m__law_start := He.glo_ok X G (c.fact 13 (f := .glo "_law_start") rfl)
    a__law_draw := _
    fd__law_draw := fd14
    F__law_draw := F14
    m__law_draw := He.glo_ok X G (c.fact 14 (f := .glo "_law_draw") rfl)
    a__law_pick := _
    fd__law_pick := fd15
    F__law_pick := F15
    m__law_pick := He.glo_ok X G (c.fact 15 (f := .glo "_law_pick") rfl)
    a__law_cells := _
    fd__law_cells := fd17
    F__law_cells := F17
    m__law_cells := He.glo_ok X G (c.fact 17 (f := .glo "_law_cells") rfl)
    a__law_edges := _
    fd__law_edges := fd18
    F__law_edges := F18
    m__law_edges := He.glo_ok X G (c.fact 18 (f := .glo "_law_edges") rfl)
    a__law_told := _
    fd__law_told := fd19
    F__law_told := F19
    m__law_told := He.glo_ok X G (c.fact 19 (f := .glo "_law_told") rfl)
    a__law_same := _
    fd__law_same := fd16
    F__law_same := F16
    m__law_same := He.glo_ok X G (c.fact 16 (f := .glo "_law_same") rfl)
    a_is_integer := _
    fd_is_integer := fd0
    F_is_integer := F0
    m_is_integer := He.glo_ok X G (c.fact 0 (f := .glo "is_integer") rfl)
    a_check_cells := _
    fd_check_cells := fd1
    F_check_cells := F1
    m_check_cells := He.glo_ok X G (c.fact 1 (f := .glo "check_cells") rfl)
    a_needs_of := _
    fd_needs_of := fd2
    F_needs_of := F2
    m_needs_of := He.glo_ok X G (c.fact 2 (f := .glo "needs_of") rfl)
    a_accept_widths := _
    fd_accept_widths := fd5
    F_accept_widths := F5
    m_accept_widths := He.glo_ok X G (c.fact 5 (f := .glo "accept_widths") rfl)
    a_edges_of := _
    fd_edges_of := fd3
    F_edges_of := F3
    m_edges_of := He.glo_ok X G (c.fact 3 (f := .glo "edges_of") rfl)
    a_least_width := _
    fd_least_width := fd4
    F_least_width := F4
    m_least_width := He.glo_ok X G (c.fact 4 (f := .glo "least_width") rfl)
    a_row_of_cells := _
    fd_row_of_cells := fd6
    F_row_of_cells := F6
    m_row_of_cells := He.glo_ok X G (c.fact 6 (f := .glo "row_of_cells") rfl)
    a_accept_row := _
    fd_accept_row := fd7
    F_accept_row := F7
    m_accept_row := He.glo_ok X G (c.fact 7 (f := .glo "accept_row") rfl)
    a__law_row_holds := _
    fd__law_row_holds := fd21
    F__law_row_holds := F21
    m__law_row_holds := He.glo_ok X G (c.fact 21 (f := .glo "_law_row_holds") rfl)
    a_shared_widths := _
    fd_shared_widths := fd8
    F_shared_widths := F8
    m_shared_widths := He.glo_ok X G (c.fact 8 (f := .glo "shared_widths") rfl)
    a__law_shared := _
    fd__law_shared := fd20
    F__law_shared := F20
    m__law_shared := He.glo_ok X G (c.fact 20 (f := .glo "_law_shared") rfl)
    a__law_tables_hold := _
    fd__law_tables_hold := fd22
    F__law_tables_hold := F22
    m__law_tables_hold := He.glo_ok X G (c.fact 22 (f := .glo "_law_tables_hold") rfl)
    a_check_grid := _
    fd_check_grid := fd9
    F_check_grid := F9
    m_check_grid := He.glo_ok X G (c.fact 9 (f := .glo "check_grid") rfl)
    a_spans_of := _
    fd_spans_of := fd10
    F_spans_of := F10
    m_spans_of := He.glo_ok X G (c.fact 10 (f := .glo "spans_of") rfl)
    a_heights_of := _
    fd_heights_of := fd11
    F_heights_of := F11
    m_heights_of := He.glo_ok X G (c.fact 11 (f := .glo "heights_of") rfl)
    a_laid := _
    fd_laid := fd12
    F_laid := F12
    m_laid := He.glo_ok X G (c.fact 12 (f := .glo "laid") rfl)
    a__law_grids_hold := _
    fd__law_grids_hold := fd23
    F__law_grids_hold := F23
    m__law_grids_hold := He.glo_ok X G (c.fact 23 (f := .glo "_law_grids_hold") rfl)
    a_law := _
    fd_law := fd24
    F_law := F24
    m_law := He.glo_ok X G (c.fact 24 (f := .glo "law") rfl)
    z_abs := He.free_ok X G (c.fact 26 (f := .free "abs") rfl)
    z_all := He.free_ok X G (c.fact 27 (f := .free "all") rfl)
    z_bool := He.free_ok X G (c.fact 28 (f := .free "bool") rfl)
    z_enumerate := He.free_ok X G (c.fact 29 (f := .free "enumerate") rfl)
    z_int := He.free_ok X G (c.fact 30 (f := .free "int") rfl)
    z_isinstance := He.free_ok X G (c.fact 31 (f := .free "isinstance") rfl)
    z_len := He.free_ok X G (c.fact 32 (f := .free "len") rfl)
    z_list := He.free_ok X G (c.fact 33 (f := .free "list") rfl)
    z_max := He.free_ok X G (c.fact 34 (f := .free "max") rfl)
    z_min := He.free_ok X G (c.fact 35 (f := .free "min") rfl)
    z_range := He.free_ok X G (c.fact 36 (f := .free "range") rfl)
    z_repr := He.free_ok X G (c.fact 37 (f := .free "repr") rfl)
    z_sum := He.free_ok X G (c.fact 38 (f := .free "sum") rfl)
    z_tuple := He.free_ok X G (c.fact 40 (f := .free "tuple") rfl)
    z_zip := He.free_ok X G (c.fact 41 (f := .free "zip") rfl)
    c_MAX_WIDTH := He.int_ok X G (c.fact 42 (f := .int "MAX_WIDTH" 100000) rfl)
    c_MAX_COLUMNS := He.int_ok X G (c.fact 43 (f := .int "MAX_COLUMNS" 8) rfl)
    c_MAX_CELLS := He.int_ok X G (c.fact 44 (f := .int "MAX_CELLS" 60) rfl) }⟩
end FnT
open PySem PySem.W PySem.Calls PyProof.Rows
theorem law_holds (hf : ∀ ns : List Int, ns.length ≤ 63 → ∃ env', FnT.f_law (.dead :: .own (DV.stateD ns (DV.seedOf ns)) :: List.replicate 0 .dead) = .ok (.rt (.bool true) env')) : PySem.Challenge.rw_setinlines_k61_tables_of_sixty_cells.Holds := by
  w_on; o_law
  refine HandSHeadRun.head_any (r := HeadT.R) (q := view HeadT.R.prog [34]) (H := HeadT.hk) (ob := HeadT.ob) (M := 2000) (loose := HeadT.loose) (d := HandSHeadRun.topDef HeadT.R.prog 34) (kwd := []) HeadT.ob_eq
    (by kernel_rfl) (fun s => by kernel_rfl) HeadT.run (by kernel_rfl) (by kernel_rfl) (by kernel_rfl) (by rfl) (by first | assumption | decide +kernel) (by decide +kernel) ⟨rfl, rfl, rfl, rfl, rfl, by decide +kernel⟩ ?hw ?hc
  case hw => w_witness2
  case hc =>
    refine DV.walkG (l := PySem.Challenge.rw_setinlines_k61_tables_of_sixty_cells) (n := 63) (k := 6) (x := "script") (CX := L2.CX0) rfl (by decide) (by kernel_rfl) ⟨rfl, by decide, by decide⟩ ?F (fun _ _ _ _ z => z)
    intro w mg a0 h Y G hmg0
    obtain ⟨K, KX, c⟩ := Y
    have hmg : mg ("law" : PySem.Str) = some (.ref a0) := by
      have e : (HandSHeadRun.topDef HeadT.R.prog 34).name = ("law" : PySem.Str) := by kernel_rfl
      rw [← e]
      exact hmg0
    obtain ⟨m⟩ := FnT.mf_of KX G c
    have e := hmg.symm.trans m.m_law
    cases e
    have b := (L2.FunD.bindsA (ps := ["script"]) m.F_law) fun _ _ _ _ _ _ us hl => match us, hl with | [_], _ => rfl
    exact ⟨K, m.fd_law, DV.spLaw K, KX, fun s v => b s [v] rfl, fun H a ns hl _ hS => ⟨a, ns, rfl, hl, hS, fun _ => rfl⟩, fun base _ _ => FnT.g_law m hf⟩
end
set_option Elab.async false
set_option linter.all false
set_option maxRecDepth 100000
namespace FnT
open PySem PySem.Spec DV M61
theorem seed_nn (ns : List Int) : ∀ s : Int, 0 ≤ s → 0 ≤ ns.foldl (fun s c => (s * 48271 + c) % 2147483629 + 1) s := by
  induction ns with
  | nil => exact fun _ h => h
  | cons c ns ih => exact fun s _ => ih _ (show 0 ≤ (s * 48271 + c) % 2147483629 + 1 by omega)
theorem law_plain (ns : List Int) (_ : ns.length ≤ 63) : ∃ env', f_law (.dead :: .own (stateD ns (seedOf ns)) :: List.replicate 0 .dead) = .ok (.rt (.bool true) env') := by
  have h0 : St (stateD ns (seedOf ns)) := ⟨ns, 0, seedOf ns, 0, rfl, by omega, seed_nn ns 7 (by omega)⟩
  obtain ⟨s1, e1, h1⟩ := tables_ok h0
  obtain ⟨s2, e2, h2⟩ := tables_ok h1
  obtain ⟨s3, e3, h3⟩ := grids_ok h2
  exact ⟨_, by simp [f_law, e1, e2, e3]; rfl⟩
end FnT
theorem PySem.Challenge.cw_setinlines_k61_tables_of_sixty_cells_holds : PySem.Challenge.rw_setinlines_k61_tables_of_sixty_cells.Holds := by
  exact law_holds FnT.law_plain
