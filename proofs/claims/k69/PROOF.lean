import PyProof.Rows.All
import Wide.All
import OpenK.AllK
import Wide.FinOn
import KE.KStateDown
import HandS.ForMost
import HandS.More
import HandS.Exc
import HandS.WordsExc
import HandS.Defaults
import HandS.HeadHook1
import KE.DataEq
import KE.DataCmp
import KE.LtData
import KE.DataMinMax
import KE.DataAny
import KE.DataIsa
import HandS.TupAny
import HandS.TupMul
import HandS.Style
import KE.KRevSl
import HandS.Walk
import HandS.Zip
import HandS.Iter
import HandS.List
import HandS.Comp
import HandS.Call
import PyProof.CallFns
import PyProof.ReprRoads
import HandS.Ends
import KE.KExcSuper
import HandS.ExcInit
import HandS.ExcField
import KE.KIsAll
import HandS.TryOnly
import HandS.HeadHook2
import KE.GoesMore
import KE.GoesEnum
import HandS.Head0
import HandS.Head1
import HandS.Head2
import HandS.HeadEnd
import PySem.Challenge.RW_setinlines_k69_two_texts_of_sixty_parts
import KE.SortData
section
set_option Elab.async false
set_option linter.all false
set_option maxRecDepth 100000
namespace DV
open PySem PySem.Spec PyProof.Rows L2
/-! ### data, outcomes -/
abbrev D := PyData
mutual
def imm : D → Bool
  | .none => true
  | .bool _ => true
  | .int _ => true
  | .str _ => true
  | .tuple l => immL l
  | .list _ => false
  | .dict _ => false
def immL : List D → Bool
  | [] => true
  | d :: ds => imm d && immL ds
end
structure Exc where
  cls : Str
  fld : Str
  arg : V
inductive R (α : Type) where
  | no | ok (a : α) | ex (c : Exc)
def R.bind {α β : Type} : R α → (α → R β) → R β
  | .no, _ => .no
  | .ok a, f => f a
  | .ex c, _ => .ex c
inductive Slot where
  | dead | own (d : D) | view (d : D)
abbrev Env := List Slot
def Env.at (env : Env) (i : Nat) : Slot := env.getD i .dead
abbrev Ev := Env → R (D × Env)
def keyD : Key → D
  | .inl i => .int i
  | .inr s => .str s
/-! ### what stands in the heap -/
abbrev Frag := PySem.W.Frag
def MutO : HO → Prop
  | .lst _ => True
  | .dK _ => True
  | .dT _ => True
  | _ => False
def Pl (H : Hp) (a : Addr) : Prop := ∃ o, H a = some o ∧ MutO o
mutual
inductive Rep (K : Frag) (H : Hp) : V → D → List Addr → Prop
  | non : Rep K H .non .none []
  | bl (b : Bool) : Rep K H (.bl b) (.bool b) []
  | int (i : Int) : Rep K H (.int i) (.int i) []
  | str (s : Str) : Rep K H (.str s) (.str s) []
  | tup {a vs ds g} : SqT K H a vs → RepL K H vs ds g → Rep K H (.ref a) (.tuple ds) g
  | lst {a vs ds g} : H a = some (.lst vs) → RepL K H vs ds g → Rep K H (.ref a) (.list ds) (a :: g)
  | dK {a g} {kvs : List (Key × V)} {es : List (D × D)} : Rd H a (.dK kvs) → RepE K H kvs es g → Rep K H (.ref a) (.dict es) (a :: g)
  | dT {a g} {kvs : List (List Key × V)} {es : List (D × D)} : Rd H a (.dT kvs) → RepF K H kvs es g → Rep K H (.ref a) (.dict es) (a :: g)
inductive RepL (K : Frag) (H : Hp) : List V → List D → List Addr → Prop
  | nil : RepL K H [] [] []
  | cons {v vs d ds g h} : Rep K H v d g → RepL K H vs ds h → RepL K H (v :: vs) (d :: ds) (g ++ h)
inductive RepE (K : Frag) (H : Hp) : List (Key × V) → List (D × D) → List Addr → Prop
  | nil : RepE K H [] [] []
  | cons {k v kvs d es g h} : Rep K H v d g → RepE K H kvs es h → RepE K H ((k, v) :: kvs) ((keyD k, d) :: es) (g ++ h)
inductive RepF (K : Frag) (H : Hp) : List (List Key × V) → List (D × D) → List Addr → Prop
  | nil : RepF K H [] [] []
  | cons {k v kvs d es g h} : Rep K H v d g → RepF K H kvs es h → RepF K H ((k, v) :: kvs) ((.tuple (k.map keyD), d) :: es) (g ++ h)
end
section
variable {K : Frag} {H H' : Hp}
theorem Rd.stay {M : Addr → Prop} (hM : ∀ a, M a → Pl H a) (hx : ∀ b o, H b = some o → ¬ M b → H' b = some o) {a : Addr} {u : HO} (h : Rd H a u) (n : ¬ M a) : Rd H' a u := by
  rcases h with h | ⟨o, h⟩
  · exact .inl (hx _ _ h n)
  · exact .inr ⟨o, hx _ _ h n⟩
theorem SqT.stay {M : Addr → Prop} (hM : ∀ a, M a → Pl H a) (hx : ∀ b o, H b = some o → ¬ M b → H' b = some o) {a : Addr} {vs : List V} (h : SqT K H a vs) : SqT K H' a vs := by
  rcases h with h | h
  · refine .inl (Rd.stay hM hx h fun m => ?_)
    obtain ⟨o, e, mo⟩ := hM a m
    rcases h with h | ⟨ob, h⟩
    · rw [h] at e; cases e; exact mo
    · rw [h] at e; cases e; exact mo
  · exact .inr h
mutual
theorem Rep.stay {M : Addr → Prop} (hM : ∀ a, M a → Pl H a) (hx : ∀ b o, H b = some o → ¬ M b → H' b = some o) : ∀ (d : D) (v : V) (g : List Addr), Rep K H v d g → (∀ a ∈ g, ¬ M a) → Rep K H' v d g
  | .none, _, _, h, _ => by cases h; exact .non
  | .bool b, _, _, h, _ => by cases h; exact .bl b
  | .int i, _, _, h, _ => by cases h; exact .int i
  | .str s, _, _, h, _ => by cases h; exact .str s
  | .tuple ds, _, _, h, n => by
    cases h with
    | tup hq hl => exact .tup (SqT.stay hM hx hq) (RepL.stay hM hx ds _ _ hl n)
  | .list ds, _, _, h, n => by
    cases h with
    | lst hq hl => exact .lst (hx _ _ hq (n _ List.mem_cons_self)) (RepL.stay hM hx ds _ _ hl fun a ha => n a (List.mem_cons_of_mem _ ha))
  | .dict es, _, _, h, n => by
    cases h with
    | dK hq hl => exact .dK (Rd.stay hM hx hq (n _ List.mem_cons_self)) (RepE.stay hM hx es _ _ hl fun a ha => n a (List.mem_cons_of_mem _ ha))
    | dT hq hl => exact .dT (Rd.stay hM hx hq (n _ List.mem_cons_self)) (RepF.stay hM hx es _ _ hl fun a ha => n a (List.mem_cons_of_mem _ ha))
theorem RepL.stay {M : Addr → Prop} (hM : ∀ a, M a → Pl H a) (hx : ∀ b o, H b = some o → ¬ M b → H' b = some o) : ∀ (ds : List D) (vs : List V) (g : List Addr), RepL K H vs ds g → (∀ a ∈ g, ¬ M a) → RepL K H' vs ds g
  | [], _, _, h, _ => by cases h; exact .nil
  | d :: ds, _, _, h, n => by
    cases h with
    | cons h1 h2 => exact .cons (Rep.stay hM hx d _ _ h1 fun a ha => n a (List.mem_append_left _ ha)) (RepL.stay hM hx ds _ _ h2 fun a ha => n a (List.mem_append_right _ ha))
theorem RepE.stay {M : Addr → Prop} (hM : ∀ a, M a → Pl H a) (hx : ∀ b o, H b = some o → ¬ M b → H' b = some o) : ∀ (es : List (D × D)) (vs : List (Key × V)) (g : List Addr), RepE K H vs es g → (∀ a ∈ g, ¬ M a) → RepE K H' vs es g
  | [], _, _, h, _ => by cases h; exact .nil
  | (k, d) :: es, _, _, h, n => by
    cases h with
    | cons h1 h2 => exact .cons (Rep.stay hM hx d _ _ h1 fun a ha => n a (List.mem_append_left _ ha)) (RepE.stay hM hx es _ _ h2 fun a ha => n a (List.mem_append_right _ ha))
theorem RepF.stay {M : Addr → Prop} (hM : ∀ a, M a → Pl H a) (hx : ∀ b o, H b = some o → ¬ M b → H' b = some o) : ∀ (es : List (D × D)) (vs : List (List Key × V)) (g : List Addr), RepF K H vs es g → (∀ a ∈ g, ¬ M a) → RepF K H' vs es g
  | [], _, _, h, _ => by cases h; exact .nil
  | (k, d) :: es, _, _, h, n => by
    cases h with
    | cons h1 h2 => exact .cons (Rep.stay hM hx d _ _ h1 fun a ha => n a (List.mem_append_left _ ha)) (RepF.stay hM hx es _ _ h2 fun a ha => n a (List.mem_append_right _ ha))
end
theorem rd_there {a : Addr} {u : HO} (h : Rd H a u) : ∃ o, H a = some o := by
  rcases h with h | ⟨o, h⟩
  · exact ⟨_, h⟩
  · exact ⟨_, h⟩
mutual
/-- the footprint stands -/
theorem Rep.there : ∀ (d : D) (v : V) (g : List Addr), Rep K H v d g → ∀ a ∈ g, ∃ o, H a = some o
  | .none, _, _, h => by cases h; intro a ha; cases ha
  | .bool b, _, _, h => by cases h; intro a ha; cases ha
  | .int i, _, _, h => by cases h; intro a ha; cases ha
  | .str s, _, _, h => by cases h; intro a ha; cases ha
  | .tuple ds, _, _, h => by
    cases h with
    | tup hq hl => exact RepL.there ds _ _ hl
  | .list ds, _, _, h => by
    cases h with
    | lst hq hl =>
      intro a ha
      rcases List.mem_cons.mp ha with rfl | ha
      · exact ⟨_, hq⟩
      · exact RepL.there ds _ _ hl a ha
  | .dict es, _, _, h => by
    cases h with
    | dK hq hl =>
      intro a ha
      rcases List.mem_cons.mp ha with rfl | ha
      · exact rd_there hq
      · exact RepE.there es _ _ hl a ha
    | dT hq hl =>
      intro a ha
      rcases List.mem_cons.mp ha with rfl | ha
      · exact rd_there hq
      · exact RepF.there es _ _ hl a ha
theorem RepL.there : ∀ (ds : List D) (vs : List V) (g : List Addr), RepL K H vs ds g → ∀ a ∈ g, ∃ o, H a = some o
  | [], _, _, h => by cases h; intro a ha; cases ha
  | d :: ds, _, _, h => by
    cases h with
    | cons h1 h2 =>
      intro a ha
      rcases List.mem_append.mp ha with ha | ha
      · exact Rep.there d _ _ h1 a ha
      · exact RepL.there ds _ _ h2 a ha
theorem RepE.there : ∀ (es : List (D × D)) (vs : List (Key × V)) (g : List Addr), RepE K H vs es g → ∀ a ∈ g, ∃ o, H a = some o
  | [], _, _, h => by cases h; intro a ha; cases ha
  | (k, d) :: es, _, _, h => by
    cases h with
    | cons h1 h2 =>
      intro a ha
      rcases List.mem_append.mp ha with ha | ha
      · exact Rep.there d _ _ h1 a ha
      · exact RepE.there es _ _ h2 a ha
theorem RepF.there : ∀ (es : List (D × D)) (vs : List (List Key × V)) (g : List Addr), RepF K H vs es g → ∀ a ∈ g, ∃ o, H a = some o
  | [], _, _, h => by cases h; intro a ha; cases ha
  | (k, d) :: es, _, _, h => by
    cases h with
    | cons h1 h2 =>
      intro a ha
      rcases List.mem_append.mp ha with ha | ha
      · exact Rep.there d _ _ h1 a ha
      · exact RepF.there es _ _ h2 a ha
end
mutual
theorem Rep.fp_imm : ∀ (d : D) (v : V) (g : List Addr), Rep K H v d g → imm d = true → g = []
  | .none, _, _, h, _ => by cases h; rfl
  | .bool b, _, _, h, _ => by cases h; rfl
  | .int i, _, _, h, _ => by cases h; rfl
  | .str s, _, _, h, _ => by cases h; rfl
  | .tuple ds, _, _, h, i => by
    cases h with
    | tup hq hl => exact RepL.fp_imm ds _ _ hl (by simpa [imm] using i)
  | .list ds, _, _, h, i => by simp [imm] at i
  | .dict es, _, _, h, i => by simp [imm] at i
theorem RepL.fp_imm : ∀ (ds : List D) (vs : List V) (g : List Addr), RepL K H vs ds g → immL ds = true → g = []
  | [], _, _, h, _ => by cases h; rfl
  | d :: ds, _, _, h, i => by
    cases h with
    | cons h1 h2 =>
      have i' : imm d = true ∧ immL ds = true := by simpa [immL] using i
      rw [Rep.fp_imm d _ _ h1 i'.1, RepL.fp_imm ds _ _ h2 i'.2]
      rfl
end
theorem Rep.same (s : Same H H') {d : D} {v : V} {g : List Addr} (h : Rep K H v d g) : Rep K H' v d g :=
  Rep.stay (M := fun _ => False) (fun _ z => z.elim) (fun b o e _ => s b o e) d v g h fun _ _ z => z
theorem RepL.same (s : Same H H') {d : List D} {v : List V} {g : List Addr} (h : RepL K H v d g) : RepL K H' v d g :=
  RepL.stay (M := fun _ => False) (fun _ z => z.elim) (fun b o e _ => s b o e) d v g h fun _ _ z => z
theorem RepL.length : ∀ {ds : List D} {vs : List V} {g : List Addr}, RepL K H vs ds g → vs.length = ds.length
  | [], _, _, h => by cases h; rfl
  | d :: ds, _, _, h => by
    cases h with
    | cons h1 h2 => simp [RepL.length h2]
theorem RepL.get : ∀ {ds : List D} {vs : List V} {g : List Addr} {i : Nat} {d : D}, RepL K H vs ds g → ds[i]? = some d → ∃ v gi, vs[i]? = some v ∧ Rep K H v d gi ∧ (∀ a ∈ gi, a ∈ g) ∧ (g.Nodup → gi.Nodup)
  | [], _, _, _, _, h, e => by cases h; simp at e
  | d :: ds, _, _, 0, x, h, e => by
    cases h with
    | cons h1 h2 =>
      simp at e; subst e
      exact ⟨_, _, rfl, h1, fun a ha => List.mem_append_left _ ha, fun n => (List.nodup_append.mp n).1⟩
  | d :: ds, _, _, i + 1, x, h, e => by
    cases h with
    | cons h1 h2 =>
      obtain ⟨v, gi, e1, r, s, n⟩ := RepL.get (i := i) h2 (by simpa using e)
      exact ⟨v, gi, by simpa using e1, r, fun a ha => List.mem_append_right _ (s a ha), fun nd => n (List.nodup_append.mp nd).2.1⟩
theorem RepL.append : ∀ {ds es : List D} {vs us : List V} {g h : List Addr}, RepL K H vs ds g → RepL K H us es h → RepL K H (vs ++ us) (ds ++ es) (g ++ h)
  | [], _, _, _, _, _, r, q => by cases r; exact q
  | d :: ds, _, _, _, _, _, r, q => by
    cases r with
    | cons h1 h2 =>
      rw [List.append_assoc]
      exact .cons h1 (RepL.append h2 q)
theorem immL_append : ∀ {xs ys : List D}, immL (xs ++ ys) = (immL xs && immL ys)
  | [], _ => by simp [immL]
  | x :: xs, ys => by simp [immL, immL_append (xs := xs), Bool.and_assoc]
theorem immL_get : ∀ {xs : List D} {i : Nat} {d : D}, immL xs = true → xs[i]? = some d → imm d = true
  | [], _, _, _, e => by simp at e
  | x :: xs, 0, d, h, e => by
    simp at e; subst e
    exact (by simpa [immL] using h : imm x = true ∧ immL xs = true).1
  | x :: xs, i + 1, d, h, e => immL_get (xs := xs) (i := i) (by simpa [immL] using h : imm x = true ∧ immL xs = true).2 (by simpa using e)
end
/-! ### the slots -/
abbrev Fs := Nat → List Addr
def SlotOk (K : Frag) (W : Addr → Prop) (H : Hp) (σ : L2.St) (fs : Fs) (i : Nat) : Slot → Prop
  | .dead => fs i = []
  | .own d => ∃ v, σ[i]? = some (some v) ∧ Rep K H v d (fs i)
  | .view d => fs i = [] ∧ ∃ v g, σ[i]? = some (some v) ∧ Rep K H v d g ∧ ∀ a ∈ g, W a
structure RepEnv (K : Frag) (W : Addr → Prop) (H : Hp) (σ : L2.St) (env : Env) (fs : Fs) : Prop where
  slot : ∀ i, SlotOk K W H σ fs i (env.at i)
  disj : ∀ i j a, a ∈ fs i → a ∈ fs j → i = j
  nd : ∀ i, (fs i).Nodup
  pl : ∀ i, ∀ a ∈ fs i, Pl H a
  off : ∀ i, ∀ a ∈ fs i, ¬ W a
  wt : ∀ a, W a → ∃ o, H a = some o
def Ext (H H' : Hp) (fs : Fs) : Prop := ∀ b o, H b = some o → (∀ i, b ∉ fs i) → H' b = some o
def Sub (H : Hp) (fs : Fs) (g : List Addr) : Prop := ∀ a ∈ g, (∃ j, a ∈ fs j) ∨ H a = none
theorem Ext.refl {H : Hp} {fs : Fs} : Ext H H fs := fun _ _ e _ => e
theorem Ext.of {H H' : Hp} {fs : Fs} (s : Same H H') : Ext H H' fs := fun b o e _ => s b o e
theorem Ext.trans {H H1 H2 : Hp} {fs fs1 : Fs} (a : Ext H H1 fs) (s : ∀ i, Sub H fs (fs1 i)) (b : Ext H1 H2 fs1) : Ext H H2 fs := fun x o e n =>
  b x o (a x o e n) fun i hi => by
    rcases s i x hi with ⟨j, hj⟩ | z
    · exact n j hj
    · rw [e] at z; cases z
theorem Sub.trans {H H1 : Hp} {fs fs1 : Fs} {g : List Addr} (a : Ext H H1 fs) (s : ∀ i, Sub H fs (fs1 i)) (b : Sub H1 fs1 g) : Sub H fs g := fun x hx => by
  rcases b x hx with ⟨j, hj⟩ | z
  · exact s j x hj
  · cases q : H x with
    | none => exact .inr rfl
    | some o =>
      by_cases n : ∀ i, x ∉ fs i
      · rw [a x o q n] at z; cases z
      · exact .inl (by simpa using n)
theorem Sub.self {H : Hp} {fs : Fs} {i : Nat} : Sub H fs (fs i) := fun a ha => .inl ⟨i, ha⟩
/-- what changes: p, nothing does -/
structure Step (K : Frag) (W : Addr → Prop) (p : Bool) (H : Hp) (env : Env) (fs : Fs) (H' : Hp) (σ : L2.St) (env' : Env) (fs' : Fs) : Prop where
  ext : Ext H H' fs
  renv : RepEnv K W H' σ env' fs'
  sub : ∀ i, Sub H fs (fs' i)
  pure : p = true → Same H H' ∧ env' = env ∧ fs' = fs
  vw : ∀ j d, env'.at j = .view d → env.at j = .view d
/-- the value is one's own -/
structure Own (H : Hp) (fs : Fs) (H' : Hp) (fs' : Fs) (g : List Addr) : Prop where
  nd : g.Nodup
  apart : ∀ a ∈ g, ∀ i, a ∉ fs' i
  pl : ∀ a ∈ g, Pl H' a
  sub : Sub H fs g
/-- what an expression leaves: p, nothing is changed; o, the value is one's own -/
structure Post (K : Frag) (W : Addr → Prop) (p o : Bool) (H : Hp) (env : Env) (fs : Fs) (H' : Hp) (σ : L2.St) (env' : Env) (fs' : Fs) (v : V) (d : D) (g : List Addr) : Prop where
  step : Step K W p H env fs H' σ env' fs'
  rep : Rep K H' v d g
  own : o = true → Own H fs H' fs' g
structure PostL (K : Frag) (W : Addr → Prop) (p o : Bool) (H : Hp) (env : Env) (fs : Fs) (H' : Hp) (σ : L2.St) (env' : Env) (fs' : Fs) (v : List V) (d : List D) (g : List Addr) : Prop where
  step : Step K W p H env fs H' σ env' fs'
  rep : RepL K H' v d g
  own : o = true → Own H fs H' fs' g
/-- what is said of an exception that leaves -/
def ExP (K : Frag) (E : XK) (c : Exc) (H : Hp) (fs : Fs) : Prop := ∀ H' ad, Ext H H' fs → H' ad = none → E (.ref (He.ga K c.cls)) (some ad) (upd H' ad (.xd [(c.fld, c.arg)]))
def tD (K : Frag) (E : XK) (p o : Bool) (f : Ev) : TE := fun σ H Q => ∃ env fs W, RepEnv K W H σ env fs ∧ match f env with
  | .no => False
  | .ex c => ExP K E c H fs
  | .ok (d, env') => ∀ v H' fs' g, Post K W p o H env fs H' σ env' fs' v d g → Q v H'
def DE (X : Cx) (E : XK) (p o : Bool) (e : Expr) (f : Ev) : Prop := PE X e (tD X.K E p o f)
theorem PE.mono {X : Cx} {e : Expr} {t t' : TE} (h : PE X e t) (m : ∀ σ H Q, t' σ H Q → t σ H Q) : PE X e t' := ⟨fun pins s σ H Q I w => h.run pins s σ H Q I (m σ H Q w)⟩
section
variable {K : Frag} {W : Addr → Prop} {H H' H1 H2 : Hp} {σ : L2.St} {env env' : Env} {fs fs' fs1 : Fs}
theorem RepEnv.same (h : RepEnv K W H σ env fs) (s : Same H H') : RepEnv K W H' σ env fs where
  slot := fun i => by
    have q := h.slot i
    cases e : env.at i with
    | dead => rw [e] at q; exact q
    | own d =>
      rw [e] at q
      obtain ⟨v, e1, r⟩ := q
      exact ⟨v, e1, r.same s⟩
    | view d =>
      rw [e] at q
      obtain ⟨z, v, g, e1, r, n⟩ := q
      exact ⟨z, v, g, e1, r.same s, n⟩
  disj := h.disj
  nd := h.nd
  pl := fun i a ha => let ⟨o, e, m⟩ := h.pl i a ha; ⟨o, s a o e, m⟩
  off := h.off
  wt := fun a ha => let ⟨o, e⟩ := h.wt a ha; ⟨o, s a o e⟩
/-- a value that stands apart from the slots' own objects stays -/
theorem Rep.ext (h : RepEnv K W H σ env fs) (x : Ext H H' fs) {v : V} {d : D} {g : List Addr} (r : Rep K H v d g) (n : ∀ a ∈ g, ∀ i, a ∉ fs i) : Rep K H' v d g :=
  Rep.stay (M := fun a => ∃ i, a ∈ fs i) (fun a ⟨i, ha⟩ => h.pl i a ha) (fun b o e nb => x b o e fun i hi => nb ⟨i, hi⟩) d v g r fun a ha ⟨i, hi⟩ => n a ha i hi
theorem RepL.ext (h : RepEnv K W H σ env fs) (x : Ext H H' fs) {v : List V} {d : List D} {g : List Addr} (r : RepL K H v d g) (n : ∀ a ∈ g, ∀ i, a ∉ fs i) : RepL K H' v d g :=
  RepL.stay (M := fun a => ∃ i, a ∈ fs i) (fun a ⟨i, ha⟩ => h.pl i a ha) (fun b o e nb => x b o e fun i hi => nb ⟨i, hi⟩) d v g r fun a ha ⟨i, hi⟩ => n a ha i hi
/-- .. and stays apart -/
theorem apart_ext (x : Ext H H' fs) (s : ∀ i, Sub H fs (fs' i)) {g : List Addr} (t : ∀ a ∈ g, ∃ o, H a = some o) (n : ∀ a ∈ g, ∀ i, a ∉ fs i) : ∀ a ∈ g, ∀ i, a ∉ fs' i := fun a ha i hi => by
  rcases s i a hi with ⟨j, hj⟩ | z
  · exact n a ha j hj
  · obtain ⟨o, e⟩ := t a ha
    rw [e] at z; cases z
theorem pl_ext (x : Ext H H' fs) {g : List Addr} (p : ∀ a ∈ g, Pl H a) (n : ∀ a ∈ g, ∀ i, a ∉ fs i) : ∀ a ∈ g, Pl H' a := fun a ha => let ⟨o, e, m⟩ := p a ha; ⟨o, x a o e (n a ha), m⟩
end
end DV
end
section
set_option Elab.async false
set_option linter.all false
set_option maxRecDepth 100000
namespace DV
open PySem PySem.Spec PyProof.Rows L2
section
variable {K : Frag} {W : Addr → Prop} {E : XK} {H H' H1 H2 H3 : Hp} {σ σ1 : L2.St} {env env' env1 env2 env3 : Env} {fs fs' fs1 fs2 fs3 : Fs} {p p1 p2 p3 o o1 o2 : Bool}
theorem Step.refl (h : RepEnv K W H σ env fs) : Step K W p H env fs H σ env fs := ⟨Ext.refl, h, fun _ => Sub.self, fun _ => ⟨fun _ _ e => e, rfl, rfl⟩, fun _ _ e => e⟩
theorem Step.same (h : RepEnv K W H σ env fs) (s : Same H H') : Step K W p H env fs H' σ env fs := ⟨Ext.of s, h.same s, fun _ => Sub.self, fun _ => ⟨s, rfl, rfl⟩, fun _ _ e => e⟩
theorem Step.trans (a : Step K W p1 H env fs H1 σ1 env1 fs1) (b : Step K W p2 H1 env1 fs1 H2 σ env2 fs2) : Step K W (p1 && p2) H env fs H2 σ env2 fs2 where
  ext := a.ext.trans a.sub b.ext
  renv := b.renv
  sub := fun i => Sub.trans a.ext a.sub (b.sub i)
  pure := fun h => by
    have h' : p1 = true ∧ p2 = true := by simpa using h
    obtain ⟨s1, e1, f1⟩ := a.pure h'.1
    obtain ⟨s2, e2, f2⟩ := b.pure h'.2
    exact ⟨fun x o e => s2 x o (s1 x o e), e2.trans e1, f2.trans f1⟩
  vw := fun j d e => a.vw j d (b.vw j d e)
theorem Step.weak (a : Step K W p1 H env fs H1 σ env1 fs1) (h : p = true → p1 = true) : Step K W p H env fs H1 σ env1 fs1 := ⟨a.ext, a.renv, a.sub, fun z => a.pure (h z), a.vw⟩
theorem Step.and_same (a : Step K W p H env fs H1 σ env1 fs1) (s : Same H1 H') : Step K W p H env fs H' σ env1 fs1 := by
  have := a.trans (Step.same (p := true) a.renv s)
  rwa [Bool.and_true] at this
theorem Own.after {g : List Addr} (w : Own H fs H1 fs1 g) (b : Step K W p H1 env1 fs1 H2 σ env2 fs2) (t : ∀ a ∈ g, ∃ o, H1 a = some o) : Own H fs H2 fs2 g :=
  ⟨w.nd, apart_ext b.ext b.sub t w.apart, pl_ext b.ext w.pl w.apart, w.sub⟩
theorem Own.before {g : List Addr} (a : Step K W p H env fs H1 σ env1 fs1) (w : Own H1 fs1 H2 fs2 g) : Own H fs H2 fs2 g := ⟨w.nd, w.apart, w.pl, Sub.trans a.ext a.sub w.sub⟩
theorem Rep.after {v : V} {d : D} {g : List Addr} (h : RepEnv K W H1 σ1 env1 fs1) (r : Rep K H1 v d g) (w : o = true → Own H fs H1 fs1 g) (b : Step K W p H1 env1 fs1 H2 σ env2 fs2) (c : (o || p) = true) : Rep K H2 v d g := by
  rcases Bool.or_eq_true _ _ ▸ c with c | c
  · exact Rep.ext h b.ext r (w c).apart
  · exact r.same (b.pure c).1
theorem RepL.after {v : List V} {d : List D} {g : List Addr} (h : RepEnv K W H1 σ1 env1 fs1) (r : RepL K H1 v d g) (w : o = true → Own H fs H1 fs1 g) (b : Step K W p H1 env1 fs1 H2 σ env2 fs2) (c : (o || p) = true) : RepL K H2 v d g := by
  rcases Bool.or_eq_true _ _ ▸ c with c | c
  · exact RepL.ext h b.ext r (w c).apart
  · exact r.same (b.pure c).1
theorem ExP.before {c : Exc} (x : ExP K E c H fs) (a : Step K W p H env fs H1 σ env1 fs1) : ExP K E c H1 fs1 := fun H' ad e n => x H' ad (a.ext.trans a.sub e) n
/-- a value that has just come -/
structure Fresh (K : Frag) (H : Hp) (v : V) (H' : Hp) (d : D) (g : List Addr) : Prop where
  same : Same H H'
  rep : Rep K H' v d g
  nd : g.Nodup
  new : ∀ a ∈ g, H a = none
  pl : ∀ a ∈ g, Pl H' a
theorem Fresh.scal {v : V} {d : D} (r : Rep K H v d []) : Fresh K H v H d [] := ⟨fun _ _ e => e, r, .nil, fun _ z => (nomatch z), fun _ z => (nomatch z)⟩
theorem same_upd {q : Addr} {u : HO} (h : H q = none) : Same H (upd H q u) := fun b x e => by
  rw [upd_ne (ne_of_none e h)]
  exact e
theorem Fresh.tup {vs : List V} {ds : List D} {q : Addr} (r : RepL K H vs ds []) (h : H q = none) : Fresh K H (.ref q) (upd H q (.tup vs)) (.tuple ds) [] :=
  ⟨same_upd h, .tup (.inl (.inl upd_same)) (r.same (same_upd h)), .nil, fun _ z => (nomatch z), fun _ z => (nomatch z)⟩
theorem Fresh.lst {vs : List V} {ds : List D} {q : Addr} (r : RepL K H vs ds []) (h : H q = none) : Fresh K H (.ref q) (upd H q (.lst vs)) (.list ds) [q] :=
  ⟨same_upd h, .lst upd_same (r.same (same_upd h)), by simp, fun a z => by simp at z; subst z; exact h, fun a z => by simp at z; subst z; exact ⟨_, upd_same, trivial⟩⟩
theorem Fresh.own {v : V} {d : D} {g : List Addr} (f : Fresh K H v H' d g) (h : RepEnv K W H σ env fs) : Own H fs H' fs g :=
  ⟨f.nd, fun a ha i hi => (by
    obtain ⟨o, e, _⟩ := h.pl i a hi
    rw [f.new a ha] at e
    cases e), f.pl, fun a ha => .inr (f.new a ha)⟩
/-- .. behind what changed -/
theorem Post.fresh {v : V} {d : D} {g : List Addr} (a : Step K W p H env fs H1 σ env1 fs1) (f : Fresh K H1 v H' d g) : Post K W p o H env fs H' σ env1 fs1 v d g :=
  ⟨a.and_same f.same, f.rep, fun _ => Own.before a (f.own a.renv)⟩
def R.of {α : Type} : Option α → R α
  | some a => .ok a
  | none => .no
/-! ### two operands -/
def eBin (F : D → D → Option D) (f g : Ev) : Ev := fun env => (f env).bind fun x => (g x.2).bind fun y => (R.of (F x.1 y.1)).bind fun r => .ok (r, y.2)
def rD2 (K : Frag) (F : D → D → Option D) : R2 := fun x y H Q => ∃ d e g1 g2 r, Rep K H x d g1 ∧ Rep K H y e g2 ∧ F d e = some r ∧ ∀ v H' g, Fresh K H v H' r g → Q v H'
theorem tD_bin {F : D → D → Option D} {f g : Ev} {Q : VK} (c : (o1 || p2) = true) (h : tD K E (p1 && p2) true (eBin F f g) σ H Q) : tD K E p1 o1 f σ H fun x H1 => tD K E p2 o2 g σ H1 fun y H2 => rD2 K F x y H2 Q := by
  obtain ⟨env, fs, W, he, h⟩ := h
  refine ⟨env, fs, W, he, ?_⟩
  unfold eBin at h
  cases e1 : f env with
  | no => rw [e1] at h; exact h
  | ex c => rw [e1] at h; exact h
  | ok x =>
    obtain ⟨d1, env1⟩ := x
    rw [e1] at h
    intro v1 H1 fs1 g1 P1
    refine ⟨env1, fs1, W, P1.step.renv, ?_⟩
    cases e2 : g env1 with
    | no => simp only [R.bind, e2] at h
    | ex c => simp only [R.bind, e2] at h; exact h.before P1.step
    | ok y =>
      obtain ⟨d2, env2⟩ := y
      intro v2 H2 fs2 g2 P2
      have r1 : Rep K H2 v1 d1 g1 := Rep.after P1.step.renv P1.rep P1.own P2.step c
      cases e3 : F d1 d2 with
      | none => simp [R.bind, e2, e3, R.of] at h
      | some r =>
        simp only [R.bind, e2, e3, R.of] at h
        exact ⟨d1, d2, g1, g2, r, r1, P2.rep, e3, fun v H' g fr => h v H' fs2 g (Post.fresh (P1.step.trans P2.step) fr)⟩
/-- one operand -/
def eUn (F : D → Option D) (f : Ev) : Ev := fun env => (f env).bind fun x => (R.of (F x.1)).bind fun r => .ok (r, x.2)
def rD1 (K : Frag) (F : D → Option D) : V → Hp → VK → Prop := fun x H Q => ∃ d g1 r, Rep K H x d g1 ∧ F d = some r ∧ ∀ v H' g, Fresh K H v H' r g → Q v H'
theorem tD_un {F : D → Option D} {f : Ev} {Q : VK} (h : tD K E p true (eUn F f) σ H Q) : tD K E p o1 f σ H fun x H1 => rD1 K F x H1 Q := by
  obtain ⟨env, fs, W, he, h⟩ := h
  refine ⟨env, fs, W, he, ?_⟩
  unfold eUn at h
  cases e1 : f env with
  | no => rw [e1] at h; exact h
  | ex c => rw [e1] at h; exact h
  | ok x =>
    obtain ⟨d1, env1⟩ := x
    rw [e1] at h
    intro v1 H1 fs1 g1 P1
    cases e3 : F d1 with
    | none => simp [R.bind, e3, R.of] at h
    | some r =>
      simp only [R.bind, e3, R.of] at h
      exact ⟨d1, g1, r, P1.rep, e3, fun v H' g fr => h v H' fs1 g (Post.fresh P1.step fr)⟩
/-! ### arguments -/
abbrev EvA := Env → R (List D × Env)
def tDA (K : Frag) (E : XK) (p o : Bool) (f : EvA) : TA := fun σ H Q => ∃ env fs W, RepEnv K W H σ env fs ∧ match f env with
  | .no => False
  | .ex c => ExP K E c H fs
  | .ok (ds, env') => ∀ vs H' fs' g, PostL K W p o H env fs H' σ env' fs' vs ds g → Q vs H'
def DA (X : Cx) (E : XK) (p o : Bool) (es : List Expr) (f : EvA) : Prop := PA X es (tDA X.K E p o f)
def aNil : EvA := fun env => .ok ([], env)
def aCons (f : Ev) (g : EvA) : EvA := fun env => (f env).bind fun x => (g x.2).bind fun y => .ok (x.1 :: y.1, y.2)
theorem PA.mono {X : Cx} {es : List Expr} {t t' : TA} (h : PA X es t) (m : ∀ σ H Q, t' σ H Q → t σ H Q) : PA X es t' := ⟨fun pos pins s σ H Q I w => h.run pos pins s σ H Q I (m σ H Q w)⟩
theorem Own.nil {H' : Hp} {fs' : Fs} : Own H fs H' fs' [] := ⟨.nil, fun _ z => (nomatch z), fun _ z => (nomatch z), fun _ z => (nomatch z)⟩
theorem Own.append {g1 g2 : List Addr} (w1 : Own H fs H2 fs2 g1) (w2 : Own H fs H2 fs2 g2) (d : ∀ a ∈ g1, a ∉ g2) : Own H fs H2 fs2 (g1 ++ g2) :=
  ⟨List.nodup_append.mpr ⟨w1.nd, w2.nd, fun a ha b hb e => d a ha (e ▸ hb)⟩, fun a ha => (List.mem_append.mp ha).elim (w1.apart a) (w2.apart a), fun a ha => (List.mem_append.mp ha).elim (w1.pl a) (w2.pl a), fun a ha => (List.mem_append.mp ha).elim (w1.sub a) (w2.sub a)⟩
variable {X : Cx}
theorem da_nil : DA X E true true [] aNil := PA.mono pa_nil fun σ H Q ⟨env, fs, W, he, h⟩ => h [] H fs [] ⟨Step.refl he, .nil, fun _ => Own.nil⟩
theorem da_cons {e : Expr} {es : List Expr} {f : Ev} {g : EvA} (he : DE X E p1 o1 e f) (hs : DA X E p2 o2 es g) (c : (o1 || p2) = true := by rfl) (hq : starEach (e :: es) X.env = (false, eval e X.env) :: starEach es X.env := by rfl) :
    DA X E (p1 && p2) (o1 && o2) (e :: es) (aCons f g) := by
  refine PA.mono (pa_cons he hs hq) fun σ H Q ⟨env, fs, W, hr, h⟩ => ?_
  refine ⟨env, fs, W, hr, ?_⟩
  unfold aCons at h
  cases e1 : f env with
  | no => rw [e1] at h; exact h
  | ex c => rw [e1] at h; exact h
  | ok x =>
    obtain ⟨d1, env1⟩ := x
    rw [e1] at h
    intro v1 H1 fs1 g1 P1
    refine ⟨env1, fs1, W, P1.step.renv, ?_⟩
    cases e2 : g env1 with
    | no => simp only [R.bind, e2] at h
    | ex c => simp only [R.bind, e2] at h; exact h.before P1.step
    | ok y =>
      obtain ⟨ds, env2⟩ := y
      intro vs H2 fs2 g2 P2
      simp only [R.bind, e2] at h
      have r1 : Rep X.K H2 v1 d1 g1 := Rep.after P1.step.renv P1.rep P1.own P2.step c
      refine h (v1 :: vs) H2 fs2 (g1 ++ g2) ⟨P1.step.trans P2.step, .cons r1 P2.rep, fun ho => ?_⟩
      have ho' : o1 = true ∧ o2 = true := by simpa using ho
      have w1 := P1.own ho'.1
      have w2 := P2.own ho'.2
      have t1 := Rep.there _ _ _ P1.rep
      refine Own.append (w1.after P2.step t1) (Own.before P1.step w2) fun a ha hb => ?_
      rcases w2.sub a hb with ⟨j, hj⟩ | z
      · exact w1.apart a ha j hj
      · obtain ⟨o, e⟩ := t1 a ha
        rw [e] at z; cases z
/-! ### names, constants -/
def eC (d : D) : Ev := fun env => .ok (d, env)
theorem de_const {e : Expr} {v : V} {d : D} (h : PE X e (tC v)) (r : ∀ K H, Rep K H v d []) : DE X E true true e (eC d) :=
  PE.mono h fun σ H Q ⟨env, fs, W, he, h⟩ => h v H fs [] ⟨Step.refl he, r _ _, fun _ => Own.nil⟩
theorem de_int {i : Int} {j pos} : DE X E true true (.Constant (.int i) j pos) (eC (.int i)) := de_const pe_int fun _ _ => .int i
theorem de_bl {b : Bool} {j pos} : DE X E true true (.Constant (.bool b) j pos) (eC (.bool b)) := de_const pe_bl fun _ _ => .bl b
theorem de_non {j pos} : DE X E true true (.Constant .none j pos) (eC .none) := de_const pe_non fun _ _ => .non
theorem de_str {x : Str} {j pos} : DE X E true true (.Constant (.str x) j pos) (eC (.str x)) := de_const pe_str fun _ _ => .str x
theorem de_gint {x : Str} {i : Int} {pos : Pos} {t : Tok} (hg : Gl X x) (hm : X.mg x = some (.int i t)) (hd : (x == ("__debug__" : Str)) = false := by decide) : DE X E true true (.Name x pos) (eC (.int i)) := de_const (pe_glob (v := .int i) hg hm ⟨t, rfl⟩ hd) fun _ _ => .int i
theorem de_gstr {x : Str} {z : Str} {pos : Pos} {t : Tok} (hg : Gl X x) (hm : X.mg x = some (.str z t)) (hd : (x == ("__debug__" : Str)) = false := by decide) : DE X E true true (.Name x pos) (eC (.str z)) := de_const (pe_glob (v := .str z) hg hm ⟨t, rfl⟩ hd) fun _ _ => .str z
/-- a slot, read -/
def Slot.get : Slot → R D
  | .dead => .no
  | .own d => .ok d
  | .view d => .ok d
def eRead (i : Nat) : Ev := fun env => (env.at i).get.bind fun d => .ok (d, env)
theorem de_read {i : Nat} {x : Str} {pos : Pos} (hN : X.N[i]? = some x := by rfl) (hv : Vis X.env.scope x := by first | exact .inl rfl | exact .inr (.inl rfl) | exact .inr (.inr rfl)) (hd : (x == ("__debug__" : Str)) = false := by decide) (hcd : (x == ("__classdict__" : Str)) = false := by decide) :
    DE X E true false (.Name x pos) (eRead i) := by
  refine PE.mono (pe_var hN hv hd hcd) fun σ H Q ⟨env, fs, W, he, h⟩ => ?_
  have q := he.slot i
  unfold eRead at h
  cases e : env.at i with
  | dead => rw [e] at h; exact h.elim
  | own d =>
    rw [e] at h q
    obtain ⟨v, e1, r⟩ := q
    exact ⟨v, e1, h v H fs _ ⟨Step.refl he, r, fun z => (nomatch z)⟩⟩
  | view d =>
    rw [e] at h q
    obtain ⟨_, v, g, e1, r, _⟩ := q
    exact ⟨v, e1, h v H fs _ ⟨Step.refl he, r, fun z => (nomatch z)⟩⟩
/-- data that can't change are one's own -/
def eImm (f : Ev) : Ev := fun env => (f env).bind fun x => if imm x.1 = true then .ok x else .no
theorem de_imm {e : Expr} {f : Ev} (h : DE X E p o e f) : DE X E p true e (eImm f) := by
  refine PE.mono h fun σ H Q ⟨env, fs, W, he, h⟩ => ⟨env, fs, W, he, ?_⟩
  unfold eImm at h
  cases e1 : f env with
  | no => rw [e1] at h; exact h
  | ex c => rw [e1] at h; exact h
  | ok x =>
    obtain ⟨d, env1⟩ := x
    rw [e1] at h
    intro v H' fs' g P
    by_cases hi : imm d = true
    · simp only [R.bind, hi, if_true] at h
      refine h v H' fs' g ⟨P.step, P.rep, fun _ => ?_⟩
      rw [Rep.fp_imm _ _ _ P.rep hi]
      exact Own.nil
    · simp [R.bind, hi] at h
theorem de_weak {e : Expr} {f : Ev} (h : DE X E p o e f) : DE X E p false e f := by
  refine PE.mono h fun σ H Q ⟨env, fs, W, he, h⟩ => ⟨env, fs, W, he, ?_⟩
  cases e1 : f env with
  | no => rw [e1] at h; exact h
  | ex c => rw [e1] at h; exact h
  | ok x =>
    rw [e1] at h
    exact fun v H' fs' g P => h v H' fs' g ⟨P.step, P.rep, fun z => (nomatch z)⟩
/-! ### an operation by values -/
def OpD (X : Cx) (f : Value → Value → Sem Value) (F : D → D → Option D) : Prop := OpR X f (rD2 X.K F)
theorem de_op {a b : Expr} {op : Operator} {F : D → D → Option D} {f g : Ev} {pos : Pos} (ho : OpD X (binaryOp op) F) (ha : DE X E p1 o1 a f) (hb : DE X E p2 o2 b g) (c : (o1 || p2) = true := by rfl) : DE X E (p1 && p2) true (.BinOp a op b pos) (eBin F f g) :=
  PE.mono (pe_op ho ha hb) fun σ H Q h => tD_bin c h
theorem de_cmp {a b : Expr} {op : CmpOp} {F : D → D → Option D} {f g : Ev} {pos : Pos} (ho : OpD X (compareOp op) F) (ha : DE X E p1 o1 a f) (hb : DE X E p2 o2 b g) (hm : behindInMarks op b = false := by first | exact nobehind _ (by decide) (by decide) | rfl) (c : (o1 || p2) = true := by rfl) : DE X E (p1 && p2) true (.Compare a [op] [b] pos) (eBin F f g) :=
  PE.mono (pe_cmpR ho ha hb hm) fun σ H Q h => tD_bin c h
theorem de_un {a : Expr} {op : UnaryOp} {F : D → Option D} {f : Ev} {pos : Pos} (ho : UnR X (unaryOp op) (rD1 X.K F)) (ha : DE X E p o a f) : DE X E p true (.UnaryOp op a pos) (eUn F f) :=
  PE.mono (pe_un ho ha) fun σ H Q h => tD_un h
/-! ### a call of a builtin by values -/
def eCall (F : List D → Option D) (f : EvA) : Ev := fun env => (f env).bind fun x => (R.of (F x.1)).bind fun r => .ok (r, x.2)
def rDn (K : Frag) (F : List D → Option D) : List V → Hp → VK → Prop := fun vs H Q => ∃ ds g1 r, RepL K H vs ds g1 ∧ F ds = some r ∧ ∀ v H' g, Fresh K H v H' r g → Q v H'
theorem tD_call {F : List D → Option D} {f : EvA} {Q : VK} (h : tD K E p true (eCall F f) σ H Q) : tDA K E p o1 f σ H fun x H1 => rDn K F x H1 Q := by
  obtain ⟨env, fs, W, he, h⟩ := h
  refine ⟨env, fs, W, he, ?_⟩
  unfold eCall at h
  cases e1 : f env with
  | no => rw [e1] at h; exact h
  | ex c => rw [e1] at h; exact h
  | ok x =>
    obtain ⟨d1, env1⟩ := x
    rw [e1] at h
    intro v1 H1 fs1 g1 P1
    cases e3 : F d1 with
    | none => simp [R.bind, e3, R.of] at h
    | some r =>
      simp only [R.bind, e3, R.of] at h
      exact ⟨d1, g1, r, P1.rep, e3, fun v H' g fr => h v H' fs1 g (Post.fresh P1.step fr)⟩
theorem de_callB {F : List D → Option D} {f : EvA} {id : String} {x : Str} {e : Expr} {es : List Expr} {q pos : Pos} (hc : CallR X (.builtin id) (rDn X.K F)) (hm : X.mg x = none) (ha : DA X E p o (e :: es) f) (hg : Gl X x := by rfl) (hv : bootBuiltins x = some (.builtin id) := by decide +kernel) (hn : x ≠ "__name__" := by decide) (hdb : (x == ("__debug__" : Str)) = false := by decide)
    (hs : starEach (e :: es) X.env = (false, eval e X.env) :: starEach es X.env := by rfl) (hpl : (backTo pos (starEach es X.env)).any (·.1) = false := by rfl) : DE X E p true (.Call (.Name x q) (e :: es) [] pos) (eCall F f) :=
  PE.mono (pe_callB hc hg hm hv ha hn hdb hs hpl) fun σ H Q h => tD_call h
theorem de_callT {F : List D → Option D} {f : EvA} {T : String} {x : Str} {e : Expr} {es : List Expr} {q pos : Pos} (hc : CallR X (.type T) (rDn X.K F)) (hm : X.mg x = none) (ha : DA X E p o (e :: es) f) (hg : Gl X x := by rfl) (hv : bootBuiltins x = some (.type T) := by decide +kernel) (hn : x ≠ "__name__" := by decide) (hdb : (x == ("__debug__" : Str)) = false := by decide)
    (hs : starEach (e :: es) X.env = (false, eval e X.env) :: starEach es X.env := by rfl) (hpl : (backTo pos (starEach es X.env)).any (·.1) = false := by rfl) : DE X E p true (.Call (.Name x q) (e :: es) [] pos) (eCall F f) :=
  PE.mono (pe_callTy hc hg hm hv ha hn hdb hs hpl) fun σ H Q h => tD_call h
/-! ### displays -/
def eTup (f : EvA) : Ev := fun env => (f env).bind fun x => if x.1.length ≤ 1000 then .ok (.tuple x.1, x.2) else .no
def eLst (f : EvA) : Ev := fun env => (f env).bind fun x => if x.1.length ≤ 1000 then .ok (.list x.1, x.2) else .no
theorem le_line {n : Nat} (h : n ≤ 1000) : n ≤ sizeLine := by rw [sizeLine_eq]; omega
theorem Own.same {g : List Addr} (w : Own H fs H1 fs1 g) (s : Same H1 H') : Own H fs H' fs1 g := ⟨w.nd, w.apart, fun a ha => let ⟨o, e, m⟩ := w.pl a ha; ⟨o, s a o e, m⟩, w.sub⟩
theorem de_tup {es : List Expr} {f : EvA} {x1 pos} (h : DA X E p o es f) : DE X E p o (.Tuple es x1 pos) (eTup f) := by
  refine PE.mono (pe_tup h) fun σ H Q ⟨env, fs, W, he, h⟩ => ⟨env, fs, W, he, ?_⟩
  unfold eTup at h
  cases e1 : f env with
  | no => rw [e1] at h; exact h
  | ex c => rw [e1] at h; exact h
  | ok x =>
    obtain ⟨ds, env1⟩ := x
    rw [e1] at h
    intro vs H' fs' g P
    by_cases hi : ds.length ≤ 1000
    · simp only [R.bind, hi, if_true] at h
      refine ⟨by rw [RepL.length P.rep]; exact le_line hi, fun q hq => ?_⟩
      have s : Same H' (upd H' q (.tup vs)) := same_upd hq
      exact h (.ref q) _ fs' g ⟨P.step.and_same s, .tup (.inl (.inl upd_same)) (P.rep.same s), fun z => (P.own z).same s⟩
    · simp [R.bind, hi] at h
theorem de_lst {es : List Expr} {f : EvA} {pos} (h : DA X E p o es f) : DE X E p o (.List es pos) (eLst f) := by
  refine PE.mono (pe_lst h) fun σ H Q ⟨env, fs, W, he, h⟩ => ⟨env, fs, W, he, ?_⟩
  unfold eLst at h
  cases e1 : f env with
  | no => rw [e1] at h; exact h
  | ex c => rw [e1] at h; exact h
  | ok x =>
    obtain ⟨ds, env1⟩ := x
    rw [e1] at h
    intro vs H' fs' g P
    by_cases hi : ds.length ≤ 1000
    · simp only [R.bind, hi, if_true] at h
      refine ⟨by rw [RepL.length P.rep]; exact le_line hi, fun q hq => ?_⟩
      have s : Same H' (upd H' q (.lst vs)) := same_upd hq
      refine h (.ref q) _ fs' (q :: g) ⟨P.step.and_same s, .lst upd_same (P.rep.same s), fun z => ?_⟩
      have w := (P.own z).same s
      have nq : ∀ i, q ∉ fs' i := fun i hi => by
        obtain ⟨o, e, _⟩ := P.step.renv.pl i q hi
        rw [hq] at e; cases e
      have ng : q ∉ g := fun hi => by
        obtain ⟨o, e⟩ := RepL.there _ _ _ P.rep q hi
        rw [hq] at e; cases e
      refine ⟨List.nodup_cons.mpr ⟨ng, w.nd⟩, fun a ha => ?_, fun a ha => ?_, fun a ha => ?_⟩
      · rcases List.mem_cons.mp ha with rfl | ha
        · exact nq
        · exact w.apart a ha
      · rcases List.mem_cons.mp ha with rfl | ha
        · exact ⟨_, upd_same, trivial⟩
        · exact w.pl a ha
      · rcases List.mem_cons.mp ha with rfl | ha
        · by_cases n : ∀ i, a ∉ fs i
          · cases e : H a with
            | none => exact .inr rfl
            | some o => rw [P.step.ext a o e n] at hq; cases hq
          · exact .inl (by simpa using n)
        · exact w.sub a ha
    · simp [R.bind, hi] at h
end
end DV
end
section
set_option Elab.async false
set_option linter.all false
set_option maxRecDepth 100000
namespace DV
open PySem PySem.Spec PyProof.Rows L2
section
variable {K : Frag} {H H' : Hp}
mutual
theorem rep_dp : ∀ (d : D) (v : V) (g : List Addr), Rep K H v d g → d.plain = true → Dp K H v d
  | .none, _, _, h, _ => by cases h; exact .non
  | .bool b, _, _, h, _ => by cases h; exact .bl b
  | .int i, _, _, h, _ => by cases h; exact .int i
  | .str s, _, _, h, _ => by cases h; exact .str s
  | .tuple ds, _, _, h, p => by
    cases h with
    | tup hq hl => exact .tup hq (repL_dp ds _ _ hl (by simpa [PyData.plain] using p))
  | .list ds, _, _, h, p => by
    cases h with
    | lst hq hl => exact .lst (SqL.of hq) (repL_dp ds _ _ hl (by simpa [PyData.plain] using p))
  | .dict es, _, _, h, p => by simp [PyData.plain] at p
theorem repL_dp : ∀ (ds : List D) (vs : List V) (g : List Addr), RepL K H vs ds g → PyData.plainAll ds = true → DpAll K H vs ds
  | [], _, _, h, _ => by cases h; exact .nil
  | d :: ds, _, _, h, p => by
    have p' : d.plain = true ∧ PyData.plainAll ds = true := by simpa [PyData.plainAll] using p
    cases h with
    | cons h1 h2 => exact .cons (rep_dp d _ _ h1 p'.1) (repL_dp ds _ _ h2 p'.2)
end
mutual
theorem plain_imm : ∀ d : D, imm d = true → d.plain = true
  | .none, _ => rfl
  | .bool _, _ => rfl
  | .int _, _ => rfl
  | .str _, _ => rfl
  | .tuple ds, h => by
    have h' : immL ds = true := by simpa [imm] using h
    simpa [PyData.plain] using plainAll_imm ds h'
  | .list _, h => by simp [imm] at h
  | .dict _, h => by simp [imm] at h
theorem plainAll_imm : ∀ ds : List D, immL ds = true → PyData.plainAll ds = true
  | [], _ => rfl
  | d :: ds, h => by
    have h' : imm d = true ∧ immL ds = true := by simpa [immL] using h
    simp [PyData.plainAll, plain_imm d h'.1, plainAll_imm ds h'.2]
end
theorem RepL.ints : ∀ {ns : List Int} {vs : List V} {g : List Addr}, RepL K H vs (ns.map PyData.int) g → vs = ns.map V.int ∧ g = []
  | [], _, _, h => by cases h; exact ⟨rfl, rfl⟩
  | n :: ns, _, _, h => by
    cases h with
    | cons h1 h2 =>
      cases h1
      obtain ⟨e, f⟩ := RepL.ints h2
      exact ⟨by rw [e]; rfl, by rw [f]; rfl⟩
theorem RepL.bools : ∀ {ns : List Bool} {vs : List V} {g : List Addr}, RepL K H vs (ns.map PyData.bool) g → vs = ns.map V.bl ∧ g = []
  | [], _, _, h => by cases h; exact ⟨rfl, rfl⟩
  | n :: ns, _, _, h => by
    cases h with
    | cons h1 h2 =>
      cases h1
      obtain ⟨e, f⟩ := RepL.bools h2
      exact ⟨by rw [e]; rfl, by rw [f]; rfl⟩
/-- a list's data, if all are ints (bools) -/
def ints? : List D → Option (List Int)
  | [] => some []
  | .int i :: ds => (ints? ds).map (i :: ·)
  | _ => none
def bools? : List D → Option (List Bool)
  | [] => some []
  | .bool i :: ds => (bools? ds).map (i :: ·)
  | _ => none
theorem ints_some : ∀ {ds : List D} {ns : List Int}, ints? ds = some ns → ds = ns.map PyData.int
  | [], ns, h => by simp [ints?] at h; subst h; rfl
  | .int i :: ds, ns, h => by
    simp only [ints?, Option.map_eq_some_iff] at h
    obtain ⟨ms, h1, rfl⟩ := h
    rw [ints_some h1]; rfl
  | .none :: _, _, h => by simp [ints?] at h
  | .bool _ :: _, _, h => by simp [ints?] at h
  | .str _ :: _, _, h => by simp [ints?] at h
  | .list _ :: _, _, h => by simp [ints?] at h
  | .tuple _ :: _, _, h => by simp [ints?] at h
  | .dict _ :: _, _, h => by simp [ints?] at h
theorem bools_some : ∀ {ds : List D} {ns : List Bool}, bools? ds = some ns → ds = ns.map PyData.bool
  | [], ns, h => by simp [bools?] at h; subst h; rfl
  | .bool i :: ds, ns, h => by
    simp only [bools?, Option.map_eq_some_iff] at h
    obtain ⟨ms, h1, rfl⟩ := h
    rw [bools_some h1]; rfl
  | .none :: _, _, h => by simp [bools?] at h
  | .int _ :: _, _, h => by simp [bools?] at h
  | .str _ :: _, _, h => by simp [bools?] at h
  | .list _ :: _, _, h => by simp [bools?] at h
  | .tuple _ :: _, _, h => by simp [bools?] at h
  | .dict _ :: _, _, h => by simp [bools?] at h
@[simp] theorem ints_map : ∀ (ns : List Int), ints? (ns.map PyData.int) = some ns
  | [] => rfl
  | n :: ns => by simp [ints?, ints_map ns]
@[simp] theorem bools_map : ∀ (ns : List Bool), bools? (ns.map PyData.bool) = some ns
  | [] => rfl
  | n :: ns => by simp [bools?, bools_map ns]
end
section
variable {X : Cx} {pins : List (Addr × Obj)} {σ : L2.St} {H : Hp} {s : Shared}
theorem rep_reads (I : Inv X pins σ H s) {d : D} {v : V} {u : Value} {g : List Addr} (h : Rep X.K H v d g) (p : d.plain = true) (r : RelV v u) : ∃ as, Reads s.heap u d as := Dp.reads I d v u (rep_dp d v g h p) r
theorem repL_reads (I : Inv X pins σ H s) {d : List D} {v : List V} {u : List Value} {g : List Addr} (h : RepL X.K H v d g) (p : PyData.plainAll d = true) (r : Vals v u) : ∃ as, ReadsAll s.heap u d as := Dp.readsAll I d v u (repL_dp d v g h p) r
/-! ### what stands between two values -/
def eqD (d e : D) : Option D := if d.plain = true ∧ e.plain = true ∧ d.depth ≤ 60 then some (.bool (PyData.eqv d e)) else none
def neD (d e : D) : Option D := if d.plain = true ∧ e.plain = true ∧ d.depth ≤ 60 then some (.bool (!PyData.eqv d e)) else none
theorem op_eqV (hu : X.A.units + 64 < cLine) : OpD X (compareOp .Eq) eqD := by
  rintro pins s σ H x y v u Q I rx ry ⟨d, e, g1, g2, r, hd, he, hF, q⟩
  unfold eqD at hF
  split at hF
  · rename_i hp
    cases hF
    obtain ⟨as, r1⟩ := rep_reads I hd hp.1 rx
    obtain ⟨bs, r2⟩ := rep_reads I he hp.2.1 ry
    exact PySem.SeqAt.eq_plain r1 r2 hp.1 hp.2.1 (by have := Nat.min_le_left d.depth e.depth; omega) ⟨.bl _, H, I, rfl, q _ _ _ (.scal (.bl _))⟩
  · cases hF
theorem op_neV (hu : X.A.units + 64 < cLine) : OpD X (compareOp .NotEq) neD := by
  rintro pins s σ H x y v u Q I rx ry ⟨d, e, g1, g2, r, hd, he, hF, q⟩
  unfold neD at hF
  split at hF
  · rename_i hp
    cases hF
    obtain ⟨as, r1⟩ := rep_reads I hd hp.1 rx
    obtain ⟨bs, r2⟩ := rep_reads I he hp.2.1 ry
    exact PySem.SeqAt.ne_plain r1 r2 hp.1 hp.2.1 (by have := Nat.min_le_left d.depth e.depth; omega) ⟨.bl _, H, I, rfl, q _ _ _ (.scal (.bl _))⟩
  · cases hF
def notNone : D → Bool
  | .none => false
  | _ => true
theorem ne_none {d : D} (h : notNone d = true) : d ≠ .none := fun e => by subst e; cases h
def cmpD (f : D → D → Bool) (d e : D) : Option D := if d.plain = true ∧ e.plain = true ∧ d.depth ≤ 60 ∧ PySem.W.alike d e = true ∧ notNone d = true then some (.bool (f d e)) else none
def ltD : D → D → Option D := cmpD fun d e => PySem.W.dataLt d e
def gtD : D → D → Option D := cmpD fun d e => PySem.W.dataLt e d
def leD : D → D → Option D := cmpD fun d e => !PySem.W.dataLt e d
def geD : D → D → Option D := cmpD fun d e => !PySem.W.dataLt d e
theorem op_cmpV {op : CmpOp} {f : D → D → Bool} (hu : X.A.units + 64 < cLine)
    (rule : ∀ (da db : D) (A : Around) (s : Shared) (a b : Value) (as bs : List Addr), Reads s.heap a da as → Reads s.heap b db bs → PySem.W.alike da db = true → da ≠ .none → A.units + min da.depth db.depth < cLine →
      ∀ (prog : Program) (w : World) (E : Value → Shared → Prop) (Q : Value → Shared → Prop), Q (.bool (f da db)) s → wpAny (model prog w) A (compareOp op a b) Q E s) : OpD X (compareOp op) (cmpD f) := by
  rintro pins s σ H x y v u Q I rx ry ⟨d, e, g1, g2, r, hd, he, hF, q⟩
  unfold cmpD at hF
  split at hF
  · rename_i hp
    cases hF
    obtain ⟨as, r1⟩ := rep_reads I hd hp.1 rx
    obtain ⟨bs, r2⟩ := rep_reads I he hp.2.1 ry
    exact rule d e X.A s v u as bs r1 r2 hp.2.2.2.1 (ne_none hp.2.2.2.2) (by have := Nat.min_le_left d.depth e.depth; omega) X.prog X.w _ _ ⟨.bl _, H, I, rfl, q _ _ _ (.scal (.bl _))⟩
  · cases hF
theorem op_ltV (hu : X.A.units + 64 < cLine) : OpD X (compareOp .Lt) ltD := op_cmpV hu fun da db A s a b as bs r1 r2 h n z prog w E Q q => PySem.W.rcLt_alike da db A s a b as bs r1 r2 h n z prog w E Q q
theorem op_gtV (hu : X.A.units + 64 < cLine) : OpD X (compareOp .Gt) gtD := op_cmpV hu fun da db A s a b as bs r1 r2 h n z prog w E Q q => PySem.W.rcGt_alike da db A s a b as bs r1 r2 h n z prog w E Q q
theorem op_leV (hu : X.A.units + 64 < cLine) : OpD X (compareOp .LtE) leD := op_cmpV hu fun da db A s a b as bs r1 r2 h n z prog w E Q q => PySem.W.rcLe_alike da db A s a b as bs r1 r2 h n z prog w E Q q
theorem op_geV (hu : X.A.units + 64 < cLine) : OpD X (compareOp .GtE) geD := op_cmpV hu fun da db A s a b as bs r1 r2 h n z prog w E Q q => PySem.W.rcGe_alike da db A s a b as bs r1 r2 h n z prog w E Q q
def isnD (d e : D) : Option D := match d, e with
  | .none, .none => some (.bool true)
  | _, .none => some (.bool false)
  | _, _ => none
def notnD (d e : D) : Option D := match d, e with
  | .none, .none => some (.bool false)
  | _, .none => some (.bool true)
  | _, _ => none
theorem op_isnV : OpD X (compareOp .Is) isnD := by
  rintro pins s σ H x y v u Q I rx ry ⟨d, e, g1, g2, r, hd, he, hF, q⟩
  have ee : e = .none := by
    unfold isnD at hF
    split at hF <;> first | rfl | cases hF
  subst ee
  cases he
  refine op_isN pins s σ H x .non v u Q I rx ry ⟨rfl, ?_⟩
  cases hd <;> (simp only [isnD, Option.some.injEq] at hF; subst hF; exact q _ _ _ (.scal (.bl _)))
theorem op_notnV : OpD X (compareOp .IsNot) notnD := by
  rintro pins s σ H x y v u Q I rx ry ⟨d, e, g1, g2, r, hd, he, hF, q⟩
  have ee : e = .none := by
    unfold notnD at hF
    split at hF <;> first | rfl | cases hF
  subst ee
  cases he
  refine op_notN pins s σ H x .non v u Q I rx ry ⟨rfl, ?_⟩
  cases hd <;> (simp only [notnD, Option.some.injEq] at hF; subst hF; exact q _ _ _ (.scal (.bl _)))
def inD (d e : D) : Option D := match e with
  | .list xs => if d.plain = true ∧ PyData.plainAll xs = true ∧ d.depth ≤ 60 then some (.bool (xs.any fun y => PyData.eqv y d)) else none
  | .tuple xs => if d.plain = true ∧ PyData.plainAll xs = true ∧ d.depth ≤ 60 then some (.bool (xs.any fun y => PyData.eqv y d)) else none
  | _ => none
def ninD (d e : D) : Option D := match e with
  | .list xs => if d.plain = true ∧ PyData.plainAll xs = true ∧ d.depth ≤ 60 then some (.bool (!xs.any fun y => PyData.eqv y d)) else none
  | .tuple xs => if d.plain = true ∧ PyData.plainAll xs = true ∧ d.depth ≤ 60 then some (.bool (!xs.any fun y => PyData.eqv y d)) else none
  | _ => none
theorem op_inV (hu : X.A.units + 64 < cLine) : OpD X (compareOp .In) inD := by
  rintro pins s σ H x y v u Q I rx ry ⟨d, e, g1, g2, r, hd, he, hF, q⟩
  unfold inD at hF
  split at hF
  · split at hF
    · rename_i xs hp
      cases hF
      obtain ⟨as, r1⟩ := rep_reads I hd hp.1 rx
      obtain ⟨bs, r2⟩ := rep_reads I he (by simpa [PyData.plain] using hp.2.1) ry
      exact PySem.SeqAt.in_list_data r2 r1 hp.2.1 hp.1 (by have := Nat.min_le_right (PyData.depthAll xs) d.depth; omega) ⟨.bl _, H, I, rfl, q _ _ _ (.scal (.bl _))⟩
    · cases hF
  · split at hF
    · rename_i xs hp
      cases hF
      obtain ⟨as, r1⟩ := rep_reads I hd hp.1 rx
      obtain ⟨bs, r2⟩ := rep_reads I he (by simpa [PyData.plain] using hp.2.1) ry
      exact PySem.SeqAt.in_tuple_data r2 r1 hp.2.1 hp.1 (by have := Nat.min_le_right (PyData.depthAll xs) d.depth; omega) ⟨.bl _, H, I, rfl, q _ _ _ (.scal (.bl _))⟩
    · cases hF
  · cases hF
theorem op_ninV (hu : X.A.units + 64 < cLine) : OpD X (compareOp .NotIn) ninD := by
  rintro pins s σ H x y v u Q I rx ry ⟨d, e, g1, g2, r, hd, he, hF, q⟩
  unfold ninD at hF
  split at hF
  · split at hF
    · rename_i xs hp
      cases hF
      obtain ⟨as, r1⟩ := rep_reads I hd hp.1 rx
      obtain ⟨bs, r2⟩ := rep_reads I he (by simpa [PyData.plain] using hp.2.1) ry
      exact PySem.SeqAt.notIn_list_data r2 r1 hp.2.1 hp.1 (by have := Nat.min_le_right (PyData.depthAll xs) d.depth; omega) ⟨.bl _, H, I, rfl, q _ _ _ (.scal (.bl _))⟩
    · cases hF
  · split at hF
    · rename_i xs hp
      cases hF
      obtain ⟨as, r1⟩ := rep_reads I hd hp.1 rx
      obtain ⟨bs, r2⟩ := rep_reads I he (by simpa [PyData.plain] using hp.2.1) ry
      exact PySem.SeqAt.notIn_tuple_data r2 r1 hp.2.1 hp.1 (by have := Nat.min_le_right (PyData.depthAll xs) d.depth; omega) ⟨.bl _, H, I, rfl, q _ _ _ (.scal (.bl _))⟩
    · cases hF
  · cases hF
/-! ### arithmetic -/
def addD : D → D → Option D
  | .int i, .int j => some (.int (i + j))
  | .str a, .str b => if a.length + b.length ≤ 16000000 then some (.str (a ++ b)) else none
  | .tuple xs, .tuple ys => if immL xs = true ∧ immL ys = true ∧ xs.length + ys.length ≤ 16000000 then some (.tuple (xs ++ ys)) else none
  | .list xs, .list ys => if immL xs = true ∧ immL ys = true ∧ xs.length + ys.length ≤ 16000000 then some (.list (xs ++ ys)) else none
  | _, _ => none
theorem in_line {n : Nat} (h : n ≤ 16000000) : n ≤ sizeLine := by rw [sizeLine_eq]; omega
theorem op_addV : OpD X (binaryOp .Add) addD := by
  rintro pins s σ H x y v u Q I rx ry ⟨d, e, g1, g2, r, hd, he, hF, q⟩
  unfold addD at hF
  split at hF
  · cases hF
    cases hd
    cases he
    exact op_add pins s σ H _ _ v u Q I rx ry ⟨_, _, rfl, rfl, q _ _ _ (.scal (.int _))⟩
  · split at hF
    · rename_i hp
      cases hF
      cases hd
      cases he
      exact op_add_str pins s σ H _ _ v u Q I rx ry ⟨_, _, rfl, rfl, in_line hp, q _ _ _ (.scal (.str _))⟩
    · cases hF
  · split at hF
    · rename_i xs ys hp
      cases hF
      cases hd with
      | tup h1 l1 =>
        cases he with
        | tup h2 l2 =>
          have f1 := RepL.fp_imm _ _ _ l1 hp.1
          have f2 := RepL.fp_imm _ _ _ l2 hp.2.1
          subst f1 f2
          have n1 := RepL.length l1
          have n2 := RepL.length l2
          refine op_catA pins s σ H _ _ v u Q I rx ry ⟨_, _, _, _, rfl, rfl, h1, h2, in_line (by omega), fun z => ?_, fun _ z => ?_, fun _ _ p hp => q _ _ _ (.tup (RepL.append l1 l2) hp)⟩
          · subst z
            cases l1
            exact q _ _ _ (.scal (.tup h2 l2))
          · subst z
            cases l2
            rw [List.append_nil] at q
            exact q _ _ _ (.scal (.tup h1 l1))
    · cases hF
  · split at hF
    · rename_i xs ys hp
      cases hF
      cases hd with
      | lst h1 l1 =>
        cases he with
        | lst h2 l2 =>
          have f1 := RepL.fp_imm _ _ _ l1 hp.1
          have f2 := RepL.fp_imm _ _ _ l2 hp.2.1
          subst f1 f2
          have n1 := RepL.length l1
          have n2 := RepL.length l2
          exact op_cat pins s σ H _ _ v u Q I rx ry ⟨_, _, _, _, rfl, rfl, h1, h2, in_line (by omega), fun p hp => q _ _ _ (.lst (RepL.append l1 l2) hp)⟩
    · cases hF
  · cases hF
def subD : D → D → Option D
  | .int i, .int j => some (.int (i - j))
  | _, _ => none
theorem op_subV : OpD X (binaryOp .Sub) subD := by
  rintro pins s σ H x y v u Q I rx ry ⟨d, e, g1, g2, r, hd, he, hF, q⟩
  unfold subD at hF
  split at hF
  · cases hF
    cases hd
    cases he
    exact op_sub pins s σ H _ _ v u Q I rx ry ⟨_, _, rfl, rfl, q _ _ _ (.scal (.int _))⟩
  · cases hF
theorem RepL.rep {vs : List V} {ds : List D} (h : RepL X.K H vs ds []) : ∀ k : Nat, RepL X.K H (List.replicate k vs).flatten (List.replicate k ds).flatten []
  | 0 => .nil
  | k + 1 => by
    rw [List.replicate_succ, List.replicate_succ, List.flatten_cons, List.flatten_cons]
    exact RepL.append h (RepL.rep h k)
instance (i j : Int) : Decidable (CMul i j) := by unfold CMul; exact inferInstance
def mulD : D → D → Option D
  | .int i, .int j => if CMul i j then some (.int (i * j)) else none
  | .list xs, .int k => if immL xs = true ∧ xs.length * k.toNat ≤ 16000000 ∧ -(2 ^ 63) ≤ k ∧ k < 2 ^ 63 then some (.list (List.replicate k.toNat xs).flatten) else none
  | .tuple xs, .int k => if immL xs = true ∧ xs ≠ [] ∧ xs.length ≤ 1000 ∧ 1 ≤ k ∧ k ≤ 1000 then some (.tuple (List.replicate k.toNat xs).flatten) else none
  | _, _ => none
theorem tuple_once (l : Addr) (items : Array Value) (n : Nat) (dd : Option Addr) (sl : Array (Option Value)) (u : Tok) :
    Meets (Builtin.«tuple.__mul__» ⟨[.ref l, .int 1 u], []⟩) (fun _ R s => s.heap.get? l = some { cls := .type "tuple", dict := dd, data := .seq items n, slots := sl } ∧ R (.ok (.ret (Value.ref l))) s) :=
  .of_wp fun prog w A R s h => by
    obtain ⟨hp, g, d, tk, os⟩ := s
    obtain ⟨hl, h⟩ := h
    have f1 := AutoSeq1.idx_int
    have c1 : (items.isEmpty || (1 : Int) == 1) = true := by simp
    wp_walk using wpAny_loadPart' hl
    exact ⟨_, rfl, h⟩
theorem op_once : OpR X (binaryOp .Mult) (fun x y H Q => ∃ l xs, x = .ref l ∧ y = .int 1 ∧ SqT X.K H l xs ∧ Q x H) := by
  rintro pins s σ H x y v u Q I rx ry ⟨l, xs, rfl, rfl, hT, q⟩
  cases rx
  obtain ⟨t, rfl⟩ := ry
  obtain ⟨its, r, ⟨⟨cls, dd, data, sl⟩, ho, hc, n, hd⟩, hs⟩ := I.tuple hT
  simp only at hc hd
  subst hc hd
  exact wpAny_binaryOp_repeat_ref (T := "tuple") (U := "int") (by decide) ⟨_, ho, rfl⟩ (fun s' => typeIs_int s' 1 t) noFill_tuple_mul F.fills_int_mul F.slot_int_rmul repeat_tuple F.slot_int_index.lookup
    (call_meets F.slot_int_rmul (typeIs_int s 1 t) F.entry_int_rmul (F.args_int_rmul_2 _ _) (int_rmul_tuple 1 t l its.toArray n dd sl)
      ⟨ho, rfl, ⟨_, ho, rfl⟩, call_meets F.slot_tuple_mul ⟨_, ho, rfl⟩ F.entry_tuple_mul (F.args_tuple_mul_2 _ _) (tuple_once l its.toArray n dd sl t) ⟨ho, .ref l, H, I, rfl, q⟩⟩)
theorem op_mulV : OpD X (binaryOp .Mult) mulD := by
  rintro pins s σ H x y v u Q I rx ry ⟨d, e, g1, g2, r, hd, he, hF, q⟩
  unfold mulD at hF
  split at hF
  · split at hF
    · rename_i hp
      cases hF
      cases hd
      cases he
      exact op_mul pins s σ H _ _ v u Q I rx ry ⟨_, _, rfl, rfl, hp, q _ _ _ (.scal (.int _))⟩
    · cases hF
  · split at hF
    · rename_i xs k hp
      cases hF
      cases he
      cases hd with
      | lst h1 l1 =>
        have f1 := RepL.fp_imm _ _ _ l1 hp.1
        subst f1
        have n1 := RepL.length l1
        exact op_rep pins s σ H _ _ v u Q I rx ry ⟨_, _, _, rfl, rfl, h1, hp.2.2.1, hp.2.2.2, in_line (by rw [n1]; exact hp.2.1), fun p hp => q _ _ _ (.lst (RepL.rep l1 _) hp)⟩
    · cases hF
  · split at hF
    · rename_i xs k hp
      cases hF
      cases he
      cases hd with
      | tup h1 l1 =>
        have f1 := RepL.fp_imm _ _ _ l1 hp.1
        subst f1
        have n1 := RepL.length l1
        have hne : ∀ {vs : List V}, RepL X.K H vs xs [] → vs ≠ [] := fun {vs} l z => by
          subst z
          have := RepL.length l
          exact hp.2.1 (List.length_eq_zero_iff.mp this.symm)
        by_cases k1 : k = 1
        · subst k1
          refine op_once pins s σ H _ _ v u Q I rx ry ⟨_, _, rfl, rfl, h1, q _ _ [] (.scal ?_)⟩
          have : (List.replicate (1 : Int).toNat xs).flatten = xs := by simp
          rw [this]
          exact .tup h1 l1
        · exact op_repT pins s σ H _ _ v u Q I rx ry ⟨_, _, _, rfl, rfl, h1, hne l1, by omega, hp.2.2.2.2, by omega, fun p hp => q _ _ _ (.tup (RepL.rep l1 _) hp)⟩
    · cases hF
  · cases hF
instance (i j : Int) : Decidable (CDiv i j) := by unfold CDiv; exact inferInstance
def fdivD : D → D → Option D
  | .int i, .int j => if CDiv i j then some (.int (i / j)) else none
  | _, _ => none
theorem op_fdivV : OpD X (binaryOp .FloorDiv) fdivD := by
  rintro pins s σ H x y v u Q I rx ry ⟨d, e, g1, g2, r, hd, he, hF, q⟩
  unfold fdivD at hF
  split at hF
  · split at hF
    · rename_i hp
      cases hF
      cases hd
      cases he
      exact op_fdiv pins s σ H _ _ v u Q I rx ry ⟨_, _, rfl, rfl, hp, q _ _ _ (.scal (.int _))⟩
    · cases hF
  · cases hF
def modD : D → D → Option D
  | .int i, .int j => if 0 < j then some (.int (i % j)) else none
  | _, _ => none
theorem op_modV : OpD X (binaryOp .Mod) modD := by
  rintro pins s σ H x y v u Q I rx ry ⟨d, e, g1, g2, r, hd, he, hF, q⟩
  unfold modD at hF
  split at hF
  · split at hF
    · rename_i hp
      cases hF
      cases hd
      cases he
      exact op_mod pins s σ H _ _ v u Q I rx ry ⟨_, _, rfl, rfl, hp, q _ _ _ (.scal (.int _))⟩
    · cases hF
  · cases hF
def negD : D → Option D
  | .int i => some (.int (-i))
  | _ => none
theorem un_negV : UnR X (unaryOp .USub) (rD1 X.K negD) := by
  rintro pins s σ H x v Q I rx ⟨d, g1, r, hd, hF, q⟩
  unfold negD at hF
  split at hF
  · cases hF
    cases hd
    exact un_neg pins s σ H _ v Q I rx ⟨_, rfl, q _ _ _ (.scal (.int _))⟩
  · cases hF
/-! ### calls -/
theorem repL_one {ds : List D} {d : D} {vs : List V} {g : List Addr} (h : RepL X.K H vs ds g) (e : ds = [d]) : ∃ v, vs = [v] ∧ Rep X.K H v d g := by
  subst e
  cases h with
  | cons h1 h2 =>
    cases h2
    exact ⟨_, rfl, by simpa using h1⟩
theorem repL_two {ds : List D} {d e : D} {vs : List V} {g : List Addr} (h : RepL X.K H vs ds g) (z : ds = [d, e]) : ∃ v w g1 g2, vs = [v, w] ∧ Rep X.K H v d g1 ∧ Rep X.K H w e g2 := by
  subst z
  cases h with
  | cons h1 h2 =>
    cases h2 with
    | cons h2 h3 =>
      cases h3
      exact ⟨_, _, _, _, rfl, h1, h2⟩
def lenD : List D → Option D
  | [.list xs] => some (.int xs.length)
  | [.tuple xs] => some (.int xs.length)
  | [.str z] => if z.length ≤ 16000000 then some (.int z.length) else none
  | _ => none
theorem cr_lenV : CallR X (.builtin "len") (rDn X.K lenD) := by
  rintro pins s σ H xs us Q I r ⟨ds, g, res, hr, hF, q⟩
  unfold lenD at hF
  split at hF
  · cases hF
    obtain ⟨v, rfl, h⟩ := repL_one hr rfl
    cases h with
    | lst h1 l1 =>
      refine call_len_seq pins s σ H _ us Q I r ⟨_, _, rfl, .inl (SqL.of h1), ?_⟩
      rw [RepL.length l1]
      exact q _ _ _ (.scal (.int _))
  · cases hF
    obtain ⟨v, rfl, h⟩ := repL_one hr rfl
    cases h with
    | tup h1 l1 =>
      refine call_len_seq pins s σ H _ us Q I r ⟨_, _, rfl, .inr h1, ?_⟩
      rw [RepL.length l1]
      exact q _ _ _ (.scal (.int _))
  · split at hF
    · rename_i hp
      cases hF
      obtain ⟨v, rfl, h⟩ := repL_one hr rfl
      cases h
      exact call_len_str pins s σ H _ us Q I r ⟨_, rfl, in_line hp, q _ _ _ (.scal (.int _))⟩
    · cases hF
  · cases hF
def absD : List D → Option D
  | [.int i] => some (.int (if i < 0 then -i else i))
  | _ => none
theorem cr_absV : CallR X (.builtin "abs") (rDn X.K absD) := by
  rintro pins s σ H xs us Q I r ⟨ds, g, res, hr, hF, q⟩
  unfold absD at hF
  split at hF
  · cases hF
    obtain ⟨v, rfl, h⟩ := repL_one hr rfl
    cases h
    exact call_abs pins s σ H _ us Q I r ⟨_, rfl, q _ _ _ (.scal (.int _))⟩
  · cases hF
def intD : List D → Option D
  | [.int i] => some (.int i)
  | [.bool b] => some (.int (if b then 1 else 0))
  | _ => none
theorem cr_intV : CallR X (.type "int") (rDn X.K intD) := by
  rintro pins s σ H xs us Q I r ⟨ds, g, res, hr, hF, q⟩
  unfold intD at hF
  split at hF
  · cases hF
    obtain ⟨v, rfl, h⟩ := repL_one hr rfl
    cases h
    exact call_int1 pins s σ H _ us Q I r (.inl ⟨_, rfl, q _ _ _ (.scal (.int _))⟩)
  · cases hF
    obtain ⟨v, rfl, h⟩ := repL_one hr rfl
    cases h
    exact call_int1 pins s σ H _ us Q I r (.inr ⟨_, rfl, q _ _ _ (.scal (.int _))⟩)
  · cases hF
def tupleD : List D → Option D
  | [.list xs] => if immL xs = true then some (.tuple xs) else none
  | [.tuple xs] => if immL xs = true then some (.tuple xs) else none
  | _ => none
theorem cr_tupleV : CallR X (.type "tuple") (rDn X.K tupleD) := by
  rintro pins s σ H xs us Q I r ⟨ds, g, res, hr, hF, q⟩
  unfold tupleD at hF
  split at hF
  · split at hF
    · rename_i hp
      cases hF
      obtain ⟨v, rfl, h⟩ := repL_one hr rfl
      cases h with
      | lst h1 l1 =>
        have f1 := RepL.fp_imm _ _ _ l1 hp
        subst f1
        exact call_tuple_of pins s σ H _ us Q I r ⟨_, _, rfl, .inl ⟨SqL.of h1, fun p hp => q _ _ _ (.tup l1 hp)⟩⟩
    · cases hF
  · split at hF
    · rename_i hp
      cases hF
      obtain ⟨v, rfl, h⟩ := repL_one hr rfl
      cases h with
      | tup h1 l1 =>
        have f1 := RepL.fp_imm _ _ _ l1 hp
        subst f1
        exact call_tuple_of pins s σ H _ us Q I r ⟨_, _, rfl, .inr ⟨h1, q _ _ _ (.scal (.tup h1 l1))⟩⟩
    · cases hF
  · cases hF
def listD : List D → Option D
  | [.list xs] => if immL xs = true then some (.list xs) else none
  | [.tuple xs] => if immL xs = true then some (.list xs) else none
  | _ => none
theorem cr_listV : CallR X (.type "list") (rDn X.K listD) := by
  rintro pins s σ H xs us Q I r ⟨ds, g, res, hr, hF, q⟩
  unfold listD at hF
  split at hF
  · split at hF
    · rename_i hp
      cases hF
      obtain ⟨v, rfl, h⟩ := repL_one hr rfl
      cases h with
      | lst h1 l1 =>
        have f1 := RepL.fp_imm _ _ _ l1 hp
        subst f1
        exact call_list_of pins s σ H _ us Q I r ⟨_, _, rfl, .inl (SqL.of h1), fun p hp => q _ _ _ (.lst l1 hp)⟩
    · cases hF
  · split at hF
    · rename_i hp
      cases hF
      obtain ⟨v, rfl, h⟩ := repL_one hr rfl
      cases h with
      | tup h1 l1 =>
        have f1 := RepL.fp_imm _ _ _ l1 hp
        subst f1
        exact call_list_of pins s σ H _ us Q I r ⟨_, _, rfl, .inr h1, fun p hp => q _ _ _ (.lst l1 hp)⟩
    · cases hF
  · cases hF
def allD : List D → Option D
  | [.list xs] => (bools? xs).map fun bs => .bool (bs.all id)
  | _ => none
def anyD : List D → Option D
  | [.list xs] => (bools? xs).map fun bs => .bool (bs.any id)
  | _ => none
theorem cr_allV (hc : X.calm = true) : CallR X (.builtin "all") (rDn X.K allD) := by
  rintro pins s σ H xs us Q I r ⟨ds, g, res, hr, hF, q⟩
  unfold allD at hF
  split at hF
  · rename_i ys
    obtain ⟨bs, hb, rfl⟩ := Option.map_eq_some_iff.mp hF
    obtain ⟨v, rfl, h⟩ := repL_one hr rfl
    rw [bools_some hb] at h
    cases h with
    | lst h1 l1 =>
      obtain ⟨e, f⟩ := RepL.bools l1
      subst e
      exact cr_all hc pins s σ H _ us Q I r ⟨_, _, rfl, SqL.of h1, q _ _ _ (.scal (.bl _))⟩
  · cases hF
theorem cr_anyV (hc : X.calm = true) : CallR X (.builtin "any") (rDn X.K anyD) := by
  rintro pins s σ H xs us Q I r ⟨ds, g, res, hr, hF, q⟩
  unfold anyD at hF
  split at hF
  · rename_i ys
    obtain ⟨bs, hb, rfl⟩ := Option.map_eq_some_iff.mp hF
    obtain ⟨v, rfl, h⟩ := repL_one hr rfl
    rw [bools_some hb] at h
    cases h with
    | lst h1 l1 =>
      obtain ⟨e, f⟩ := RepL.bools l1
      subst e
      exact cr_any hc pins s σ H _ us Q I r ⟨_, _, rfl, SqL.of h1, q _ _ _ (.scal (.bl _))⟩
  · cases hF
end
end DV
end
section
set_option Elab.async false
set_option linter.all false
set_option maxRecDepth 100000
namespace DV
open PySem PySem.Spec PyProof.Rows L2
section
variable {X : Cx} {E : XK} {p p1 p2 p3 pt o o1 o2 o3 : Bool}
/-! ### tests -/
abbrev Et := Env → R (Bool × Env)
def tDT (K : Frag) (E : XK) (p : Bool) (f : Et) : TT := fun σ H Q => ∃ env fs W, RepEnv K W H σ env fs ∧ match f env with
  | .no => False
  | .ex c => ExP K E c H fs
  | .ok (b, env') => ∀ H' fs', Step K W p H env fs H' σ env' fs' → Q b H'
def DT (X : Cx) (E : XK) (p : Bool) (e : Expr) (f : Et) : Prop := PT X e (tDT X.K E p f)
def DW (X : Cx) (E : XK) (p : Bool) (e : Expr) (f : Et) : Prop := PW X e (tDT X.K E p f)
theorem PT.mono {e : Expr} {t t' : TT} (h : PT X e t) (m : ∀ σ H Q, t' σ H Q → t σ H Q) : PT X e t' := ⟨fun pins s σ H Q I w => h.run pins s σ H Q I (m σ H Q w)⟩
theorem PW.mono {e : Expr} {t t' : TT} (h : PW X e t) (m : ∀ σ H Q, t' σ H Q → t σ H Q) : PW X e t' := ⟨fun wh pins s σ H Q I w => h.run wh pins s σ H Q I (m σ H Q w)⟩
def eT (f : Ev) : Et := fun env => (f env).bind fun x => match x.1 with
  | .bool b => .ok (b, x.2)
  | _ => .no
theorem tD_T {f : Ev} {σ : L2.St} {H : Hp} {Q : Bool → Hp → Prop} (h : tDT X.K E p (eT f) σ H Q) : tD X.K E p o f σ H fun x H1 => ∃ c, x = .bl c ∧ Q c H1 := by
  obtain ⟨env, fs, W, he, h⟩ := h
  refine ⟨env, fs, W, he, ?_⟩
  unfold eT at h
  cases e1 : f env with
  | no => rw [e1] at h; exact h
  | ex c => rw [e1] at h; exact h
  | ok x =>
    obtain ⟨d, env1⟩ := x
    rw [e1] at h
    intro v H' fs' g P
    cases d with
    | bool b =>
      have r := P.rep
      cases r
      exact ⟨b, rfl, h H' fs' P.step⟩
    | _ => exact (show False from h).elim
theorem dt_val {e : Expr} {f : Ev} (h : DE X E p o e f) (he : ∀ whole, isTrue e X.env whole = (do let v ← whole; standAt e.pos; holding [v] (truthy v)) := by intro _; rfl) : DT X E p e (eT f) :=
  PT.mono (pt_val h he) fun σ H Q z => tD_T z
theorem dt_cmp {a b : Expr} {op : CmpOp} {F : D → D → Option D} {f g : Ev} {pos : Pos} (ho : OpD X (compareOp op) F) (ha : DE X E p1 o1 a f) (hb : DE X E p2 o2 b g) (hm : behindInMarks op b = false := by first | exact nobehind _ (by decide) (by decide) | rfl) (c : (o1 || p2) = true := by rfl) : DT X E (p1 && p2) (.Compare a [op] [b] pos) (eT (eBin F f g)) := by
  refine PT.mono (pt_cmpR ho ha hb hm) fun σ H Q z => ?_
  exact tD_bin c (tD_T z)
/-- a value's truth -/
def truthD : D → Option Bool
  | .none => some false
  | .bool b => some b
  | .int i => some (i != 0)
  | .str z => if z.length ≤ 16000000 then some ((z.length : Int) != 0) else none
  | .list xs => some !xs.isEmpty
  | .tuple xs => some !xs.isEmpty
  | .dict _ => none
def eTru (f : Ev) : Et := fun env => (f env).bind fun x => (R.of (truthD x.1)).bind fun b => .ok (b, x.2)
theorem isEmpty_len {α β : Type} {xs : List α} {ys : List β} (h : xs.length = ys.length) : xs.isEmpty = ys.isEmpty := by
  cases xs <;> cases ys <;> simp_all
theorem tD_Tru {f : Ev} {σ : L2.St} {H : Hp} {Q : Bool → Hp → Prop} (h : tDT X.K E p (eTru f) σ H Q) : tD X.K E p o f σ H fun x H1 => ∃ k, TruV X.K x H1 k ∧ Q k H1 := by
  obtain ⟨env, fs, W, he, h⟩ := h
  refine ⟨env, fs, W, he, ?_⟩
  unfold eTru at h
  cases e1 : f env with
  | no => rw [e1] at h; exact h
  | ex c => rw [e1] at h; exact h
  | ok x =>
    obtain ⟨d, env1⟩ := x
    rw [e1] at h
    intro v H' fs' g P
    cases e3 : truthD d with
    | none => simp [R.bind, e3, R.of] at h
    | some b =>
      simp only [R.bind, e3, R.of] at h
      refine ⟨b, ?_, h H' fs' P.step⟩
      have r := P.rep
      cases r with
      | non =>
        cases e3
        exact (rfl : false = false)
      | bl c => simp [truthD] at e3; exact e3.symm
      | int i => simp only [truthD, Option.some.injEq] at e3; exact e3.symm
      | str z =>
        simp only [truthD] at e3
        split at e3
        · rename_i hz
          cases e3
          exact ⟨in_line hz, rfl⟩
        · cases e3
      | tup h1 l1 =>
        simp only [truthD, Option.some.injEq] at e3
        subst e3
        exact .inr (.inl ⟨_, h1, by rw [isEmpty_len (RepL.length l1)]⟩)
      | lst h1 l1 =>
        simp only [truthD, Option.some.injEq] at e3
        subst e3
        exact .inl ⟨_, SqL.of h1, by rw [isEmpty_len (RepL.length l1)]⟩
      | dK h1 l1 => simp [truthD] at e3
      | dT h1 l1 => simp [truthD] at e3
theorem dt_truth {e : Expr} {f : Ev} (h : DE X E p o e f) (he : ∀ whole, isTrue e X.env whole = (do let v ← whole; standAt e.pos; holding [v] (truthy v)) := by intro _; rfl) : DT X E p e (eTru f) :=
  PT.mono (pt_truth h he) fun σ H Q z => tD_Tru z
theorem dt_w {e : Expr} {f : Et} (h : DW X E p e f) : DT X E p e f := PW.pt h
def tAndE (f g : Et) : Et := fun env => (f env).bind fun x => if x.1 = true then g x.2 else .ok (false, x.2)
def tOrE (f g : Et) : Et := fun env => (f env).bind fun x => if x.1 = true then .ok (true, x.2) else g x.2
def tNotE (f : Et) : Et := fun env => (f env).bind fun x => .ok (!x.1, x.2)
theorem dt_not {a : Expr} {f : Et} {pos : Pos} (h : DT X E p a f) : DT X E p (.UnaryOp .Not a pos) (tNotE f) := by
  refine PT.mono (pt_not h) fun σ H Q ⟨env, fs, W, he, z⟩ => ⟨env, fs, W, he, ?_⟩
  unfold tNotE at z
  cases e1 : f env with
  | no => rw [e1] at z; exact z
  | ex c => rw [e1] at z; exact z
  | ok x => rw [e1] at z; exact z
theorem dw_and1 {a : Expr} {f : Et} {pos : Pos} (h : DT X E p a f) : DW X E p (.BoolOp .And [a] pos) f := pw_and1 h
theorem dw_or1 {a : Expr} {f : Et} {pos : Pos} (h : DT X E p a f) : DW X E p (.BoolOp .Or [a] pos) f := pw_or1 h
/-- the second one is asked where the first one says c -/
def tOn (c : Bool) (f g : Et) : Et := fun env => (f env).bind fun x => if x.1 = c then g x.2 else .ok (!c, x.2)
theorem tDT_and {f g : Et} {σ : L2.St} {H : Hp} {Q : Bool → Hp → Prop} {c : Bool} (h : tDT X.K E (p1 && p2) (tOn c f g) σ H Q) :
    tDT X.K E p1 f σ H fun b H1 => if b = c then tDT X.K E p2 g σ H1 Q else Q (!c) H1 := by
  obtain ⟨env, fs, W, he, h⟩ := h
  refine ⟨env, fs, W, he, ?_⟩
  unfold tOn at h
  cases e1 : f env with
  | no => rw [e1] at h; exact h
  | ex c => rw [e1] at h; exact h
  | ok x =>
    obtain ⟨b, env1⟩ := x
    rw [e1] at h
    intro H1 fs1 S1
    by_cases hb : b = c
    · rw [if_pos hb]
      refine ⟨env1, fs1, W, S1.renv, ?_⟩
      simp only [R.bind, hb, if_true] at h
      cases e2 : g env1 with
      | no => rw [e2] at h; exact h
      | ex c => rw [e2] at h; exact h.before S1
      | ok y =>
        rw [e2] at h
        exact fun H2 fs2 S2 => h H2 fs2 (S1.trans S2)
    · rw [if_neg hb]
      simp only [R.bind, hb, if_false] at h
      refine h H1 fs1 (S1.weak fun z => ?_)
      cases p1
      · cases z
      · rfl
theorem dw_and {a b : Expr} {rest : List Expr} {f g : Et} {pos : Pos} (ha : DT X E p1 a f) (hb : DW X E p2 (.BoolOp .And (b :: rest) pos) g) : DW X E (p1 && p2) (.BoolOp .And (a :: b :: rest) pos) (tAndE f g) := by
  refine PW.mono (pw_and ha hb) fun σ H Q z => ?_
  have z' : tDT X.K E (p1 && p2) (tOn true f g) σ H Q := z
  exact tDT_and z'
theorem dw_or {a b : Expr} {rest : List Expr} {f g : Et} {pos : Pos} (ha : DT X E p1 a f) (hb : DW X E p2 (.BoolOp .Or (b :: rest) pos) g) : DW X E (p1 && p2) (.BoolOp .Or (a :: b :: rest) pos) (tOrE f g) := by
  refine PW.mono (pw_or ha hb) fun σ H Q z => ?_
  have z' : tDT X.K E (p1 && p2) (tOn false f g) σ H Q := by
    obtain ⟨env, fs, W, he, h⟩ := z
    refine ⟨env, fs, W, he, ?_⟩
    have e : tOn false f g env = tOrE f g env := by
      unfold tOrE tOn
      cases f env with
      | no => rfl
      | ex c => rfl
      | ok x =>
        obtain ⟨b, env1⟩ := x
        cases b <;> rfl
    rw [e]
    exact h
  obtain ⟨env, fs, W, he, h⟩ := tDT_and z'
  refine ⟨env, fs, W, he, ?_⟩
  cases e1 : f env with
  | no => rw [e1] at h; exact h
  | ex c => rw [e1] at h; exact h
  | ok x =>
    obtain ⟨b, env1⟩ := x
    rw [e1] at h
    intro H1 fs1 S1
    have q := h H1 fs1 S1
    cases b
    · exact q
    · exact q
/-! ### and, or, not as values of truth; a if t else b -/
def eAnd (f g : Ev) : Ev := fun env => (f env).bind fun x => match x.1 with
  | .bool b => if b = true then g x.2 else .ok (.bool false, x.2)
  | _ => .no
def eOr (f g : Ev) : Ev := fun env => (f env).bind fun x => match x.1 with
  | .bool b => if b = true then .ok (.bool true, x.2) else g x.2
  | _ => .no
theorem Post.scal {K : Frag} {W : Addr → Prop} {H H1 : Hp} {σ : L2.St} {env env1 : Env} {fs fs1 : Fs} {v : V} {d : D} (S : Step K W p H env fs H1 σ env1 fs1) (r : Rep K H1 v d []) : Post K W p o H env fs H1 σ env1 fs1 v d [] := ⟨S, r, fun _ => Own.nil⟩
theorem Post.after {K : Frag} {W : Addr → Prop} {H H1 H2 : Hp} {σ : L2.St} {env env1 env2 : Env} {fs fs1 fs2 : Fs} {v : V} {d : D} {g : List Addr} (S : Step K W p1 H env fs H1 σ env1 fs1) (P : Post K W p2 o1 H1 env1 fs1 H2 σ env2 fs2 v d g) (hp : p = true → p1 = true ∧ p2 = true) (ho : o = true → o1 = true) : Post K W p o H env fs H2 σ env2 fs2 v d g :=
  ⟨(S.trans P.step).weak fun z => by
    obtain ⟨a, b⟩ := hp z
    rw [a, b]
    rfl, P.rep, fun z => Own.before S (P.own (ho z))⟩
theorem and_l (h : (p1 && p2) = true) : p1 = true := by cases p1 <;> simp_all
theorem and_r (h : (p1 && p2) = true) : p2 = true := by cases p1 <;> simp_all
theorem de_and1 {a : Expr} {op} {f : Ev} {pos : Pos} (h : DE X E p o a f) : DE X E p o (.BoolOp op [a] pos) f := pe_one h
theorem de_and {a b : Expr} {rest : List Expr} {f g : Ev} {pos : Pos} (ha : DE X E p1 o1 a f) (hb : DE X E p2 o2 (.BoolOp .And (b :: rest) pos) g) : DE X E (p1 && p2) o2 (.BoolOp .And (a :: b :: rest) pos) (eAnd f g) := by
  refine PE.mono (pe_and ha hb) fun σ H Q ⟨env, fs, W, he, h⟩ => ⟨env, fs, W, he, ?_⟩
  unfold eAnd at h
  cases e1 : f env with
  | no => rw [e1] at h; exact h
  | ex c => rw [e1] at h; exact h
  | ok x =>
    obtain ⟨d, env1⟩ := x
    rw [e1] at h
    intro v H1 fs1 g1 P1
    cases d with
    | bool b =>
      have r := P1.rep
      cases r
      refine ⟨b, rfl, ?_⟩
      cases b with
      | false =>
        rw [if_neg Bool.false_ne_true]
        exact h (.bl false) H1 fs1 [] (Post.scal (P1.step.weak and_l) (.bl _))
      | true =>
        rw [if_pos rfl]
        refine ⟨env1, fs1, W, P1.step.renv, ?_⟩
        simp only [R.bind, if_true] at h
        cases e2 : g env1 with
        | no => rw [e2] at h; exact h
        | ex c => rw [e2] at h; exact h.before P1.step
        | ok y =>
          rw [e2] at h
          exact fun v2 H2 fs2 g2 P2 => h v2 H2 fs2 g2 (Post.after P1.step P2 (fun z => ⟨and_l z, and_r z⟩) fun z => z)
    | _ => exact (show False from h).elim
theorem de_or {a b : Expr} {rest : List Expr} {f g : Ev} {pos : Pos} (ha : DE X E p1 o1 a f) (hb : DE X E p2 o2 (.BoolOp .Or (b :: rest) pos) g) : DE X E (p1 && p2) o2 (.BoolOp .Or (a :: b :: rest) pos) (eOr f g) := by
  refine PE.mono (pe_or ha hb) fun σ H Q ⟨env, fs, W, he, h⟩ => ⟨env, fs, W, he, ?_⟩
  unfold eOr at h
  cases e1 : f env with
  | no => rw [e1] at h; exact h
  | ex c => rw [e1] at h; exact h
  | ok x =>
    obtain ⟨d, env1⟩ := x
    rw [e1] at h
    intro v H1 fs1 g1 P1
    cases d with
    | bool b =>
      have r := P1.rep
      cases r
      refine ⟨b, rfl, ?_⟩
      cases b with
      | true =>
        rw [if_pos rfl]
        exact h (.bl true) H1 fs1 [] (Post.scal (P1.step.weak and_l) (.bl _))
      | false =>
        rw [if_neg Bool.false_ne_true]
        refine ⟨env1, fs1, W, P1.step.renv, ?_⟩
        simp only [R.bind, Bool.false_eq_true, if_false] at h
        cases e2 : g env1 with
        | no => rw [e2] at h; exact h
        | ex c => rw [e2] at h; exact h.before P1.step
        | ok y =>
          rw [e2] at h
          exact fun v2 H2 fs2 g2 P2 => h v2 H2 fs2 g2 (Post.after P1.step P2 (fun z => ⟨and_l z, and_r z⟩) fun z => z)
    | _ => exact (show False from h).elim
def notD : D → Option D
  | .bool b => some (.bool !b)
  | _ => none
theorem de_not {a : Expr} {f : Ev} {pos : Pos} (h : DE X E p o a f) : DE X E p true (.UnaryOp .Not a pos) (eUn notD f) := by
  refine PE.mono (pe_not h) fun σ H Q z => ?_
  obtain ⟨env, fs, W, he, q⟩ := tD_un (o1 := o) z
  refine ⟨env, fs, W, he, ?_⟩
  cases e1 : f env with
  | no => rw [e1] at q; exact q
  | ex c => rw [e1] at q; exact q
  | ok x =>
    rw [e1] at q
    intro v H1 fs1 g1 P1
    obtain ⟨d, g2, r, hd, hF, hq⟩ := q v H1 fs1 g1 P1
    unfold notD at hF
    split at hF
    · cases hF
      cases hd
      exact ⟨_, rfl, hq _ _ _ (.scal (.bl _))⟩
    · cases hF
def eIf (t : Et) (f g : Ev) : Ev := fun env => (t env).bind fun x => if x.1 = true then f x.2 else g x.2
theorem de_if {c a b : Expr} {t : Et} {f g : Ev} {pos : Pos} (hc : DT X E pt c t) (ha : DE X E p1 o1 a f) (hb : DE X E p2 o2 b g) : DE X E (pt && (p1 && p2)) (o1 && o2) (.IfExp c a b pos) (eIf t f g) := by
  refine PE.mono (pe_ifExp hc ha hb) fun σ H Q ⟨env, fs, W, he, h⟩ => ⟨env, fs, W, he, ?_⟩
  unfold eIf at h
  cases e1 : t env with
  | no => rw [e1] at h; exact h
  | ex c => rw [e1] at h; exact h
  | ok x =>
    obtain ⟨d, env1⟩ := x
    rw [e1] at h
    intro H1 fs1 S1
    cases d with
    | true =>
      rw [if_pos rfl]
      refine ⟨env1, fs1, W, S1.renv, ?_⟩
      simp only [R.bind, if_true] at h
      cases e2 : f env1 with
      | no => rw [e2] at h; exact h
      | ex c => rw [e2] at h; exact h.before S1
      | ok y =>
        rw [e2] at h
        exact fun v2 H2 fs2 g2 P2 => h v2 H2 fs2 g2 (Post.after S1 P2 (fun z => ⟨and_l z, and_l (and_r z)⟩) and_l)
    | false =>
      rw [if_neg Bool.false_ne_true]
      refine ⟨env1, fs1, W, S1.renv, ?_⟩
      simp only [R.bind, Bool.false_eq_true, if_false] at h
      cases e2 : g env1 with
      | no => rw [e2] at h; exact h
      | ex c => rw [e2] at h; exact h.before S1
      | ok y =>
        rw [e2] at h
        exact fun v2 H2 fs2 g2 P2 => h v2 H2 fs2 g2 (Post.after S1 P2 (fun z => ⟨and_l z, and_r (and_r z)⟩) and_r)
/-! ### subscripts -/
def ixD : D → D → Option D
  | .list xs, .int i => atI xs i
  | .tuple xs, .int i => atI xs i
  | .str z, .int i => if z.length ≤ 16000000 then (atI z.cps.toList i).map fun c => .str ⟨#[c]⟩ else none
  | _, _ => none
theorem atI_some {α : Type} {xs : List α} {i : Int} {v : α} (h : atI xs i = some v) : ∃ j, ixN xs.length i = some j ∧ xs[j]? = some v := by
  unfold atI at h
  cases e : ixN xs.length i with
  | none => rw [e] at h; cases h
  | some j => rw [e] at h; exact ⟨j, rfl, h⟩
theorem atI_of {α : Type} {xs : List α} {i : Int} {j : Nat} {v : α} (h : ixN xs.length i = some j) (e : xs[j]? = some v) : atI xs i = some v := by
  unfold atI
  rw [h]
  exact e
theorem RepL.atI {K : Frag} {H : Hp} {ds : List D} {vs : List V} {g : List Addr} {i : Int} {d : D} (h : RepL K H vs ds g) (e : L2.atI ds i = some d) : ∃ v gi, L2.atI vs i = some v ∧ Rep K H v d gi ∧ (∀ a ∈ gi, a ∈ g) ∧ (g.Nodup → gi.Nodup) := by
  obtain ⟨j, e1, e2⟩ := atI_some e
  obtain ⟨v, gi, e3, r, s, n⟩ := RepL.get h e2
  exact ⟨v, gi, atI_of (by rw [RepL.length h]; exact e1) e3, r, s, n⟩
def eIx (f g : Ev) : Ev := fun env => (f env).bind fun x => (g x.2).bind fun y => (R.of (ixD x.1 y.1)).bind fun r => .ok (r, y.2)
theorem Own.part {H H' : Hp} {fs fs' : Fs} {g gi : List Addr} (w : Own H fs H' fs' g) (s : ∀ a ∈ gi, a ∈ g) (n : g.Nodup → gi.Nodup) : Own H fs H' fs' gi := ⟨n w.nd, fun a ha => w.apart a (s a ha), fun a ha => w.pl a (s a ha), fun a ha => w.sub a (s a ha)⟩
theorem de_ix {a b : Expr} {f g : Ev} {pos : Pos} (ha : DE X E p1 o1 a f) (hb : DE X E p2 o2 b g) (hs : PlainIx b := by exact fun _ _ => rfl) (c : (o1 || p2) = true := by rfl) : DE X E (p1 && p2) o1 (.Subscript a b pos) (eIx f g) := by
  refine PE.mono (pe_ix ix_seq ha hb hs) fun σ H Q ⟨env, fs, W, he, h⟩ => ⟨env, fs, W, he, ?_⟩
  unfold eIx at h
  cases e1 : f env with
  | no => rw [e1] at h; exact h
  | ex c => rw [e1] at h; exact h
  | ok x =>
    obtain ⟨d1, env1⟩ := x
    rw [e1] at h
    intro v1 H1 fs1 g1 P1
    refine ⟨env1, fs1, W, P1.step.renv, ?_⟩
    cases e2 : g env1 with
    | no => simp only [R.bind, e2] at h
    | ex c => simp only [R.bind, e2] at h; exact h.before P1.step
    | ok y =>
      obtain ⟨d2, env2⟩ := y
      intro v2 H2 fs2 g2 P2
      have r1 : Rep X.K H2 v1 d1 g1 := Rep.after P1.step.renv P1.rep P1.own P2.step c
      have S := P1.step.trans P2.step
      cases e3 : ixD d1 d2 with
      | none => simp [R.bind, e2, e3, R.of] at h
      | some r =>
        simp only [R.bind, e2, e3, R.of] at h
        have r2 := P2.rep
        have t1 := Rep.there _ _ _ P1.rep
        unfold ixD at e3
        split at e3
        · cases r2
          cases r1 with
          | lst h1 l1 =>
            obtain ⟨v, gi, e4, rr, ss, nn⟩ := RepL.atI l1 e3
            exact .inl ⟨_, _, _, v, rfl, rfl, SqL.of h1, e4, h v H2 fs2 gi ⟨S, rr, fun z => Own.part ((P1.own z).after P2.step t1) (fun a ha => List.mem_cons_of_mem _ (ss a ha)) fun n => nn (List.nodup_cons.mp n).2⟩⟩
        · cases r2
          cases r1 with
          | tup h1 l1 =>
            obtain ⟨v, gi, e4, rr, ss, nn⟩ := RepL.atI l1 e3
            exact .inr (.inl ⟨_, _, _, v, rfl, rfl, h1, e4, h v H2 fs2 gi ⟨S, rr, fun z => Own.part ((P1.own z).after P2.step t1) ss nn⟩⟩)
        · split at e3
          · rename_i hz
            obtain ⟨cc, ec, rfl⟩ := Option.map_eq_some_iff.mp e3
            cases r2
            cases r1
            exact .inr (.inr ⟨_, _, _, rfl, rfl, in_line hz, ec, h _ H2 fs2 [] (Post.scal S (.str _))⟩)
          · cases e3
        · cases e3
/-! ### isinstance -/
def rIsV (K : Frag) (n : String) (F : D → Bool) : List V → Hp → VK → Prop := fun vs H Q => ∃ v d g, vs = [v, .ty n] ∧ Rep K H v d g ∧ d.plain = true ∧ Q (.bl (F d)) H
theorem cr_isV {n : String} {F : D → Bool} (rule : ∀ {prog : Program} {w : World} {A : Around} {E : Value → Shared → Prop} {s : Shared} {v : Value} {d : D} {as : List Addr} {Q : Value → Shared → Prop}, Reads s.heap v d as → (∀ tk, s.toks ≤ tk → Q (.bool (F d)) { s with toks := tk }) →
    wpAny (model prog w) A (call (.builtin "isinstance") [v, .type n]) Q E s) : CallR X (.builtin "isinstance") (rIsV X.K n F) := by
  rintro pins s σ H xs us Q I r ⟨v, d, g, rfl, hr, hp, q⟩
  obtain ⟨u1, u2, rfl, r1, r2⟩ := vals2 r
  obtain rfl : u2 = Value.type n := r2
  obtain ⟨as, rd⟩ := rep_reads I hr hp r1
  exact rule rd fun tk _ => ⟨.bl _, H, I.tok tk, rfl, q⟩
def eIs (F : D → Bool) (f : Ev) : Ev := fun env => (f env).bind fun x => if x.1.plain = true then .ok (.bool (F x.1), x.2) else .no
theorem de_isV {n : String} {F : D → Bool} {e : Expr} {f : Ev} {T : Str} {q p3 pos : Pos} (hc : CallR X (.builtin "isinstance") (rIsV X.K n F)) (hm : X.mg "isinstance" = none) (hm2 : X.mg T = none) (hv2 : bootBuiltins T = some (.type n)) (he : DE X E p o e f) (hg : Gl X "isinstance" := by rfl) (hg2 : Gl X T := by rfl) (hn2 : T ≠ "__name__" := by decide) (hd2 : (T == ("__debug__" : Str)) = false := by decide)
    (hs : starEach (e :: [.Name T p3]) X.env = (false, eval e X.env) :: starEach [.Name T p3] X.env := by rfl) (hs2 : starEach (Expr.Name T p3 :: []) X.env = (false, eval (.Name T p3) X.env) :: starEach [] X.env := by rfl) (hpl : (backTo pos (starEach [.Name T p3] X.env)).any (·.1) = false := by rfl) :
    DE X E p true (.Call (.Name "isinstance" q) [e, .Name T p3] [] pos) (eIs F f) := by
  refine PE.mono (pe_callB hc hg hm (by decide +kernel) (pa_cons he (pa_cons (pe_bltn (v := .ty n) hg2 hm2 hv2 rfl hn2 hd2) pa_nil hs2) hs) (by decide) (by decide) hs hpl) fun σ H Q ⟨env, fs, W, hr, h⟩ => ⟨env, fs, W, hr, ?_⟩
  unfold eIs at h
  cases e1 : f env with
  | no => rw [e1] at h; exact h
  | ex c => rw [e1] at h; exact h
  | ok x =>
    obtain ⟨d, env1⟩ := x
    rw [e1] at h
    intro v H1 fs1 g1 P1
    by_cases hp : d.plain = true
    · simp only [R.bind, hp, if_true] at h
      exact ⟨v, d, g1, rfl, P1.rep, hp, h _ H1 fs1 [] (Post.scal P1.step (.bl _))⟩
    · simp [R.bind, hp] at h
end
end DV
end
section
set_option Elab.async false
set_option linter.all false
set_option maxRecDepth 100000
namespace DV
open PySem PySem.Spec PyProof.Rows L2
section
variable {X : Cx} {E : XK} {o o1 : Bool}
/-! ### chains of comparisons; all operands are pure -/
abbrev Ec := D → Env → R (Bool × Env)
def boolOf : Option D → Option Bool
  | some (.bool b) => some b
  | _ => none
theorem boolOf_some {d : Option D} {b : Bool} (h : boolOf d = some b) : d = some (.bool b) := by
  unfold boolOf at h
  split at h
  · cases h; rfl
  · cases h
def cGen (F : D → D → Option D) (g : Ev) (k : Bool → Ec) : Ec := fun d env => (g env).bind fun y => (R.of (boolOf (F d y.1))).bind fun b => k b y.1 y.2
def cLast (F : D → D → Option D) (g : Ev) : Ec := cGen F g fun b _ env => .ok (b, env)
def cLink (F : D → D → Option D) (g : Ev) (k : Ec) : Ec := cGen F g fun b e env => if b = true then k e env else .ok (false, env)
def tCh (K : Frag) (E : XK) (f : Ec) (x : V) (σ : L2.St) (H : Hp) (Q : Bool → Hp → Prop) : Prop := ∃ env fs W d g, RepEnv K W H σ env fs ∧ Rep K H x d g ∧ match f d env with
  | .no => False
  | .ex c => ExP K E c H fs
  | .ok (b, env') => ∀ H' fs', Step K W true H env fs H' σ env' fs' → Q b H'
def DCt (X : Cx) (E : XK) (ops : List CmpOp) (es : List Expr) (f : Ec) : Prop :=
  ∀ (pos : Pos) (pins : List (Addr × Obj)) (s : Shared) (σ : L2.St) (H : Hp) (x : V) (v : Value) (Q : Bool → Hp → Prop), Inv X pins σ H s → RelV x v → tCh X.K E f x σ H Q →
    wpAny (model X.prog X.w) X.A (testChain pos v ops (evalEach es X.env)) (TP X pins σ Q) X.xe s
def DCv (X : Cx) (E : XK) (ops : List CmpOp) (es : List Expr) (f : Ec) : Prop :=
  ∀ (pos : Pos) (pins : List (Addr × Obj)) (s : Shared) (σ : L2.St) (H : Hp) (x : V) (v : Value) (Q : Bool → Hp → Prop), Inv X pins σ H s → RelV x v → tCh X.K E f x σ H Q →
    wpAny (model X.prog X.w) X.A (compareChain pos v ops (evalEach es X.env)) (EP X pins σ fun z H' => ∃ b, z = .bl b ∧ Q b H') X.xe s
/-- what the last link (and each) reads -/
theorem tCh_bin {F : D → D → Option D} {g : Ev} {k : Bool → Ec} {x : V} {σ : L2.St} {H : Hp} {Q : Bool → Hp → Prop} (h : tCh X.K E (cGen F g k) x σ H Q) :
    tD X.K E true o g σ H fun y H1 => rD2 X.K F x y H1 fun z H2 => ∃ b, z = .bl b ∧ tCh X.K E (k b) y σ H2 Q := by
  obtain ⟨env, fs, W, d, gg, he, hx, h⟩ := h
  refine ⟨env, fs, W, he, ?_⟩
  unfold cGen at h
  cases e1 : g env with
  | no => rw [e1] at h; exact h
  | ex c => rw [e1] at h; exact h
  | ok y =>
    obtain ⟨e, env1⟩ := y
    rw [e1] at h
    intro w H1 fs1 g1 P1
    obtain ⟨s1, ee, ef⟩ := P1.step.pure rfl
    subst ee ef
    cases hb : boolOf (F d e) with
    | none => simp [R.bind, hb, R.of] at h
    | some b =>
      simp only [R.bind, hb, R.of] at h
      refine ⟨d, e, gg, g1, .bool b, hx.same s1, P1.rep, boolOf_some hb, fun z H2 g2 fr => ?_⟩
      have rz := fr.rep
      cases rz
      refine ⟨b, rfl, env1, fs1, W, e, g1, P1.step.renv.same fr.same, P1.rep.same fr.same, ?_⟩
      cases e2 : k b e env1 with
      | no => rw [e2] at h; exact h
      | ex c => rw [e2] at h; exact h.before (P1.step.and_same fr.same)
      | ok q =>
        rw [e2] at h
        exact fun H' fs' S => h H' fs' ((P1.step.and_same fr.same).trans S)
theorem tCh_ok {b : Bool} {y : V} {σ : L2.St} {H : Hp} {Q : Bool → Hp → Prop} (h : tCh X.K E (fun _ env => .ok (b, env)) y σ H Q) : Q b H := by
  obtain ⟨env, fs, W, d, gg, he, hx, h⟩ := h
  exact h H fs (Step.refl he)
theorem dct_last {op : CmpOp} {b : Expr} {F : D → D → Option D} {g : Ev} (ho : OpD X (compareOp op) F) (hb : DE X E true o b g) : DCt X E [op] [b] (cLast F g) := by
  intro pos pins s σ H x v Q I r h
  refine test_last (thn (hb.run pins s σ H _ I (tCh_bin h)) fun u s2 ⟨y, H2, I2, r2, q2⟩ => ?_)
  refine thn (ho pins s2 σ H2 x y v u _ I2 r r2 q2) fun d s3 ⟨z, H3, I3, r3, k, e, q3⟩ => ?_
  subst e
  cases r3
  exact wpAny_truthy_bool ⟨H3, I3, tCh_ok q3⟩
theorem dct_link {op op' : CmpOp} {ops : List CmpOp} {b c : Expr} {es : List Expr} {F : D → D → Option D} {g : Ev} {k : Ec} (ho : OpD X (compareOp op) F) (hb : DE X E true o b g) (hk : DCt X E (op' :: ops) (c :: es) k) : DCt X E (op :: op' :: ops) (b :: c :: es) (cLink F g k) := by
  intro pos pins s σ H x v Q I r h
  refine test_link (thn (hb.run pins s σ H _ I (tCh_bin h)) fun u s2 ⟨y, H2, I2, r2, q2⟩ => ?_)
  refine thn (ho pins s2 σ H2 x y v u _ I2 r r2 q2) fun d s3 ⟨z, H3, I3, r3, kk, e, q3⟩ => ?_
  subst e
  cases r3
  refine wpAny_truthy_bool ?_
  cases kk with
  | false => exact ite_ff ⟨H3, I3, tCh_ok q3⟩
  | true => exact ite_tt (hk pos pins s3 σ H3 y u Q I3 r2 q3)
theorem dcv_last {op : CmpOp} {b : Expr} {F : D → D → Option D} {g : Ev} (ho : OpD X (compareOp op) F) (hb : DE X E true o b g) : DCv X E [op] [b] (cLast F g) := by
  intro pos pins s σ H x v Q I r h
  refine chain_last (thn (hb.run pins s σ H _ I (tCh_bin h)) fun u s2 ⟨y, H2, I2, r2, q2⟩ => ?_)
  refine thn (ho pins s2 σ H2 x y v u _ I2 r r2 q2) fun d s3 ⟨z, H3, I3, r3, k, e, q3⟩ => ?_
  subst e
  exact ⟨.bl k, H3, I3, r3, k, rfl, tCh_ok q3⟩
theorem dcv_link {op op' : CmpOp} {ops : List CmpOp} {b c : Expr} {es : List Expr} {F : D → D → Option D} {g : Ev} {k : Ec} (ho : OpD X (compareOp op) F) (hb : DE X E true o b g) (hk : DCv X E (op' :: ops) (c :: es) k) : DCv X E (op :: op' :: ops) (b :: c :: es) (cLink F g k) := by
  intro pos pins s σ H x v Q I r h
  refine chain_link (thn (hb.run pins s σ H _ I (tCh_bin h)) fun u s2 ⟨y, H2, I2, r2, q2⟩ => ?_)
  refine thn (ho pins s2 σ H2 x y v u _ I2 r r2 q2) fun d s3 ⟨z, H3, I3, r3, kk, e, q3⟩ => ?_
  subst e
  cases r3
  refine wpAny_truthy_bool ?_
  cases kk with
  | false => exact ite_ff ⟨.bl false, H3, I3, rfl, false, rfl, tCh_ok q3⟩
  | true => exact ite_tt (hk pos pins s3 σ H3 y u Q I3 r2 q3)
def tChain (f : Ev) (k : Ec) : Et := fun env => (f env).bind fun x => k x.1 x.2
def eChain (f : Ev) (k : Ec) : Ev := fun env => (f env).bind fun x => (k x.1 x.2).bind fun y => .ok (.bool y.1, y.2)
theorem dt_chain {a b c : Expr} {op op' : CmpOp} {ops : List CmpOp} {es : List Expr} {f : Ev} {k : Ec} {pos : Pos} (ha : DE X E true o a f) (hk : DCt X E (op :: op' :: ops) (b :: c :: es) k) (hm : lastMarks (op :: op' :: ops) (b :: c :: es) = false := by with_unfolding_all rfl) :
    DT X E true (.Compare a (op :: op' :: ops) (b :: c :: es) pos) (tChain f k) := by
  refine ⟨fun pins s σ H Q I ⟨env, fs, W, he, h⟩ => ?_⟩
  have z : tD X.K E true o f σ H fun x H1 => tCh X.K E k x σ H1 Q := by
    refine ⟨env, fs, W, he, ?_⟩
    unfold tChain at h
    cases e1 : f env with
    | no => rw [e1] at h; exact h
    | ex c => rw [e1] at h; exact h
    | ok x =>
      obtain ⟨d, env1⟩ := x
      rw [e1] at h
      intro v H1 fs1 g1 P1
      refine ⟨env1, fs1, W, d, g1, P1.step.renv, P1.rep, ?_⟩
      simp only [R.bind] at h
      cases e2 : k d env1 with
      | no => rw [e2] at h; exact h
      | ex c => rw [e2] at h; exact h.before P1.step
      | ok q =>
        rw [e2] at h
        exact fun H' fs' S => h H' fs' (P1.step.trans S)
  refine isTrue_chain (thn (ha.run pins s σ H _ I z) fun v s1 ⟨x, H1, I1, r1, q1⟩ => ?_) hm
  exact hk pos pins s1 σ H1 x v Q I1 r1 q1
theorem de_chain {a b c : Expr} {op op' : CmpOp} {ops : List CmpOp} {es : List Expr} {f : Ev} {k : Ec} {pos : Pos} (ha : DE X E true o a f) (hk : DCv X E (op :: op' :: ops) (b :: c :: es) k) (hm : lastMarks (op :: op' :: ops) (b :: c :: es) = false := by with_unfolding_all rfl) :
    DE X E true true (.Compare a (op :: op' :: ops) (b :: c :: es) pos) (eChain f k) := by
  refine ⟨fun pins s σ H Q I ⟨env, fs, W, he, h⟩ => ?_⟩
  have z : tD X.K E true o f σ H fun x H1 => tCh X.K E k x σ H1 fun bb H2 => Q (.bl bb) H2 := by
    refine ⟨env, fs, W, he, ?_⟩
    unfold eChain at h
    cases e1 : f env with
    | no => rw [e1] at h; exact h
    | ex c => rw [e1] at h; exact h
    | ok x =>
      obtain ⟨d, env1⟩ := x
      rw [e1] at h
      intro v H1 fs1 g1 P1
      refine ⟨env1, fs1, W, d, g1, P1.step.renv, P1.rep, ?_⟩
      simp only [R.bind] at h
      cases e2 : k d env1 with
      | no => rw [e2] at h; exact h
      | ex c => rw [e2] at h; exact h.before P1.step
      | ok q =>
        rw [e2] at h
        exact fun H' fs' S => h (.bl q.1) H' fs' [] (Post.scal (P1.step.trans S) (.bl _))
  refine Compare_chain (thn (ha.run pins s σ H _ I z) fun v s1 ⟨x, H1, I1, r1, q1⟩ => ?_) hm
  refine thn (hk pos pins s1 σ H1 x v _ I1 r1 q1) fun u s2 ⟨y, H2, I2, r2, b, e, q2⟩ => ?_
  subst e
  exact ⟨.bl b, H2, I2, r2, q2⟩
end
end DV
end
section
set_option Elab.async false
set_option linter.all false
set_option maxRecDepth 100000
namespace DV
open PySem PySem.Spec PyProof.Rows L2
section
variable {prog : Program} {w : World} {A : Around} {E : Value → Shared → Prop} {s : Shared}
theorem rev_pick (xs : List Value) : ((List.range xs.length).filterMap fun (m : Nat) => xs.toArray[(((xs.length : Int) - 1) + (m : Int) * (-1)).toNat]?) = xs.reverse := by
  have e : ∀ k, k ≤ xs.length → ((List.range k).filterMap fun (m : Nat) => xs.toArray[(((xs.length : Int) - 1) + (m : Int) * (-1)).toNat]?) = (xs.drop (xs.length - k)).reverse := by
    intro k
    induction k with
    | zero => intro _; simp
    | succ k ih =>
      intro hk
      rw [List.range_succ, List.filterMap_append, ih (by omega)]
      have hx : xs.length - (k + 1) < xs.length := by omega
      have e1 : (((xs.length : Int) - 1) + (k : Int) * (-1)).toNat = xs.length - (k + 1) := by omega
      have e2 : xs.drop (xs.length - (k + 1)) = xs[xs.length - (k + 1)] :: xs.drop (xs.length - k) := by
        rw [List.drop_eq_getElem_cons hx]
        congr 2
        omega
      rw [e2, List.reverse_cons]
      congr 1
      simp only [List.filterMap_cons, List.filterMap_nil, e1, List.getElem?_toArray, List.getElem?_eq_getElem hx]
  have := e xs.length (Nat.le_refl _)
  rw [this, Nat.sub_self, List.drop_zero]
theorem tuple_back {t sl : Addr} {its : List Value} {vs : Value} {Q : Value → Shared → Prop} (ht : IsTup s.heap t its.toArray) (hs : s.heap.IsSliceOf sl .none .none vs) (ps : IsPart vs (some (-1)))
    (h : Q (.ref s.heap.objs.size) { s with heap := s.heap.push { cls := .type "tuple", data := .seq its.reverse.toArray } }) (hz : its.length ≤ sizeLine) : wpAny (model prog w) A (getItem (.ref t) (.ref sl)) Q E s := by
  obtain ⟨os, hos, hcs, hds⟩ := id hs
  have hTs : s.TypeIs (.ref sl) "slice" := ⟨os, hos, hcs⟩
  have hfit : sizeOk (.seq its.reverse.toArray) := by
    show its.reverse.toArray.size ≤ sizeLine
    rw [List.size_toArray, List.length_reverse]; exact hz
  unfold getItem
  refine wpAny_holding ?_
  refine wpAny_bind (wpAny_sequenceKey ht.typeIs (by decide) ?_)
  refine wpAny_bind (wpAny_callSpecial?_slot (name := Str.ofString "__getitem__") ht.typeIs PyProof.Rows.slot_tuple_getitem
    (wpAny_call_entry PyProof.Rows.slot_tuple_getitem ht.typeIs PyProof.Rows.entry_tuple_getitem ?_ (PyProof.Rows.args_tuple_getitem _ _)))
  show wpAny _ _ (Builtin.Tuple.tupleItemsOf (.ref t) >>= _) _ _ s
  refine wpAny_bind (PyProof.Rows.tupleItemsOf_ ht (wpAny_bind (wpAny_typeOf hTs ?_)))
  rw [if_pos (by decide)]
  refine wpAny_bind ?_
  unfold Builtin.Slice.sliceApplied Builtin.Slice.sliceFields
  refine wpAny_bind (wpAny_bind (wpAny_field hos hds (x := .none) rfl (wpAny_bind (wpAny_field hos hds (x := .none) rfl (wpAny_bind (wpAny_field hos hds (x := vs) rfl (wpAny_pure ?_)))))))
  refine wpAny_bind (HT.slicePart_ ps ?_)
  show wpAny _ _ (if ((-1 : Int) == 0) = true then _ else _) _ _ s
  rw [if_neg (by decide)]
  refine wpAny_bind (slicePart_none (wpAny_bind (slicePart_none (wpAny_bind (wpAny_pure ?_)))))
  have en : Builtin.Slice.slicePlaces ((its.toArray.size : Int) - 1) (-1) (-1) = its.length := by
    unfold Builtin.Slice.slicePlaces
    rw [List.size_toArray]
    rw [if_neg (by decide)]
    by_cases c : ((its.length : Int) - 1) > -1
    · rw [if_pos c]
      have : ((its.length : Int) - 1 - -1 - 1) / (- -1) + 1 = its.length := by
        rw [show (- -1 : Int) = 1 from rfl, Int.ediv_one]
        omega
      rw [this]
      omega
    · rw [if_neg c]
      omega
  show wpAny _ _ (pure ((its.toArray.size : Int) - 1, (-1 : Int), Builtin.Slice.slicePlaces ((its.toArray.size : Int) - 1) (-1) (-1))) _ _ s
  rw [en]
  refine wpAny_pure ?_
  show wpAny _ _ (if (((its.toArray.size : Int) - 1) == 0 && (-1 : Int) == 1 && its.length == its.toArray.size) = true then _ else _) _ _ s
  rw [if_neg (by intro q; rw [Bool.and_eq_true, Bool.and_eq_true] at q; exact absurd q.1.2 (by decide))]
  have eq : ((List.range its.length).filterMap fun (m : Nat) => its.toArray[(((its.toArray.size : Int) - 1) + (m : Int) * (-1)).toNat]?).toArray = its.reverse.toArray := by
    have := rev_pick its
    rw [List.size_toArray, this]
  rw [eq]
  first
    | exact wpAny_bind (m := Builtin.Tuple.tupleExact _) (wpAny_newObj_type (wpAny_pure ⟨_, rfl, wpAny_pure h⟩) hfit)
    | exact wpAny_bind (m := Builtin.Tuple.tupleExact _) (wpAny_newObj_type (wpAny_bind (wpAny_pure (wpAny_pure ⟨_, rfl, wpAny_pure h⟩))) hfit)
    | exact wpAny_bind (wpAny_bind (m := Builtin.Tuple.tupleExact _) (wpAny_newObj_type (wpAny_pure (wpAny_pure ⟨_, rfl, wpAny_pure h⟩)) hfit))
    | exact wpAny_bind (wpAny_bind (m := Builtin.Tuple.tupleExact _) (wpAny_newObj_type (wpAny_pure ⟨_, rfl, wpAny_pure h⟩) hfit))
end
section
variable {X : Cx} {E : XK} {p p1 p2 p3 o o1 o2 o3 : Bool}
/-- xs[::-1]: of a list, of a tuple -/
def tRevA (K : Frag) (te : TE) : TE := fun σ H Q => te σ H fun x H1 => ∃ a xs, x = .ref a ∧ ((SqL K H1 a xs ∧ ∀ q, H1 q = none → Q (.ref q) (upd H1 q (.lst xs.reverse))) ∨ (SqT K H1 a xs ∧ ∀ q, H1 q = none → Q (.ref q) (upd H1 q (.tup xs.reverse))))
theorem pe_back {e : Expr} {te : TE} {k : Nat} {p1 p2 p3 pos : Pos} (he : PE X e te) : PE X (.Subscript e (.Slice none none (some (.UnaryOp .USub (.Constant (.int 1) k p1) p2)) p3) pos) (tRevA X.K te) := by
  refine ⟨fun pins s σ H Q I h => Subscript_ (thn (he.run pins s σ H _ I h) fun v s1 ⟨x, H1, I1, r1, a, xs, ex, q⟩ => ?_)⟩
  subst ex
  obtain rfl : v = Value.ref a := r1
  have hst : PO X (some (.UnaryOp .USub (.Constant (.int 1) k p1) p2)) (tPart (tUn (rU fun i => .int (-i)) (tC (.int 1)))) := po_some (pe_un un_neg pe_int)
  refine wpAny_Slice (thn (po_none.run pins s1 σ H1 (fun o H2 => o = none ∧ H2 = H1) I1 ⟨rfl, rfl⟩) fun vl s2 ⟨l, H2, I2, pl, el, e2⟩ => ?_)
  subst el e2
  refine thn (po_none.run pins s2 σ H2 (fun o H3 => o = none ∧ H3 = H2) I2 ⟨rfl, rfl⟩) fun vu s3 ⟨u, H3, I3, pu, eu, e3⟩ => ?_
  subst eu e3
  refine thn (hst.run pins s3 σ H3 (fun o H4 => o = some (-1) ∧ H4 = H3) I3 ⟨1, rfl, -1, rfl, rfl, rfl⟩) fun vt s4 ⟨o, H4, I4, ps, eo, e4⟩ => ?_
  subst eo e4
  have hI : Inv X pins σ H4 { s4 with heap := s4.heap.push { cls := .type "slice", data := .fields #[vl, vu, vt] } } := I4.kept (t' := s4.toks) fun b ob z => Heap.get?_push_of_some _ z
  show wpAny (model X.prog X.w) X.A (subscriptTail e (.Slice none none (some (.UnaryOp .USub (.Constant (.int 1) k p1) p2)) p3) (.ref a) (.ref s4.heap.objs.size)) (EP X pins σ Q) X.xe { s4 with heap := s4.heap.push { cls := .type "slice", data := .fields #[vl, vu, vt] } }
  rcases q with ⟨hx, q⟩ | ⟨hx, q⟩
  · obtain ⟨its, r, ht, hz⟩ := hI.list hx
    have hlen := r.length
    refine tail_any (ops := [.ref a, .ref s4.heap.objs.size]) ht.isList.typeIs (PySem.slot_list_getitem.lookup) ?_ (by with_unfolding_all rfl)
    refine wpAny_getItem_list_slice ht.isList (Heap.IsSliceOf.new _ vl vu vt) pl pu ps (by decide) ?_ (by rw [List.size_toArray]; omega)
    rw [PySem.W.krv_pick]
    exact ⟨.ref _, _, hI.laid (t' := s4.toks) (o := .lst xs.reverse) (fun b ob z => Heap.get?_push_of_some _ z) (Nat.le_refl _) ⟨by rw [List.length_reverse]; exact hz, _, 0, r.reverse, Heap.get?_push_size _ rfl⟩, rfl, q _ (hI.hok.fresh (Nat.le_refl _))⟩
  · obtain ⟨its, r, ht, hz⟩ := hI.tuple hx
    have hlen := r.length
    refine tail_any (ops := [.ref a, .ref s4.heap.objs.size]) ht.typeIs (PyProof.Rows.slot_tuple_getitem.lookup) ?_ (by with_unfolding_all rfl)
    cases pl
    cases pu
    refine tuple_back ht (Heap.IsSliceOf.new _ .none .none vt) ps ?_ (by omega)
    exact ⟨.ref _, _, hI.laid (t' := s4.toks) (o := .tup xs.reverse) (fun b ob z => Heap.get?_push_of_some _ z) (Nat.le_refl _) ⟨by rw [List.length_reverse]; exact hz, _, r.reverse, _, Heap.get?_push_size _ rfl, rfl, 0, rfl⟩, rfl, q _ (hI.hok.fresh (Nat.le_refl _))⟩
theorem RepL.part {K : Frag} {H : Hp} : ∀ {ds : List D} {vs : List V} {g : List Addr}, RepL K H vs ds g → g = [] → (RepL K H vs.reverse ds.reverse [] ∧ ∀ n, RepL K H (vs.take n) (ds.take n) [] ∧ RepL K H (vs.drop n) (ds.drop n) [])
  | [], _, _, h, e => by
    cases h
    refine ⟨.nil, fun n => ?_⟩
    rw [List.take_nil, List.take_nil, List.drop_nil, List.drop_nil]
    exact ⟨.nil, .nil⟩
  | d :: ds, _, _, h, e => by
    cases h with
    | cons h1 h2 =>
      obtain ⟨e1, e2⟩ := List.append_eq_nil_iff.mp e
      subst e1 e2
      obtain ⟨i1, i2⟩ := RepL.part h2 rfl
      refine ⟨?_, fun n => ?_⟩
      · rw [List.reverse_cons, List.reverse_cons]
        exact RepL.append i1 (.cons h1 .nil)
      · cases n with
        | zero => exact ⟨.nil, .cons h1 h2⟩
        | succ n => exact ⟨.cons h1 (i2 n).1, (i2 n).2⟩
def revD : D → Option D
  | .list xs => if immL xs = true then some (.list xs.reverse) else none
  | .tuple xs => if immL xs = true then some (.tuple xs.reverse) else none
  | _ => none
theorem de_rev {e : Expr} {f : Ev} {k : Nat} {q1 q2 q3 pos : Pos} (h : DE X E p o e f) : DE X E p true (.Subscript e (.Slice none none (some (.UnaryOp .USub (.Constant (.int 1) k q1) q2)) q3) pos) (eUn revD f) := by
  refine PE.mono (pe_back h) fun σ H Q z => ?_
  obtain ⟨env, fs, W, he, q⟩ := tD_un (o1 := o) z
  refine ⟨env, fs, W, he, ?_⟩
  cases e1 : f env with
  | no => rw [e1] at q; exact q
  | ex c => rw [e1] at q; exact q
  | ok x =>
    rw [e1] at q
    intro v H1 fs1 g1 P1
    obtain ⟨d, g2, r, hd, hF, hq⟩ := q v H1 fs1 g1 P1
    unfold revD at hF
    split at hF
    · split at hF
      · rename_i hi
        cases hF
        cases hd with
        | lst h1 l1 => exact ⟨_, _, rfl, .inl ⟨SqL.of h1, fun q nq => hq _ _ _ (.lst (RepL.part l1 (RepL.fp_imm _ _ _ l1 hi)).1 nq)⟩⟩
      · cases hF
    · split at hF
      · rename_i hi
        cases hF
        cases hd with
        | tup h1 l1 => exact ⟨_, _, rfl, .inr ⟨h1, fun q nq => hq _ _ _ (.tup (RepL.part l1 (RepL.fp_imm _ _ _ l1 hi)).1 nq)⟩⟩
      · cases hF
    · cases hF
/-! ### slices; the parts are pure -/
abbrev Eo := Env → R (Option Int × Env)
def tDO (K : Frag) (E : XK) (f : Eo) : TO := fun σ H Q => ∃ env fs W, RepEnv K W H σ env fs ∧ match f env with
  | .no => False
  | .ex c => ExP K E c H fs
  | .ok (b, env') => ∀ H' fs', Step K W true H env fs H' σ env' fs' → Q b H'
def DO (X : Cx) (E : XK) (e : Option Expr) (f : Eo) : Prop := PO X e (tDO X.K E f)
def oNone : Eo := fun env => .ok (none, env)
def oSome (f : Ev) : Eo := fun env => (f env).bind fun x => match x.1 with
  | .int i => .ok (some i, x.2)
  | _ => .no
theorem PO.mono {e : Option Expr} {t t' : TO} (h : PO X e t) (m : ∀ σ H Q, t' σ H Q → t σ H Q) : PO X e t' := ⟨fun pins s σ H Q I w => h.run pins s σ H Q I (m σ H Q w)⟩
theorem do_none : DO X E none oNone := PO.mono po_none fun σ H Q ⟨env, fs, W, he, h⟩ => h H fs (Step.refl he)
theorem do_some {e : Expr} {f : Ev} (h : DE X E true o e f) : DO X E (some e) (oSome f) := by
  refine PO.mono (po_some h) fun σ H Q ⟨env, fs, W, he, h⟩ => ⟨env, fs, W, he, ?_⟩
  unfold oSome at h
  cases e1 : f env with
  | no => rw [e1] at h; exact h
  | ex c => rw [e1] at h; exact h
  | ok x =>
    obtain ⟨d, env1⟩ := x
    rw [e1] at h
    intro v H1 fs1 g1 P1
    cases d with
    | int i =>
      have r := P1.rep
      cases r
      exact ⟨i, rfl, h H1 fs1 P1.step⟩
    | _ => exact (show False from h).elim
def cut {α : Type} (xs : List α) (lo hi : Option Int) : List α := (xs.drop (HT.sIx xs.length 0 lo)).take (HT.sIx xs.length xs.length hi - HT.sIx xs.length 0 lo)
def sliceD : D → Option Int → Option Int → Option D
  | .list xs, lo, hi => if immL xs = true then some (.list (cut xs lo hi)) else none
  | .tuple xs, lo, hi => if immL xs = true then some (.tuple (cut xs lo hi)) else none
  | .str z, lo, hi => if z.length ≤ 16000000 then some (.str (cutS z lo hi)) else none
  | _, _, _ => none
def eSl (f : Ev) (l u : Eo) : Ev := fun env => (f env).bind fun x => (l x.2).bind fun y => (u y.2).bind fun z => (R.of (sliceD x.1 y.1 z.1)).bind fun r => .ok (r, z.2)
theorem RepL.cut {K : Frag} {H : Hp} {ds : List D} {vs : List V} {g : List Addr} {lo hi : Option Int} (h : RepL K H vs ds g) (e : g = []) : RepL K H (cutV vs lo hi) (DV.cut ds lo hi) [] := by
  have n := RepL.length h
  unfold cutV DV.cut
  rw [n]
  exact ((RepL.part ((RepL.part h e).2 _).2 rfl).2 _).1
theorem cut_all {α : Type} {xs : List α} {lo hi : Option Int} (h : HT.sIx xs.length 0 lo = 0 ∧ HT.sIx xs.length xs.length hi = xs.length) : cut xs lo hi = xs := by
  unfold cut
  rw [h.1, h.2]
  simp
theorem de_slice {e : Expr} {lo hi : Option Expr} {f : Ev} {l u : Eo} {q2 pos : Pos} (he : DE X E p o e f) (hl : DO X E lo l) (hu : DO X E hi u) : DE X E p true (.Subscript e (.Slice lo hi none q2) pos) (eSl f l u) := by
  refine PE.mono (pe_slice ((sl_list (X := X)).or ((sl_tupA (X := X)).or (sl_str (X := X)))) he hl hu) fun σ H Q ⟨env, fs, W, he, h⟩ => ⟨env, fs, W, he, ?_⟩
  unfold eSl at h
  cases e1 : f env with
  | no => rw [e1] at h; exact h
  | ex c => rw [e1] at h; exact h
  | ok x =>
    obtain ⟨d, env1⟩ := x
    rw [e1] at h
    intro v H1 fs1 g1 P1
    refine ⟨env1, fs1, W, P1.step.renv, ?_⟩
    simp only [R.bind] at h
    cases e2 : l env1 with
    | no => rw [e2] at h; exact h
    | ex c => rw [e2] at h; exact h.before P1.step
    | ok y =>
      obtain ⟨a, env2⟩ := y
      rw [e2] at h
      intro H2 fs2 S2
      refine ⟨env2, fs2, W, S2.renv, ?_⟩
      have S := P1.step.trans S2
      simp only [R.bind] at h
      cases e3 : u env2 with
      | no => rw [e3] at h; exact h
      | ex c => rw [e3] at h; exact h.before S
      | ok z =>
        obtain ⟨b, env3⟩ := z
        rw [e3] at h
        intro H3 fs3 S3
        have S' : Step X.K W p H env fs H3 σ env3 fs3 := (S.trans S3).weak fun z => by rw [z]; rfl
        have r : Rep X.K H3 v d g1 := (P1.rep.same (S2.pure rfl).1).same (S3.pure rfl).1
        simp only [R.bind] at h
        cases e4 : sliceD d a b with
        | none => simp [e4, R.of] at h
        | some res =>
          simp only [e4, R.of] at h
          unfold sliceD at e4
          split at e4
          · split at e4
            · rename_i hi
              cases e4
              cases r with
              | lst h1 l1 => exact .inl ⟨_, _, rfl, SqL.of h1, fun q nq => h _ _ fs3 _ (Post.fresh S' (.lst (RepL.cut l1 (RepL.fp_imm _ _ _ l1 hi)) nq))⟩
            · cases e4
          · split at e4
            · rename_i xs _ _ hi
              cases e4
              cases r with
              | tup h1 l1 =>
                have f1 := RepL.fp_imm _ _ _ l1 hi
                have n1 := RepL.length l1
                refine .inr (.inl ⟨_, _, rfl, h1, fun hw => ?_, fun _ q nq => h _ _ fs3 _ (Post.fresh S' (.tup (RepL.cut l1 f1) nq))⟩)
                rw [n1] at hw
                refine h _ _ fs3 _ (Post.fresh S' (.scal ?_))
                rw [cut_all hw]
                subst f1
                exact .tup h1 l1
            · cases e4
          · split at e4
            · rename_i hz
              cases e4
              cases r
              exact .inr (.inr ⟨_, rfl, in_line hz, h _ _ fs3 _ (Post.scal S' (.str _))⟩)
            · cases e4
          · cases e4
/-! ### sums, least, greatest -/
def sumD : List D → Option D
  | [.list xs] => (ints? xs).map fun ns => .int ns.sum
  | [.tuple xs] => (ints? xs).map fun ns => .int ns.sum
  | _ => none
theorem sum_tup {prog : Program} {w : World} {A : Around} {Z : Value → Shared → Prop} {s : Shared} {a : Addr} {its : List Value} {ns : List Int} {Q : Value → Shared → Prop} (hh : A.handled = none) (hl : IsTup s.heap a its.toArray) (hi : IntsAre its ns)
    (h : ∀ h' tk t', (∀ b o, s.heap.get? b = some o → h'.get? b = some o) → Q (.int ns.sum t') { s with heap := h', toks := tk }) : wpAny (model prog w) A (call (.builtin "sum") [.ref a]) Q Z s := by
  obtain ⟨xs, e⟩ := hi.allInts.items
  have hn : numsOf (intItems xs).toList = ns := by rw [← e]; exact hi.numsOf
  rw [nums_intItems] at hn
  rw [e] at hl
  have hlt : a < s.heap.objs.size := hl.lt
  have ht : s.heap.IsTuple a (intItems xs) := hl
  refine call_sum_walkG (wpAny_pyIter_tuple ht ?_)
  refine ⟨_, _, _, _, _, _, numAt xs, rfl, Walks.tuple (A := A.in1) hh _ a (Nat.ne_of_lt hlt) (intItems xs), ⟨⟨_, Heap.get?_push_size _ rfl, rfl, rfl⟩, ht.push _⟩, fun b hb => ?_, (fun _ _ => intItems_at), fun h' tk t' hk => ?_⟩
  · show b < (s.heap.push _).objs.size
    rw [Heap.size_push]
    rcases List.mem_cons.mp hb with e | hb
    · rw [e]
      exact Nat.lt_succ_self _
    · have : b = a := by simpa using hb
      rw [this]
      exact Nat.lt_succ_of_lt hlt
  · have := h h' tk t' fun b o eo => hk b o (fun hm => by
      have : b = s.heap.objs.size := by simpa using hm
      exact absurd (this ▸ Heap.lt_size eo) (Nat.lt_irrefl _)) (Heap.get?_push_of_some _ eo)
    rw [← hn] at this
    rw [preSum_eq, List.take_of_length_le (by simp [intItems])]
    exact this
theorem cr_sumV (hc : X.calm = true) : CallR X (.builtin "sum") (rDn X.K sumD) := by
  rintro pins s σ H xs us Q I r ⟨ds, g, res, hr, hF, q⟩
  unfold sumD at hF
  split at hF
  · obtain ⟨ns, hb, rfl⟩ := Option.map_eq_some_iff.mp hF
    obtain ⟨v, rfl, h⟩ := repL_one hr rfl
    rw [ints_some hb] at h
    cases h with
    | lst h1 l1 =>
      obtain ⟨e, f⟩ := RepL.ints l1
      subst e
      exact cr_sum hc pins s σ H _ us Q I r ⟨_, _, rfl, SqL.of h1, q _ _ _ (.scal (.int _))⟩
  · obtain ⟨ns, hb, rfl⟩ := Option.map_eq_some_iff.mp hF
    obtain ⟨v, rfl, h⟩ := repL_one hr rfl
    rw [ints_some hb] at h
    cases h with
    | tup h1 l1 =>
      obtain ⟨e, f⟩ := RepL.ints l1
      subst e
      obtain ⟨its, rv, ht, _⟩ := I.tuple h1
      rw [Vals.ref1 r]
      exact sum_tup (I.ok.hd hc) ht rv.ints fun h' tk t' hk => ⟨.int _, H, I.kept hk, ⟨_, rfl⟩, q _ _ _ (.scal (.int _))⟩
  · cases hF
theorem rep_of_reads {pins : List (Addr × Obj)} {σ : L2.St} {H : Hp} {s : Shared} (I : Inv X pins σ H s) {ds : List D} {vs : List V} {us : List Value} {g : List Addr} (h : RepL X.K H vs ds g) (hi : immL ds = true) (rv : Vals vs us) {i : Nat} {u : Value} {d : D} {as : List Addr} (e : us[i]? = some u) (rd : Reads s.heap u d as) :
    ∃ v, RelV v u ∧ Rep X.K H v d [] := by
  have n1 := RepL.length h
  have n2 := rv.length
  have hlt : i < ds.length := by
    have := (List.getElem?_eq_some_iff.mp e).1
    omega
  obtain ⟨v, gi, e1, r, _, _⟩ := RepL.get h (List.getElem?_eq_getElem hlt)
  have im := immL_get hi (List.getElem?_eq_getElem hlt)
  obtain ⟨u', e2, ru⟩ := rv.get e1
  rw [e] at e2
  cases e2
  obtain ⟨bs, rb⟩ := rep_reads I r (plain_imm _ im) ru
  have z := PySem.SeqAt.plain_unique _ _ _ _ _ (plain_imm _ im) rb rd
  subst z
  have f := Rep.fp_imm _ _ _ r im
  subst f
  exact ⟨v, ru, r⟩
open Classical in
noncomputable def minD1 : List D → Option D
  | [.list (x :: xs)] => if immL (x :: xs) = true ∧ PySem.W.AlikeAll (x :: xs) ∧ PyData.depthAll (x :: xs) ≤ 60 then some (PySem.W.minD x xs) else none
  | [.tuple (x :: xs)] => if immL (x :: xs) = true ∧ PySem.W.AlikeAll (x :: xs) ∧ PyData.depthAll (x :: xs) ≤ 60 then some (PySem.W.minD x xs) else none
  | [.int i, .int j] => some (.int (if j < i then j else i))
  | _ => none
open Classical in
noncomputable def maxD1 : List D → Option D
  | [.list (x :: xs)] => if immL (x :: xs) = true ∧ PySem.W.AlikeAll (x :: xs) ∧ PyData.depthAll (x :: xs) ≤ 60 then some (PySem.W.maxD x xs) else none
  | [.tuple (x :: xs)] => if immL (x :: xs) = true ∧ PySem.W.AlikeAll (x :: xs) ∧ PyData.depthAll (x :: xs) ≤ 60 then some (PySem.W.maxD x xs) else none
  | [.int i, .int j] => some (.int (if j > i then j else i))
  | _ => none
theorem cr_minV (hc : X.calm = true) (hu : X.A.units + 64 < cLine) : CallR X (.builtin "min") (rDn X.K minD1) := by
  rintro pins s σ H xs us Q I r ⟨ds, g, res, hr, hF, q⟩
  unfold minD1 at hF
  split at hF
  · split at hF
    · rename_i hi
      cases hF
      obtain ⟨v, rfl, h⟩ := repL_one hr rfl
      cases h with
      | lst h1 l1 =>
        obtain ⟨its, rv, ht, _⟩ := I.list (SqL.of h1)
        rw [Vals.ref1 r]
        obtain ⟨as, ra⟩ := repL_reads I l1 (plainAll_imm _ hi.1) rv
        refine PySem.W.min_list_data (I.ok.hd hc) ht.isList ra hi.2.1 (by omega) fun i u h' tk bs ei rd hk => ?_
        obtain ⟨w, rw', rr⟩ := rep_of_reads (I.kept (t' := tk) hk) l1 hi.1 rv (by simpa using ei) rd
        exact ⟨w, H, I.kept hk, rw', q _ _ _ (.scal rr)⟩
    · cases hF
  · split at hF
    · rename_i hi
      cases hF
      obtain ⟨v, rfl, h⟩ := repL_one hr rfl
      cases h with
      | tup h1 l1 =>
        obtain ⟨its, rv, ht, _⟩ := I.tuple h1
        rw [Vals.ref1 r]
        obtain ⟨as, ra⟩ := repL_reads I l1 (plainAll_imm _ hi.1) rv
        refine PySem.W.min_tuple_data (I.ok.hd hc) ht ra hi.2.1 (by omega) fun i u h' tk bs ei rd hk => ?_
        obtain ⟨w, rw', rr⟩ := rep_of_reads (I.kept (t' := tk) hk) l1 hi.1 rv (by simpa using ei) rd
        exact ⟨w, H, I.kept hk, rw', q _ _ _ (.scal rr)⟩
    · cases hF
  · cases hF
    obtain ⟨v, w, _, _, rfl, h1, h2⟩ := repL_two hr rfl
    cases h1
    cases h2
    exact call_min2 hc pins s σ H _ us Q I r ⟨_, _, rfl, q _ _ _ (.scal (.int _))⟩
  · cases hF
theorem cr_maxV (hc : X.calm = true) (hu : X.A.units + 64 < cLine) : CallR X (.builtin "max") (rDn X.K maxD1) := by
  rintro pins s σ H xs us Q I r ⟨ds, g, res, hr, hF, q⟩
  unfold maxD1 at hF
  split at hF
  · split at hF
    · rename_i hi
      cases hF
      obtain ⟨v, rfl, h⟩ := repL_one hr rfl
      cases h with
      | lst h1 l1 =>
        obtain ⟨its, rv, ht, _⟩ := I.list (SqL.of h1)
        rw [Vals.ref1 r]
        obtain ⟨as, ra⟩ := repL_reads I l1 (plainAll_imm _ hi.1) rv
        refine PySem.W.max_list_data (I.ok.hd hc) ht.isList ra hi.2.1 (by omega) fun i u h' tk bs ei rd hk => ?_
        obtain ⟨w, rw', rr⟩ := rep_of_reads (I.kept (t' := tk) hk) l1 hi.1 rv (by simpa using ei) rd
        exact ⟨w, H, I.kept hk, rw', q _ _ _ (.scal rr)⟩
    · cases hF
  · split at hF
    · rename_i hi
      cases hF
      obtain ⟨v, rfl, h⟩ := repL_one hr rfl
      cases h with
      | tup h1 l1 =>
        obtain ⟨its, rv, ht, _⟩ := I.tuple h1
        rw [Vals.ref1 r]
        obtain ⟨as, ra⟩ := repL_reads I l1 (plainAll_imm _ hi.1) rv
        refine PySem.W.max_tuple_data (I.ok.hd hc) ht ra hi.2.1 (by omega) fun i u h' tk bs ei rd hk => ?_
        obtain ⟨w, rw', rr⟩ := rep_of_reads (I.kept (t' := tk) hk) l1 hi.1 rv (by simpa using ei) rd
        exact ⟨w, H, I.kept hk, rw', q _ _ _ (.scal rr)⟩
    · cases hF
  · cases hF
    obtain ⟨v, w, _, _, rfl, h1, h2⟩ := repL_two hr rfl
    cases h1
    cases h2
    exact call_max2 hc pins s σ H _ us Q I r ⟨_, _, rfl, q _ _ _ (.scal (.int _))⟩
  · cases hF
end
end DV
end
section
set_option Elab.async false
set_option linter.all false
set_option maxRecDepth 100000
namespace DV
open PySem PySem.Spec PyProof.Rows L2
/-! ### what a statement leaves -/
inductive Out where
  | nx (e : Env) | rt (d : D) (e : Env) | bk (e : Env) | ct (e : Env)
abbrev Sv := Env → R Out
/-- the state has moved on; A: the slots that may be stored to -/
structure Move (K : Frag) (W W' : Addr → Prop) (A : List Nat) (H : Hp) (fs : Fs) (H' : Hp) (σ σ' : L2.St) (env' : Env) (fs' : Fs) : Prop where
  ext : Ext H H' fs
  renv : RepEnv K W' H' σ' env' fs'
  more : ∀ a, W a → W' a
  sub : ∀ i, Sub H fs (fs' i)
  keep : ∀ i, i ∉ A → σ'[i]? = σ[i]?
def tS (K : Frag) (E : XK) (A : List Nat) (f : Sv) : TS := fun Dn σ H => ∃ env fs W, RepEnv K W H σ env fs ∧ match f env with
  | .no => False
  | .ex c => ExP K E c H fs
  | .ok (.nx env') => ∀ W' σ' H' fs', Move K W W' A H fs H' σ σ' env' fs' → Dn.nx σ' H'
  | .ok (.bk env') => ∀ W' σ' H' fs', Move K W W' A H fs H' σ σ' env' fs' → Dn.bk σ' H'
  | .ok (.ct env') => ∀ W' σ' H' fs', Move K W W' A H fs H' σ σ' env' fs' → Dn.ct σ' H'
  | .ok (.rt d env') => ∀ W' v σ' H' fs' g, Move K W W' A H fs H' σ σ' env' fs' → Rep K H' v d g → Own H fs H' fs' g → Dn.rt v H'
/-- what is to be shown of an outcome (the reading, without the start) -/
def OutP (K : Frag) (E : XK) (W : Addr → Prop) (A : List Nat) (Dn : Ends) (σ : L2.St) (H : Hp) (fs : Fs) : R Out → Prop
  | .no => False
  | .ex c => ExP K E c H fs
  | .ok (.nx env') => ∀ W' σ' H' fs', Move K W W' A H fs H' σ σ' env' fs' → Dn.nx σ' H'
  | .ok (.bk env') => ∀ W' σ' H' fs', Move K W W' A H fs H' σ σ' env' fs' → Dn.bk σ' H'
  | .ok (.ct env') => ∀ W' σ' H' fs', Move K W W' A H fs H' σ σ' env' fs' → Dn.ct σ' H'
  | .ok (.rt d env') => ∀ W' v σ' H' fs' g, Move K W W' A H fs H' σ σ' env' fs' → Rep K H' v d g → Own H fs H' fs' g → Dn.rt v H'
theorem tS_iff {K : Frag} {E : XK} {A : List Nat} {f : Sv} {Dn : Ends} {σ : L2.St} {H : Hp} : tS K E A f Dn σ H ↔ ∃ env fs W, RepEnv K W H σ env fs ∧ OutP K E W A Dn σ H fs (f env) := by
  constructor
  · rintro ⟨env, fs, W, he, h⟩
    refine ⟨env, fs, W, he, ?_⟩
    cases e : f env with
    | no => rw [e] at h; exact h
    | ex c => rw [e] at h; exact h
    | ok o => rw [e] at h; cases o <;> exact h
  · rintro ⟨env, fs, W, he, h⟩
    refine ⟨env, fs, W, he, ?_⟩
    cases e : f env with
    | no => rw [e] at h; exact h
    | ex c => rw [e] at h; exact h
    | ok o => rw [e] at h; cases o <;> exact h
section
variable {K : Frag} {W W' W1 W2 : Addr → Prop} {E : XK} {H H' H1 H2 : Hp} {σ σ' σ1 σ2 : L2.St} {env env' env1 env2 : Env} {fs fs' fs1 fs2 : Fs} {p p1 p2 o : Bool} {A A1 A2 : List Nat} {Dn : Ends}
theorem Move.refl (h : RepEnv K W H σ env fs) : Move K W W A H fs H σ σ env fs := ⟨Ext.refl, h, fun _ z => z, fun _ => Sub.self, fun _ _ => rfl⟩
theorem Step.move (a : Step K W p H env fs H1 σ env1 fs1) : Move K W W A H fs H1 σ σ env1 fs1 := ⟨a.ext, a.renv, fun _ z => z, a.sub, fun _ _ => rfl⟩
theorem Move.trans (a : Move K W W1 A H fs H1 σ σ1 env1 fs1) (b : Move K W1 W2 A H1 fs1 H2 σ1 σ2 env2 fs2) : Move K W W2 A H fs H2 σ σ2 env2 fs2 :=
  ⟨a.ext.trans a.sub b.ext, b.renv, fun z h => b.more z (a.more z h), fun i => Sub.trans a.ext a.sub (b.sub i), fun i hi => (b.keep i hi).trans (a.keep i hi)⟩
theorem Move.mono (a : Move K W W1 A1 H fs H1 σ σ1 env1 fs1) (h : ∀ i, i ∈ A1 → i ∈ A) : Move K W W1 A H fs H1 σ σ1 env1 fs1 := ⟨a.ext, a.renv, a.more, a.sub, fun i hi => a.keep i fun z => hi (h i z)⟩
theorem Own.moved {g : List Addr} (a : Move K W W1 A H fs H1 σ σ1 env1 fs1) (w : Own H1 fs1 H2 fs2 g) : Own H fs H2 fs2 g := ⟨w.nd, w.apart, w.pl, Sub.trans a.ext a.sub w.sub⟩
theorem ExP.moved {c : Exc} (x : ExP K E c H fs) (a : Move K W W1 A H fs H1 σ σ1 env1 fs1) : ExP K E c H1 fs1 := fun H' ad e n => x H' ad (a.ext.trans a.sub e) n
theorem OutP.moved {r : R Out} (h : OutP K E W A Dn σ H fs r) (a : Move K W W1 A H fs H1 σ σ1 env1 fs1) : OutP K E W1 A Dn σ1 H1 fs1 r := by
  cases r with
  | no => exact h
  | ex c => exact ExP.moved h a
  | ok o =>
    cases o with
    | nx e => exact fun W' σ' H' fs' m => h W' σ' H' fs' (a.trans m)
    | bk e => exact fun W' σ' H' fs' m => h W' σ' H' fs' (a.trans m)
    | ct e => exact fun W' σ' H' fs' m => h W' σ' H' fs' (a.trans m)
    | rt d e => exact fun W' v σ' H' fs' g m r w => h W' v σ' H' fs' g (a.trans m) r (Own.moved a w)
theorem OutP.mono {r : R Out} (h : OutP K E W A Dn σ H fs r) (s : ∀ i, i ∈ A1 → i ∈ A) : OutP K E W A1 Dn σ H fs r := by
  cases r with
  | no => exact h
  | ex c => exact h
  | ok o =>
    cases o with
    | nx e => exact fun W' σ' H' fs' m => h W' σ' H' fs' (m.mono s)
    | bk e => exact fun W' σ' H' fs' m => h W' σ' H' fs' (m.mono s)
    | ct e => exact fun W' σ' H' fs' m => h W' σ' H' fs' (m.mono s)
    | rt d e => exact fun W' v σ' H' fs' g m r w => h W' v σ' H' fs' g (m.mono s) r w
end
def DS (X : Cx) (E : XK) (A : List Nat) (st : Stmt) (f : Sv) : Prop := PS X st (tS X.K E A f)
def DB (X : Cx) (E : XK) (A : List Nat) (sts : List Stmt) (f : Sv) : Prop := PSs X sts (tS X.K E A f)
section
variable {X : Cx} {E : XK} {p p1 p2 p3 o o1 o2 o3 : Bool} {A A1 A2 : List Nat} {pos : Pos}
theorem PS.mono {st : Stmt} {t t' : TS} (h : PS X st t) (m : ∀ D σ H, t' D σ H → t D σ H) : PS X st t' := ⟨fun pins s σ H D I w => h.run pins s σ H D I (m D σ H w)⟩
theorem PSs.mono {st : List Stmt} {t t' : TS} (h : PSs X st t) (m : ∀ D σ H, t' D σ H → t D σ H) : PSs X st t' := ⟨fun pins s σ H D I w => h.run pins s σ H D I (m D σ H w)⟩
theorem DS.imp {st : Stmt} {t : TS} {f : Sv} (h : PS X st t) (m : ∀ (D : Ends) (σ : L2.St) (H : Hp) (env : Env) (fs : Fs) (W : Addr → Prop), RepEnv X.K W H σ env fs → OutP X.K E W A D σ H fs (f env) → t D σ H) : DS X E A st f :=
  PS.mono h fun D σ H z => let ⟨env, fs, W, he, q⟩ := tS_iff.mp z; m D σ H env fs W he q
theorem DB.imp {st : List Stmt} {t : TS} {f : Sv} (h : PSs X st t) (m : ∀ (D : Ends) (σ : L2.St) (H : Hp) (env : Env) (fs : Fs) (W : Addr → Prop), RepEnv X.K W H σ env fs → OutP X.K E W A D σ H fs (f env) → t D σ H) : DB X E A st f :=
  PSs.mono h fun D σ H z => let ⟨env, fs, W, he, q⟩ := tS_iff.mp z; m D σ H env fs W he q
/-- an expression's reading ahead of what follows -/
theorem tD_then {f : Ev} {k : D → Env → R Out} {g : Sv} {Dn : Ends} {σ : L2.St} {H : Hp} {env : Env} {fs : Fs} {W : Addr → Prop} {Q : VK} (he : RepEnv X.K W H σ env fs) (hg : g env = (f env).bind fun x => k x.1 x.2) (h : OutP X.K E W A Dn σ H fs (g env))
    (q : ∀ d env1 v H1 fs1 gg, Post X.K W p o H env fs H1 σ env1 fs1 v d gg → OutP X.K E W A Dn σ H fs (k d env1) → Q v H1) : tD X.K E p o f σ H Q := by
  refine ⟨env, fs, W, he, ?_⟩
  rw [hg] at h
  cases e1 : f env with
  | no => rw [e1] at h; exact h
  | ex c => rw [e1] at h; exact h
  | ok x =>
    obtain ⟨d, env1⟩ := x
    rw [e1] at h
    exact fun v H1 fs1 gg P => q d env1 v H1 fs1 gg P h
theorem tDT_then {f : Et} {k : Bool → Env → R Out} {g : Sv} {Dn : Ends} {σ : L2.St} {H : Hp} {env : Env} {fs : Fs} {W : Addr → Prop} {Q : Bool → Hp → Prop} (he : RepEnv X.K W H σ env fs) (hg : g env = (f env).bind fun x => k x.1 x.2) (h : OutP X.K E W A Dn σ H fs (g env))
    (q : ∀ b env1 H1 fs1, Step X.K W p H env fs H1 σ env1 fs1 → OutP X.K E W A Dn σ H1 fs1 (k b env1) → Q b H1) : tDT X.K E p f σ H Q := by
  refine ⟨env, fs, W, he, ?_⟩
  rw [hg] at h
  cases e1 : f env with
  | no => rw [e1] at h; exact h
  | ex c => rw [e1] at h; exact h
  | ok x =>
    obtain ⟨d, env1⟩ := x
    rw [e1] at h
    exact fun H1 fs1 S => q d env1 H1 fs1 S (OutP.moved h S.move)
/-! ### blocks -/
def sNx : Sv := fun env => .ok (.nx env)
def sSeq (f g : Sv) : Sv := fun env => (f env).bind fun o => match o with
  | .nx e => g e
  | .bk e => .ok (.bk e)
  | .ct e => .ok (.ct e)
  | .rt d e => .ok (.rt d e)
theorem db_nil : DB X E [] [] sNx := DB.imp pss_nil fun D σ H env fs W he h => h W σ H fs (Move.refl he)
theorem db_one {st : Stmt} {f : Sv} (h : DS X E A st f) : DB X E A [st] f := pss_one h
theorem OutP.seq {K : Frag} {W : Addr → Prop} {Dn : Ends} {σ : L2.St} {H : Hp} {env : Env} {fs : Fs} {f g : Sv} (h : OutP K E W A Dn σ H fs (sSeq f g env)) : OutP K E W A { Dn with nx := fun σ1 H1 => ∃ env1 fs1 W1, RepEnv K W1 H1 σ1 env1 fs1 ∧ OutP K E W1 A Dn σ1 H1 fs1 (g env1) } σ H fs (f env) := by
  unfold sSeq at h
  cases e1 : f env with
  | no => rw [e1] at h; exact h
  | ex c => rw [e1] at h; exact h
  | ok o =>
    rw [e1] at h
    cases o with
    | nx e => exact fun W1 σ1 H1 fs1 m => ⟨e, fs1, W1, m.renv, OutP.moved h m⟩
    | bk e => exact h
    | ct e => exact h
    | rt d e => exact h
theorem db_cons {st : Stmt} {rest : List Stmt} {f g : Sv} (h1 : DS X E A1 st f) (h2 : DB X E A2 rest g) : DB X E (A1 ++ A2) (st :: rest) (sSeq f g) := by
  refine DB.imp (pss_cons h1 h2) fun D σ H env fs W he h => ?_
  refine tS_iff.mpr ⟨env, fs, W, he, ?_⟩
  have q := OutP.mono (A1 := A1) (OutP.seq h) fun i hi => List.mem_append_left _ hi
  cases e1 : f env with
  | no => rw [e1] at q; exact q
  | ex c => rw [e1] at q; exact q
  | ok o =>
    rw [e1] at q
    cases o with
    | nx e => exact fun W0 σ1 H1 fs1 m => let ⟨env1, fs2, W1, r, z⟩ := q W0 σ1 H1 fs1 m; tS_iff.mpr ⟨env1, fs2, W1, r, OutP.mono z fun i hi => List.mem_append_right _ hi⟩
    | bk e => exact q
    | ct e => exact q
    | rt d e => exact q
theorem db_sub {sts : List Stmt} {f : Sv} (h : DB X E A1 sts f) (s : ∀ i, i ∈ A1 → i ∈ A) : DB X E A sts f :=
  DB.imp h fun D σ H env fs W he q => tS_iff.mpr ⟨env, fs, W, he, OutP.mono q s⟩
/-! ### small statements -/
def sRet (f : Ev) : Sv := fun env => (f env).bind fun x => .ok (.rt x.1 x.2)
theorem ds_ret {e : Expr} {f : Ev} (h : DE X E p true e f) : DS X E [] (.Return (some e) pos) (sRet f) :=
  DS.imp (ps_ret h) fun D σ H env fs W he q => tD_then (k := fun d e => .ok (.rt d e)) he rfl q fun d env1 v H1 fs1 gg P z => z W v σ H1 fs1 gg P.step.move P.rep (P.own rfl)
end
end DV
end
section
set_option Elab.async false
set_option linter.all false
set_option maxRecDepth 100000
namespace DV
open PySem PySem.Spec PyProof.Rows L2
/-! ### slots stored, forgotten -/
def fput (fs : Fs) (i : Nat) (g : List Addr) : Fs := fun j => if j = i then g else fs j
theorem at_set {env : Env} {i j : Nat} {s : Slot} (h : i < env.length) : Env.at (env.set i s) j = if j = i then s else env.at j := by
  unfold Env.at
  by_cases e : j = i
  · subst e
    rw [if_pos rfl]
    simp [List.getD_eq_getElem?_getD, h]
  · rw [if_neg e]
    simp [List.getD_eq_getElem?_getD, List.getElem?_set_ne (Ne.symm e)]
section
variable {K : Frag} {W W' : Addr → Prop} {E : XK} {H H' H1 H2 : Hp} {σ σ' σ1 σ2 : L2.St} {env env' env1 env2 : Env} {fs fs' fs1 fs2 : Fs} {p p1 p2 o : Bool} {A A1 A2 : List Nat} {Dn : Ends}
theorem st_get {σ : L2.St} {i : Nat} {v : V} (h : i < σ.length) : (σ.set i (some v))[i]? = some (some v) := by simp [h]
/-- an own value at slot i -/
theorem RepEnv.put (h : RepEnv K W H σ env fs) {i : Nat} (hi : i < env.length) (hσ : i < σ.length) {v : V} {d : D} {g : List Addr} (r : Rep K H v d g) (nd : g.Nodup) (ap : ∀ a ∈ g, ∀ j, a ∉ fs j) (pl : ∀ a ∈ g, Pl H a) (off : ∀ a ∈ g, ¬ W a) :
    RepEnv K W H (σ.set i (some v)) (env.set i (.own d)) (fput fs i g) where
  slot := fun j => by
    rw [at_set hi]
    by_cases e : j = i
    · subst e
      rw [if_pos rfl]
      exact ⟨v, st_get hσ, by unfold fput; rw [if_pos rfl]; exact r⟩
    · rw [if_neg e]
      have q := h.slot j
      have ef : fput fs i g j = fs j := if_neg e
      have es : (σ.set i (some v))[j]? = σ[j]? := List.getElem?_set_ne (Ne.symm e)
      cases z : env.at j with
      | dead => rw [z] at q; exact ef.trans q
      | own d' =>
        rw [z] at q
        obtain ⟨v', e1, r'⟩ := q
        exact ⟨v', es.trans e1, by rw [ef]; exact r'⟩
      | view d' =>
        rw [z] at q
        obtain ⟨e0, v', g', e1, r', w⟩ := q
        exact ⟨ef.trans e0, v', g', es.trans e1, r', w⟩
  disj := fun j k a hj hk => by
    unfold fput at hj hk
    by_cases e : j = i
    · rw [if_pos e] at hj
      by_cases e2 : k = i
      · rw [e, e2]
      · rw [if_neg e2] at hk
        exact absurd hk (ap a hj k)
    · rw [if_neg e] at hj
      by_cases e2 : k = i
      · rw [if_pos e2] at hk
        exact absurd hj (ap a hk j)
      · rw [if_neg e2] at hk
        exact h.disj j k a hj hk
  nd := fun j => by
    unfold fput
    by_cases e : j = i
    · rw [if_pos e]; exact nd
    · rw [if_neg e]; exact h.nd j
  pl := fun j a ha => by
    unfold fput at ha
    by_cases e : j = i
    · rw [if_pos e] at ha; exact pl a ha
    · rw [if_neg e] at ha; exact h.pl j a ha
  off := fun j a ha => by
    unfold fput at ha
    by_cases e : j = i
    · rw [if_pos e] at ha; exact off a ha
    · rw [if_neg e] at ha; exact h.off j a ha
  wt := h.wt
theorem Own.off {g : List Addr} (w : Own H fs H' fs' g) (h : RepEnv K W H σ env fs) : ∀ a ∈ g, ¬ W a := fun a ha hw => by
  rcases w.sub a ha with ⟨j, hj⟩ | z
  · exact h.off j a hj hw
  · obtain ⟨o, e⟩ := h.wt a hw
    rw [e] at z; cases z
/-- a slot is another one now, its footprint empty: forgotten, or a view of what is protected -/
theorem RepEnv.lay (h : RepEnv K W H σ env fs) {i : Nat} {s : Slot} {σ' : L2.St} (hi : i < env.length) (hσ : ∀ j, j ≠ i → σ'[j]? = σ[j]?) (hs : SlotOk K W H σ' (fput fs i []) i s) : RepEnv K W H σ' (env.set i s) (fput fs i []) where
  slot := fun j => by
    rw [at_set hi]
    by_cases e : j = i
    · subst e
      rw [if_pos rfl]
      exact hs
    · rw [if_neg e]
      have q := h.slot j
      have ef : fput fs i [] j = fs j := if_neg e
      cases z : env.at j with
      | dead => rw [z] at q; exact ef.trans q
      | own d' =>
        rw [z] at q
        obtain ⟨v', e1, r'⟩ := q
        exact ⟨v', (hσ j e).trans e1, by rw [ef]; exact r'⟩
      | view d' =>
        rw [z] at q
        obtain ⟨e0, v', g', e1, r', w⟩ := q
        exact ⟨ef.trans e0, v', g', (hσ j e).trans e1, r', w⟩
  disj := fun j k a hj hk => by
    unfold fput at hj hk
    by_cases e : j = i
    · rw [if_pos e] at hj; cases hj
    · rw [if_neg e] at hj
      by_cases e2 : k = i
      · rw [if_pos e2] at hk; cases hk
      · rw [if_neg e2] at hk
        exact h.disj j k a hj hk
  nd := fun j => by
    unfold fput
    by_cases e : j = i
    · rw [if_pos e]; exact .nil
    · rw [if_neg e]; exact h.nd j
  pl := fun j a ha => by
    unfold fput at ha
    by_cases e : j = i
    · rw [if_pos e] at ha; cases ha
    · rw [if_neg e] at ha; exact h.pl j a ha
  off := fun j a ha => by
    unfold fput at ha
    by_cases e : j = i
    · rw [if_pos e] at ha; cases ha
    · rw [if_neg e] at ha; exact h.off j a ha
  wt := h.wt
theorem fput_sub {i : Nat} : ∀ j, ∀ a ∈ fput fs i [] j, a ∈ fs j := fun j a ha => by
  unfold fput at ha
  by_cases e : j = i
  · rw [if_pos e] at ha; cases ha
  · rw [if_neg e] at ha; exact ha
theorem RepEnv.kill1 (h : RepEnv K W H σ env fs) (i : Nat) : ∃ fs', RepEnv K W H σ (env.set i .dead) fs' ∧ ∀ j, ∀ a ∈ fs' j, a ∈ fs j := by
  by_cases hi : i < env.length
  · refine ⟨_, h.lay (s := .dead) hi (fun _ _ => rfl) ?_, fput_sub⟩
    show fput fs i [] i = []
    exact if_pos rfl
  · rw [List.set_eq_of_length_le (Nat.le_of_not_lt hi)]
    exact ⟨fs, h, fun _ _ z => z⟩
/-- fewer slots are held -/
def killS (ks : List Nat) (env : Env) : Env := ks.foldl (fun e i => e.set i .dead) env
theorem RepEnv.kill : ∀ (ks : List Nat) {env : Env} {fs : Fs}, RepEnv K W H σ env fs → ∃ fs', RepEnv K W H σ (killS ks env) fs' ∧ ∀ j, ∀ a ∈ fs' j, a ∈ fs j
  | [], _, fs, h => ⟨fs, h, fun _ _ z => z⟩
  | k :: ks, _, fs, h => by
    obtain ⟨fs1, h1, s1⟩ := h.kill1 k
    obtain ⟨fs2, h2, s2⟩ := RepEnv.kill ks h1
    exact ⟨fs2, h2, fun j a ha => s1 j a (s2 j a ha)⟩
theorem Ext.less (x : Ext H H' fs') (s : ∀ j, ∀ a ∈ fs' j, a ∈ fs j) : Ext H H' fs := fun b o e n => x b o e fun i hi => n i (s i b hi)
theorem Sub.less {g : List Addr} (x : Sub H fs' g) (s : ∀ j, ∀ a ∈ fs' j, a ∈ fs j) : Sub H fs g := fun a ha => (x a ha).imp (fun ⟨j, hj⟩ => ⟨j, s j a hj⟩) id
theorem Move.less (m : Move K W W' A H fs' H1 σ σ1 env1 fs1) (s : ∀ j, ∀ a ∈ fs' j, a ∈ fs j) : Move K W W' A H fs H1 σ σ1 env1 fs1 := ⟨m.ext.less s, m.renv, m.more, fun i => (m.sub i).less s, m.keep⟩
theorem Own.less {g : List Addr} (w : Own H fs' H1 fs1 g) (s : ∀ j, ∀ a ∈ fs' j, a ∈ fs j) : Own H fs H1 fs1 g := ⟨w.nd, w.apart, w.pl, w.sub.less s⟩
theorem OutP.less {r : R Out} (h : OutP K E W A Dn σ H fs r) (s : ∀ j, ∀ a ∈ fs' j, a ∈ fs j) : OutP K E W A Dn σ H fs' r := by
  cases r with
  | no => exact h
  | ex c => exact fun H' ad e n => h H' ad (e.less s) n
  | ok o =>
    cases o with
    | nx e => exact fun W' σ' H' fs' m => h W' σ' H' fs' (m.less s)
    | bk e => exact fun W' σ' H' fs' m => h W' σ' H' fs' (m.less s)
    | ct e => exact fun W' σ' H' fs' m => h W' σ' H' fs' (m.less s)
    | rt d e => exact fun W' v σ' H' fs' g m r w => h W' v σ' H' fs' g (m.less s) r (w.less s)
end
section
variable {X : Cx} {E : XK} {p p1 p2 p3 o o1 o2 o3 : Bool} {A A1 A2 : List Nat} {pos : Pos}
def sKill (ks : List Nat) (f : Sv) : Sv := fun env => f (killS ks env)
theorem db_kill {sts : List Stmt} {f : Sv} {ks : List Nat} (h : DB X E A sts f) : DB X E A sts (sKill ks f) := by
  refine DB.imp h fun D σ H env fs W he q => ?_
  obtain ⟨fs', h', s'⟩ := he.kill ks
  exact tS_iff.mpr ⟨_, fs', W, h', OutP.less q s'⟩
theorem ds_kill {st : Stmt} {f : Sv} {ks : List Nat} (h : DS X E A st f) : DS X E A st (sKill ks f) := by
  refine DS.imp h fun D σ H env fs W he q => ?_
  obtain ⟨fs', h', s'⟩ := he.kill ks
  exact tS_iff.mpr ⟨_, fs', W, h', OutP.less q s'⟩
def sRetN : Sv := fun env => .ok (.rt .none env)
theorem ds_retN : DS X E [] (.Return none pos) sRetN := DS.imp ps_retN fun D σ H env fs W he q => q W .non σ H fs [] (Move.refl he) .non Own.nil
def sBk : Sv := fun env => .ok (.bk env)
def sCt : Sv := fun env => .ok (.ct env)
theorem ds_break : DS X E [] (.Break pos) sBk := DS.imp ps_break fun D σ H env fs W he q => q W σ H fs (Move.refl he)
theorem ds_cont : DS X E [] (.Continue pos) sCt := DS.imp ps_continue fun D σ H env fs W he q => q W σ H fs (Move.refl he)
theorem ds_pass : DS X E [] (.Pass pos) sNx := DS.imp ps_pass fun D σ H env fs W he q => q W σ H fs (Move.refl he)
def sNo : Sv := fun _ => .no
theorem ds_never {st : Stmt} : DS X E [] st sNo := DS.imp (ps_never (X := X) (st := st)) fun D σ H env fs W he q => q
theorem db_never {sts : List Stmt} : DB X E [] sts sNo := DB.imp (pss_never (X := X) (sts := sts)) fun D σ H env fs W he q => q
def sExpr (f : Ev) : Sv := fun env => (f env).bind fun x => .ok (.nx x.2)
theorem ds_expr {e : Expr} {f : Ev} (h : DE X E p o e f) (hs : swapsWith e none pos.line X.env = pure false := by rfl) : DS X E [] (.Expr e pos) (sExpr f) :=
  DS.imp (ps_expr h hs) fun D σ H env fs W he q => tD_then (k := fun _ e => .ok (.nx e)) he rfl q fun d env1 v H1 fs1 gg P z => z W σ H1 fs1 P.step.move
def sIf (t : Et) (f g : Sv) : Sv := fun env => (t env).bind fun x => if x.1 = true then f x.2 else g x.2
theorem ds_if {c : Expr} {a b : List Stmt} {t : Et} {f g : Sv} (hc : DT X E p c t) (ha : DB X E A1 a f) (hb : DB X E A2 b g) : DS X E (A1 ++ A2) (.If c a b pos) (sIf t f g) := by
  refine DS.imp (ps_if hc ha hb) fun D σ H env fs W he q => tDT_then (k := fun b e => if b = true then f e else g e) he rfl q fun b env1 H1 fs1 S z => ?_
  cases b with
  | true => exact tS_iff.mpr ⟨env1, fs1, W, S.renv, OutP.mono z fun i hi => List.mem_append_left _ hi⟩
  | false => exact tS_iff.mpr ⟨env1, fs1, W, S.renv, OutP.mono z fun i hi => List.mem_append_right _ hi⟩
/-! ### names stored to -/
theorem σ_len {pins : List (Addr × Obj)} {σ : L2.St} {H : Hp} {s : Shared} (I : Inv X pins σ H s) {i : Nat} {x : Str} (h : X.N[i]? = some x) : i < σ.length := by
  rw [I.len]
  exact (List.getElem?_eq_some_iff.mp h).1
/-- the reading of a statement, with the length of the slots known -/
theorem DS.impL {st : Stmt} {t : TS} {f : Sv} (h : PS X st t) (m : ∀ (D : Ends) (σ : L2.St) (H : Hp) (env : Env) (fs : Fs) (W : Addr → Prop), σ.length = X.N.length → RepEnv X.K W H σ env fs → OutP X.K E W A D σ H fs (f env) → t D σ H) : DS X E A st f :=
  ⟨fun pins s σ H D I z => let ⟨env, fs, W, he, q⟩ := tS_iff.mp z; h.run pins s σ H D I (m D σ H env fs W I.len he q)⟩
def sSet (i : Nat) (f : Ev) : Sv := fun env => (f env).bind fun x => if i < x.2.length then .ok (.nx (x.2.set i (.own x.1))) else .no
theorem Post.put {K : Frag} {W : Addr → Prop} {H H1 : Hp} {σ : L2.St} {env env1 : Env} {fs fs1 : Fs} {v : V} {d : D} {g : List Addr} {i : Nat} (he : RepEnv K W H σ env fs) (P : Post K W p true H env fs H1 σ env1 fs1 v d g) (hi : i < env1.length) (hσ : i < σ.length) :
    Move K W W [i] H fs H1 σ (σ.set i (some v)) (env1.set i (.own d)) (fput fs1 i g) where
  ext := P.step.ext
  more := fun _ z => z
  renv := P.step.renv.put hi hσ P.rep (P.own rfl).nd (P.own rfl).apart (P.own rfl).pl ((P.own rfl).off he)
  sub := fun j a ha => by
    unfold fput at ha
    by_cases e : j = i
    · rw [if_pos e] at ha; exact (P.own rfl).sub a ha
    · rw [if_neg e] at ha; exact P.step.sub j a ha
  keep := fun j hj => List.getElem?_set_ne fun e => hj (by simp [e])
theorem ds_set {i : Nat} {x : Str} {e : Expr} {f : Ev} {pos' : Pos} (hN : X.N.Nodup) (h : DE X E p true e f) (hi : X.N[i]? = some x := by rfl) (hx : Loc X.env.scope x := by first | exact .inl rfl | exact .inr rfl) (hs : swapsWith e (some (.Name x pos')) pos.line X.env = pure false := by rfl) (hf : X.fn x = true ∨ X.env.scope.names.lookup x = some .local := by first | exact .inl rfl | exact .inr rfl) :
    DS X E [i] (.Assign [.Name x pos'] e pos) (sSet i f) := by
  refine DS.impL (ps_set hN hi hx h hs hf) fun D σ H env fs W hl he q => tD_then (k := fun d e => if i < e.length then .ok (.nx (e.set i (.own d))) else .no) he rfl q fun d env1 v H1 fs1 gg P z => ?_
  by_cases c : i < env1.length
  · rw [if_pos c] at z
    exact z W _ H1 _ (P.put he c (by rw [hl]; exact (List.getElem?_eq_some_iff.mp hi).1))
  · rw [if_neg c] at z
    exact z.elim
/-- name op= e, by values; what it holds can't change -/
def sAug (i : Nat) (F : D → D → Option D) (f : Ev) : Sv := fun env => (Slot.get (env.at i)).bind fun d => (f env).bind fun y => (R.of (F d y.1)).bind fun r => if i < y.2.length then .ok (.nx (y.2.set i (.own r))) else .no
def IpD (X : Cx) (op : Operator) (F : D → D → Option D) : Prop := PIp X op (rD2 X.K F)
theorem RepEnv.get {K : Frag} {W : Addr → Prop} {H : Hp} {σ : L2.St} {env : Env} {fs : Fs} (h : RepEnv K W H σ env fs) {i : Nat} {d : D} (e : Slot.get (env.at i) = .ok d) : ∃ v g, σ[i]? = some (some v) ∧ Rep K H v d g ∧ ((env.at i = .own d ∧ g = fs i) ∨ (env.at i = .view d ∧ ∀ a ∈ g, W a)) := by
  have q := h.slot i
  cases z : env.at i with
  | dead => rw [z] at e; cases e
  | own d' =>
    rw [z] at q e
    cases e
    obtain ⟨v, e1, r⟩ := q
    exact ⟨v, _, e1, r, .inl ⟨rfl, rfl⟩⟩
  | view d' =>
    rw [z] at q e
    cases e
    obtain ⟨_, v, g, e1, r, w⟩ := q
    exact ⟨v, g, e1, r, .inr ⟨rfl, w⟩⟩
theorem ds_aug {i : Nat} {x : Str} {e : Expr} {f : Ev} {op : Operator} {F : D → D → Option D} {pos' : Pos} (hN : X.N.Nodup) (ho : IpD X op F) (h : DE X E true o e f) (hi : X.N[i]? = some x := by rfl) (hx : Loc X.env.scope x := by first | exact .inl rfl | exact .inr rfl) (hf : X.fn x = true ∨ X.env.scope.names.lookup x = some .local := by first | exact .inl rfl | exact .inr rfl) :
    DS X E [i] (.AugAssign (.Name x pos') op e pos) (sAug i F f) := by
  refine DS.impL (ps_aug hN hi hx h ho hf) fun D σ H env fs W hl he q => ?_
  have hσ : i < σ.length := by rw [hl]; exact (List.getElem?_eq_some_iff.mp hi).1
  unfold sAug at q
  cases e0 : Slot.get (env.at i) with
  | no => rw [e0] at q; exact q.elim
  | ex c =>
    cases z : env.at i <;> (rw [z] at e0; cases e0)
  | ok d =>
    rw [e0] at q
    obtain ⟨v, g0, e1, r0, _⟩ := he.get e0
    refine ⟨v, e1, tD_then (k := fun y e => (R.of (F d y)).bind fun r => if i < e.length then .ok (.nx (e.set i (.own r))) else .no) (g := fun env => (f env).bind fun y => (R.of (F d y.1)).bind fun r => if i < y.2.length then .ok (.nx (y.2.set i (.own r))) else .no) he rfl q fun y env1 w H1 fs1 gg P z => ?_⟩
    cases e3 : F d y with
    | none => rw [e3] at z; exact z.elim
    | some r =>
      rw [e3] at z
      simp only [R.of, R.bind] at z
      by_cases c : i < env1.length
      · rw [if_pos c] at z
        exact ⟨d, y, g0, gg, r, r0.same (P.step.pure rfl).1, P.rep, e3, fun u H2 g2 fr => z W _ H2 _ ((Post.fresh (p := true) P.step fr).put he c hσ)⟩
      · rw [if_neg c] at z
        exact z.elim
def augAdd : D → D → Option D
  | .int i, .int j => some (.int (i + j))
  | .str a, .str b => if a.length + b.length ≤ 16000000 then some (.str (a ++ b)) else none
  | _, _ => none
theorem ip_addV : IpD X .Add augAdd := by
  rintro pins s σ H x y v u Q I rx ry ⟨d, e, g1, g2, r, hd, he, hF, q⟩
  unfold augAdd at hF
  split at hF
  · cases hF
    cases hd
    cases he
    exact iop_add pins s σ H _ _ v u Q I rx ry ⟨_, _, rfl, rfl, q _ _ _ (.scal (.int _))⟩
  · split at hF
    · rename_i hp
      cases hF
      cases hd
      cases he
      exact iop_add_str pins s σ H _ _ v u Q I rx ry ⟨_, _, rfl, rfl, in_line hp, q _ _ _ (.scal (.str _))⟩
    · cases hF
  · cases hF
theorem ip_subV : IpD X .Sub subD := by
  rintro pins s σ H x y v u Q I rx ry ⟨d, e, g1, g2, r, hd, he, hF, q⟩
  unfold subD at hF
  split at hF
  · cases hF
    cases hd
    cases he
    exact iop_sub pins s σ H _ _ v u Q I rx ry ⟨_, _, rfl, rfl, q _ _ _ (.scal (.int _))⟩
  · cases hF
/-! ### targets: names, tuples of names; what is bound is protected (a view), or one's own -/
inductive Tg where
  | nm (i : Nat) | tp (l : List Tg)
mutual
/-- views are bound -/
def bindV : Tg → D → Env → Option Env
  | .nm i, d, env => if i < env.length then some (env.set i (.view d)) else none
  | .tp l, .tuple ds, env => bindVs l ds env
  | .tp _, _, _ => none
def bindVs : List Tg → List D → Env → Option Env
  | [], [], env => some env
  | t :: ts, d :: ds, env => (bindV t d env).bind fun env' => bindVs ts ds env'
  | _, _, _ => none
end
mutual
/-- own values are bound -/
def bindO : Tg → D → Env → Option Env
  | .nm i, d, env => if i < env.length then some (env.set i (.own d)) else none
  | .tp l, .tuple ds, env => bindOs l ds env
  | .tp _, _, _ => none
def bindOs : List Tg → List D → Env → Option Env
  | [], [], env => some env
  | t :: ts, d :: ds, env => (bindO t d env).bind fun env' => bindOs ts ds env'
  | _, _, _ => none
end
/-- slots stored to -/
structure Bound (K : Frag) (W : Addr → Prop) (A : List Nat) (H : Hp) (fs : Fs) (gg : List Addr) (σ σ' : L2.St) (env' : Env) (fs' : Fs) : Prop where
  renv : RepEnv K W H σ' env' fs'
  sub : ∀ i a, a ∈ fs' i → a ∈ fs i ∨ a ∈ gg
  keep : ∀ i, i ∉ A → σ'[i]? = σ[i]?
  len : σ'.length = σ.length
  kf : ∀ i, i ∉ A → fs' i = fs i
def tGV (K : Frag) (n : Nat) (A : List Nat) (t : Tg) : TG := fun v σ H Q => ∃ d g W env env' fs, σ.length = n ∧ RepEnv K W H σ env fs ∧ Rep K H v d g ∧ (∀ a ∈ g, W a) ∧ bindV t d env = some env' ∧ ∀ σ' fs', Bound K W A H fs [] σ σ' env' fs' → Q σ' H
def tGVs (K : Frag) (n : Nat) (A : List Nat) (t : List Tg) : TGs := fun v σ H Q => ∃ d g W env env' fs, σ.length = n ∧ RepEnv K W H σ env fs ∧ RepL K H v d g ∧ (∀ a ∈ g, W a) ∧ bindVs t d env = some env' ∧ ∀ σ' fs', Bound K W A H fs [] σ σ' env' fs' → Q σ' H
def tGO (K : Frag) (n : Nat) (A : List Nat) (t : Tg) : TG := fun v σ H Q => ∃ d g W env env' fs, σ.length = n ∧ RepEnv K W H σ env fs ∧ Rep K H v d g ∧ (g.Nodup ∧ (∀ a ∈ g, ∀ j, a ∉ fs j) ∧ (∀ a ∈ g, Pl H a) ∧ ∀ a ∈ g, ¬ W a) ∧ bindO t d env = some env' ∧ ∀ σ' fs', Bound K W A H fs g σ σ' env' fs' → Q σ' H
def tGOs (K : Frag) (n : Nat) (A : List Nat) (t : List Tg) : TGs := fun v σ H Q => ∃ d g W env env' fs, σ.length = n ∧ RepEnv K W H σ env fs ∧ RepL K H v d g ∧ (g.Nodup ∧ (∀ a ∈ g, ∀ j, a ∉ fs j) ∧ (∀ a ∈ g, Pl H a) ∧ ∀ a ∈ g, ¬ W a) ∧ bindOs t d env = some env' ∧ ∀ σ' fs', Bound K W A H fs g σ σ' env' fs' → Q σ' H
structure DG (X : Cx) (A : List Nat) (e : Expr) (t : Tg) : Prop where
  v : PG X e (tGV X.K X.N.length A t)
  o : PG X e (tGO X.K X.N.length A t)
structure DGs (X : Cx) (A : List Nat) (es : List Expr) (t : List Tg) : Prop where
  v : PGs X es (tGVs X.K X.N.length A t)
  o : PGs X es (tGOs X.K X.N.length A t)
theorem PG.mono {e : Expr} {t t' : TG} (h : PG X e t) (m : ∀ v σ H Q, t' v σ H Q → t v σ H Q) : PG X e t' := ⟨fun pins s σ H v u Q I r w => h.run pins s σ H v u Q I r (m v σ H Q w)⟩
theorem PGs.mono {es : List Expr} {t t' : TGs} (h : PGs X es t) (m : ∀ v σ H Q, t' v σ H Q → t v σ H Q) : PGs X es t' := ⟨fun pins s σ H v u Q I r w => h.run pins s σ H v u Q I r (m v σ H Q w)⟩
theorem dg_name {i : Nat} {x : Str} (hN : X.N.Nodup) (hi : X.N[i]? = some x := by rfl) (hx : Loc X.env.scope x := by first | exact .inl rfl | exact .inr rfl) (hf : X.fn x = true ∨ X.env.scope.names.lookup x = some .local := by first | exact .inl rfl | exact .inr rfl) : DG X [i] (.Name x pos) (.nm i) where
  v := PG.mono (pg_name hN hi hx hf) fun v σ H Q ⟨d, g, W, env, env', fs, hl, he, r, w, hb, q⟩ => by
    have hσ : i < σ.length := by rw [hl]; exact (List.getElem?_eq_some_iff.mp hi).1
    unfold bindV at hb
    by_cases c : i < env.length
    · rw [if_pos c] at hb
      cases hb
      refine q _ (fput fs i []) ⟨he.lay c (fun j hj => List.getElem?_set_ne (Ne.symm hj)) ⟨if_pos rfl, v, g, st_get hσ, r, w⟩, fun j a ha => .inl (fput_sub j a ha), fun j hj => List.getElem?_set_ne fun e => hj (by simp [e]), by simp, fun j hj => if_neg fun e => hj (by simp [e])⟩
    · rw [if_neg c] at hb
      cases hb
  o := PG.mono (pg_name hN hi hx hf) fun v σ H Q ⟨d, g, W, env, env', fs, hl, he, r, w, hb, q⟩ => by
    have hσ : i < σ.length := by rw [hl]; exact (List.getElem?_eq_some_iff.mp hi).1
    unfold bindO at hb
    by_cases c : i < env.length
    · rw [if_pos c] at hb
      cases hb
      refine q _ (fput fs i g) ⟨he.put c hσ r w.1 w.2.1 w.2.2.1 w.2.2.2, fun j a ha => ?_, fun j hj => List.getElem?_set_ne fun e => hj (by simp [e]), by simp, fun j hj => if_neg fun e => hj (by simp [e])⟩
      unfold fput at ha
      by_cases e : j = i
      · rw [if_pos e] at ha; exact .inr ha
      · rw [if_neg e] at ha; exact .inl ha
    · rw [if_neg c] at hb
      cases hb
theorem dgs_nil : DGs X [] [] [] where
  v := PGs.mono pgs_nil fun v σ H Q ⟨d, g, W, env, env', fs, hl, he, r, w, hb, q⟩ => by
    cases d with
    | nil =>
      cases r
      cases hb
      exact ⟨rfl, q σ fs ⟨he, fun _ _ z => .inl z, fun _ _ => rfl, rfl, fun _ _ => rfl⟩⟩
    | cons _ _ => simp [bindVs] at hb
  o := PGs.mono pgs_nil fun v σ H Q ⟨d, g, W, env, env', fs, hl, he, r, w, hb, q⟩ => by
    cases d with
    | nil =>
      cases r
      cases hb
      exact ⟨rfl, q σ fs ⟨he, fun _ _ z => .inl z, fun _ _ => rfl, rfl, fun _ _ => rfl⟩⟩
    | cons _ _ => simp [bindOs] at hb
theorem dgs_cons {e : Expr} {es : List Expr} {t : Tg} {ts : List Tg} (h1 : DG X A1 e t) (h2 : DGs X A2 es ts) (hs : (assignEach (e :: es) X.env).map (·.2) = assign e X.env :: (assignEach es X.env).map (·.2) := by rfl) : DGs X (A1 ++ A2) (e :: es) (t :: ts) where
  v := PGs.mono (pgs_cons h1.v h2.v hs) fun v σ H Q ⟨d, g, W, env, env', fs, hl, he, r, w, hb, q⟩ => by
    cases d with
    | nil => simp [bindVs] at hb
    | cons d ds =>
      obtain ⟨env1, b1, b2⟩ := Option.bind_eq_some_iff.mp (show (bindV t d env).bind (fun env' => bindVs ts ds env') = some env' from hb)
      cases r with
      | cons r1 r2 =>
        refine ⟨_, _, rfl, d, _, W, env, env1, fs, hl, he, r1, fun a ha => w a (List.mem_append_left _ ha), b1, fun σ1 fs1 m1 => ?_⟩
        refine ⟨ds, _, W, env1, env', fs1, m1.len.trans hl, m1.renv, r2, fun a ha => w a (List.mem_append_right _ ha), b2, fun σ2 fs2 m2 => ?_⟩
        refine q σ2 fs2 ⟨m2.renv, fun i a ha => ?_, fun i hi => ?_, m2.len.trans m1.len, fun i hi => (m2.kf i fun z => hi (List.mem_append_right _ z)).trans (m1.kf i fun z => hi (List.mem_append_left _ z))⟩
        · rcases m2.sub i a ha with z | z
          · exact m1.sub i a z
          · exact .inr z
        · exact (m2.keep i fun z => hi (List.mem_append_right _ z)).trans (m1.keep i fun z => hi (List.mem_append_left _ z))
  o := PGs.mono (pgs_cons h1.o h2.o hs) fun v σ H Q ⟨d, g, W, env, env', fs, hl, he, r, w, hb, q⟩ => by
    cases d with
    | nil => simp [bindOs] at hb
    | cons d ds =>
      obtain ⟨env1, b1, b2⟩ := Option.bind_eq_some_iff.mp (show (bindO t d env).bind (fun env' => bindOs ts ds env') = some env' from hb)
      cases r with
      | cons r1 r2 =>
        obtain ⟨wn, wa, wp, wo⟩ := w
        obtain ⟨n1, n2, n3⟩ := List.nodup_append.mp wn
        refine ⟨_, _, rfl, d, _, W, env, env1, fs, hl, he, r1, ⟨n1, fun a ha => wa a (List.mem_append_left _ ha), fun a ha => wp a (List.mem_append_left _ ha), fun a ha => wo a (List.mem_append_left _ ha)⟩, b1, fun σ1 fs1 m1 => ?_⟩
        refine ⟨ds, _, W, env1, env', fs1, m1.len.trans hl, m1.renv, r2, ⟨n2, fun a ha j hj => ?_, fun a ha => wp a (List.mem_append_right _ ha), fun a ha => wo a (List.mem_append_right _ ha)⟩, b2, fun σ2 fs2 m2 => ?_⟩
        · rcases m1.sub j a hj with z | z
          · exact wa a (List.mem_append_right _ ha) j z
          · exact n3 a z a ha rfl
        · refine q σ2 fs2 ⟨m2.renv, fun i a ha => ?_, fun i hi => ?_, m2.len.trans m1.len, fun i hi => (m2.kf i fun z => hi (List.mem_append_right _ z)).trans (m1.kf i fun z => hi (List.mem_append_left _ z))⟩
          · rcases m2.sub i a ha with z | z
            · rcases m1.sub i a z with y | y
              · exact .inl y
              · exact .inr (List.mem_append_left _ y)
            · exact .inr (List.mem_append_right _ z)
          · exact (m2.keep i fun z => hi (List.mem_append_right _ z)).trans (m1.keep i fun z => hi (List.mem_append_left _ z))
theorem bindVs_len : ∀ {ts : List Tg} {ds : List D} {env env' : Env}, bindVs ts ds env = some env' → ds.length = ts.length
  | [], [], _, _, _ => rfl
  | [], _ :: _, _, _, h => by simp [bindVs] at h
  | _ :: _, [], _, _, h => by simp [bindVs] at h
  | t :: ts, d :: ds, env, env', h => by
    obtain ⟨env1, b1, b2⟩ := Option.bind_eq_some_iff.mp (show (bindV t d env).bind (fun env' => bindVs ts ds env') = some env' from h)
    simp [bindVs_len b2]
theorem bindOs_len : ∀ {ts : List Tg} {ds : List D} {env env' : Env}, bindOs ts ds env = some env' → ds.length = ts.length
  | [], [], _, _, _ => rfl
  | [], _ :: _, _, _, h => by simp [bindOs] at h
  | _ :: _, [], _, _, h => by simp [bindOs] at h
  | t :: ts, d :: ds, env, env', h => by
    obtain ⟨env1, b1, b2⟩ := Option.bind_eq_some_iff.mp (show (bindO t d env).bind (fun env' => bindOs ts ds env') = some env' from h)
    simp [bindOs_len b2]
theorem dg_tup {es : List Expr} {ts : List Tg} {k : Nat} (hc : X.calm = true) (h : DGs X A es ts) (hn : (assignEach es X.env).length = ts.length := by rfl) (hst : (assignEach es X.env).findIdx? (·.1) = none := by rfl) : DG X A (.Tuple es k pos) (.tp ts) where
  v := PG.mono (pg_tup hc h.v hn hst) fun v σ H Q ⟨d, g, W, env, env', fs, hl, he, r, w, hb, q⟩ => by
    cases d with
    | tuple ds =>
      have hb' : bindVs ts ds env = some env' := by simpa [bindV] using hb
      cases r with
      | tup h1 l1 => exact ⟨_, _, rfl, h1, by rw [RepL.length l1]; exact bindVs_len hb', ds, g, W, env, env', fs, hl, he, l1, w, hb', q⟩
    | _ => simp [bindV] at hb
  o := PG.mono (pg_tup hc h.o hn hst) fun v σ H Q ⟨d, g, W, env, env', fs, hl, he, r, w, hb, q⟩ => by
    cases d with
    | tuple ds =>
      have hb' : bindOs ts ds env = some env' := by simpa [bindO] using hb
      cases r with
      | tup h1 l1 => exact ⟨_, _, rfl, h1, by rw [RepL.length l1]; exact bindOs_len hb', ds, g, W, env, env', fs, hl, he, l1, w, hb', q⟩
    | _ => simp [bindO] at hb
/-- target = e, e one's own -/
def sAsg (t : Tg) (f : Ev) : Sv := fun env => (f env).bind fun x => (R.of (bindO t x.1 x.2)).bind fun e => .ok (.nx e)
theorem ds_asg {tg e : Expr} {t : Tg} {f : Ev} (hg : DG X A tg t) (h : DE X E p true e f) (hs : swapsWithSole [tg] e pos.line X.env = pure false := by rfl) (hw : swappedStores [tg] e X.env = pure none := by rfl)
    (h1 : (assignEach [tg] X.env).map (·.2) = [assign tg X.env] := by rfl) : DS X E A (.Assign [tg] e pos) (sAsg t f) := by
  refine DS.impL (ps_asg h hg.o hs hw h1) fun D σ H env fs W hl he q => tD_then (k := fun d e => (R.of (bindO t d e)).bind fun e => .ok (.nx e)) he rfl q fun d env1 v H1 fs1 gg P z => ?_
  cases hb : bindO t d env1 with
  | none => rw [hb] at z; exact z.elim
  | some env2 =>
    rw [hb] at z
    have w := P.own rfl
    refine ⟨d, gg, W, env1, env2, fs1, hl, P.step.renv, P.rep, ⟨w.nd, w.apart, w.pl, w.off he⟩, hb, fun σ' fs' m => z W σ' H1 fs' ⟨P.step.ext, m.renv, fun _ z => z, fun i a ha => ?_, m.keep⟩⟩
    rcases m.sub i a ha with y | y
    · exact P.step.sub i a y
    · exact w.sub a y
/-- a, b = e1, e2 (own); three -/
def sPar (i j : Nat) (f : EvA) : Sv := fun env => (f env).bind fun x => match x.1 with
  | [d, e] => if i < x.2.length ∧ j < x.2.length then .ok (.nx ((x.2.set i (.own d)).set j (.own e))) else .no
  | _ => .no
end
end DV
end
section
set_option Elab.async false
set_option linter.all false
set_option maxRecDepth 100000
namespace DV
open PySem PySem.Spec PyProof.Rows L2
section
variable {K : Frag} {W W' : Addr → Prop} {E : XK} {H H' H1 H2 : Hp} {σ σ' σ1 σ2 : L2.St} {env env' env1 env2 : Env} {fs fs' fs1 fs2 : Fs}
theorem RepEnv.more (h : RepEnv K W H σ env fs) (hm : ∀ a, W a → W' a) (off : ∀ i, ∀ a ∈ fs i, ¬ W' a) (wt : ∀ a, W' a → ∃ o, H a = some o) : RepEnv K W' H σ env fs where
  slot := fun i => by
    have q := h.slot i
    cases e : env.at i with
    | dead => rw [e] at q; exact q
    | own d => rw [e] at q; exact q
    | view d =>
      rw [e] at q
      obtain ⟨z, v, g, e1, r, n⟩ := q
      exact ⟨z, v, g, e1, r, fun a ha => hm a (n a ha)⟩
  disj := h.disj
  nd := h.nd
  pl := h.pl
  off := off
  wt := wt
theorem RepL.split {v w : V} {d e : D} {g : List Addr} (h : RepL K H [v, w] [d, e] g) : ∃ g1 g2, g = g1 ++ g2 ∧ Rep K H v d g1 ∧ Rep K H w e g2 := by
  cases h with
  | cons h1 h2 =>
    cases h2 with
    | cons h2 h3 =>
      cases h3
      exact ⟨_, _, by rw [List.append_nil], h1, h2⟩
theorem RepL.split3 {u v w : V} {c d e : D} {g : List Addr} (h : RepL K H [u, v, w] [c, d, e] g) : ∃ g0 g1 g2, g = g0 ++ (g1 ++ g2) ∧ Rep K H u c g0 ∧ Rep K H v d g1 ∧ Rep K H w e g2 := by
  cases h with
  | cons h0 h1 =>
    obtain ⟨g1, g2, e, r1, r2⟩ := RepL.split h1
    exact ⟨_, g1, g2, by rw [e], h0, r1, r2⟩
theorem fput_apart {i : Nat} {g g2 : List Addr} (a : ∀ a ∈ g2, ∀ j, a ∉ fs j) (b : ∀ a ∈ g2, a ∉ g) : ∀ a ∈ g2, ∀ j, a ∉ fput fs i g j := fun x hx j hj => by
  unfold fput at hj
  by_cases e : j = i
  · rw [if_pos e] at hj; exact b x hx hj
  · rw [if_neg e] at hj; exact a x hx j hj
end
section
variable {X : Cx} {E : XK} {p p1 p2 p3 o o1 o2 o3 : Bool} {A A1 A2 : List Nat} {pos : Pos}
/-- an argument list's reading ahead of what follows -/
theorem tDA_then {f : EvA} {k : List D → Env → R Out} {g : Sv} {Dn : Ends} {σ : L2.St} {H : Hp} {env : Env} {fs : Fs} {W : Addr → Prop} {Q : List V → Hp → Prop} (he : RepEnv X.K W H σ env fs) (hg : g env = (f env).bind fun x => k x.1 x.2) (h : OutP X.K E W A Dn σ H fs (g env))
    (q : ∀ d env1 v H1 fs1 gg, PostL X.K W p o H env fs H1 σ env1 fs1 v d gg → OutP X.K E W A Dn σ H fs (k d env1) → Q v H1) : tDA X.K E p o f σ H Q := by
  refine ⟨env, fs, W, he, ?_⟩
  rw [hg] at h
  cases e1 : f env with
  | no => rw [e1] at h; exact h
  | ex c => rw [e1] at h; exact h
  | ok x =>
    obtain ⟨d, env1⟩ := x
    rw [e1] at h
    exact fun v H1 fs1 gg P => q d env1 v H1 fs1 gg P h
def par2 (i j : Nat) : List D → Env → R Out
  | [d, e], env => if i < env.length ∧ j < env.length then .ok (.nx ((env.set i (.own d)).set j (.own e))) else .no
  | _, _ => .no
def sPar2 (i j : Nat) (f : EvA) : Sv := fun env => (f env).bind fun x => par2 i j x.1 x.2
theorem ds_par2 {i j : Nat} {x y : Str} {a b : Expr} {f : EvA} {px py pt : Pos} {kt k2 pt2} (hc : X.calm = true) (hN : X.N.Nodup) (h : DA X E p true [a, b] f) (hi : X.N[i]? = some x := by rfl) (hj : X.N[j]? = some y := by rfl) (hij : i ≠ j := by decide)
    (hx : X.env.scope.names.lookup x = some .local := by rfl) (hy : X.env.scope.names.lookup y = some .local := by rfl)
    (hw : swappedStores [.Tuple [.Name x px, .Name y py] kt pt] (.Tuple [a, b] k2 pt2) X.env = pure (some [x, y]) := by rfl)
    (hs : swapsWithSole [.Tuple [.Name x px, .Name y py] kt pt] (.Tuple [a, b] k2 pt2) pos.line X.env = pure false := by rfl) :
    DS X E [i, j] (.Assign [.Tuple [.Name x px, .Name y py] kt pt] (.Tuple [a, b] k2 pt2) pos) (sPar2 i j f) := by
  refine DS.impL (ps_par hc hN hi hj hij hx hy h hw hs) fun D σ H env fs W hl he q => tDA_then (k := par2 i j) he rfl q fun ds env1 vs H1 fs1 gg P z => ?_
  have hσi : i < σ.length := by rw [hl]; exact (List.getElem?_eq_some_iff.mp hi).1
  have hσj : j < σ.length := by rw [hl]; exact (List.getElem?_eq_some_iff.mp hj).1
  have w := P.own rfl
  have r := P.rep
  match ds, z with
  | [d, e], z =>
    simp only [par2] at z
    by_cases c : i < env1.length ∧ j < env1.length
    · rw [if_pos c] at z
      have n := RepL.length r
      match vs, n with
      | [v, u], _ =>
        obtain ⟨g1, g2, eg, r1, r2⟩ := RepL.split r
        subst eg
        obtain ⟨n1, n2, n3⟩ := List.nodup_append.mp w.nd
        have off := w.off he
        have R1 := P.step.renv.put c.1 hσi r1 n1 (fun a ha => w.apart a (List.mem_append_left _ ha)) (fun a ha => w.pl a (List.mem_append_left _ ha)) fun a ha => off a (List.mem_append_left _ ha)
        have R2 := R1.put (i := j) (by simpa using c.2) (by simpa using hσj) r2 n2 (fput_apart (fun a ha => w.apart a (List.mem_append_right _ ha)) fun a ha hb => n3 a hb a ha rfl) (fun a ha => w.pl a (List.mem_append_right _ ha)) fun a ha => off a (List.mem_append_right _ ha)
        refine ⟨v, u, rfl, z W _ H1 _ ⟨P.step.ext, R2, fun _ z => z, fun k a ha => ?_, fun k hk => ?_⟩⟩
        · unfold fput at ha
          by_cases e1 : k = j
          · rw [if_pos e1] at ha; exact w.sub a (List.mem_append_right _ ha)
          · rw [if_neg e1] at ha
            by_cases e2 : k = i
            · rw [if_pos e2] at ha; exact w.sub a (List.mem_append_left _ ha)
            · rw [if_neg e2] at ha; exact P.step.sub k a ha
        · rw [List.getElem?_set_ne (fun e => hk (by simp [e])), List.getElem?_set_ne (fun e => hk (by simp [e]))]
    · rw [if_neg c] at z
      exact z.elim
  | [], z => exact z.elim
  | [_], z => exact z.elim
  | _ :: _ :: _ :: _, z => exact z.elim
def par3 (i j l : Nat) : List D → Env → R Out
  | [c, d, e], env => if i < env.length ∧ j < env.length ∧ l < env.length then .ok (.nx (((env.set i (.own c)).set j (.own d)).set l (.own e))) else .no
  | _, _ => .no
def sPar3 (i j l : Nat) (f : EvA) : Sv := fun env => (f env).bind fun x => par3 i j l x.1 x.2
theorem ds_par3 {i j l : Nat} {x y z : Str} {a b c : Expr} {f : EvA} {px py pz pt : Pos} {kt k2 pt2} (hc : X.calm = true) (hN : X.N.Nodup) (h : DA X E p true [a, b, c] f) (hi : X.N[i]? = some x := by rfl) (hj : X.N[j]? = some y := by rfl) (hl : X.N[l]? = some z := by rfl) (hij : i ≠ j := by decide) (hil : i ≠ l := by decide) (hjl : j ≠ l := by decide)
    (hx : X.env.scope.names.lookup x = some .local := by rfl) (hy : X.env.scope.names.lookup y = some .local := by rfl) (hz : X.env.scope.names.lookup z = some .local := by rfl)
    (hw : swappedStores [.Tuple [.Name x px, .Name y py, .Name z pz] kt pt] (.Tuple [a, b, c] k2 pt2) X.env = pure (some [x, y, z]) := by rfl)
    (hs : swapsWithSole [.Tuple [.Name x px, .Name y py, .Name z pz] kt pt] (.Tuple [a, b, c] k2 pt2) pos.line X.env = pure false := by rfl) :
    DS X E [i, j, l] (.Assign [.Tuple [.Name x px, .Name y py, .Name z pz] kt pt] (.Tuple [a, b, c] k2 pt2) pos) (sPar3 i j l f) := by
  refine DS.impL (ps_par3 hc hN hi hj hl hij hil hjl hx hy hz h hw hs) fun D σ H env fs W hlen he q => tDA_then (k := par3 i j l) he rfl q fun ds env1 vs H1 fs1 gg P z => ?_
  have hσi : i < σ.length := by rw [hlen]; exact (List.getElem?_eq_some_iff.mp hi).1
  have hσj : j < σ.length := by rw [hlen]; exact (List.getElem?_eq_some_iff.mp hj).1
  have hσl : l < σ.length := by rw [hlen]; exact (List.getElem?_eq_some_iff.mp hl).1
  have w := P.own rfl
  have r := P.rep
  match ds, z with
  | [d, e, f], z =>
    simp only [par3] at z
    by_cases c : i < env1.length ∧ j < env1.length ∧ l < env1.length
    · rw [if_pos c] at z
      have n := RepL.length r
      match vs, n with
      | [v, u, t], _ =>
        obtain ⟨g0, g1, g2, eg, r0, r1, r2⟩ := RepL.split3 r
        subst eg
        obtain ⟨n0, n12, n3⟩ := List.nodup_append.mp w.nd
        obtain ⟨n1, n2, n4⟩ := List.nodup_append.mp n12
        have off := w.off he
        have m1 : ∀ {a : Addr}, a ∈ g1 → a ∈ g0 ++ (g1 ++ g2) := fun h => List.mem_append_right _ (List.mem_append_left _ h)
        have m2 : ∀ {a : Addr}, a ∈ g2 → a ∈ g0 ++ (g1 ++ g2) := fun h => List.mem_append_right _ (List.mem_append_right _ h)
        have R1 := P.step.renv.put c.1 hσi r0 n0 (fun a ha => w.apart a (List.mem_append_left _ ha)) (fun a ha => w.pl a (List.mem_append_left _ ha)) fun a ha => off a (List.mem_append_left _ ha)
        have R2 := R1.put (i := j) (by simpa using c.2.1) (by simpa using hσj) r1 n1 (fput_apart (fun a ha => w.apart a (m1 ha)) fun a ha hb => n3 a hb a (List.mem_append_left _ ha) rfl) (fun a ha => w.pl a (m1 ha)) fun a ha => off a (m1 ha)
        have R3 := R2.put (i := l) (by simpa using c.2.2) (by simpa using hσl) r2 n2 (fput_apart (fput_apart (fun a ha => w.apart a (m2 ha)) fun a ha hb => n3 a hb a (List.mem_append_right _ ha) rfl) fun a ha hb => n4 a hb a ha rfl) (fun a ha => w.pl a (m2 ha)) fun a ha => off a (m2 ha)
        refine ⟨v, u, t, rfl, z W _ H1 _ ⟨P.step.ext, R3, fun _ z => z, fun k a ha => ?_, fun k hk => ?_⟩⟩
        · unfold fput at ha
          by_cases e1 : k = l
          · rw [if_pos e1] at ha; exact w.sub a (m2 ha)
          · rw [if_neg e1] at ha
            by_cases e2 : k = j
            · rw [if_pos e2] at ha; exact w.sub a (m1 ha)
            · rw [if_neg e2] at ha
              by_cases e3 : k = i
              · rw [if_pos e3] at ha; exact w.sub a (List.mem_append_left _ ha)
              · rw [if_neg e3] at ha; exact P.step.sub k a ha
        · rw [List.getElem?_set_ne (fun e => hk (by simp [e])), List.getElem?_set_ne (fun e => hk (by simp [e])), List.getElem?_set_ne (fun e => hk (by simp [e]))]
    · rw [if_neg c] at z
      exact z.elim
  | [], z => exact z.elim
  | [_], z => exact z.elim
  | [_, _], z => exact z.elim
  | _ :: _ :: _ :: _ :: _, z => exact z.elim
/-! ### while -/
def loopK (f : Sv) : Out → R Out
  | .nx e => f e
  | .ct e => f e
  | .bk e => .ok (.nx e)
  | .rt d e => .ok (.rt d e)
def whileN (ks : List Nat) (t : Et) (b : Sv) : Nat → Sv
  | 0 => fun _ => .no
  | n + 1 => fun env => (t (killS ks env)).bind fun x => if x.1 = true then (b x.2).bind (loopK (whileN ks t b n)) else .ok (.nx x.2)
open Classical in
noncomputable def sWhile (ks : List Nat) (t : Et) (b : Sv) : Sv := fun env => if h : ∃ n, whileN ks t b n env ≠ .no then whileN ks t b h.choose env else .no
theorem whileN_mono {ks : List Nat} {t : Et} {b : Sv} : ∀ {n : Nat} {env : Env} {r : R Out}, whileN ks t b n env = r → r ≠ .no → whileN ks t b (n + 1) env = r
  | 0, env, r, h, hr => absurd h.symm hr
  | n + 1, env, r, h, hr => by
    unfold whileN at h ⊢
    cases e1 : t (killS ks env) with
    | no => rw [e1] at h; exact h
    | ex c => rw [e1] at h; exact h
    | ok x =>
      obtain ⟨c, env1⟩ := x
      rw [e1] at h
      simp only [R.bind] at h ⊢
      by_cases hc : c = true
      · rw [if_pos hc] at h ⊢
        cases e2 : b env1 with
        | no => rw [e2] at h; exact h
        | ex c => rw [e2] at h; exact h
        | ok o =>
          rw [e2] at h
          cases o with
          | nx e => exact whileN_mono (n := n) h hr
          | ct e => exact whileN_mono (n := n) h hr
          | bk e => exact h
          | rt d e => exact h
      · rw [if_neg hc] at h ⊢
        exact h
theorem whileN_le {ks : List Nat} {t : Et} {b : Sv} {n : Nat} {env : Env} {r : R Out} (h : whileN ks t b n env = r) (hr : r ≠ .no) : ∀ k, whileN ks t b (n + k) env = r
  | 0 => h
  | k + 1 => whileN_mono (whileN_le h hr k) hr
theorem sWhile_of {ks : List Nat} {t : Et} {b : Sv} {n : Nat} {env : Env} {r : R Out} (h : whileN ks t b n env = r) (hr : r ≠ .no) : sWhile ks t b env = r := by
  have hx : ∃ n, whileN ks t b n env ≠ .no := ⟨n, by rw [h]; exact hr⟩
  unfold sWhile
  rw [dif_pos hx]
  have h2 := hx.choose_spec
  have a := whileN_le (rfl : whileN ks t b hx.choose env = _) h2 n
  have b := whileN_le h hr hx.choose
  rw [Nat.add_comm] at b
  exact a.symm.trans b
theorem sWhile_eq {ks : List Nat} {t : Et} {b : Sv} (env : Env) : sWhile ks t b env = (t (killS ks env)).bind fun x => if x.1 = true then (b x.2).bind (loopK (sWhile ks t b)) else .ok (.nx x.2) := by
  by_cases hz : ((t (killS ks env)).bind fun x => if x.1 = true then (b x.2).bind (loopK (sWhile ks t b)) else .ok (.nx x.2)) = .no
  · rw [hz]
    unfold sWhile
    by_cases hx : ∃ n, whileN ks t b n env ≠ .no
    · exfalso
      obtain ⟨n, hn⟩ := hx
      cases n with
      | zero => exact hn rfl
      | succ n =>
        unfold whileN at hn
        cases e1 : t (killS ks env) with
        | no => rw [e1] at hn; exact hn rfl
        | ex c => rw [e1] at hz; cases hz
        | ok x =>
          obtain ⟨c, env1⟩ := x
          rw [e1] at hn hz
          simp only [R.bind] at hn hz
          by_cases hc : c = true
          · rw [if_pos hc] at hn hz
            cases e2 : b env1 with
            | no => rw [e2] at hn; exact hn rfl
            | ex c => rw [e2] at hz; cases hz
            | ok o =>
              rw [e2] at hn hz
              cases o with
              | nx e =>
                have := sWhile_of (rfl : whileN ks t b n e = _) hn
                exact hn (this.symm.trans hz)
              | ct e =>
                have := sWhile_of (rfl : whileN ks t b n e = _) hn
                exact hn (this.symm.trans hz)
              | bk e => cases hz
              | rt d e => cases hz
          · rw [if_neg hc] at hz; cases hz
    · rw [dif_neg hx]
  · -- the right side is one turn of some whileN
    have key : ∃ n, whileN ks t b n env = ((t (killS ks env)).bind fun x => if x.1 = true then (b x.2).bind (loopK (sWhile ks t b)) else .ok (.nx x.2)) := by
      cases e1 : t (killS ks env) with
      | no => rw [e1] at hz; exact absurd rfl hz
      | ex c => exact ⟨1, by unfold whileN; rw [e1]; rfl⟩
      | ok x =>
        obtain ⟨c, env1⟩ := x
        rw [e1] at hz
        simp only [R.bind] at hz ⊢
        by_cases hc : c = true
        · rw [if_pos hc] at hz ⊢
          cases e2 : b env1 with
          | no => rw [e2] at hz; exact absurd rfl hz
          | ex c => exact ⟨1, by unfold whileN; rw [e1]; simp only [R.bind]; rw [if_pos hc, e2]⟩
          | ok o =>
            rw [e2] at hz
            have more : ∀ e, sWhile ks t b e ≠ .no → ∃ n, whileN ks t b n e = sWhile ks t b e := fun e he => by
              unfold sWhile at he ⊢
              by_cases hx : ∃ n, whileN ks t b n e ≠ .no
              · rw [dif_pos hx]; exact ⟨_, rfl⟩
              · rw [dif_neg hx] at he; exact absurd rfl he
            cases o with
            | nx e =>
              obtain ⟨n, hn⟩ := more e hz
              exact ⟨n + 1, by unfold whileN; rw [e1]; simp only [R.bind]; rw [if_pos hc, e2]; exact hn⟩
            | ct e =>
              obtain ⟨n, hn⟩ := more e hz
              exact ⟨n + 1, by unfold whileN; rw [e1]; simp only [R.bind]; rw [if_pos hc, e2]; exact hn⟩
            | bk e => exact ⟨1, by unfold whileN; rw [e1]; simp only [R.bind]; rw [if_pos hc, e2]; rfl⟩
            | rt d e => exact ⟨1, by unfold whileN; rw [e1]; simp only [R.bind]; rw [if_pos hc, e2]; rfl⟩
        · rw [if_neg hc]
          exact ⟨1, by unfold whileN; rw [e1]; simp only [R.bind]; rw [if_neg hc]⟩
    obtain ⟨n, hn⟩ := key
    exact sWhile_of hn hz
/-- one turn of a loop: what the body is to reach -/
theorem OutP.turn {K : Frag} {W : Addr → Prop} {Dn : Ends} {σ : L2.St} {H : Hp} {fs : Fs} {r : R Out} {f : Sv} {N : L2.St → Hp → Prop} (s : ∀ i, i ∈ A1 → i ∈ A) (h : OutP K E W A Dn σ H fs (r.bind (loopK f)))
    (n : ∀ W' σ' H' env' fs', Move K W W' A1 H fs H' σ σ' env' fs' → OutP K E W' A Dn σ' H' fs' (f env') → N σ' H') : OutP K E W A1 { Dn with nx := N, ct := N, bk := Dn.nx } σ H fs r := by
  cases r with
  | no => exact h
  | ex c => exact h
  | ok o =>
    cases o with
    | nx e => exact fun W' σ' H' fs' m => n W' σ' H' e fs' m (OutP.moved h (m.mono s))
    | ct e => exact fun W' σ' H' fs' m => n W' σ' H' e fs' m (OutP.moved h (m.mono s))
    | bk e => exact fun W' σ' H' fs' m => h W' σ' H' fs' (m.mono s)
    | rt d e => exact fun W' v σ' H' fs' g m => h W' v σ' H' fs' g (m.mono s)
theorem ds_while {c : Expr} {body : List Stmt} {t : Et} {b : Sv} {ks : List Nat} (hp : PassesOwn (model X.prog X.w) X.A X.env X.xe) (hc : DT X E p c t) (hb : DB X E A body b) : DS X E A (.While c body [] pos) (sWhile ks t b) := by
  refine DS.imp (ps_while hp hc hb) fun D σ H env fs W he q => ?_
  refine ⟨fun n σ H => ∃ env fs W, RepEnv X.K W H σ env fs ∧ OutP X.K E W A D σ H fs (whileN ks t b n env), ?_, ?_⟩
  · unfold sWhile at q
    by_cases hx : ∃ n, whileN ks t b n env ≠ .no
    · rw [dif_pos hx] at q
      exact ⟨hx.choose, env, fs, W, he, q⟩
    · rw [dif_neg hx] at q
      exact q.elim
  · rintro n σ1 H1 ⟨env1, fs1, W1, he1, q1⟩
    cases n with
    | zero => exact q1.elim
    | succ n =>
      obtain ⟨fs2, he2, s2⟩ := he1.kill ks
      refine tDT_then (f := t) (k := fun c e => if c = true then (b e).bind (loopK (whileN ks t b n)) else .ok (.nx e)) (g := fun e => (t e).bind fun x => if x.1 = true then (b x.2).bind (loopK (whileN ks t b n)) else .ok (.nx x.2)) he2 rfl (OutP.less q1 s2) fun c env3 H3 fs3 S z => ?_
      cases c with
      | false =>
        rw [if_neg Bool.false_ne_true] at z ⊢
        exact z W1 σ1 H3 fs3 (Move.refl S.renv)
      | true =>
        rw [if_pos rfl] at z ⊢
        refine ⟨fun σ' H' => ∃ env fs W, RepEnv X.K W H' σ' env fs ∧ OutP X.K E W A D σ' H' fs (whileN ks t b n env), fun σ' H' z => ⟨n, Nat.lt_succ_self _, z⟩, ?_⟩
        exact tS_iff.mpr ⟨env3, fs3, W1, S.renv, OutP.turn (fun _ z => z) z fun W' σ' H' env' fs' m y => ⟨env', fs', W', m.renv, y⟩⟩
end
end DV
end
section
set_option Elab.async false
set_option linter.all false
set_option maxRecDepth 100000
namespace DV
open PySem PySem.Spec PyProof.Rows L2
/-! ### what is iterated over -/
/-- the items ds are told one by one; what they hold stands protected in W' -/
def ItOk (K : Frag) (W' : Addr → Prop) (H0 : Hp) (fs0 : Fs) (J : It) (ds : List D) : Prop :=
  Walk J ds.length (fun H => Ext H0 H fs0) (fun i H x H' => Same H H' ∧ ∃ d g, ds[i]? = some d ∧ Rep K H' x d g ∧ ∀ a ∈ g, W' a)
abbrev Ei := Env → R (List D × Env)
def tI (K : Frag) (E : XK) (p : Bool) (f : Ei) : TI := fun σ H Q => ∃ env fs W, RepEnv K W H σ env fs ∧ match f env with
  | .no => False
  | .ex c => ExP K E c H fs
  | .ok (ds, env') => ∀ J W' H' fs', Ext H H' fs → RepEnv K W' H' σ env' fs' → (∀ a, W a → W' a) → (∀ i, Sub H fs (fs' i)) → (∀ j d, env'.at j = .view d → env.at j = .view d) → (p = true → Same H H' ∧ env' = env ∧ fs' = fs) → ItOk K W' H' fs' J ds → Q J H'
def DI (X : Cx) (E : XK) (p : Bool) (tg it : Expr) (f : Ei) : Prop := PI X tg it (tI X.K E p f)
/-- a value that is protected from now on -/
def tP (K : Frag) (E : XK) (p : Bool) (f : Ev) : TE := fun σ H Q => ∃ env fs W, RepEnv K W H σ env fs ∧ match f env with
  | .no => False
  | .ex c => ExP K E c H fs
  | .ok (d, env') => ∀ v W' H' fs' g, Ext H H' fs → RepEnv K W' H' σ env' fs' → (∀ a, W a → W' a) → (∀ i, Sub H fs (fs' i)) → (∀ j d, env'.at j = .view d → env.at j = .view d) → (p = true → Same H H' ∧ env' = env ∧ fs' = fs) → Rep K H' v d g → (∀ a ∈ g, W' a) → Q v H'
def DP (X : Cx) (E : XK) (p : Bool) (e : Expr) (f : Ev) : Prop := PE X e (tP X.K E p f)
theorem PI.mono {X : Cx} {tg e : Expr} {t t' : TI} (h : PI X tg e t) (m : ∀ σ H Q, t' σ H Q → t σ H Q) : PI X tg e t' := ⟨fun pins s σ H Q I w => h.run pins s σ H Q I (m σ H Q w)⟩
section
variable {X : Cx} {E : XK} {p p1 p2 p3 o o1 o2 o3 : Bool} {A A1 A2 : List Nat} {pos : Pos}
variable {K : Frag} {W W' : Addr → Prop} {H H' H1 : Hp} {σ : L2.St} {env env1 : Env} {fs fs1 : Fs}
theorem RepEnv.prot (h : RepEnv K W H σ env fs) {g : List Addr} (ap : ∀ a ∈ g, ∀ i, a ∉ fs i) (th : ∀ a ∈ g, ∃ o, H a = some o) : RepEnv K (fun a => W a ∨ a ∈ g) H σ env fs :=
  h.more (fun a z => .inl z) (fun i a ha z => z.elim (h.off i a ha) fun q => ap a q i ha) fun a z => z.elim (h.wt a) (th a)
theorem dp_own {e : Expr} {f : Ev} (h : DE X E p true e f) : DP X E p e f := by
  refine PE.mono h fun σ H Q ⟨env, fs, W, he, h⟩ => ⟨env, fs, W, he, ?_⟩
  cases e1 : f env with
  | no => rw [e1] at h; exact h
  | ex c => rw [e1] at h; exact h
  | ok x =>
    obtain ⟨d, env1⟩ := x
    rw [e1] at h
    exact fun v H1 fs1 g P => h v (fun a => W a ∨ a ∈ g) H1 fs1 g P.step.ext (P.step.renv.prot (P.own rfl).apart (Rep.there _ _ _ P.rep)) (fun a z => .inl z) P.step.sub P.step.vw P.step.pure P.rep fun a ha => .inr ha
/-- a slot that can't change, read -/
def eReadP (i : Nat) : Ev := fun env => match env.at i with
  | .dead => .no
  | .own d => if imm d = true then .ok (d, env) else .no
  | .view d => .ok (d, env)
theorem dp_read {i : Nat} {x : Str} {pos : Pos} (hN : X.N[i]? = some x := by rfl) (hv : Vis X.env.scope x := by first | exact .inl rfl | exact .inr (.inl rfl) | exact .inr (.inr rfl)) (hd : (x == ("__debug__" : Str)) = false := by decide) (hcd : (x == ("__classdict__" : Str)) = false := by decide) :
    DP X E true (.Name x pos) (eReadP i) := by
  refine PE.mono (pe_var hN hv hd hcd) fun σ H Q ⟨env, fs, W, he, h⟩ => ?_
  have q := he.slot i
  unfold eReadP at h
  cases e : env.at i with
  | dead => rw [e] at h; exact h.elim
  | own d =>
    rw [e] at h q
    obtain ⟨v, e1, r⟩ := q
    by_cases hi : imm d = true
    · simp only [hi, if_true] at h
      refine ⟨v, e1, h v W H fs _ Ext.refl he (fun _ z => z) (fun _ => Sub.self) (fun _ _ z => z) (fun _ => ⟨fun _ _ z => z, trivial, rfl⟩) r ?_⟩
      rw [Rep.fp_imm _ _ _ r hi]
      exact fun a ha => (nomatch ha)
    · simp [hi] at h
  | view d =>
    rw [e] at h q
    obtain ⟨_, v, g, e1, r, w⟩ := q
    exact ⟨v, e1, h v W H fs g Ext.refl he (fun _ z => z) (fun _ => Sub.self) (fun _ _ z => z) (fun _ => ⟨fun _ _ z => z, rfl, rfl⟩) r w⟩
/-- what stands protected stays -/
theorem Rep.prot (h : RepEnv K W H σ env fs) (x : Ext H H' fs) {v : V} {d : D} {g : List Addr} (r : Rep K H v d g) (n : ∀ a ∈ g, W a) : Rep K H' v d g :=
  Rep.ext h x r fun a ha i hi => h.off i a hi (n a ha)
theorem RepL.prot (h : RepEnv K W H σ env fs) (x : Ext H H' fs) {v : List V} {d : List D} {g : List Addr} (r : RepL K H v d g) (n : ∀ a ∈ g, W a) : RepL K H' v d g :=
  RepL.ext h x r fun a ha i hi => h.off i a hi (n a ha)
def iLst (f : Ev) : Ei := fun env => (f env).bind fun x => match x.1 with
  | .list ds => .ok (ds, x.2)
  | _ => .no
def iTpl (f : Ev) : Ei := fun env => (f env).bind fun x => match x.1 with
  | .tuple ds => .ok (ds, x.2)
  | _ => .no
theorem RepL.get' {K : Frag} {H : Hp} {ds : List D} {vs : List V} {g : List Addr} {i : Nat} {v : V} (h : RepL K H vs ds g) (e : vs[i]? = some v) : ∃ d gi, ds[i]? = some d ∧ Rep K H v d gi ∧ (∀ a ∈ gi, a ∈ g) := by
  have hl := RepL.length h
  have hi : i < ds.length := by rw [← hl]; exact (List.getElem?_eq_some_iff.mp e).1
  obtain ⟨v', gi, e1, r, s, _⟩ := RepL.get h (List.getElem?_eq_getElem hi)
  rw [e] at e1
  cases e1
  exact ⟨_, gi, List.getElem?_eq_getElem hi, r, s⟩
theorem itOk_list {a : Addr} {xs : List V} {ds : List D} {g : List Addr} (he : RepEnv K W H σ env fs) (q : H a = some (.lst xs)) (r : RepL K H xs ds g) (w : ∀ b ∈ a :: g, W b) : ItOk K W H fs (Itl K a) ds := by
  have hl := RepL.length r
  unfold ItOk
  rw [← hl]
  refine walk_list.mono (fun H1 e => ?_) fun i H1 x H2 hi e y => ?_
  · exact .inl (.inl (e _ _ q fun j hj => he.off j a hj (w a List.mem_cons_self)))
  · obtain ⟨rfl, y⟩ := y
    have r' := RepL.prot he e r fun b hb => w b (List.mem_cons_of_mem _ hb)
    obtain ⟨d, gi, e1, r1, s⟩ := RepL.get' r' y
    exact ⟨fun _ _ z => z, d, gi, e1, r1, fun b hb => w b (List.mem_cons_of_mem _ (s b hb))⟩
theorem SqT.prot (he : RepEnv K W H σ env fs) (e : Ext H H1 fs) {a : Addr} {xs : List V} (q : SqT K H a xs) : SqT K H1 a xs :=
  SqT.stay (M := fun a => ∃ i, a ∈ fs i) (fun a ⟨i, ha⟩ => he.pl i a ha) (fun b o e0 nb => e b o e0 fun i hi => nb ⟨i, hi⟩) q
theorem itOk_tup {a : Addr} {xs : List V} {ds : List D} {g : List Addr} (he : RepEnv K W H σ env fs) (q : SqT K H a xs) (r : RepL K H xs ds g) (w : ∀ b ∈ g, W b) : ItOk K W H fs (Itt K a) ds := by
  have hl := RepL.length r
  unfold ItOk
  rw [← hl]
  refine walk_tup.mono (fun H1 e => SqT.prot he e q) fun i H1 x H2 hi e y => ?_
  obtain ⟨rfl, y⟩ := y
  obtain ⟨d, gi, e1, r1, s⟩ := RepL.get' (RepL.prot he e r w) y
  exact ⟨fun _ _ z => z, d, gi, e1, r1, fun b hb => w b (s b hb)⟩
theorem SqL.prot (he : RepEnv K W H σ env fs) (e : Ext H H1 fs) {a : Addr} {xs : List V} (q : H a = some (.lst xs)) (w : W a) : SqL K H1 a xs := .inl (.inl (e _ _ q fun j hj => he.off j a hj w))
theorem tP_then {e : Expr} {f : Ev} {k : D → Env → R (List D × Env)} {g : Ei} {Q : VK} {R' : It → Hp → Prop} (hg : ∀ env, g env = (f env).bind fun x => k x.1 x.2) (h : tI K E p g σ H R')
    (q : ∀ d env1 v W' H1 fs1 gg, RepEnv K W' H1 σ env1 fs1 → Rep K H1 v d gg → (∀ a ∈ gg, W' a) → (∀ ds env2, k d env1 = .ok (ds, env2) → env2 = env1 ∧ ∀ J, ItOk K W' H1 fs1 J ds → R' J H1) → (∀ c, k d env1 ≠ .ex c) → k d env1 ≠ .no → Q v H1) (hx : ∀ d env1 c, k d env1 ≠ .ex c) (hk : ∀ d env1 ds env2, k d env1 = .ok (ds, env2) → env2 = env1) : tP K E p f σ H Q := by
  obtain ⟨env, fs, W, he, h⟩ := h
  refine ⟨env, fs, W, he, ?_⟩
  rw [hg] at h
  cases e1 : f env with
  | no => rw [e1] at h; exact h
  | ex c => rw [e1] at h; exact h
  | ok x =>
    obtain ⟨d, env1⟩ := x
    rw [e1] at h
    simp only [R.bind] at h
    intro v W' H1 fs1 gg x1 x2 x3 x4 x5 x8 x6 x7
    refine q d env1 v W' H1 fs1 gg x2 x6 x7 (fun ds env2 ek => ⟨hk _ _ _ _ ek, fun J io => ?_⟩) (hx d env1) fun z => ?_
    · rw [ek] at h
      have := hk _ _ _ _ ek
      subst this
      exact h J W' H1 fs1 x1 x2 x3 x4 x5 x8 io
    · rw [z] at h; exact h
theorem di_list {tg e : Expr} {f : Ev} (h : DP X E p e f) : DI X E p tg e (iLst f) := by
  refine PI.mono (pi_list h) fun σ H Q z => tP_then (e := e) (k := fun d env => match d with
    | .list ds => .ok (ds, env)
    | _ => .no) (fun _ => rfl) z (fun d env1 v W' H1 fs1 gg he r w hk hx hn => ?_) (fun d env1 c z => by cases d <;> cases z) fun d env1 ds env2 z => by cases d <;> cases z <;> rfl
  cases d with
  | list ds =>
    cases r with
    | lst q l => exact ⟨_, rfl, ⟨_, .inl (.inl q)⟩, (hk ds env1 rfl).2 _ (itOk_list he q l w)⟩
  | _ => exact absurd rfl hn
theorem di_tup {tg e : Expr} {f : Ev} (h : DP X E p e f) : DI X E p tg e (iTpl f) := by
  refine PI.mono (pi_tup h) fun σ H Q z => tP_then (e := e) (k := fun d env => match d with
    | .tuple ds => .ok (ds, env)
    | _ => .no) (fun _ => rfl) z (fun d env1 v W' H1 fs1 gg he r w hk hx hn => ?_) (fun d env1 c z => by cases d <;> cases z) fun d env1 ds env2 z => by cases d <;> cases z <;> rfl
  cases d with
  | tuple ds =>
    cases r with
    | tup q l => exact ⟨_, rfl, ⟨_, q⟩, (hk ds env1 rfl).2 _ (itOk_tup he q l w)⟩
  | _ => exact absurd rfl hn
def chD (s : Str) : List D := s.cps.toList.map fun c => .str ⟨#[c]⟩
def iStrD (f : Ev) : Ei := fun env => (f env).bind fun x => match x.1 with
  | .str s => .ok (chD s, x.2)
  | _ => .no
theorem di_str {tg e : Expr} {f : Ev} (h : DP X E p e f) : DI X E p tg e (iStrD f) := by
  refine PI.mono (pi_str h) fun σ H Q z => tP_then (e := e) (k := fun d env => match d with
    | .str s => .ok (chD s, env)
    | _ => .no) (fun _ => rfl) z (fun d env1 v W' H1 fs1 gg he r w hk hx hn => ?_) (fun d env1 c z => by cases d <;> cases z) fun d env1 ds env2 z => by cases d <;> cases z <;> rfl
  cases d with
  | str s =>
    cases r
    refine ⟨s, rfl, (hk _ env1 rfl).2 _ ?_⟩
    unfold ItOk
    rw [show (chD s).length = s.cps.size by simp [chD]]
    refine walk_str.mono (fun _ _ => trivial) fun i H1 x H2 hi e y => ?_
    obtain ⟨rfl, c, hc, rfl⟩ := y
    refine ⟨fun _ _ z => z, _, [], ?_, .str _, fun _ z => (nomatch z)⟩
    simp [chD, hc]
  | _ => exact absurd rfl hn
/-! ranges -/
def rng (lo : Int) (n : Nat) : List D := (List.range n).map fun i => .int (lo + (i : Nat))
def sml (j : Int) : Prop := -(2 ^ 62) ≤ j ∧ j < 2 ^ 62
instance (j : Int) : Decidable (sml j) := inferInstanceAs (Decidable (_ ∧ _))
def rng1D : List D → Option (List D)
  | [.int j] => if sml j then some (rng 0 j.toNat) else none
  | _ => none
def rng2D : List D → Option (List D)
  | [.int i, .int j] => if sml i ∧ sml j then some (rng i (j - i).toNat) else none
  | _ => none
/-- i, i - 1, .. above j -/
def dwn (i : Int) (n : Nat) : List D := (List.range n).map fun k => .int (i + (k : Nat) * -1)
def rng3D : List D → Option (List D)
  | [.int i, .int j, .int c] => if c = -1 ∧ sml i ∧ sml j then some (dwn i (i - j).toNat) else none
  | _ => none
def iFn (F : List D → Option (List D)) (f : EvA) : Ei := fun env => (f env).bind fun x => (R.of (F x.1)).bind fun r => .ok (r, x.2)
theorem itOk_range {lo : Int} {n : Nat} : ItOk K W H fs (Itr lo n) (rng lo n) := by
  unfold ItOk
  rw [show (rng lo n).length = n by simp [rng]]
  refine walk_range.mono (fun _ _ => trivial) fun i H1 x H2 hi e y => ?_
  obtain ⟨rfl, rfl⟩ := y
  exact ⟨fun _ _ z => z, _, [], by simp [rng, hi], .int _, fun _ z => (nomatch z)⟩
theorem tIA_then {f : EvA} {F : List D → Option (List D)} {Q : List V → Hp → Prop} {R' : It → Hp → Prop} (h : tI K E p (iFn F f) σ H R')
    (q : ∀ ds r vs W H1 fs1 gg, RepL K H1 vs ds gg → F ds = some r → (∀ J, ItOk K W H1 fs1 J r → R' J H1) → Q vs H1) : tDA K E p o f σ H Q := by
  obtain ⟨env, fs, W, he, h⟩ := h
  refine ⟨env, fs, W, he, ?_⟩
  unfold iFn at h
  cases e1 : f env with
  | no => rw [e1] at h; exact h
  | ex c => rw [e1] at h; exact h
  | ok x =>
    obtain ⟨ds, env1⟩ := x
    rw [e1] at h
    simp only [R.bind] at h
    intro vs H1 fs1 gg P
    cases e2 : F ds with
    | none => rw [e2] at h; exact h.elim
    | some r =>
      rw [e2] at h
      exact q ds r vs W H1 fs1 gg P.rep e2 fun J io => h J W H1 fs1 P.step.ext P.step.renv (fun _ z => z) P.step.sub P.step.vw P.step.pure io
theorem rep1 {vs : List V} {i : Int} {g : List Addr} (h : RepL K H vs [.int i] g) : vs = [.int i] := by
  cases h with
  | cons a b => cases a; cases b; rfl
theorem rep2 {vs : List V} {i j : Int} {g : List Addr} (h : RepL K H vs [.int i, .int j] g) : vs = [.int i, .int j] := by
  cases h with
  | cons a b =>
    cases a
    cases b with
    | cons a b => cases a; cases b; rfl
theorem di_range1 {tg a : Expr} {f : EvA} {p' pos : Pos} (hm : X.mg "range" = none) (h : DA X E p o [a] f) (hg : Gl X "range" := by rfl) (hs : starEach [a] X.env = [(false, eval a X.env)] := by rfl) : DI X E p tg (.Call (.Name "range" p') [a] [] pos) (iFn rng1D f) := by
  refine PI.mono (pi_range1 hg hm h hs) fun σ H Q z => tIA_then z fun ds r vs W H1 fs1 gg rep e hj => ?_
  unfold rng1D at e
  split at e
  · rename_i j
    obtain rfl := rep1 rep
    by_cases c : sml j
    · rw [if_pos c] at e
      cases e
      exact ⟨j, rfl, c.1, c.2, hj _ itOk_range⟩
    · rw [if_neg c] at e; cases e
  · cases e
theorem di_range2 {tg a b : Expr} {f : EvA} {p' pos : Pos} (hm : X.mg "range" = none) (h : DA X E p o [a, b] f) (hg : Gl X "range" := by rfl) (hs : starEach [a, b] X.env = [(false, eval a X.env), (false, eval b X.env)] := by rfl) (hs2 : starEach [b] X.env = [(false, eval b X.env)] := by rfl) : DI X E p tg (.Call (.Name "range" p') [a, b] [] pos) (iFn rng2D f) := by
  refine PI.mono (pi_range2 hg hm h hs hs2) fun σ H Q z => tIA_then z fun ds r vs W H1 fs1 gg rep e hj => ?_
  unfold rng2D at e
  split at e
  · rename_i i j
    obtain rfl := rep2 rep
    by_cases c : sml i ∧ sml j
    · rw [if_pos c] at e
      cases e
      exact ⟨i, j, rfl, ⟨c.1.1, c.1.2, c.2.1, c.2.2⟩, hj _ itOk_range⟩
    · rw [if_neg c] at e; cases e
  · cases e
theorem itOk_down {i : Int} {n : Nat} : ItOk K W H fs (Itc i (-1) n) (dwn i n) := by
  unfold ItOk
  rw [show (dwn i n).length = n by simp [dwn]]
  refine walk_rangeC.mono (fun _ _ => trivial) fun k H1 x H2 hi e y => ?_
  obtain ⟨rfl, rfl⟩ := y
  exact ⟨fun _ _ z => z, _, [], by simp [dwn, hi], .int _, fun _ z => (nomatch z)⟩
theorem di_range3 {tg a b c : Expr} {f : EvA} {p' pos : Pos} (hm : X.mg "range" = none) (h : DA X E p o [a, b, c] f) (hg : Gl X "range" := by rfl) (hs : starEach [a, b, c] X.env = (false, eval a X.env) :: starEach [b, c] X.env := by rfl) (hpl : (backTo pos (starEach [b, c] X.env)).any (·.1) = false := by rfl) : DI X E p tg (.Call (.Name "range" p') [a, b, c] [] pos) (iFn rng3D f) := by
  refine PI.mono (pi_range3 hg hm h hs hpl) fun σ H Q z => tIA_then z fun ds r vs W H1 fs1 gg rep e hj => ?_
  unfold rng3D at e
  split at e
  · rename_i i j c
    by_cases q : c = -1 ∧ sml i ∧ sml j
    · rw [if_pos q] at e
      cases e
      obtain ⟨rfl, q1, q2⟩ := q
      cases rep with
      | cons a b =>
        cases a
        cases b with
        | cons a b =>
          cases a
          cases b with
          | cons a b =>
            cases a
            cases b
            exact ⟨i, j, -1, _, rfl, RgC.neg q1.1 q1.2 q2.1 q2.2, hj _ itOk_down⟩
    · rw [if_neg q] at e; cases e
  · cases e
/-! arguments that are protected -/
def tPA (K : Frag) (E : XK) (p : Bool) (f : EvA) : TA := fun σ H Q => ∃ env fs W, RepEnv K W H σ env fs ∧ match f env with
  | .no => False
  | .ex c => ExP K E c H fs
  | .ok (d, env') => ∀ v W' H' fs' g, Ext H H' fs → RepEnv K W' H' σ env' fs' → (∀ a, W a → W' a) → (∀ i, Sub H fs (fs' i)) → (∀ j d, env'.at j = .view d → env.at j = .view d) → (p = true → Same H H' ∧ env' = env ∧ fs' = fs) → RepL K H' v d g → (∀ a ∈ g, W' a) → Q v H'
def DPA (X : Cx) (E : XK) (p : Bool) (es : List Expr) (f : EvA) : Prop := PA X es (tPA X.K E p f)
theorem dpa_nil : DPA X E true [] aNil := PA.mono pa_nil fun σ H Q ⟨env, fs, W, he, h⟩ => h [] W H fs [] Ext.refl he (fun _ z => z) (fun _ => Sub.self) (fun _ _ z => z) (fun _ => ⟨fun _ _ z => z, rfl, rfl⟩) .nil fun _ z => (nomatch z)
theorem dpa_cons {e : Expr} {es : List Expr} {f : Ev} {g : EvA} (he : DP X E p1 e f) (hs : DPA X E p2 es g) (hq : starEach (e :: es) X.env = (false, eval e X.env) :: starEach es X.env := by rfl) : DPA X E (p1 && p2) (e :: es) (aCons f g) := by
  refine PA.mono (pa_cons he hs hq) fun σ H Q ⟨env, fs, W, hr, h⟩ => ?_
  refine ⟨env, fs, W, hr, ?_⟩
  unfold aCons at h
  cases e1 : f env with
  | no => rw [e1] at h; exact h
  | ex c => rw [e1] at h; exact h
  | ok x =>
    obtain ⟨d1, env1⟩ := x
    rw [e1] at h
    intro v1 W1 H1 fs1 g1 x1 x2 x3 x4 x5 x8 x6 x7
    refine ⟨env1, fs1, W1, x2, ?_⟩
    cases e2 : g env1 with
    | no => simp only [R.bind, e2] at h
    | ex c =>
      simp only [R.bind, e2] at h
      exact fun H' ad e n => h H' ad (x1.trans x4 e) n
    | ok y =>
      obtain ⟨ds, env2⟩ := y
      intro vs W2 H2 fs2 g2 y1 y2 y3 y4 y5 y8 y6 y7
      simp only [R.bind, e2] at h
      exact h (v1 :: vs) W2 H2 fs2 (g1 ++ g2) (x1.trans x4 y1) y2 (fun a z => y3 a (x3 a z)) (fun i => Sub.trans x1 x4 (y4 i)) (fun j d z => x5 j d (y5 j d z)) (fun z => (by
        obtain ⟨a1, a2, a3⟩ := x8 (and_l z)
        obtain ⟨b1, b2, b3⟩ := y8 (and_r z)
        exact ⟨fun x o e => b1 x o (a1 x o e), b2.trans a2, b3.trans a3⟩)) (.cons (Rep.prot x2 y1 x6 x7) y6) fun a ha => (List.mem_append.mp ha).elim (fun z => y3 a (x7 a z)) (y7 a)
theorem tPA_then {f : EvA} {F : List D → Option (List D)} {Q : List V → Hp → Prop} {R' : It → Hp → Prop} (h : tI K E p (iFn F f) σ H R')
    (q : ∀ ds r vs W env1 H1 fs1 gg, RepEnv K W H1 σ env1 fs1 → RepL K H1 vs ds gg → (∀ a ∈ gg, W a) → F ds = some r → (∀ J, ItOk K W H1 fs1 J r → R' J H1) → Q vs H1) : tPA K E p f σ H Q := by
  obtain ⟨env, fs, W, he, h⟩ := h
  refine ⟨env, fs, W, he, ?_⟩
  unfold iFn at h
  cases e1 : f env with
  | no => rw [e1] at h; exact h
  | ex c => rw [e1] at h; exact h
  | ok x =>
    obtain ⟨ds, env1⟩ := x
    rw [e1] at h
    simp only [R.bind] at h
    intro vs W' H1 fs1 gg x1 x2 x3 x4 x5 x8 x6 x7
    cases e2 : F ds with
    | none => rw [e2] at h; exact h.elim
    | some r =>
      rw [e2] at h
      exact q ds r vs W' env1 H1 fs1 gg x2 x6 x7 e2 fun J io => h J W' H1 fs1 x1 x2 x3 x4 x5 x8 io
def enumD : List D → Option (List D)
  | [.list ds] => some (ds.mapIdx fun i d => .tuple [.int (i : Nat), d])
  | _ => none
theorem pair_rep {T : Addr} {x y : V} {d e : D} {g1 g2 : List Addr} (r1 : Rep K H x d g1) (r2 : Rep K H y e g2) (hn : H T = none) : Rep K (upd H T (.tup [x, y])) (.ref T) (.tuple [d, e]) (g1 ++ (g2 ++ [])) :=
  .tup (.inl (.inl upd_same)) (.cons (r1.same (same_upd hn)) (.cons (r2.same (same_upd hn)) .nil))
theorem di_enum {elts : List Expr} {kk : Nat} {e : Expr} {f : EvA} {p' pos tpos : Pos} (hm : X.mg "enumerate" = none) (h : DPA X E p [e] f) (hg : Gl X "enumerate" := by rfl) (hs : starEach [e] X.env = [(false, eval e X.env)] := by rfl) : DI X E p (.Tuple elts kk tpos) (.Call (.Name "enumerate" p') [e] [] pos) (iFn enumD f) := by
  refine PI.mono (pi_enum hg hm h hs) fun σ H Q z => tPA_then z fun ds r vs W env1 H1 fs1 gg he rep w e hj => ?_
  unfold enumD at e
  split at e
  · rename_i ds
    cases e
    cases rep with
    | cons a b =>
      cases b
      cases a with
      | lst q l =>
        rename_i a xs g
        refine ⟨a, _, rfl, .inl (.inl q), hj _ ?_⟩
        have hl := RepL.length l
        unfold ItOk
        rw [List.length_mapIdx, ← hl]
        refine walk_enum.mono (fun H1 x => SqL.prot he x q (w a (by simp))) fun i H2 x H3 hi e y => ?_
        obtain ⟨T, x', y', rfl, hn, rfl, hx, hy⟩ := y
        cases hx
        have w' : ∀ b ∈ g, W b := fun b hb => w b (by simp [hb])
        obtain ⟨d, gi, e1, r1, s⟩ := RepL.get' (RepL.prot he e l w') hy
        refine ⟨same_upd hn, .tuple [.int (i : Nat), d], _, by simp [e1], pair_rep (.int _) r1 hn, fun b hb => w' b (s b (by simpa using hb))⟩
  · cases e
def zipD : List D → Option (List D)
  | [.list as, .list bs] => some ((as.zip bs).map fun x => .tuple [x.1, x.2])
  | [.tuple as, .tuple bs] => some ((as.zip bs).map fun x => .tuple [x.1, x.2])
  | _ => none
theorem walk_zipT {K : Frag} {a b : Addr} {xs ys : List V} {n : Nat} (hn : n = min xs.length ys.length) : Walk (RZ.ItzT K a b) n (fun H => SqT K H a xs ∧ SqT K H b ys) (YPair (fun i => xs[i]?) (fun i => ys[i]?)) := by
  subst hn
  refine ⟨fun i _ hi q => ?_, fun _ q => ⟨xs, ys, q.1, q.2, by omega⟩, fun i H v H' _ q y => ?_⟩
  · have h1 : i < xs.length := by omega
    have h2 : i < ys.length := by omega
    exact ⟨xs, ys, xs[i], ys[i], q.1, q.2, by simp [h1], by simp [h2]⟩
  · obtain ⟨T, x, z, h1, h2, h3, h4, h5⟩ := y
    exact ⟨T, x, z, h1, h2, h3, h4 xs q.1, h5 ys q.2⟩
theorem zip_item {xs ys : List V} {as bs : List D} {g1 g2 : List Addr} (he : RepEnv K W H σ env fs) (l1 : RepL K H xs as g1) (l2 : RepL K H ys bs g2) (w1 : ∀ a ∈ g1, W a) (w2 : ∀ a ∈ g2, W a) {i : Nat} {H2 H3 : Hp} {v : V} (e : Ext H H2 fs) (y : YPair (fun i => xs[i]?) (fun i => ys[i]?) i H2 v H3) :
    Same H2 H3 ∧ ∃ d g, ((as.zip bs).map fun x => PyData.tuple [x.1, x.2])[i]? = some d ∧ Rep K H3 v d g ∧ ∀ a ∈ g, W a := by
  obtain ⟨T, x', y', rfl, hn, rfl, hx, hy⟩ := y
  obtain ⟨d1, gi1, e1, r1, s1⟩ := RepL.get' (RepL.prot he e l1 w1) hx
  obtain ⟨d2, gi2, e2, r2, s2⟩ := RepL.get' (RepL.prot he e l2 w2) hy
  refine ⟨same_upd hn, .tuple [d1, d2], _, ?_, pair_rep r1 r2 hn, fun b hb => ?_⟩
  · rw [List.getElem?_map, List.zip, List.getElem?_zipWith, e1, e2]
    rfl
  · rcases List.mem_append.mp hb with z | z
    · exact w1 b (s1 b z)
    · exact w2 b (s2 b (by simpa using z))
theorem di_zip {elts : List Expr} {kk : Nat} {e e2 : Expr} {f : EvA} {p' pos tpos : Pos} (hm : X.mg "zip" = none) (h : DPA X E p [e, e2] f) (hg : Gl X "zip" := by rfl) (hs : starEach [e, e2] X.env = (false, eval e X.env) :: starEach [e2] X.env := by rfl) (hpl : (backTo pos (starEach [e2] X.env)).any (·.1) = false := by rfl) : DI X E p (.Tuple elts kk tpos) (.Call (.Name "zip" p') [e, e2] [] pos) (iFn zipD f) := by
  refine PI.mono (RZ.pi_zipA hg hm h hs hpl) fun σ H Q z => tPA_then z fun ds r vs W env1 H1 fs1 gg he rep w e hj => ?_
  unfold zipD at e
  split at e
  · rename_i as bs
    cases e
    cases rep with
    | cons a b =>
      cases b with
      | cons b c =>
        cases c
        cases a with
        | lst q1 l1 =>
          rename_i a xs g1
          cases b with
          | lst q2 l2 =>
            rename_i b ys g2
            refine ⟨a, b, _, _, rfl, .inl ⟨.inl (.inl q1), .inl (.inl q2), hj _ ?_⟩⟩
            unfold ItOk
            refine (walk_zip (xs := xs) (ys := ys) (by simp [RepL.length l1, RepL.length l2])).mono (fun H1 x => ⟨SqL.prot he x q1 (w a (by simp)), SqL.prot he x q2 (w b (by simp))⟩) fun i H2 x H3 hi e y =>
              zip_item he l1 l2 (fun c hc => w c (by simp [hc])) (fun c hc => w c (by simp [hc])) e y
  · rename_i as bs
    cases e
    cases rep with
    | cons a b =>
      cases b with
      | cons b c =>
        cases c
        cases a with
        | tup q1 l1 =>
          rename_i a xs
          cases b with
          | tup q2 l2 =>
            rename_i b ys
            refine ⟨a, b, _, _, rfl, .inr ⟨q1, q2, hj _ ?_⟩⟩
            unfold ItOk
            refine (walk_zipT (xs := xs) (ys := ys) (by simp [RepL.length l1, RepL.length l2])).mono (fun H1 x => ⟨SqT.prot he x q1, SqT.prot he x q2⟩) fun i H2 x H3 hi e y =>
              zip_item he l1 l2 (fun c hc => w c (by simp [hc])) (fun c hc => w c (by simp [hc])) e y
  · cases e
/-! ### for -/
/-- ks: the slots that are not held at a turn's start, and behind the loop -/
def forL (ks : List Nat) (t : Tg) (b : Sv) : List D → Sv
  | [], env => .ok (.nx (killS ks env))
  | d :: ds, env => (R.of (bindV t d (killS ks env))).bind fun e => (b e).bind (loopK (forL ks t b ds))
def sFor (ks : List Nat) (t : Tg) (it : Ei) (b : Sv) : Sv := fun env => (it env).bind fun x => forL ks t b x.1 x.2
theorem tG_len {tg : Expr} {t : Tg} (h : DG X A tg t) : PG X tg (fun v σ H Q => σ.length = X.N.length → tGV X.K X.N.length A t v σ H Q) :=
  ⟨fun pins s σ H v u Q I r w => h.v.run pins s σ H v u Q I r (w I.len)⟩
theorem tI_then {it : Ei} {k : List D → Env → R Out} {g : Sv} {Dn : Ends} {R' : It → Hp → Prop} (he : RepEnv X.K W H σ env fs) (hg : g env = (it env).bind fun x => k x.1 x.2) (h : OutP X.K E W A Dn σ H fs (g env))
    (q : ∀ J ds env1 W1 H1 fs1, Move X.K W W1 A H fs H1 σ σ env1 fs1 → ItOk X.K W1 H1 fs1 J ds → OutP X.K E W1 A Dn σ H1 fs1 (k ds env1) → R' J H1) : tI X.K E p it σ H R' := by
  refine ⟨env, fs, W, he, ?_⟩
  rw [hg] at h
  cases e1 : it env with
  | no => rw [e1] at h; exact h
  | ex c => rw [e1] at h; exact h
  | ok x =>
    obtain ⟨d, env1⟩ := x
    rw [e1] at h
    intro J W' H1 fs1 x1 x2 x3 x4 x5 _ io
    have m : Move X.K W W' A H fs H1 σ σ env1 fs1 := ⟨x1, x2, x3, x4, fun _ _ => rfl⟩
    exact q J d env1 W' H1 fs1 m io (OutP.moved h m)
theorem ds_for {tg it : Expr} {body : List Stmt} {t : Tg} {i : Ei} {b : Sv} {ks : List Nat} (hp : PassesOwn (model X.prog X.w) X.A X.env X.xe) (hc : X.calm = true) (hi : DI X E p tg it i) (hg : DG X A1 tg t) (hb : DB X E A2 body b)
    (hs : ∀ x, foldedSetIterable it X.env x = pure x := by intro _; rfl) : DS X E (A1 ++ A2) (.For tg it body [] pos) (sFor ks t i b) := by
  refine DS.impL (ps_for hp hc hi (tG_len hg) hb hs) fun D σ H env fs W hl he q => ?_
  refine tI_then he rfl q fun J ds env1 W1 H1 fs1 m1 io q1 => ?_
  refine for_it io (g := fun v σ H Q => σ.length = X.N.length → tGV X.K X.N.length A1 t v σ H Q) (tb := tS X.K E A2 b) (D := D) (fun k σ' H' => ∃ env' fs' W', Move X.K W1 W' (A1 ++ A2) H1 fs1 H' σ σ' env' fs' ∧ OutP X.K E W' (A1 ++ A2) D σ' H' fs' (forL ks t b (ds.drop k) env')) ?_ ?_ ?_ ?_
  · exact ⟨env1, fs1, W1, Move.refl m1.renv, q1⟩
  · rintro k σ' H' _ ⟨env', fs', W', m, _⟩
    exact m.ext
  · rintro k x σ' H' H2 hk ⟨env', fs', W', m, z⟩ ⟨sm, d, g, ed, r, w⟩ hl'
    have hd : ds.drop k = d :: ds.drop (k + 1) := by
      have hk' := (List.getElem?_eq_some_iff.mp ed)
      rw [List.drop_eq_getElem_cons hk'.1, hk'.2]
    rw [hd] at z
    unfold forL at z
    obtain ⟨fs2, he2, s2⟩ := m.renv.kill ks
    cases e1 : bindV t d (killS ks env') with
    | none => rw [e1] at z; exact z.elim
    | some env2 =>
      rw [e1] at z
      simp only [R.of, R.bind] at z
      refine ⟨d, g, W', killS ks env', env2, fs2, hl', he2.same sm, r, fun a ha => m.more a (w a ha), e1, fun σ3 fs3 bd => ?_⟩
      have mv : Move X.K W' W' (A1 ++ A2) H' fs' H2 σ' σ3 env2 fs3 := ⟨Ext.of sm, bd.renv, fun _ z => z, fun i a ha => (bd.sub i a ha).elim (fun y => .inl ⟨i, s2 i a y⟩) fun y => (nomatch y), fun i hi => bd.keep i fun y => hi (List.mem_append_left _ y)⟩
      have z2 : OutP X.K E W' (A1 ++ A2) D σ3 H2 fs3 ((b env2).bind (loopK (forL ks t b (ds.drop (k + 1))))) := OutP.moved z mv
      refine tS_iff.mpr ⟨env2, fs3, W', bd.renv, ?_⟩
      refine OutP.turn (fun i hi => List.mem_append_right _ hi) z2 fun W4 σ4 H4 env4 fs4 m4 y => ?_
      exact ⟨env4, fs4, W4, m.trans (mv.trans (m4.mono fun i hi => List.mem_append_right _ hi)), y⟩
  · rintro σ' H' ⟨env', fs', W', m, z⟩
    rw [List.drop_of_length_le (Nat.le_refl _)] at z
    unfold forL at z
    obtain ⟨fs2, he2, s2⟩ := m.renv.kill ks
    exact z W' σ' H' fs2 ⟨Ext.refl, he2, fun _ z => z, fun i a ha => .inl ⟨i, s2 i a ha⟩, fun _ _ => rfl⟩
end
end DV
end
section
set_option Elab.async false
set_option linter.all false
set_option maxRecDepth 100000
namespace DV
open PySem PySem.Spec PyProof.Rows L2
section
variable {K : Frag} {W W' : Addr → Prop} {H H' H1 : Hp} {σ : L2.St} {env env1 : Env} {fs fs1 : Fs}
/-- an own list is written -/
theorem RepEnv.write (he : RepEnv K W H σ env fs) {i : Nat} {a : Addr} {xs xs' : List V} {ds' : List D} {g0 g1 : List Addr} (hi : i < env.length) (hσ : σ[i]? = some (some (.ref a))) (hH : H a = some (.lst xs)) (hf : fs i = a :: g0)
    (r : RepL K H xs' ds' g1) (nd : (a :: g1).Nodup) (sub : ∀ b ∈ g1, b ∈ g0 ∨ ((∀ j, b ∉ fs j) ∧ Pl H b ∧ ¬ W b)) : RepEnv K W (upd H a (.lst xs')) σ (env.set i (.own (.list ds'))) (fput fs i (a :: g1)) := by
  have ai : a ∈ fs i := by rw [hf]; exact List.mem_cons_self
  have g0i : ∀ b ∈ g0, b ∈ fs i := fun b hb => by rw [hf]; exact List.mem_cons_of_mem _ hb
  have na : ¬ W a := he.off i a ai
  have pa : Pl H a := he.pl i a ai
  have stay : ∀ {v : V} {d : D} {g : List Addr}, Rep K H v d g → a ∉ g → Rep K (upd H a (.lst xs')) v d g := fun r n =>
    Rep.stay (M := fun b => b = a) (fun b e => e ▸ pa) (fun b o e nb => by rw [upd_ne nb]; exact e) _ _ _ r fun b hb e => n (e ▸ hb)
  have plk : ∀ {b : Addr}, Pl H b → Pl (upd H a (.lst xs')) b := fun {b} ⟨o, e, m⟩ => by
    by_cases q : b = a
    · rw [q]; exact ⟨_, upd_same, trivial⟩
    · exact ⟨o, by rw [upd_ne q]; exact e, m⟩
  have mem1 : ∀ {b : Addr}, b ∈ a :: g1 → b ∈ fs i ∨ ((∀ j, b ∉ fs j) ∧ Pl H b ∧ ¬ W b) := fun {b} hb => by
    rcases List.mem_cons.mp hb with q | q
    · exact .inl (q ▸ ai)
    · exact (sub b q).imp (g0i b) id
  refine ⟨fun j => ?_, fun j k b hj hk => ?_, fun j => ?_, fun j b hb => ?_, fun j b hb => ?_, fun b hb => ?_⟩
  · rw [at_set hi]
    by_cases e : j = i
    · subst e
      rw [if_pos rfl]
      refine ⟨_, hσ, ?_⟩
      unfold fput
      rw [if_pos rfl]
      refine .lst upd_same (RepL.stay (M := fun b => b = a) (fun b e => e ▸ pa) (fun b o e nb => by rw [upd_ne nb]; exact e) _ _ _ r fun b hb e => ?_)
      subst e
      exact (List.nodup_cons.mp nd).1 hb
    · rw [if_neg e]
      have q := he.slot j
      have ef : fput fs i (a :: g1) j = fs j := if_neg e
      cases z : env.at j with
      | dead => rw [z] at q; exact ef.trans q
      | own d' =>
        rw [z] at q
        obtain ⟨v', e1, r'⟩ := q
        exact ⟨v', e1, by rw [ef]; exact stay r' fun y => e (he.disj j i a y ai)⟩
      | view d' =>
        rw [z] at q
        obtain ⟨e0, v', g', e1, r', w⟩ := q
        exact ⟨ef.trans e0, v', g', e1, stay r' fun y => na (w a y), w⟩
  · unfold fput at hj hk
    by_cases e : j = i
    · rw [if_pos e] at hj
      by_cases e2 : k = i
      · rw [e, e2]
      · rw [if_neg e2] at hk
        rcases mem1 hj with q | q
        · exact absurd (he.disj k i b hk q) e2
        · exact absurd hk (q.1 k)
    · rw [if_neg e] at hj
      by_cases e2 : k = i
      · rw [if_pos e2] at hk
        rcases mem1 hk with q | q
        · exact absurd (he.disj j i b hj q) e
        · exact absurd hj (q.1 j)
      · rw [if_neg e2] at hk
        exact he.disj j k b hj hk
  · unfold fput
    by_cases e : j = i
    · rw [if_pos e]; exact nd
    · rw [if_neg e]; exact he.nd j
  · unfold fput at hb
    by_cases e : j = i
    · rw [if_pos e] at hb
      rcases mem1 hb with q | q
      · exact plk (he.pl i b q)
      · exact plk q.2.1
    · rw [if_neg e] at hb; exact plk (he.pl j b hb)
  · unfold fput at hb
    by_cases e : j = i
    · rw [if_pos e] at hb
      rcases mem1 hb with q | q
      · exact he.off i b q
      · exact q.2.2
    · rw [if_neg e] at hb; exact he.off j b hb
  · obtain ⟨o, e⟩ := he.wt b hb
    exact ⟨o, by rw [upd_ne (fun (z : b = a) => na (by rw [← z]; exact hb))]; exact e⟩
theorem RepL.set : ∀ {ds : List D} {xs : List V} {g gy : List Addr} {j : Nat} {y : V} {e : D}, RepL K H xs ds g → Rep K H y e gy → ∃ g', RepL K H (xs.set j y) (ds.set j e) g' ∧ (∀ a ∈ g', a ∈ g ∨ a ∈ gy) ∧ (g.Nodup → gy.Nodup → (∀ a ∈ gy, a ∉ g) → g'.Nodup)
  | [], _, g, gy, j, y, e, h, r => by
    cases h
    exact ⟨[], .nil, fun a z => (nomatch z), fun n _ _ => n⟩
  | d :: ds, _, g, gy, 0, y, e, h, r => by
    cases h with
    | cons h1 h2 =>
      refine ⟨_, .cons r h2, fun a ha => (List.mem_append.mp ha).symm.imp (fun z => List.mem_append_right _ z) id, fun n n2 n3 => ?_⟩
      obtain ⟨_, q, _⟩ := List.nodup_append.mp n
      exact List.nodup_append.mpr ⟨n2, q, fun a ha b hb e => n3 a ha (e ▸ List.mem_append_right _ hb)⟩
  | d :: ds, _, g, gy, j + 1, y, e, h, r => by
    cases h with
    | cons h1 h2 =>
      obtain ⟨g', r', s, n'⟩ := RepL.set (j := j) h2 r
      refine ⟨_, .cons h1 r', fun a ha => (List.mem_append.mp ha).elim (fun z => .inl (List.mem_append_left _ z)) fun z => (s a z).imp (fun z => List.mem_append_right _ z) id, fun n n2 n3 => ?_⟩
      obtain ⟨q1, q2, q3⟩ := List.nodup_append.mp n
      refine List.nodup_append.mpr ⟨q1, n' q2 n2 fun a ha hb => n3 a ha (List.mem_append_right _ hb), fun a ha b hb e => ?_⟩
      subst e
      rcases s a hb with z | z
      · exact q3 a ha a z rfl
      · exact n3 a z (List.mem_append_left _ ha)
theorem RepL.dropLast : ∀ {ds : List D} {xs : List V} {g : List Addr}, RepL K H xs ds g → ∃ g', RepL K H xs.dropLast ds.dropLast g' ∧ (∀ a ∈ g', a ∈ g) ∧ (g.Nodup → g'.Nodup)
  | [], _, g, h => by cases h; exact ⟨[], .nil, fun _ z => z, id⟩
  | [d], _, g, h => by
    cases h with
    | cons h1 h2 => cases h2; exact ⟨[], .nil, fun a z => (nomatch z), fun _ => .nil⟩
  | d :: e :: ds, _, g, h => by
    cases h with
    | cons h1 h2 =>
      obtain ⟨g', r', s, n'⟩ := RepL.dropLast h2
      cases h2 with
      | cons h2 h3 =>
        refine ⟨_, .cons h1 r', fun a ha => (List.mem_append.mp ha).elim (fun z => List.mem_append_left _ z) fun z => List.mem_append_right _ (s a z), fun n => ?_⟩
        obtain ⟨q1, q2, q3⟩ := List.nodup_append.mp n
        exact List.nodup_append.mpr ⟨q1, n' q2, fun a ha b hb e => q3 a ha b (s b hb) e⟩
/-- an own list at a slot -/
theorem RepEnv.lstAt (he : RepEnv K W H σ env fs) {i : Nat} {ds : List D} (e : env.at i = .own (.list ds)) : ∃ a xs g0, σ[i]? = some (some (.ref a)) ∧ H a = some (.lst xs) ∧ fs i = a :: g0 ∧ RepL K H xs ds g0 ∧ (a :: g0).Nodup ∧ i < env.length := by
  have q := he.slot i
  rw [e] at q
  obtain ⟨v, e1, r⟩ := q
  have n := he.nd i
  generalize hg : fs i = g at r n
  cases r with
  | lst h l =>
    refine ⟨_, _, _, e1, h, rfl, l, n, ?_⟩
    refine Nat.lt_of_not_le fun z => ?_
    unfold Env.at at e
    rw [List.getD_eq_getElem?_getD, List.getElem?_eq_none z] at e
    cases e
theorem Own.new {g : List Addr} (he : RepEnv K W H σ env fs) (w : Own H fs H1 fs1 g) (he1 : RepEnv K W H1 σ env1 fs1) : ∀ b ∈ g, (∀ j, b ∉ fs1 j) ∧ Pl H1 b ∧ ¬ W b := fun b hb => ⟨w.apart b hb, w.pl b hb, w.off he b hb⟩
end
section
variable {X : Cx} {E : XK} {p p1 p2 p3 o o1 o2 o3 : Bool} {A A1 A2 : List Nat} {pos : Pos}
def Slot.lst : Slot → R (List D)
  | .own (.list ds) => .ok ds
  | _ => .no
theorem slot_lst {s : Slot} {ds : List D} (h : Slot.lst s = .ok ds) : s = .own (.list ds) := by
  unfold Slot.lst at h
  split at h
  · cases h; rfl
  · cases h
theorem slot_lst_ex {s : Slot} {c : Exc} : Slot.lst s ≠ .ex c := by
  unfold Slot.lst
  split
  · exact fun z => nomatch z
  · exact fun z => nomatch z
/-- xs.append(e) -/
def eApp (i : Nat) (f : Ev) : Ev := fun env => (Slot.lst (env.at i)).bind fun _ => (f env).bind fun y => (Slot.lst (y.2.at i)).bind fun ds => if ds.length < 16000000 then .ok (.none, y.2.set i (.own (.list (ds ++ [y.1])))) else .no
theorem at_len {env : Env} {i : Nat} {s : Slot} (e : env.at i = s) (h : s ≠ .dead) : i < env.length := by
  refine Nat.lt_of_not_le fun z => h ?_
  unfold Env.at at e
  rw [List.getD_eq_getElem?_getD, List.getElem?_eq_none z] at e
  exact e.symm
theorem var_now {i : Nat} {W : Addr → Prop} {H : Hp} {σ : L2.St} {env env1 : Env} {fs fs1 : Fs} {H1 : Hp} {ds : List D} (he1 : RepEnv X.K W H1 σ env1 fs1) (e : Slot.lst (env1.at i) = .ok ds) : ∃ a xs g0, σ[i]? = some (some (.ref a)) ∧ H1 a = some (.lst xs) ∧ fs1 i = a :: g0 ∧ RepL X.K H1 xs ds g0 ∧ (a :: g0).Nodup ∧ i < env1.length := he1.lstAt (slot_lst e)
theorem line_lt {n : Nat} (h : n < 16000000) : n < sizeLine := by rw [sizeLine_eq]; omega
/-- an own list's slot, before something that leaves its place alone: its place is tracked, its kind stays -/
theorem Step.lst_kind {K : Frag} {W : Addr → Prop} {H H1 : Hp} {σ : L2.St} {env env1 : Env} {fs fs1 : Fs} {i : Nat} {ds : List D} (he1 : RepEnv K W H1 σ env1 fs1) (e : Slot.lst (env1.at i) = .ok ds) : ∃ a, σ[i]? = some (some (.ref a)) := by
  obtain ⟨a, xs, g0, e1, _⟩ := he1.lstAt (slot_lst e)
  exact ⟨a, e1⟩
theorem Step.written {K : Frag} {W : Addr → Prop} {H H1 : Hp} {σ : L2.St} {env env1 : Env} {fs fs1 : Fs} {i : Nat} {a : Addr} {xs xs' : List V} {ds' : List D} {g0 g1 : List Addr} (he : RepEnv K W H σ env fs) (S : Step K W p H env fs H1 σ env1 fs1) (hi : i < env1.length) (hσ : σ[i]? = some (some (.ref a))) (hH : H1 a = some (.lst xs)) (hf : fs1 i = a :: g0)
    (r : RepL K H1 xs' ds' g1) (nd : (a :: g1).Nodup) (sub : ∀ b ∈ g1, b ∈ g0 ∨ ((∀ j, b ∉ fs1 j) ∧ Pl H1 b ∧ ¬ W b ∧ ((∃ j, b ∈ fs j) ∨ H b = none))) : Step K W false H env fs (upd H1 a (.lst xs')) σ (env1.set i (.own (.list ds'))) (fput fs1 i (a :: g1)) where
  ext := fun b o e n => by
    have q := S.ext b o e n
    have ne : b ≠ a := fun z => by
      rcases S.sub i a (by rw [hf]; exact List.mem_cons_self) with ⟨j, hj⟩ | q
      · exact n j (z ▸ hj)
      · rw [z, q] at e; cases e
    rw [upd_ne ne]; exact q
  renv := S.renv.write hi hσ hH hf r nd fun b hb => (sub b hb).imp id fun z => ⟨z.1, z.2.1, z.2.2.1⟩
  sub := fun j b hb => by
    unfold fput at hb
    by_cases e : j = i
    · rw [if_pos e] at hb
      rcases List.mem_cons.mp hb with q | q
      · exact S.sub i b (by rw [hf, q]; exact List.mem_cons_self)
      · rcases sub b q with z | z
        · exact S.sub i b (by rw [hf]; exact List.mem_cons_of_mem _ z)
        · exact z.2.2.2
    · rw [if_neg e] at hb; exact S.sub j b hb
  pure := fun z => nomatch z
  vw := fun j d e => by
    rw [at_set hi] at e
    by_cases q : j = i
    · rw [if_pos q] at e; cases e
    · rw [if_neg q] at e; exact S.vw j d e
/-- xs.append(e): xs an own list at slot i -/
theorem de_app {i : Nat} {x : Str} {e : Expr} {f : Ev} {px apos cpos : Pos} (h : DE X E p true e f) (hN : X.N[i]? = some x := by rfl) (hv : Vis X.env.scope x := by first | exact .inl rfl | exact .inr (.inl rfl) | exact .inr (.inr rfl)) (hd : (x == ("__debug__" : Str)) = false := by decide) (hcd : (x == ("__classdict__" : Str)) = false := by decide)
    (hs : starEach [e] X.env = (false, eval e X.env) :: starEach [] X.env := by rfl)
    (hbase : attributeBase (.Name x px) "append" X.env (eval (.Name x px) X.env) = eval (.Name x px) X.env := by rfl)
    (hfew : ((backTo cpos (starEach [e] X.env)).all (fun x => !x.1) && (backToKw cpos (keywordEach [] X.env)).all (fun x => x.1.isSome)
      && decide ([e].length + ([] : List Keyword).length + (if ([] : List Keyword).isEmpty then 0 else 1) < 30)) = true := by rfl)
    (hline : (apos.endLine == cpos.line) = true := by rfl) (hplain : (backTo cpos (starEach [] X.env)).any (·.1) = false := by rfl) :
    DE X E false true (.Call (.Attribute (.Name x px) "append" apos) [e] [] cpos) (eApp i f) := by
  refine PE.mono (pe_bm PySem.F.plainAttrs_list PySem.F.slot_list_append PySem.F.type_list_append mt_append (pe_var hN hv hd hcd) (pa_cons h pa_nil hs) hbase hfew hline hs hplain) fun σ H Q ⟨env, fs, W, he, h⟩ => ?_
  unfold eApp at h
  cases e0 : Slot.lst (env.at i) with
  | no => rw [e0] at h; exact h.elim
  | ex c => exact absurd e0 slot_lst_ex
  | ok ds0 =>
    rw [e0] at h
    simp only [R.bind] at h
    obtain ⟨a, xs0, g0, s1, h1, _⟩ := he.lstAt (slot_lst e0)
    refine ⟨_, s1, .inl ⟨rfl, _, .inl (.inl h1)⟩, env, fs, W, he, ?_⟩
    cases e1 : f env with
    | no => rw [e1] at h; exact h.elim
    | ex c => rw [e1] at h; exact h
    | ok y =>
      obtain ⟨d, env1⟩ := y
      rw [e1] at h
      simp only [R.bind] at h
      intro v H1 fs1 gg P
      cases e2 : Slot.lst (env1.at i) with
      | no => rw [e2] at h; exact h.elim
      | ex c => exact absurd e2 slot_lst_ex
      | ok ds =>
        rw [e2] at h
        simp only [R.bind] at h
        obtain ⟨a', xs, g1, s2, h2, f2, l2, n2, hi⟩ := P.step.renv.lstAt (slot_lst e2)
        rw [s1] at s2
        cases s2
        by_cases c : ds.length < 16000000
        · rw [if_pos c] at h
          refine ⟨a, xs, v, rfl, rfl, h2, by rw [RepL.length l2]; exact line_lt c, ?_⟩
          have w := P.own rfl
          have nw := w.new he P.step.renv
          have ap : ∀ b ∈ gg, b ∉ a :: g1 := fun b hb z => (nw b hb).1 i (by rw [f2]; exact z)
          refine h .non _ _ [] ⟨Step.written he P.step hi s1 h2 f2 (RepL.append l2 (.cons P.rep .nil)) ?_ fun b hb => ?_, .non, fun _ => Own.nil⟩
          · have q := List.nodup_cons.mp n2
            rw [List.append_nil]
            refine List.nodup_cons.mpr ⟨fun z => ?_, List.nodup_append.mpr ⟨q.2, w.nd, fun b hb b' hb' e => ap b' hb' (e ▸ List.mem_cons_of_mem _ hb)⟩⟩
            rcases List.mem_append.mp z with z | z
            · exact q.1 z
            · exact ap a z List.mem_cons_self
          · rcases List.mem_append.mp hb with z | z
            · exact .inl z
            · have z' : b ∈ gg := by simpa using z
              exact .inr ⟨(nw b z').1, (nw b z').2.1, (nw b z').2.2, w.sub b z'⟩
        · rw [if_neg c] at h
          exact h.elim
/-- xs[k] = e, xs an own list at slot i: the value first, the place behind it -/
def setD (ds : List D) (k e : D) : Option (List D) := match k with
  | .int k => (ixN ds.length k).map fun j => ds.set j e
  | _ => none
def sSetIx (i : Nat) (fk fe : Ev) : Sv := fun env => (fe env).bind fun y => (Slot.lst (y.2.at i)).bind fun ds => (fk y.2).bind fun k => (R.of (setD ds k.1 y.1)).bind fun ds' => .ok (.nx (y.2.set i (.own (.list ds'))))
theorem ds_setIx {i : Nat} {x : Str} {e k : Expr} {fe fk : Ev} {px tpos : Pos} (he : DE X E p true e fe) (hk : DE X E true o k fk) (hN : X.N[i]? = some x := by rfl) (hv : Vis X.env.scope x := by first | exact .inl rfl | exact .inr (.inl rfl) | exact .inr (.inr rfl)) (hd : (x == ("__debug__" : Str)) = false := by decide) (hcd : (x == ("__classdict__" : Str)) = false := by decide)
    (ha : ∀ v, assign (.Subscript (.Name x px) k tpos) X.env v = (do
      let ov ← holding [v] (eval (.Name x px) X.env)
      let iv ← holding [v, ov] (eval k X.env)
      standAt tpos
      holding [v, ov, iv] (setItem ov iv v)
      release [v, ov, iv] []) := by intro _; rfl)
    (hs : swapsWithSole [.Subscript (.Name x px) k tpos] e pos.line X.env = pure false := by rfl) (hw : swappedStores [.Subscript (.Name x px) k tpos] e X.env = pure none := by rfl)
    (h1 : (assignEach [.Subscript (.Name x px) k tpos] X.env).map (·.2) = [assign (.Subscript (.Name x px) k tpos) X.env] := by rfl) :
    DS X E [] (.Assign [.Subscript (.Name x px) k tpos] e pos) (sSetIx i fk fe) := by
  refine DS.imp (ps_asg he (pg_sub (pe_var hN hv hd hcd) hk set_list ha) hs hw h1) fun D σ H env fs W hr q => ?_
  refine tD_then (k := fun y env => (Slot.lst (env.at i)).bind fun ds => (fk env).bind fun k => (R.of (setD ds k.1 y)).bind fun ds' => .ok (.nx (env.set i (.own (.list ds'))))) hr rfl q fun y env1 v H1 fs1 gy P z => ?_
  cases e2 : Slot.lst (env1.at i) with
  | no => rw [e2] at z; exact z.elim
  | ex c => exact absurd e2 slot_lst_ex
  | ok ds =>
    rw [e2] at z
    simp only [R.bind] at z
    obtain ⟨a, xs, g1, s1, h1', f1, l1, n1, hi⟩ := P.step.renv.lstAt (slot_lst e2)
    refine ⟨_, s1, env1, fs1, W, P.step.renv, ?_⟩
    cases e1 : fk env1 with
    | no => rw [e1] at z; exact z.elim
    | ex c => rw [e1] at z; exact (show ExP X.K E c H fs from z).before P.step
    | ok kk =>
      obtain ⟨k', env2⟩ := kk
      rw [e1] at z
      simp only [R.bind] at z
      intro kv H2 fs2 gk P2
      obtain ⟨sm, rfl, rfl⟩ := P2.step.pure rfl
      cases e3 : setD ds k' y with
      | none => rw [e3] at z; exact z.elim
      | some ds' =>
        rw [e3] at z
        simp only [R.of] at z
        unfold setD at e3
        split at e3
        · rename_i kz
          obtain ⟨j, ej, rfl⟩ := Option.map_eq_some_iff.mp e3
          have rk := P2.rep
          cases rk
          have l2 : RepL X.K H2 xs ds g1 := l1.same sm
          refine ⟨a, xs, kz, j, rfl, rfl, sm _ _ h1', by rw [RepL.length l2]; exact ej, ?_⟩
          have S := P.step.and_same sm
          have w := (P.own rfl).same sm
          have ry : Rep X.K H2 v y gy := P.rep.same sm
          have nw := w.new hr S.renv
          obtain ⟨g', r', s', n'⟩ := RepL.set (j := j) l2 ry
          have q1 := List.nodup_cons.mp n1
          have ap : ∀ b ∈ gy, b ∉ a :: g1 := fun b hb z => (nw b hb).1 i (by rw [f1]; exact z)
          refine z W σ _ _ (Step.written hr S hi s1 (sm _ _ h1') f1 r' (List.nodup_cons.mpr ⟨fun hm => ?_, n' q1.2 w.nd fun b hb z => ap b hb (List.mem_cons_of_mem _ z)⟩) fun b hb => ?_).move
          · rcases s' a hm with y | y
            · exact q1.1 y
            · exact ap a y List.mem_cons_self
          · rcases s' b hb with y | y
            · exact .inl y
            · exact .inr ⟨(nw b y).1, (nw b y).2.1, (nw b y).2.2, w.sub b y⟩
        · cases e3
end
end DV
end
section
set_option Elab.async false
set_option linter.all false
set_option maxRecDepth 100000
namespace DV
open PySem PySem.Spec PyProof.Rows L2
/-! ### slots forgotten and taken up again -/
theorem at_eq {env : Env} {i : Nat} : env.at i = (env[i]?).getD .dead := by
  unfold Env.at
  rw [List.getD_eq_getElem?_getD]
theorem kill_get : ∀ (vs : List Nat) (env : Env) (j : Nat), (killS vs env)[j]? = if j ∈ vs ∧ j < env.length then some .dead else env[j]?
  | [], env, j => by simp [killS]
  | v :: vs, env, j => by
    have ih := kill_get vs (env.set v .dead) j
    have e : killS (v :: vs) env = killS vs (env.set v .dead) := rfl
    rw [e, ih]
    simp only [List.length_set, List.mem_cons]
    by_cases h1 : j ∈ vs
    · simp [h1]
      by_cases h2 : j < env.length
      · simp [h2]
      · simp [h2]
    · simp only [h1, false_and, if_false, or_false]
      by_cases h3 : j = v
      · subst h3
        by_cases h2 : j < env.length
        · simp [h2]
        · simp [h2]
      · rw [List.getElem?_set_ne (Ne.symm h3)]
        simp [h3]
theorem kill_at (vs : List Nat) (env : Env) (j : Nat) : (killS vs env).at j = if j ∈ vs then .dead else env.at j := by
  rw [at_eq, kill_get, at_eq]
  by_cases h1 : j ∈ vs
  · by_cases h2 : j < env.length
    · simp [h1, h2]
    · simp [h1, h2]
  · simp [h1]
theorem kill_len (vs : List Nat) (env : Env) : (killS vs env).length = env.length := by
  induction vs generalizing env with
  | nil => rfl
  | cons v vs ih => exact (ih (env.set v .dead)).trans (by simp)
/-- the slots vs as they were in o -/
def backS (vs : List Nat) (o env : Env) : Env := vs.foldl (fun e i => e.set i (o.at i)) env
theorem back_get : ∀ (vs : List Nat) (o env : Env) (j : Nat), (backS vs o env)[j]? = if j ∈ vs ∧ j < env.length then some (o.at j) else env[j]?
  | [], o, env, j => by simp [backS]
  | v :: vs, o, env, j => by
    have ih := back_get vs o (env.set v (o.at v)) j
    have e : backS (v :: vs) o env = backS vs o (env.set v (o.at v)) := rfl
    rw [e, ih]
    simp only [List.length_set, List.mem_cons]
    by_cases h1 : j ∈ vs
    · simp [h1]
      by_cases h2 : j < env.length
      · simp [h2]
      · simp [h2]
    · simp only [h1, false_and, if_false, or_false]
      by_cases h3 : j = v
      · subst h3
        by_cases h2 : j < env.length
        · simp [h2]
        · simp [h2]
      · rw [List.getElem?_set_ne (Ne.symm h3)]
        simp [h3]
theorem back_at (vs : List Nat) (o env : Env) (j : Nat) : (backS vs o env).at j = if j ∈ vs ∧ j < env.length then o.at j else env.at j := by
  rw [at_eq, back_get, at_eq]
  by_cases h1 : j ∈ vs ∧ j < env.length
  · simp [h1]
  · rw [if_neg h1, if_neg h1, at_eq]
theorem back_kill (vs : List Nat) (env : Env) : backS vs env (killS vs env) = env := by
  refine List.ext_getElem? fun j => ?_
  rw [back_get, kill_get, kill_len]
  by_cases h1 : j ∈ vs ∧ j < env.length
  · rw [if_pos h1, at_eq, List.getElem?_eq_getElem h1.2]
    rfl
  · rw [if_neg h1, if_neg h1]
theorem kill_back (vs : List Nat) (o env : Env) : killS vs (backS vs o env) = killS vs env := by
  refine List.ext_getElem? fun j => ?_
  rw [kill_get, kill_get, back_get]
  have hl : (backS vs o env).length = env.length := by
    unfold backS
    induction vs generalizing env with
    | nil => rfl
    | cons v vs ih => exact (ih (env.set v (o.at v))).trans (by simp)
  rw [hl]
  by_cases h1 : j ∈ vs ∧ j < env.length
  · rw [if_pos h1, if_pos h1]
  · rw [if_neg h1, if_neg h1, if_neg h1]
theorem wipe_get : ∀ (vs : List Nat) (σ : L2.St) (j : Nat), (wipe σ vs)[j]? = if j ∈ vs ∧ j < σ.length then some none else σ[j]?
  | [], σ, j => by simp [wipe]
  | v :: vs, σ, j => by
    unfold wipe
    have ih := wipe_get vs σ j
    by_cases h3 : j = v
    · subst h3
      by_cases h2 : j < σ.length
      · simp [h2, wipe_length]
      · have : σ.length ≤ j := Nat.le_of_not_lt h2
        simp [h2, wipe_length, this]
    · rw [List.getElem?_set_ne (Ne.symm h3), ih]
      simp [h3]
theorem wipe_eq {vs : List Nat} {σ σ' : L2.St} (hl : σ'.length = σ.length) (h : ∀ j, j ∉ vs → σ'[j]? = σ[j]?) : wipe σ' vs = wipe σ vs := by
  refine List.ext_getElem? fun j => ?_
  rw [wipe_get, wipe_get, hl]
  by_cases h1 : j ∈ vs ∧ j < σ.length
  · rw [if_pos h1, if_pos h1]
  · rw [if_neg h1, if_neg h1]
    by_cases h2 : j ∈ vs
    · have h3 : σ.length ≤ j := Nat.le_of_not_lt fun z => h1 ⟨h2, z⟩
      rw [List.getElem?_eq_none h3, List.getElem?_eq_none (by rw [hl]; exact h3)]
    · exact h j h2
theorem wipe_out {vs : List Nat} {σ : L2.St} {j : Nat} (h : j ∉ vs) : (wipe σ vs)[j]? = σ[j]? := by
  rw [wipe_get, if_neg fun z => h z.1]
def fblank (vs : List Nat) (fs : Fs) : Fs := fun j => if j ∈ vs then [] else fs j
theorem fblank_sub {vs : List Nat} {fs : Fs} {j : Nat} {a : Addr} (h : a ∈ fblank vs fs j) : j ∉ vs ∧ a ∈ fs j := by
  unfold fblank at h
  by_cases e : j ∈ vs
  · rw [if_pos e] at h; cases h
  · rw [if_neg e] at h; exact ⟨e, h⟩
section
variable {K : Frag} {W W' W1 : Addr → Prop} {E : XK} {H H' H1 H2 : Hp} {σ σ' σ1 σ2 : L2.St} {env env' env1 env2 : Env} {fs fs' fs1 fs2 : Fs} {p p1 p2 o : Bool}
theorem RepEnv.killX (h : RepEnv K W H σ env fs) {vs : List Nat} (hσ : ∀ j, j ∉ vs → σ'[j]? = σ[j]?) : RepEnv K W H σ' (killS vs env) (fblank vs fs) where
  slot := fun j => by
    rw [kill_at]
    by_cases e : j ∈ vs
    · rw [if_pos e]
      show fblank vs fs j = []
      exact if_pos e
    · rw [if_neg e]
      have q := h.slot j
      have ef : fblank vs fs j = fs j := if_neg e
      cases z : env.at j with
      | dead => rw [z] at q; exact ef.trans q
      | own d' =>
        rw [z] at q
        obtain ⟨v', e1, r'⟩ := q
        exact ⟨v', (hσ j e).trans e1, by rw [ef]; exact r'⟩
      | view d' =>
        rw [z] at q
        obtain ⟨e0, v', g', e1, r', w⟩ := q
        exact ⟨ef.trans e0, v', g', (hσ j e).trans e1, r', w⟩
  disj := fun i j a hi hj => h.disj i j a (fblank_sub hi).2 (fblank_sub hj).2
  nd := fun i => by
    unfold fblank
    by_cases e : i ∈ vs
    · rw [if_pos e]; exact .nil
    · rw [if_neg e]; exact h.nd i
  pl := fun i a ha => h.pl i a (fblank_sub ha).2
  off := fun i a ha => h.off i a (fblank_sub ha).2
  wt := h.wt
/-- an object that nothing here holds is written -/
theorem RepEnv.upd (h : RepEnv K W H σ env fs) {L : Addr} {u : HO} (pd : Pl H L) (nf : ∀ i, L ∉ fs i) (nw : ¬ W L) : RepEnv K W (upd H L u) σ env fs := by
  have stay : ∀ {v : V} {d : D} {g : List Addr}, Rep K H v d g → L ∉ g → Rep K (L2.upd H L u) v d g := fun r n =>
    Rep.stay (M := fun b => b = L) (fun b e => e ▸ pd) (fun b o e nb => by rw [upd_ne nb]; exact e) _ _ _ r fun b hb e => n (e ▸ hb)
  refine ⟨fun i => ?_, h.disj, h.nd, fun i a ha => ?_, h.off, fun a ha => ?_⟩
  · have q := h.slot i
    cases e : env.at i with
    | dead => rw [e] at q; exact q
    | own d =>
      rw [e] at q
      obtain ⟨v, e1, r⟩ := q
      exact ⟨v, e1, stay r (nf i)⟩
    | view d =>
      rw [e] at q
      obtain ⟨z, v, g, e1, r, n⟩ := q
      exact ⟨z, v, g, e1, stay r fun y => nw (n _ y), n⟩
  · obtain ⟨o, e, m⟩ := h.pl i a ha
    exact ⟨o, by rw [upd_ne fun z => nf i (by rw [← z]; exact ha)]; exact e, m⟩
  · obtain ⟨o, e⟩ := h.wt a ha
    exact ⟨o, by rw [upd_ne fun z => nw (by rw [← z]; exact ha)]; exact e⟩
theorem RepL.upd {L : Addr} {u : HO} {vs : List V} {ds : List D} {g : List Addr} (pd : Pl H L) (r : RepL K H vs ds g) (n : L ∉ g) : RepL K (L2.upd H L u) vs ds g :=
  RepL.stay (M := fun b => b = L) (fun b e => e ▸ pd) (fun b o e nb => by rw [upd_ne nb]; exact e) _ _ _ r fun b hb e => n (e ▸ hb)
end
/-! ### targets and the slots they store to -/
mutual
def Tg.slots : Tg → List Nat
  | .nm i => [i]
  | .tp l => Tg.slotsL l
def Tg.slotsL : List Tg → List Nat
  | [] => []
  | t :: ts => Tg.slots t ++ Tg.slotsL ts
end
mutual
theorem bindV_at : ∀ (t : Tg) (d : D) (env env' : Env), bindV t d env = some env' → env'.length = env.length ∧ ∀ j, j ∉ Tg.slots t → env'[j]? = env[j]?
  | .nm i, d, env, env', h => by
    unfold bindV at h
    by_cases c : i < env.length
    · rw [if_pos c] at h
      cases h
      exact ⟨by simp, fun j hj => List.getElem?_set_ne fun e => hj (by simp [Tg.slots, e])⟩
    · rw [if_neg c] at h; cases h
  | .tp l, .tuple ds, env, env', h => by
    have h' : bindVs l ds env = some env' := by simpa [bindV] using h
    have := bindVs_at l ds env env' h'
    exact ⟨this.1, fun j hj => this.2 j (by simpa [Tg.slots] using hj)⟩
  | .tp l, .none, env, env', h => by simp [bindV] at h
  | .tp l, .bool _, env, env', h => by simp [bindV] at h
  | .tp l, .int _, env, env', h => by simp [bindV] at h
  | .tp l, .str _, env, env', h => by simp [bindV] at h
  | .tp l, .list _, env, env', h => by simp [bindV] at h
  | .tp l, .dict _, env, env', h => by simp [bindV] at h
theorem bindVs_at : ∀ (t : List Tg) (d : List D) (env env' : Env), bindVs t d env = some env' → env'.length = env.length ∧ ∀ j, j ∉ Tg.slotsL t → env'[j]? = env[j]?
  | [], [], env, env', h => by
    cases h
    exact ⟨rfl, fun _ _ => rfl⟩
  | [], _ :: _, env, env', h => by simp [bindVs] at h
  | _ :: _, [], env, env', h => by simp [bindVs] at h
  | t :: ts, d :: ds, env, env', h => by
    obtain ⟨env1, b1, b2⟩ := Option.bind_eq_some_iff.mp (show (bindV t d env).bind (fun env' => bindVs ts ds env') = some env' from h)
    have h1 := bindV_at t d env env1 b1
    have h2 := bindVs_at ts ds env1 env' b2
    refine ⟨h2.1.trans h1.1, fun j hj => ?_⟩
    have hj' : j ∉ Tg.slots t ∧ j ∉ Tg.slotsL ts := by simpa [Tg.slotsL] using hj
    exact (h2.2 j hj'.2).trans (h1.2 j hj'.1)
end
theorem bindV_kill {t : Tg} {d : D} {vs : List Nat} {env env' : Env} (h : bindV t d (killS vs env) = some env') (hs : ∀ j, j ∈ Tg.slots t → j ∈ vs) : killS vs env' = killS vs env := by
  obtain ⟨h1, h2⟩ := bindV_at t d _ _ h
  refine List.ext_getElem? fun j => ?_
  rw [kill_get, kill_get, h1, kill_len]
  by_cases c : j ∈ vs ∧ j < env.length
  · rw [if_pos c, if_pos c]
  · rw [if_neg c, if_neg c]
    by_cases c2 : j ∈ vs
    · have c3 : env.length ≤ j := Nat.le_of_not_lt fun z => c ⟨c2, z⟩
      rw [List.getElem?_eq_none c3, List.getElem?_eq_none (by rw [h1, kill_len]; exact c3)]
    · rw [h2 j fun z => c2 (hs j z), kill_get, if_neg c]
/-! ### comprehensions -/
def noEx {α : Type} : R α → R α
  | .ex _ => .no
  | r => r
def lcL (vs : List Nat) (t : Tg) (c : Et) (e : Ev) : List D → Env → R (List D × Env)
  | [], env => .ok ([], env)
  | d :: ds, env => (R.of (bindV t d (killS vs env))).bind fun e1 => (c e1).bind fun b => if b.1 = true then (e b.2).bind fun y => (lcL vs t c e ds y.2).bind fun r => .ok (y.1 :: r.1, r.2) else lcL vs t c e ds b.2
def eLc (vs : List Nat) (t : Tg) (it : Ei) (c : Et) (e : Ev) : Ev := fun env => (it env).bind fun x => if x.1.length ≤ 16000000 then (noEx (lcL vs t c e x.1 x.2)).bind fun r => .ok (.list r.1, backS vs x.2 r.2) else .no
def DTs (X : Cx) (E : XK) (p : Bool) (ifs : List Expr) (f : Et) : Prop := PTs X ifs (tDT X.K E p f)
def tYesE : Et := fun env => .ok (true, env)
theorem PTs.mono {X : Cx} {ifs : List Expr} {t t' : TT} (h : PTs X ifs t) (m : ∀ σ H Q, t' σ H Q → t σ H Q) : PTs X ifs t' := ⟨fun pins s σ H Q I w => h.run pins s σ H Q I (m σ H Q w)⟩
theorem dts_nil {X : Cx} {E : XK} : DTs X E true [] tYesE := PTs.mono pts_nil fun σ H Q ⟨env, fs, W, he, h⟩ => h H fs (Step.refl he)
theorem dts_one {X : Cx} {E : XK} {p : Bool} {c : Expr} {f : Et} (h : DT X E p c f) : DTs X E p [c] f := pts_one h
/-- a comprehension's standing: what holds ahead of each turn; L: the new list -/
structure LcI (K : Frag) (W1 : Addr → Prop) (vs : List Nat) (σ : L2.St) (p : Bool) (H1 : Hp) (env1 : Env) (fs1 : Fs) (L : Addr) (Hi : Hp) (envi : Env) (fsi : Fs) (acc : List V) (accd : List D) (ga : List Addr) : Prop where
  at_ : Hi L = some (.lst acc)
  renv : RepEnv K W1 Hi (wipe σ vs) (killS vs envi) fsi
  ext : Ext H1 Hi (fblank vs fs1)
  sub : ∀ j, Sub H1 (fblank vs fs1) (fsi j)
  nL : ∀ j, L ∉ fsi j
  vw : ∀ j d, (killS vs envi).at j = .view d → (killS vs env1).at j = .view d
  rep : RepL K Hi acc accd ga
  nd : ga.Nodup
  apart : ∀ a ∈ ga, ∀ i, a ∉ fsi i
  pl : ∀ a ∈ ga, Pl Hi a
  subA : Sub H1 (fblank vs fs1) ga
  nLa : L ∉ ga
  pure : p = true → Same H1 Hi ∧ killS vs envi = killS vs env1 ∧ fsi = fblank vs fs1
section
variable {K : Frag} {W W1 : Addr → Prop} {E : XK} {H H' H1 Hi : Hp} {σ σ2 : L2.St} {env env1 envi : Env} {fs fs1 fsi : Fs} {p p1 p2 o : Bool} {vs : List Nat} {L : Addr} {acc : List V} {accd : List D} {ga : List Addr}
theorem LcI.start (h : RepEnv K W1 H1 σ env1 fs1) (hL : H1 L = none) : LcI K W1 vs σ p H1 env1 fs1 L (upd H1 L (.lst [])) env1 (fblank vs fs1) [] [] [] where
  at_ := upd_same
  renv := (h.killX fun j hj => wipe_out hj).same (same_upd hL)
  ext := Ext.of (same_upd hL)
  sub := fun _ => Sub.self
  nL := fun j hj => by
    obtain ⟨o, e, _⟩ := h.pl j L (fblank_sub hj).2
    rw [hL] at e; cases e
  vw := fun _ _ z => z
  rep := .nil
  nd := .nil
  apart := fun _ z => (nomatch z)
  pl := fun _ z => (nomatch z)
  subA := fun _ z => (nomatch z)
  nLa := fun z => (nomatch z)
  pure := fun _ => ⟨same_upd hL, rfl, rfl⟩
/-- behind the store and the tests of a turn, and nothing more -/
theorem LcI.skip (I : LcI K W1 vs σ p H1 env1 fs1 L Hi envi fsi acc accd ga) (nW : ¬ W1 L) (sm : Same Hi H') {e1 e2 : Env} {fsb fs2 : Fs} {H2 : Hp} (kb : killS vs e1 = killS vs envi) (wp : wipe σ2 vs = wipe σ vs) (sb : ∀ i a, a ∈ fsb i → a ∈ fsi i) (kf : fblank vs fsb = fsi) (S : Step K W1 p H' e1 fsb H2 σ2 e2 fs2) :
    LcI K W1 vs σ p H1 env1 fs1 L H2 e2 (fblank vs fs2) acc accd ga := by
  have nLb : ∀ j, L ∉ fsb j := fun j hj => I.nL j (sb j L hj)
  have x0 : Ext Hi H2 fsi := (Ext.trans (Ext.of sm) (fun i a ha => .inl ⟨i, sb i a ha⟩) S.ext)
  have s0 : ∀ i, Sub Hi fsi (fs2 i) := fun i => Sub.trans (Ext.of sm) (fun i a ha => .inl ⟨i, sb i a ha⟩) (S.sub i)
  have nL2 : ∀ j, L ∉ fs2 j := fun j hj => by
    rcases s0 j L hj with ⟨k, hk⟩ | z
    · exact I.nL k hk
    · rw [I.at_] at z; cases z
  have tA := RepL.there _ _ _ I.rep
  refine ⟨x0 _ _ I.at_ I.nL, ?_, I.ext.trans I.sub x0, fun j => Sub.trans I.ext I.sub fun a ha => s0 j a (fblank_sub ha).2, fun j hj => nL2 j (fblank_sub hj).2, fun j d e => ?_, RepL.ext I.renv x0 I.rep I.apart, I.nd, fun a ha i hi => ?_, pl_ext x0 I.pl I.apart, I.subA, I.nLa, fun hp => ?_⟩
  · rw [← wp]
    exact S.renv.killX fun j hj => wipe_out hj
  · refine I.vw j d ?_
    rw [kill_at] at e
    by_cases c : j ∈ vs
    · rw [if_pos c] at e; cases e
    · rw [if_neg c] at e
      have q := S.vw j d e
      have : (killS vs e1).at j = .view d := by rw [kill_at, if_neg c]; exact q
      rw [kb] at this; exact this
  · exact apart_ext x0 s0 tA I.apart a ha i (fblank_sub hi).2
  · obtain ⟨a1, a2, a3⟩ := I.pure hp
    obtain ⟨b1, rfl, rfl⟩ := S.pure hp
    exact ⟨fun x o e => b1 x o (sm x o (a1 x o e)), kb.trans a2, kf.trans a3⟩
/-- .. and one more item -/
theorem LcI.app (I : LcI K W1 vs σ p H1 env1 fs1 L Hi envi fsi acc accd ga) (nW : ¬ W1 L) {H' : Hp} (hL1 : H1 L = none) {e' : Env} {v : V} {d : D} {gy : List Addr} (r : Rep K Hi v d gy) (nd : gy.Nodup) (ap : ∀ a ∈ gy, ∀ i, a ∉ fsi i) (pl : ∀ a ∈ gy, Pl Hi a) (sb : Sub H1 (fblank vs fs1) gy) (nga : ∀ a ∈ gy, a ∉ ga) (nLy : L ∉ gy) :
    LcI K W1 vs σ p H1 env1 fs1 L (upd Hi L (.lst (acc ++ [v]))) envi fsi (acc ++ [v]) (accd ++ [d]) (ga ++ (gy ++ [])) := by
  have pL : Pl Hi L := ⟨_, I.at_, trivial⟩
  have plk : ∀ {b : Addr}, Pl Hi b → Pl (upd Hi L (.lst (acc ++ [v]))) b := fun {b} ⟨o, e, m⟩ => by
    by_cases q : b = L
    · rw [q]; exact ⟨_, upd_same, trivial⟩
    · exact ⟨o, by rw [upd_ne q]; exact e, m⟩
  rw [List.append_nil]
  refine ⟨upd_same, I.renv.upd pL I.nL nW, fun b o e n => ?_, I.sub, I.nL, I.vw, ?_, List.nodup_append.mpr ⟨I.nd, nd, fun a ha b hb e => nga b hb (e ▸ ha)⟩, fun a ha => (List.mem_append.mp ha).elim (I.apart a) (ap a), fun a ha => (List.mem_append.mp ha).elim (fun z => plk (I.pl a z)) fun z => plk (pl a z),
    fun a ha => (List.mem_append.mp ha).elim (I.subA a) (sb a), fun z => (List.mem_append.mp z).elim I.nLa nLy, fun hp => ?_⟩
  · rw [upd_ne (ne_of_none e hL1)]; exact I.ext b o e n
  · have := RepL.append (RepL.upd (u := .lst (acc ++ [v])) pL I.rep I.nLa) (RepL.upd (u := .lst (acc ++ [v])) pL (RepL.cons r .nil) (by simpa using nLy))
    rwa [List.append_nil] at this
  · obtain ⟨a1, a2, a3⟩ := I.pure hp
    exact ⟨fun b o e => by rw [upd_ne (ne_of_none e hL1)]; exact a1 b o e, a2, a3⟩
end

/-- the standing's end, back in the def's slots -/
theorem LcI.fin {K : Frag} {W W1 : Addr → Prop} {H H1 Hn : Hp} {σ : L2.St} {env env1 envn : Env} {fs fs1 fsn : Fs} {p pi p' : Bool} {vs : List Nat} {L : Addr} {acc : List V} {accd : List D} {ga : List Addr} (he : RepEnv K W H σ env fs)
    (x1 : Ext H H1 fs) (x2 : RepEnv K W1 H1 σ env1 fs1) (x3 : ∀ a, W a → W1 a) (x4 : ∀ i, Sub H fs (fs1 i)) (x5 : ∀ j d, env1.at j = .view d → env.at j = .view d) (x8 : pi = true → Same H H1 ∧ env1 = env ∧ fs1 = fs) (hL : H1 L = none)
    (I : LcI K W1 vs σ p' H1 env1 fs1 L Hn envn fsn acc accd ga) (hp : p = true → pi = true ∧ p' = true) : ∃ fs', Post K W p true H env fs Hn σ (backS vs env1 envn) fs' (.ref L) (.list accd) (L :: ga) := by
  have xb : Ext H1 Hn fs1 := I.ext.less fun j a ha => (fblank_sub ha).2
  have x0 : Ext H Hn fs := x1.trans x4 xb
  have sn : ∀ j, Sub H fs (fsn j) := fun j => Sub.trans x1 (fun i => x4 i) ((I.sub j).less fun j a ha => (fblank_sub ha).2)
  have nL1 : ∀ j, L ∉ fs1 j := fun j hj => by
    obtain ⟨o, e, _⟩ := x2.pl j L hj
    rw [hL] at e; cases e
  -- a slot of the block's own: what it held stands apart
  have keepv : ∀ j ∈ vs, ∀ a ∈ fs1 j, ∀ i, a ∉ fblank vs fs1 i := fun j hj a ha i hi => by
    obtain ⟨n, hi'⟩ := fblank_sub hi
    have := x2.disj j i a ha hi'
    subst this
    exact n hj
  have apn : ∀ j ∈ vs, ∀ a ∈ fs1 j, ∀ i, a ∉ fsn i := fun j hj a ha i hi => by
    rcases I.sub i a hi with ⟨k, hk⟩ | z
    · exact keepv j hj a ha k hk
    · obtain ⟨o, e, _⟩ := x2.pl j a ha
      rw [e] at z; cases z
  have apg : ∀ j ∈ vs, ∀ a ∈ fs1 j, a ∉ ga := fun j hj a ha hg => by
    rcases I.subA a hg with ⟨k, hk⟩ | z
    · exact keepv j hj a ha k hk
    · obtain ⟨o, e, _⟩ := x2.pl j a ha
      rw [e] at z; cases z
  have plv : ∀ j ∈ vs, ∀ a ∈ fs1 j, Pl Hn a := fun j hj a ha => by
    obtain ⟨o, e, m⟩ := x2.pl j a ha
    exact ⟨o, I.ext a o e (keepv j hj a ha), m⟩
  have fdead : ∀ j ∈ vs, fsn j = [] := fun j hj => by
    have q := I.renv.slot j
    rw [kill_at, if_pos hj] at q
    exact q
  have viewok : ∀ j d, env1.at j = .view d → ∃ v g, σ[j]? = some (some v) ∧ Rep K Hn v d g ∧ ∀ a ∈ g, W a := fun j d e => by
    have q := he.slot j
    rw [x5 j d e] at q
    obtain ⟨_, v, g, e1, r, w⟩ := q
    exact ⟨v, g, e1, Rep.prot he x0 r w, w⟩
  refine ⟨fun j => if j ∈ vs ∧ j < envn.length then fs1 j else fsn j, ⟨x0, ⟨fun j => ?_, fun i j a hi hj => ?_, fun j => ?_, fun j a ha => ?_, fun j a ha => ?_, fun a ha => ?_⟩, fun j => ?_, fun z => ?_, fun j d e => ?_⟩, .lst I.at_ I.rep, fun _ => ⟨List.nodup_cons.mpr ⟨I.nLa, I.nd⟩, fun a ha i hi => ?_, fun a ha => ?_, fun a ha => ?_⟩⟩
  · -- slot
    rw [back_at]
    by_cases c : j ∈ vs ∧ j < envn.length
    · rw [if_pos c]
      have q := x2.slot j
      cases e : env1.at j with
      | dead =>
        rw [e] at q
        show (if j ∈ vs ∧ j < envn.length then fs1 j else fsn j) = []
        rw [if_pos c]; exact q
      | own d =>
        rw [e] at q
        obtain ⟨v, e1, r⟩ := q
        refine ⟨v, e1, ?_⟩
        show Rep K Hn v d (if j ∈ vs ∧ j < envn.length then fs1 j else fsn j)
        rw [if_pos c]
        exact Rep.stay (M := fun a => ∃ i, a ∈ fblank vs fs1 i) (fun a ⟨i, ha⟩ => x2.pl i a (fblank_sub ha).2) (fun b o e nb => I.ext b o e fun i hi => nb ⟨i, hi⟩) _ _ _ r fun a ha ⟨i, hi⟩ => keepv j c.1 a ha i hi
      | view d =>
        rw [e] at q
        refine ⟨?_, viewok j d e⟩
        show (if j ∈ vs ∧ j < envn.length then fs1 j else fsn j) = []
        rw [if_pos c]; exact q.1
    · rw [if_neg c]
      by_cases hv : j ∈ vs
      · have e : envn.at j = .dead := by
          rw [at_eq, List.getElem?_eq_none (Nat.le_of_not_lt fun z => c ⟨hv, z⟩)]
          rfl
        rw [e]
        show (if j ∈ vs ∧ j < envn.length then fs1 j else fsn j) = []
        rw [if_neg c]; exact fdead j hv
      · have q := I.renv.slot j
        rw [kill_at, if_neg hv] at q
        cases e : envn.at j with
        | dead =>
          rw [e] at q
          show (if j ∈ vs ∧ j < envn.length then fs1 j else fsn j) = []
          rw [if_neg c]; exact q
        | own d =>
          rw [e] at q
          obtain ⟨v, e1, r⟩ := q
          refine ⟨v, by rw [← wipe_out hv]; exact e1, ?_⟩
          show Rep K Hn v d (if j ∈ vs ∧ j < envn.length then fs1 j else fsn j)
          rw [if_neg c]; exact r
        | view d =>
          rw [e] at q
          have e1 : env1.at j = .view d := by
            have z := I.vw j d (by rw [kill_at, if_neg hv]; exact e)
            rw [kill_at, if_neg hv] at z
            exact z
          refine ⟨?_, viewok j d e1⟩
          show (if j ∈ vs ∧ j < envn.length then fs1 j else fsn j) = []
          rw [if_neg c]; exact q.1
  · by_cases c : i ∈ vs ∧ i < envn.length
    · rw [if_pos c] at hi
      by_cases c2 : j ∈ vs ∧ j < envn.length
      · rw [if_pos c2] at hj
        exact x2.disj i j a hi hj
      · rw [if_neg c2] at hj
        exact absurd hj (apn i c.1 a hi j)
    · rw [if_neg c] at hi
      by_cases c2 : j ∈ vs ∧ j < envn.length
      · rw [if_pos c2] at hj
        exact absurd hi (apn j c2.1 a hj i)
      · rw [if_neg c2] at hj
        exact I.renv.disj i j a hi hj
  · by_cases c : j ∈ vs ∧ j < envn.length
    · rw [if_pos c]; exact x2.nd j
    · rw [if_neg c]; exact I.renv.nd j
  · by_cases c : j ∈ vs ∧ j < envn.length
    · rw [if_pos c] at ha; exact plv j c.1 a ha
    · rw [if_neg c] at ha; exact I.renv.pl j a ha
  · by_cases c : j ∈ vs ∧ j < envn.length
    · rw [if_pos c] at ha; exact fun z => x2.off j a ha (x3 a z)
    · rw [if_neg c] at ha; exact fun z => I.renv.off j a ha (x3 a z)
  · exact I.renv.wt a (x3 a ha)
  · intro a ha
    by_cases c : j ∈ vs ∧ j < envn.length
    · rw [if_pos c] at ha; exact x4 j a ha
    · rw [if_neg c] at ha; exact sn j a ha
  · obtain ⟨h1, h2⟩ := hp z
    obtain ⟨a1, rfl, rfl⟩ := x8 h1
    obtain ⟨b1, b2, b3⟩ := I.pure h2
    refine ⟨fun x o e => b1 x o (a1 x o e), ?_, funext fun j => ?_⟩
    · have q : backS vs env1 envn = backS vs env1 (killS vs envn) := by
        refine List.ext_getElem? fun j => ?_
        rw [back_get, back_get, kill_len, kill_get]
        by_cases c : j ∈ vs ∧ j < envn.length
        · rw [if_pos c, if_pos c]
        · rw [if_neg c, if_neg c, if_neg c]
      rw [q, b2]
      exact back_kill vs env1
    · by_cases c : j ∈ vs ∧ j < envn.length
      · rw [if_pos c]
      · rw [if_neg c, b3]
        unfold fblank
        by_cases hv : j ∈ vs
        · rw [if_pos hv]
          have hlen : envn.length = env1.length := by rw [← kill_len vs envn, b2, kill_len]
          have e : env1.at j = .dead := by
            rw [at_eq, List.getElem?_eq_none (by rw [← hlen]; exact Nat.le_of_not_lt fun z => c ⟨hv, z⟩)]
            rfl
          have q := x2.slot j
          rw [e] at q
          exact q.symm
        · rw [if_neg hv]
  · refine x5 j d ?_
    rw [back_at] at e
    by_cases c : j ∈ vs ∧ j < envn.length
    · rw [if_pos c] at e; exact e
    · rw [if_neg c] at e
      by_cases hv : j ∈ vs
      · have e' : envn.at j = .dead := by
          rw [at_eq, List.getElem?_eq_none (Nat.le_of_not_lt fun z => c ⟨hv, z⟩)]
          rfl
        rw [e'] at e; cases e
      · have z := I.vw j d (by rw [kill_at, if_neg hv]; exact e)
        rw [kill_at, if_neg hv] at z
        exact z
  · by_cases c : i ∈ vs ∧ i < envn.length
    · rw [if_pos c] at hi
      rcases List.mem_cons.mp ha with rfl | ha
      · exact nL1 i hi
      · exact apg i c.1 a hi ha
    · rw [if_neg c] at hi
      rcases List.mem_cons.mp ha with rfl | ha
      · exact I.nL i hi
      · exact I.apart a ha i hi
  · rcases List.mem_cons.mp ha with rfl | ha
    · exact ⟨_, I.at_, trivial⟩
    · exact I.pl a ha
  · rcases List.mem_cons.mp ha with rfl | ha
    · by_cases n : ∀ i, a ∉ fs i
      · cases e : H a with
        | none => exact .inr rfl
        | some o => rw [x1 a o e n] at hL; cases hL
      · exact .inl (by simpa using n)
    · exact Sub.trans x1 (fun i => x4 i) ((I.subA).less fun j a ha => (fblank_sub ha).2) a ha
def E0 : XK := fun _ _ _ => False
theorem tLc_of {K : Frag} {n : Nat} {E : XK} {H : Hp} {σ : L2.St} {p1 p2 p3 : Bool} {vs A : List Nat} {t : Tg} {it : Ei} {c : Et} {e : Ev} {Q : VK} (hA : ∀ j ∈ A, j ∈ vs) (hT : ∀ j ∈ Tg.slots t, j ∈ vs)
    (h : tD K E (p1 && (p2 && p3)) true (eLc vs t it c e) σ H Q) : tLc (tI K E p1 it) (fun v σ H Q => σ.length = n → tGV K n A t v σ H Q) (tDT K E0 p2 c) (tD K E0 p3 true e) vs σ H Q := by
  obtain ⟨env, fs, W, he, h⟩ := h
  refine ⟨env, fs, W, he, ?_⟩
  unfold eLc at h
  cases e1 : it env with
  | no => rw [e1] at h; exact h
  | ex c => rw [e1] at h; exact h
  | ok x =>
    obtain ⟨ds, env1⟩ := x
    rw [e1] at h
    simp only [R.bind] at h
    intro J W1 H1 fs1 x1 x2 x3 x4 x5 x8 io L hL
    by_cases hz : ds.length ≤ 16000000
    · rw [if_pos hz] at h
      cases e2 : lcL vs t c e ds env1 with
      | no => rw [e2] at h; exact h.elim
      | ex c => rw [e2] at h; exact h.elim
      | ok r =>
        obtain ⟨rs, envf⟩ := r
        rw [e2] at h
        simp only [noEx] at h
        have nW : ¬ W1 L := fun z => by
          obtain ⟨o, e⟩ := x2.wt L z
          rw [hL] at e; cases e
        refine lc_it io (g := fun v σ H Q => σ.length = n → tGV K n A t v σ H Q) (tt := tDT K E0 p2 c) (te := tD K E0 p3 true e) (vs := vs) (σ := σ) (H1 := H1) (D := L) (Qd := fun H => Q (.ref L) H) (fun i Hi => ∃ envi fsi acc accd ga rest, LcI K W1 vs σ (p2 && p3) H1 env1 fs1 L Hi envi fsi acc accd ga ∧ acc.length ≤ i ∧ rs = accd ++ rest ∧ lcL vs t c e (ds.drop i) envi = .ok (rest, envf)) ?_ ?_ ?_ ?_
        · exact ⟨env1, _, [], [], [], rs, LcI.start x2 hL, Nat.le_refl _, rfl, e2⟩
        · rintro i Hi _ ⟨envi, fsi, acc, accd, ga, rest, I, _⟩
          exact I.ext.less fun j a ha => (fblank_sub ha).2
        · rintro i x Hi H' hi ⟨envi, fsi, acc, accd, ga, rest, I, hai, hrs, hl⟩ ⟨sm, d, g, ed, r, w⟩ hlen
          have hd : ds.drop i = d :: ds.drop (i + 1) := by
            have hk' := (List.getElem?_eq_some_iff.mp ed)
            rw [List.drop_eq_getElem_cons hk'.1, hk'.2]
          rw [hd] at hl
          unfold lcL at hl
          cases b1 : bindV t d (killS vs envi) with
          | none => rw [b1] at hl; cases hl
          | some eb =>
            rw [b1] at hl
            simp only [R.of, R.bind] at hl
            refine ⟨d, g, W1, killS vs envi, eb, fsi, hlen, I.renv.same sm, r, w, b1, fun σ2 fsb bd => ?_⟩
            have kb : killS vs eb = killS vs envi := bindV_kill b1 hT
            have wp : wipe σ2 vs = wipe σ vs := by
              have := wipe_eq (vs := vs) (bd.len.trans (wipe_length σ vs)) fun j hj => (bd.keep j fun z => hj (hA j z)).trans (wipe_out hj)
              exact this
            have sb : ∀ i a, a ∈ fsb i → a ∈ fsi i := fun i a ha => (bd.sub i a ha).elim id fun z => nomatch z
            have kf : fblank vs fsb = fsi := funext fun j => by
              unfold fblank
              by_cases hv : j ∈ vs
              · rw [if_pos hv]
                have q := I.renv.slot j
                rw [kill_at, if_pos hv] at q
                exact (show fsi j = [] from q).symm
              · rw [if_neg hv]; exact bd.kf j fun z => hv (hA j z)
            refine ⟨wp, eb, fsb, W1, bd.renv, ?_⟩
            cases e3 : c eb with
            | no => rw [e3] at hl; cases hl
            | ex c => rw [e3] at hl; cases hl
            | ok b =>
              obtain ⟨b, eb2⟩ := b
              rw [e3] at hl
              simp only at hl
              intro H3 fs3 S
              have x0 : Ext Hi H3 fsi := Ext.trans (Ext.of sm) (fun i a ha => .inl ⟨i, sb i a ha⟩) S.ext
              have s0 : ∀ i, Sub Hi fsi (fs3 i) := fun i => Sub.trans (Ext.of sm) (fun i a ha => .inl ⟨i, sb i a ha⟩) (S.sub i)
              cases b with
              | false =>
                rw [if_neg Bool.false_ne_true] at hl ⊢
                exact ⟨eb2, _, acc, accd, ga, rest, I.skip nW sm kb wp sb kf (S.weak fun z => and_l z), Nat.le_succ_of_le hai, hrs, hl⟩
              | true =>
                rw [if_pos rfl] at hl ⊢
                refine ⟨eb2, fs3, W1, S.renv, ?_⟩
                cases e4 : e eb2 with
                | no => rw [e4] at hl; cases hl
                | ex c => rw [e4] at hl; cases hl
                | ok y =>
                  obtain ⟨y, eb3⟩ := y
                  rw [e4] at hl
                  simp only at hl
                  intro v H4 fs4 gy P
                  have I4 := I.skip nW sm kb wp sb kf (S.trans P.step)
                  refine ⟨acc, I4.at_, line_lt (Nat.lt_of_le_of_lt hai (Nat.lt_of_lt_of_le hi hz)), ?_⟩
                  have o4 := P.own rfl
                  have sI : Sub Hi fsi gy := Sub.trans x0 s0 o4.sub
                  have tA := RepL.there _ _ _ I.rep
                  cases e5 : lcL vs t c e (ds.drop (i + 1)) eb3 with
                  | no => rw [e5] at hl; cases hl
                  | ex c => rw [e5] at hl; cases hl
                  | ok r5 =>
                    obtain ⟨rest5, envf5⟩ := r5
                    rw [e5] at hl
                    cases hl
                    refine ⟨eb3, _, acc ++ [v], accd ++ [y], _, rest5, I4.app nW hL (H' := H4) (e' := eb3) P.rep o4.nd (fun a ha i hi => o4.apart a ha i (fblank_sub hi).2) o4.pl (Sub.trans I.ext I.sub sI) (fun a ha hg => ?_) (fun hg => ?_), by simp; omega, by rw [hrs]; simp, e5⟩
                    · rcases sI a ha with ⟨j, hj⟩ | z
                      · exact I.apart a hg j hj
                      · obtain ⟨o, e⟩ := tA a hg
                        rw [e] at z; cases z
                    · rcases sI L hg with ⟨j, hj⟩ | z
                      · exact I.nL j hj
                      · rw [I.at_] at z; cases z
        · rintro Hn ⟨envn, fsn, acc, accd, ga, rest, I, hai, hrs, hl⟩
          rw [List.drop_of_length_le (Nat.le_refl _)] at hl
          unfold lcL at hl
          cases hl
          rw [List.append_nil] at hrs
          subst hrs
          obtain ⟨fs', P⟩ := I.fin (p := p1 && (p2 && p3)) he x1 x2 x3 x4 x5 x8 hL fun z => ⟨and_l z, and_r z⟩
          exact h _ Hn fs' _ P
    · rw [if_neg hz] at h
      exact h.elim
section
variable {X : Cx} {E : XK} {p1 p2 p3 : Bool} {A : List Nat}
theorem de_lc {elt tg iter : Expr} {ifs : List Expr} {scope : Scope} {own : List (Str × Nat)} {pos : Pos} {t : Tg} {it : Ei} {c : Et} {e : Ev} (hc : X.calm = true) (hN : X.N.Nodup) (hi : DI X E p1 tg iter it) (ok : BlkOk X.N X.env.scope scope own)
    (hg : ∀ (s : Shared) (H : Hp) (C : Addr) (cl : List (Str × Addr)) (fp : List Addr), DG (X.blk s H scope (compEnvC scope cl C X.env) fp) A tg t) (ht : ∀ (s : Shared) (H : Hp) (C : Addr) (cl : List (Str × Addr)) (fp : List Addr), DTs (X.blk s H scope (compEnvC scope cl C X.env) fp) E0 p2 ifs c)
    (he : ∀ (s : Shared) (H : Hp) (C : Addr) (cl : List (Str × Addr)) (fp : List Addr), DE (X.blk s H scope (compEnvC scope cl C X.env) fp) E0 p3 true elt e) (hA : ∀ j ∈ A, j ∈ own.map (·.2) := by decide) (hT : ∀ j ∈ Tg.slots t, j ∈ own.map (·.2) := by decide) (hs : ∀ x, foldedSetIterable iter X.env x = pure x := by intro _; rfl) :
    DE X E (p1 && (p2 && p3)) true (.ListComp elt [⟨tg, iter, ifs, 0⟩] scope pos) (eLc (own.map (·.2)) t it c e) :=
  PE.mono (pe_lc (g := fun v σ H Q => σ.length = X.N.length → tGV X.K X.N.length A t v σ H Q) (tt := tDT X.K E0 p2 c) (te := tD X.K E0 p3 true e) hc hN hi ok (fun s H C cl fp => tG_len (hg s H C cl fp)) (fun s H C cl fp => ht s H C cl fp) (fun s H C cl fp => he s H C cl fp) hs) fun σ H Q h => tLc_of hA hT h
theorem ds_setLc {i : Nat} {y : Str} {py : Pos} {elt tg iter : Expr} {ifs : List Expr} {scope : Scope} {own : List (Str × Nat)} {pos spos : Pos} {t : Tg} {it : Ei} {c : Et} {e : Ev} (hc : X.calm = true) (hN : X.N.Nodup) (hi : DI X E p1 tg iter it) (ok : BlkOk X.N X.env.scope scope own)
    (hg : ∀ (s : Shared) (H : Hp) (C : Addr) (cl : List (Str × Addr)) (fp : List Addr), DG (X.blk s H scope (compEnvC scope cl C X.env) fp) A tg t) (ht : ∀ (s : Shared) (H : Hp) (C : Addr) (cl : List (Str × Addr)) (fp : List Addr), DTs (X.blk s H scope (compEnvC scope cl C X.env) fp) E0 p2 ifs c)
    (he : ∀ (s : Shared) (H : Hp) (C : Addr) (cl : List (Str × Addr)) (fp : List Addr), DE (X.blk s H scope (compEnvC scope cl C X.env) fp) E0 p3 true elt e)
    (hy : X.N[i]? = some y := by rfl) (hyl : X.env.scope.names.lookup y = some .local := by rfl) (hsw : swapsWith (.ListComp elt [⟨tg, iter, ifs, 0⟩] scope pos) (some (.Name y py)) spos.line X.env = pure true := by rfl)
    (hA : ∀ j ∈ A, j ∈ own.map (·.2) := by decide) (hT : ∀ j ∈ Tg.slots t, j ∈ own.map (·.2) := by decide) (hs : ∀ x, foldedSetIterable iter X.env x = pure x := by intro _; rfl) :
    DS X E [i] (.Assign [.Name y py] (.ListComp elt [⟨tg, iter, ifs, 0⟩] scope pos) spos) (sSet i (eLc (own.map (·.2)) t it c e)) := by
  refine DS.impL (ps_setLc (g := fun v σ H Q => σ.length = X.N.length → tGV X.K X.N.length A t v σ H Q) (tt := tDT X.K E0 p2 c) (te := tD X.K E0 p3 true e) hc hN hy hyl hsw hi ok (fun s H C cl fp => tG_len (hg s H C cl fp)) (fun s H C cl fp => ht s H C cl fp) (fun s H C cl fp => he s H C cl fp) hs) fun D σ H env fs W hl hr q => ?_
  show tLc (tI X.K E p1 it) (fun v σ H Q => σ.length = X.N.length → tGV X.K X.N.length A t v σ H Q) (tDT X.K E0 p2 c) (tD X.K E0 p3 true e) (own.map (·.2)) σ H (fun x H1 => gName i x σ H1 D.nx)
  have key : tD X.K E (p1 && (p2 && p3)) true (eLc (own.map (·.2)) t it c e) σ H (fun x H1 => gName i x σ H1 D.nx) := by
    refine tD_then (k := fun d e => if i < e.length then .ok (.nx (e.set i (.own d))) else .no) hr rfl q fun d env1 v H1 fs1 gg P z => ?_
    by_cases c : i < env1.length
    · rw [if_pos c] at z
      exact z W _ H1 _ (P.put hr c (by rw [hl]; exact (List.getElem?_eq_some_iff.mp hy).1))
    · rw [if_neg c] at z
      exact z.elim
  exact tLc_of hA hT key
/-- a slot's protected value, read -/
def tQ (K : Frag) (E : XK) (p : Bool) (f : Ev) : TE := fun σ H Q => ∃ env fs W, RepEnv K W H σ env fs ∧ match f env with
  | .no => False
  | .ex c => ExP K E c H fs
  | .ok (d, env') => ∀ v H' fs' g, Step K W p H env fs H' σ env' fs' → Rep K H' v d g → (∀ a ∈ g, W a) → Q v H'
def DQ (X : Cx) (E : XK) (p : Bool) (e : Expr) (f : Ev) : Prop := PE X e (tQ X.K E p f)
theorem dq_read {i : Nat} {x : Str} {pos : Pos} (hN : X.N[i]? = some x := by rfl) (hv : Vis X.env.scope x := by first | exact .inl rfl | exact .inr (.inl rfl) | exact .inr (.inr rfl)) (hd : (x == ("__debug__" : Str)) = false := by decide) (hcd : (x == ("__classdict__" : Str)) = false := by decide) :
    DQ X E true (.Name x pos) (eReadP i) := by
  refine PE.mono (pe_var hN hv hd hcd) fun σ H Q ⟨env, fs, W, he, h⟩ => ?_
  have q := he.slot i
  unfold eReadP at h
  cases e : env.at i with
  | dead => rw [e] at h; exact h.elim
  | own d =>
    rw [e] at h q
    obtain ⟨v, e1, r⟩ := q
    by_cases hi : imm d = true
    · simp only [hi, if_true] at h
      refine ⟨v, e1, h v H fs _ (Step.refl he) r ?_⟩
      rw [Rep.fp_imm _ _ _ r hi]
      exact fun a ha => (nomatch ha)
    · simp [hi] at h
  | view d =>
    rw [e] at h q
    obtain ⟨_, v, g, e1, r, w⟩ := q
    exact ⟨v, e1, h v H fs g (Step.refl he) r w⟩
theorem de_ofQ {p : Bool} {e : Expr} {f : Ev} (h : DQ X E p e f) : DE X E p false e f := by
  refine PE.mono h fun σ H Q ⟨env, fs, W, he, h⟩ => ⟨env, fs, W, he, ?_⟩
  cases e1 : f env with
  | no => rw [e1] at h; exact h
  | ex c => rw [e1] at h; exact h
  | ok x =>
    rw [e1] at h
    exact fun v H' fs' g S r w => h v H' fs' g ⟨S, r, fun z => nomatch z⟩
theorem dq_imm {p o : Bool} {e : Expr} {f : Ev} (h : DE X E p o e f) : DQ X E p e (eImm f) := by
  refine PE.mono h fun σ H Q ⟨env, fs, W, he, h⟩ => ⟨env, fs, W, he, ?_⟩
  unfold eImm at h
  cases e1 : f env with
  | no => rw [e1] at h; exact h
  | ex c => rw [e1] at h; exact h
  | ok x =>
    obtain ⟨d, env1⟩ := x
    rw [e1] at h
    intro v H' fs' g P
    by_cases hi : imm d = true
    · simp only [R.bind, hi, if_true] at h
      refine h v H' fs' g P.step P.rep ?_
      rw [Rep.fp_imm _ _ _ P.rep hi]
      exact fun a ha => (nomatch ha)
    · simp [R.bind, hi] at h
/-- the place of a protected row, whatever the place's expression does -/
theorem dq_ix {a b : Expr} {f g : Ev} {pos : Pos} {o2 : Bool} (ha : DQ X E p1 a f) (hb : DE X E p2 o2 b g) (hs : PlainIx b := by exact fun _ _ => rfl) : DQ X E (p1 && p2) (.Subscript a b pos) (eIx f g) := by
  refine PE.mono (pe_ix ix_seq ha hb hs) fun σ H Q ⟨env, fs, W, he, h⟩ => ⟨env, fs, W, he, ?_⟩
  unfold eIx at h
  cases e1 : f env with
  | no => rw [e1] at h; exact h
  | ex c => rw [e1] at h; exact h
  | ok x =>
    obtain ⟨d1, env1⟩ := x
    rw [e1] at h
    intro v1 H1 fs1 g1 S1 r1 w1
    refine ⟨env1, fs1, W, S1.renv, ?_⟩
    cases e2 : g env1 with
    | no => simp only [R.bind, e2] at h
    | ex c => simp only [R.bind, e2] at h; exact ExP.before h S1
    | ok y =>
      obtain ⟨d2, env2⟩ := y
      intro v2 H2 fs2 g2 P2
      have r1 : Rep X.K H2 v1 d1 g1 := Rep.prot S1.renv P2.step.ext r1 w1
      have S := S1.trans P2.step
      cases e3 : ixD d1 d2 with
      | none => simp [R.bind, e2, e3, R.of] at h
      | some r =>
        simp only [R.bind, e2, e3, R.of] at h
        have r2 := P2.rep
        unfold ixD at e3
        split at e3
        · cases r2
          cases r1 with
          | lst h1 l1 =>
            obtain ⟨v, gi, e4, rr, ss, nn⟩ := RepL.atI l1 e3
            exact .inl ⟨_, _, _, v, rfl, rfl, SqL.of h1, e4, h v H2 fs2 gi S rr fun a ha => w1 a (List.mem_cons_of_mem _ (ss a ha))⟩
        · cases r2
          cases r1 with
          | tup h1 l1 =>
            obtain ⟨v, gi, e4, rr, ss, nn⟩ := RepL.atI l1 e3
            exact .inr (.inl ⟨_, _, _, v, rfl, rfl, h1, e4, h v H2 fs2 gi S rr fun a ha => w1 a (ss a ha)⟩)
        · split at e3
          · rename_i hz
            obtain ⟨cc, ec, rfl⟩ := Option.map_eq_some_iff.mp e3
            cases r2
            cases r1
            exact .inr (.inr ⟨_, _, _, rfl, rfl, in_line hz, ec, h _ H2 fs2 [] S (.str _) fun _ z => nomatch z⟩)
          · cases e3
        · cases e3
theorem dp_ofQ {p : Bool} {e : Expr} {f : Ev} (h : DQ X E p e f) : DP X E p e f := by
  refine PE.mono h fun σ H Q ⟨env, fs, W, he, h⟩ => ⟨env, fs, W, he, ?_⟩
  cases e1 : f env with
  | no => rw [e1] at h; exact h
  | ex c => rw [e1] at h; exact h
  | ok x =>
    rw [e1] at h
    exact fun v H' fs' g S r w => h v W H' fs' g S.ext S.renv (fun _ z => z) S.sub S.vw S.pure r w
end
end DV
end
section
set_option Elab.async false
set_option linter.all false
set_option maxRecDepth 100000
namespace DV
open PySem PySem.Spec PyProof.Rows L2
/-! ### what a def promises, where nothing is being shown -/
structure FnG (P : Program) (w : World) (K : Frag) (mg : Str → Option Value) (base : Heap) (CX : CXT) (k : Nat) (f : Addr) (fd : FuncData) (ps : List Str) (sp : Sp) : Prop where
  few : ∀ vs H Q E, sp vs H Q E → vs.length = ps.length
  goes : ∀ (A : Around) (out : List PySem.Env) (s : Shared) (H : Hp) (as : Args) (us : List Value) (vs : List V) (Q : VK) (E : XK), Room k A → A.guards = some [] → Env0 P w K mg base A out s H → BindsTo s fd as (ps.zip us) → Vals vs us → sp vs H Q E →
    codeAny (model P w) A (.call (.ref f) as) (CR CX out P w H s Q E) s
theorem FnG.more {P : Program} {w : World} {K : Frag} {mg : Str → Option Value} {base : Heap} {CX : CXT} {j k : Nat} {f : Addr} {fd : FuncData} {ps : List Str} {sp : Sp} (F : FnG P w K mg base CX j f fd ps sp) (h : j ≤ k) : FnG P w K mg base CX k f fd ps sp :=
  ⟨F.few, fun A out s H as us vs Q E room => F.goes A out s H as us vs Q E (room.mono h)⟩
theorem FnG.imp {P : Program} {w : World} {K : Frag} {mg : Str → Option Value} {base : Heap} {CX : CXT} {k : Nat} {f : Addr} {fd : FuncData} {ps : List Str} {sp sp' : Sp} (F : FnG P w K mg base CX k f fd ps sp) (h : ∀ vs H Q E, sp' vs H Q E → sp vs H Q E) : FnG P w K mg base CX k f fd ps sp' :=
  ⟨fun vs H Q E z => F.few vs H Q E (h _ _ _ _ z), fun A out s H as us vs Q E room gd en bd rel z => F.goes A out s H as us vs Q E room gd en bd rel (h _ _ _ _ z)⟩
section
variable {P : Program} {w : World} {K : Frag} {mg : Str → Option Value} {base : Heap} {x qual : Str} {params : Arguments} {body : List Stmt} {scope : Scope} {dvs : List V} {kws : List (Str × V)} {f : Addr} {fd : FuncData}
theorem FunD.okG {CX : CXT} {N ps : List Str} {k : Nat} {sp : Sp} (F : FunD K x qual params body scope dvs kws f fd) (S : FnScope N ps scope) (few : ∀ vs H Q E, sp vs H Q E → vs.length = ps.length)
    (bd : ∀ (cdv : Value) (A : Around) (out : List PySem.Env) (s : Shared) (H : Hp) (vs : List V) (Q : VK) (E : XK), Room k (A.deeper (envOfC qual scope s.heap.objs.size f cdv)) → A.guards = some [] → sp vs H Q E →
      ∃ t, PSs (cxOf CX P w K mg base N qual scope f cdv A out s H E) body t ∧ t { nx := fun _ H' => Q .non H', rt := Q } (start N vs) H) : FnG P w K mg base CX (k + 1) f fd ps sp := by
  obtain ⟨oc, od, dV, kV, doc, pm, an, cdv, ct, osl, rfl, look, hasCode, _, _⟩ := F.ex
  refine ⟨few, fun A out s H as us vs Q E room gd en bound rel pr => ?_⟩
  have nvs := few _ _ _ _ pr; have inK : K.In s.heap := en.mod.kin.keeps fun _ _ z => (en.bs _ _ z).1; have noLim : s.heap.NoLimit := en.mod.nolimit.keeps fun _ _ z => (en.bs _ _ z).1
  have kinds : ∀ y ∈ ps.zip us, scope.names.lookup y.1 = some .local ∨ (scope.names.lookup y.1 = some .cell ∧ ((cellsFrom (s.heap.objs.size + 1) scope.names []).lookup y.1).isSome = true) := by
    rintro ⟨n, v⟩ hy
    exact (S.par n (List.of_mem_zip hy).1).imp id fun z => ⟨z, PySem.W.cellsFrom_some _ _ _ (.inl z)⟩
  refine codeAny_call_function room.depth (inK _ _ look) rfl S.co S.gen rfl (PySem.W.codeRec_of inK hasCode) (bound _ _ _ _ (wpAny_newFunctionEnv_cells S.kind kinds fun e he s1 called => ?_))
  subst he
  obtain ⟨t, runs, reads⟩ := bd cdv A out s H vs Q E (room.deeper _) gd pr
  refine ⟨noLim.keeps called.toInCall.keep, codeAny_func (wpAny_mono (runs.run [] s1 (start N vs) H _ (inv_start S room.hd en nvs rel called) reads) (fun fl s' z => ?_) fun _ _ z => z)⟩
  cases fl with
  | ret u => exact (let ⟨v, _, H', J, rv, q⟩ := z; ⟨v, H', J.os, J.bare, J.base, J.hok, rv, q⟩)
  | next => exact (let ⟨_, H', J, q⟩ := z; ⟨V.non, H', J.os, J.bare, J.base, J.hok, rfl, q⟩)
  | brk => exact (let ⟨_, _, _, q⟩ := z; q.elim)
  | cont => exact (let ⟨_, _, _, q⟩ := z; q.elim)
end
section
variable {X : Cx} {CX : CXT} {k : Nat} {f : Addr} {fd : FuncData} {ps : List Str} {sp : Sp} {E : XK} {x : Str} {p pos : Pos} {e : Expr} {es : List Expr} {t : TA}
theorem run_fnG {pins : List (Addr × Obj)} {σ : L2.St} {H : Hp} {s : Shared} {Q : VK} {us : List Value} {vs : List V} (F : FnG X.prog X.w X.K X.mg X.base CX k f fd ps sp) (room : Room k X.A) (gd : X.A.guards = some []) (bi : Binds X.K fd ps []) (pa : Passes CX X E)
    (I : Inv X pins σ H s) (rel : Vals vs us) (pr : sp vs H Q E) : wpAny (model X.prog X.w) X.A (call (.ref f) us) (EP X pins σ Q) X.xe s := by
  have nus : (us ++ []).length = ps.length := by rw [List.append_nil, ← rel.length]; exact F.few _ _ _ _ pr
  have bound := bi s us I.kIn nus
  rw [List.append_nil] at bound
  refine wpAny_call (codeAny_mono (F.goes X.A X.stack s H ⟨us, []⟩ us vs Q E room gd I.env0 bound rel pr) fun r s' z => ?_)
  match r, z with
  | .error e, z => exact pa pins σ H s e s' I z
  | .ok (.ret u), z => exact I.after z
/-- f(e, ..), f a def of the module -/
theorem pe_fnG (F : FnG X.prog X.w X.K X.mg X.base CX k f fd ps sp) (room : Room k X.A) (gd : X.A.guards = some []) (hg : Gl X x) (hm : X.mg x = some (.ref f)) (kp : PySem.W.keepIn X.K (.ref f) = true) (bi : Binds X.K fd ps []) (pa : Passes CX X E)
    (ha : PA X (e :: es) t) (nd : (x == ("__debug__" : Str)) = false := by decide) (st : starEach (e :: es) X.env = (false, eval e X.env) :: starEach es X.env := by rfl) (pl : (backTo pos (starEach es X.env)).any (·.1) = false := by rfl) :
    PE X (.Call (.Name x p) (e :: es) [] pos) (tCall sp [] E t) :=
  ⟨fun pins s σ H Q I z => wpAny_Call_Name_kw (ld_glob I hg hm (PySem.W.callWith_K (h₀ := X.base) I.ok.mod.kin kp (thn (ha.run pos pins s σ H _ I z) fun us s1 ⟨vs, H1, I1, r, q⟩ => ⟨I1.kIn, run_fnG F room gd bi pa I1 r (by simpa using q)⟩) st pl) nd)⟩
end
/-! ### defs by what they compute -/
/-- the arguments' values: what comes back, and what the changed argument holds then -/
abbrev Den := List D → R (D × D)
def argEnv (io : Option Nat) (ds : List D) : Env := ds.mapIdx fun k d => if io = some k then .own d else .view d
structure Ret (K : Frag) (H : Hp) (fs : Fs) (H' : Hp) (vs : List V) (io : Option Nat) (v : V) (r u : D) (g gu : List Addr) : Prop where
  ext : Ext H H' fs
  rep : Rep K H' v r g
  nd : (g ++ gu).Nodup
  pl : ∀ a ∈ g ++ gu, Pl H' a
  sub : Sub H fs (g ++ gu)
  io : match io with
    | none => gu = []
    | some k => ∃ x, vs[k]? = some x ∧ Rep K H' x u gu
def spD (K : Frag) (n : Nat) (io : Option Nat) (den : Den) : Sp := fun vs H Q E => vs.length = n ∧ ∃ ds fs W, ds.length = n ∧ RepEnv K W H (vs.map some) (argEnv io ds) fs ∧ match den ds with
  | .no => False
  | .ex c => ExP K E c H fs
  | .ok (r, u) => ∀ v H' g gu, Ret K H fs H' vs io v r u g gu → Q v H'
def ioVal (io : Option Nat) (e : Env) : R D := match io with
  | none => .ok .none
  | some k => match e.at k with
    | .own u => .ok u
    | _ => .no
def outR (io : Option Nat) : Out → R (D × D)
  | .rt d e => (ioVal io e).bind fun u => .ok (d, u)
  | .nx e => (ioVal io e).bind fun u => .ok (.none, u)
  | _ => .no
/-- m: the slots behind the parameters -/
def denOf (m : Nat) (io : Option Nat) (f : Sv) : Den := fun ds => (f (argEnv io ds ++ List.replicate m .dead)).bind (outR io)
theorem argEnv_get {io : Option Nat} {ds : List D} {k : Nat} : (argEnv io ds)[k]? = (ds[k]?).map fun d => if io = some k then Slot.own d else .view d := by
  unfold argEnv
  rw [List.getElem?_mapIdx]
theorem app_dead {env : Env} {m j : Nat} : Env.at (env ++ List.replicate m .dead) j = env.at j := by
  rw [at_eq, at_eq]
  by_cases h : j < env.length
  · rw [List.getElem?_append_left h]
  · rw [List.getElem?_append_right (Nat.le_of_not_lt h), List.getElem?_replicate, List.getElem?_eq_none (Nat.le_of_not_lt h)]
    by_cases c : j - env.length < m
    · rw [if_pos c]; rfl
    · rw [if_neg c]
section
variable {K : Frag} {W W' : Addr → Prop} {E : XK} {H H' : Hp} {σ σ' : L2.St} {env : Env} {fs fs' : Fs} {A : List Nat}
theorem RepEnv.start {N : List Str} {vs : List V} {m : Nat} (h : RepEnv K W H (vs.map some) env fs) : RepEnv K W H (L2.start N vs) (env ++ List.replicate m .dead) fs where
  slot := fun j => by
    rw [app_dead]
    have q := h.slot j
    have es : ∀ v, (vs.map some)[j]? = some (some v) → (L2.start N vs)[j]? = some (some v) := fun v e => by
      unfold L2.start
      rw [List.getElem?_append_left (List.getElem?_eq_some_iff.mp e).1]
      exact e
    cases e : env.at j with
    | dead => rw [e] at q; exact q
    | own d =>
      rw [e] at q
      obtain ⟨v, e1, r⟩ := q
      exact ⟨v, es v e1, r⟩
    | view d =>
      rw [e] at q
      obtain ⟨z, v, g, e1, r, n⟩ := q
      exact ⟨z, v, g, es v e1, r, n⟩
  disj := h.disj
  nd := h.nd
  pl := h.pl
  off := h.off
  wt := h.wt
/-- a body's end, read as the promise's -/
theorem OutP.ret {io : Option Nat} {vs : List V} {Q : VK} {N : List Str} {r : R Out} (hA : ∀ k, io = some k → k ∉ A) (hn : ∀ k, io = some k → k < vs.length) (h : match r.bind (outR io) with
    | .no => False
    | .ex c => ExP K E c H fs
    | .ok (r, u) => ∀ v H' g gu, Ret K H fs H' vs io v r u g gu → Q v H') : OutP K E W A { nx := fun _ H' => Q .non H', rt := Q } (L2.start N vs) H fs r := by
  have ends : ∀ {W' : Addr → Prop} {σ' : L2.St} {H' : Hp} {env' : Env} {fs' : Fs} {u : D} {v : V} {d : D} {g : List Addr}, Move K W W' A H fs H' (L2.start N vs) σ' env' fs' → Rep K H' v d g → Own H fs H' fs' g → ioVal io env' = .ok u → ∃ gu, Ret K H fs H' vs io v d u g gu := fun {W' σ' H' env' fs' u v d g} m rep w iu => by
    unfold ioVal at iu
    cases io with
    | none => exact ⟨[], m.ext, rep, by rw [List.append_nil]; exact w.nd, by rw [List.append_nil]; exact w.pl, by rw [List.append_nil]; exact w.sub, rfl⟩
    | some k =>
      simp only at iu
      have q := m.renv.slot k
      cases e : env'.at k with
      | dead => rw [e] at iu; cases iu
      | view d => rw [e] at iu; cases iu
      | own d' =>
        rw [e] at iu q
        cases iu
        obtain ⟨x, e1, r1⟩ := q
        rw [m.keep k (hA k rfl)] at e1
        have ex : vs[k]? = some x := by
          unfold L2.start at e1
          rw [List.getElem?_append_left (by rw [List.length_map]; exact hn k rfl), List.getElem?_map] at e1
          cases z : vs[k]? with
          | none => rw [z] at e1; cases e1
          | some y => rw [z] at e1; cases e1; rfl
        refine ⟨fs' k, m.ext, rep, List.nodup_append.mpr ⟨w.nd, m.renv.nd k, fun a ha b hb z => w.apart a ha k (z ▸ hb)⟩, fun a ha => (List.mem_append.mp ha).elim (w.pl a) (m.renv.pl k a), fun a ha => (List.mem_append.mp ha).elim (w.sub a) (m.sub k a), x, ex, r1⟩
  cases r with
  | no => exact h
  | ex c => exact h
  | ok o =>
    cases o with
    | bk e => exact h.elim
    | ct e => exact h.elim
    | nx e =>
      simp only [R.bind, outR] at h
      cases iu : ioVal io e with
      | no => rw [iu] at h; exact h.elim
      | ex c =>
        unfold ioVal at iu
        split at iu
        · cases iu
        · split at iu <;> cases iu
      | ok u =>
        rw [iu] at h
        intro W' σ' H' fs' m
        obtain ⟨gu, z⟩ := ends m .non Own.nil iu
        exact h .non H' [] gu z
    | rt d e =>
      simp only [R.bind, outR] at h
      cases iu : ioVal io e with
      | no => rw [iu] at h; exact h.elim
      | ex c =>
        unfold ioVal at iu
        split at iu
        · cases iu
        · split at iu <;> cases iu
      | ok u =>
        rw [iu] at h
        intro W' v σ' H' fs' g m r w
        obtain ⟨gu, z⟩ := ends m r w iu
        exact h v H' g gu z
end
section
variable {P : Program} {w : World} {K : Frag} {mg : Str → Option Value} {base : Heap} {x qual : Str} {params : Arguments} {body : List Stmt} {scope : Scope} {f : Addr} {fd : FuncData}
/-- THE RULE: a def by what its body computes -/
theorem fn_den {CX : CXT} {N ps : List Str} {k : Nat} {io : Option Nat} {fb : Sv} {A' : List Nat} (F : FunD K x qual params body scope [] [] f fd) (S : FnScope N ps scope) (hA : ∀ k, io = some k → k ∉ A') (hn : ∀ k, io = some k → k < ps.length)
    (bd : ∀ (cdv : Value) (A : Around) (out : List PySem.Env) (s : Shared) (H : Hp) (E : XK), Room k (A.deeper (envOfC qual scope s.heap.objs.size f cdv)) → A.guards = some [] → DB (cxOf CX P w K mg base N qual scope f cdv A out s H E) E A' body fb) :
    FnG P w K mg base CX (k + 1) f fd ps (spD K ps.length io (denOf (N.length - ps.length) io fb)) := by
  refine FunD.okG F S (fun vs H Q E z => z.1) fun cdv A out s H vs Q E room gd pr => ?_
  obtain ⟨nv, ds, fs, W, nds, he, q⟩ := pr
  refine ⟨_, bd cdv A out s H E room gd, tS_iff.mpr ⟨argEnv io ds ++ List.replicate (N.length - ps.length) Slot.dead, fs, W, RepEnv.start (N := N) (m := N.length - ps.length) he, ?_⟩⟩
  exact OutP.ret hA (fun k hk => by rw [nv]; exact hn k hk) q
end

section
variable {X : Cx} {E : XK} {CX : CXT} {k : Nat} {f : Addr} {fd : FuncData} {ps : List Str} {x : Str} {p o : Bool} {n : Nat} {e : Expr} {es : List Expr}
/-! ### a call that changes nothing -/
def eFn (n : Nat) (den : Den) (g : EvA) : Ev := fun env => (g env).bind fun x => if x.1.length = n then (den x.1).bind fun r => .ok (r.1, x.2) else .no
theorem argEnv_view {ds : List D} {j : Nat} {d : D} (h : ds[j]? = some d) : Env.at (argEnv none ds) j = .view d := by
  rw [at_eq, argEnv_get, h]
  rfl
theorem env_none {ds : List D} {io : Option Nat} {j : Nat} (h : ds[j]? = none) : Env.at (argEnv io ds) j = .dead := by
  rw [at_eq, argEnv_get, h]
  rfl
theorem RepEnv.args {K : Frag} {H : Hp} {vs : List V} {ds : List D} {g : List Addr} (r : RepL K H vs ds g) : RepEnv K (fun a => a ∈ g) H (vs.map some) (argEnv none ds) (fun _ => []) where
  slot := fun j => by
    cases h : ds[j]? with
    | none => rw [env_none h]; rfl
    | some d =>
      rw [argEnv_view h]
      obtain ⟨v, gi, e1, r1, s, _⟩ := RepL.get r h
      exact ⟨rfl, v, gi, by rw [List.getElem?_map, e1]; rfl, r1, s⟩
  disj := fun _ _ _ h _ => nomatch h
  nd := fun _ => .nil
  pl := fun _ _ h => nomatch h
  off := fun _ _ h => nomatch h
  wt := fun a ha => RepL.there _ _ _ r a ha
theorem de_fn {den : Den} {g : EvA} {q pos : Pos} (F : FnG X.prog X.w X.K X.mg X.base CX k f fd ps (spD X.K n none den)) (room : Room k X.A) (gd : X.A.guards = some []) (hm : X.mg x = some (.ref f)) (kp : PySem.W.keepIn X.K (.ref f) = true) (bi : Binds X.K fd ps []) (pa : Passes CX X E)
    (ha : DA X E p o (e :: es) g) (hg : Gl X x := by rfl) (nd : (x == ("__debug__" : Str)) = false := by decide) (st : starEach (e :: es) X.env = (false, eval e X.env) :: starEach es X.env := by rfl) (pl : (backTo pos (starEach es X.env)).any (·.1) = false := by rfl) :
    DE X E p true (.Call (.Name x q) (e :: es) [] pos) (eFn n den g) := by
  refine PE.mono (pe_fnG F room gd hg hm kp bi pa ha nd st pl) fun σ H Q ⟨env, fs, W, he, h⟩ => ⟨env, fs, W, he, ?_⟩
  unfold eFn at h
  cases e1 : g env with
  | no => rw [e1] at h; exact h
  | ex c => rw [e1] at h; exact h
  | ok y =>
    obtain ⟨ds, env1⟩ := y
    rw [e1] at h
    simp only [R.bind] at h
    intro vs H1 fs1 gg P
    by_cases nds : ds.length = n
    case neg => rw [if_neg nds] at h; exact h.elim
    rw [if_pos nds] at h
    refine ⟨by rw [List.append_nil, RepL.length P.rep]; exact nds, ds, fun _ => [], fun a => a ∈ gg, nds, by rw [List.append_nil]; exact RepEnv.args P.rep, ?_⟩
    cases e2 : den ds with
    | no => rw [e2] at h; exact h.elim
    | ex c =>
      rw [e2] at h
      exact fun H' ad x n => ExP.before h P.step H' ad (fun b o eb _ => x b o eb fun _ z => nomatch z) n
    | ok r =>
      obtain ⟨r, u⟩ := r
      rw [e2] at h
      intro v H' g' gu z
      have hgu : gu = [] := z.io
      subst hgu
      have hsub : ∀ a ∈ g', H1 a = none := fun a ha => by
        rcases z.sub a (List.mem_append_left _ ha) with ⟨j, hj⟩ | q
        · cases hj
        · exact q
      refine h v H' fs1 g' (Post.fresh P.step ⟨fun b o eb => z.ext b o eb (fun _ y => (nomatch y)), z.rep, (List.nodup_append.mp z.nd).1, hsub, fun a ha => z.pl a (List.mem_append_left _ ha)⟩)
/-! ### arguments that stand apart from the slots' own objects -/
def tZ (K : Frag) (E : XK) (p : Bool) (f : Ev) : TE := fun σ H Q => ∃ env fs W, RepEnv K W H σ env fs ∧ match f env with
  | .no => False
  | .ex c => ExP K E c H fs
  | .ok (d, env') => ∀ v H' fs' g, Step K W p H env fs H' σ env' fs' → Rep K H' v d g → (∀ a ∈ g, ∀ i, a ∉ fs' i) → Q v H'
def DZ (X : Cx) (E : XK) (p : Bool) (e : Expr) (f : Ev) : Prop := PE X e (tZ X.K E p f)
theorem dz_own {e : Expr} {g : Ev} (h : DE X E p true e g) : DZ X E p e g := by
  refine PE.mono h fun σ H Q ⟨env, fs, W, he, h⟩ => ⟨env, fs, W, he, ?_⟩
  cases e1 : g env with
  | no => rw [e1] at h; exact h
  | ex c => rw [e1] at h; exact h
  | ok x => rw [e1] at h; exact fun v H' fs' g P => h v H' fs' g P.step P.rep (P.own rfl).apart
theorem dz_q {e : Expr} {g : Ev} (h : DQ X E p e g) : DZ X E p e g := by
  refine PE.mono h fun σ H Q ⟨env, fs, W, he, h⟩ => ⟨env, fs, W, he, ?_⟩
  cases e1 : g env with
  | no => rw [e1] at h; exact h
  | ex c => rw [e1] at h; exact h
  | ok x => rw [e1] at h; exact fun v H' fs' g S r w => h v H' fs' g S r fun a ha i hi => S.renv.off i a hi (w a ha)
def tZA (K : Frag) (E : XK) (p : Bool) (f : EvA) : TA := fun σ H Q => ∃ env fs W, RepEnv K W H σ env fs ∧ match f env with
  | .no => False
  | .ex c => ExP K E c H fs
  | .ok (d, env') => ∀ v H' fs' g, Step K W p H env fs H' σ env' fs' → RepL K H' v d g → (∀ a ∈ g, ∀ i, a ∉ fs' i) → Q v H'
def DZA (X : Cx) (E : XK) (p : Bool) (es : List Expr) (f : EvA) : Prop := PA X es (tZA X.K E p f)
theorem dza_nil : DZA X E true [] aNil := PA.mono pa_nil fun σ H Q ⟨env, fs, W, he, h⟩ => h [] H fs [] (Step.refl he) .nil fun _ z => (nomatch z)
variable {p1 p2 : Bool}
theorem dza_cons {e : Expr} {es : List Expr} {f : Ev} {g : EvA} (he : DZ X E p1 e f) (hs : DZA X E p2 es g) (hq : starEach (e :: es) X.env = (false, eval e X.env) :: starEach es X.env := by rfl) : DZA X E (p1 && p2) (e :: es) (aCons f g) := by
  refine PA.mono (pa_cons he hs hq) fun σ H Q ⟨env, fs, W, hr, h⟩ => ⟨env, fs, W, hr, ?_⟩
  unfold aCons at h
  cases e1 : f env with
  | no => rw [e1] at h; exact h
  | ex c => rw [e1] at h; exact h
  | ok x =>
    obtain ⟨d1, env1⟩ := x
    rw [e1] at h
    intro v1 H1 fs1 g1 S1 r1 a1
    refine ⟨env1, fs1, W, S1.renv, ?_⟩
    cases e2 : g env1 with
    | no => simp only [R.bind, e2] at h
    | ex c => simp only [R.bind, e2] at h; exact ExP.before h S1
    | ok y =>
      obtain ⟨ds, env2⟩ := y
      intro vs H2 fs2 g2 S2 r2 a2
      simp only [R.bind, e2] at h
      refine h (v1 :: vs) H2 fs2 (g1 ++ g2) (S1.trans S2) (.cons (Rep.ext S1.renv S2.ext r1 a1) r2) fun a ha => ?_
      rcases List.mem_append.mp ha with z | z
      · exact apart_ext S2.ext S2.sub (Rep.there _ _ _ r1) a1 a z
      · exact a2 a z
/-! ### a call that changes an own slot -/
abbrev EvZ := Env → R ((List D × List D) × Env)
def ownAt (s : Slot) : R D := match s with
  | .own d => .ok d
  | _ => .no
def tIO (K : Frag) (E : XK) (p : Bool) (i k : Nat) (f : EvZ) : TA := fun σ H Q => ∃ env fs W, RepEnv K W H σ env fs ∧ match f env with
  | .no => False
  | .ex c => ExP K E c H fs
  | .ok (d, env') => ∀ w v1 v2 H' fs' g1 g2, σ[i]? = some (some w) → Step K W p H env fs H' σ env' fs' → RepL K H' v1 d.1 g1 → RepL K H' v2 d.2 g2 → (∀ a ∈ g1 ++ g2, ∀ i, a ∉ fs' i) → v1.length = k → Q (v1 ++ w :: v2) H'
def DIO (X : Cx) (E : XK) (p : Bool) (i k : Nat) (es : List Expr) (f : EvZ) : Prop := PA X es (tIO X.K E p i k f)
def zHere (i : Nat) (g : EvA) : EvZ := fun env => (ownAt (env.at i)).bind fun _ => (g env).bind fun y => .ok (([], y.1), y.2)
def zCons (f : Ev) (g : EvZ) : EvZ := fun env => (f env).bind fun x => (g x.2).bind fun y => .ok ((x.1 :: y.1.1, y.1.2), y.2)
theorem RepEnv.valAt {K : Frag} {W : Addr → Prop} {H : Hp} {σ : L2.St} {env : Env} {fs : Fs} {i : Nat} {d : D} (he : RepEnv K W H σ env fs) (h : ownAt (env.at i) = .ok d) : env.at i = .own d ∧ i < env.length ∧ ∃ w, σ[i]? = some (some w) ∧ Rep K H w d (fs i) := by
  have q := he.slot i
  unfold ownAt at h
  split at h
  · rename_i d' e
    cases h
    rw [e] at q
    exact ⟨e, at_len e (fun z => nomatch z), q⟩
  · cases h
theorem ownAt_ex {s : Slot} {c : Exc} : ownAt s ≠ .ex c := by
  unfold ownAt
  split
  · exact fun z => nomatch z
  · exact fun z => nomatch z
theorem dio_here {i : Nat} {y : Str} {es : List Expr} {g : EvA} {py : Pos} (hs : DZA X E p es g) (hN : X.N[i]? = some y := by rfl) (hv : Vis X.env.scope y := by first | exact .inl rfl | exact .inr (.inl rfl) | exact .inr (.inr rfl)) (hd : (y == ("__debug__" : Str)) = false := by decide) (hcd : (y == ("__classdict__" : Str)) = false := by decide)
    (hq : starEach (.Name y py :: es) X.env = (false, eval (.Name y py) X.env) :: starEach es X.env := by rfl) : DIO X E p i 0 (.Name y py :: es) (zHere i g) := by
  refine PA.mono (pa_cons (pe_var hN hv hd hcd) hs hq) fun σ H Q ⟨env, fs, W, he, h⟩ => ?_
  unfold zHere at h
  cases e0 : ownAt (env.at i) with
  | no => rw [e0] at h; exact h.elim
  | ex c => exact absurd e0 ownAt_ex
  | ok d =>
    rw [e0] at h
    simp only [R.bind] at h
    obtain ⟨_, _, w, ew, _⟩ := he.valAt e0
    refine ⟨w, ew, env, fs, W, he, ?_⟩
    cases e1 : g env with
    | no => rw [e1] at h; exact h
    | ex c => rw [e1] at h; exact h
    | ok x =>
      rw [e1] at h
      exact fun vs H1 fs1 gg S r a => h w [] vs H1 fs1 [] gg ew S .nil r (by simpa using a) rfl
theorem dio_cons {i j : Nat} {e : Expr} {es : List Expr} {f : Ev} {g : EvZ} (he : DZ X E p1 e f) (hs : DIO X E p2 i j es g) (hq : starEach (e :: es) X.env = (false, eval e X.env) :: starEach es X.env := by rfl) : DIO X E (p1 && p2) i (j + 1) (e :: es) (zCons f g) := by
  refine PA.mono (pa_cons he hs hq) fun σ H Q ⟨env, fs, W, hr, h⟩ => ⟨env, fs, W, hr, ?_⟩
  unfold zCons at h
  cases e1 : f env with
  | no => rw [e1] at h; exact h
  | ex c => rw [e1] at h; exact h
  | ok x =>
    obtain ⟨d1, env1⟩ := x
    rw [e1] at h
    intro v1 H1 fs1 g1 S1 r1 a1
    refine ⟨env1, fs1, W, S1.renv, ?_⟩
    cases e2 : g env1 with
    | no => simp only [R.bind, e2] at h
    | ex c => simp only [R.bind, e2] at h; exact ExP.before h S1
    | ok y =>
      obtain ⟨ds, env2⟩ := y
      simp only [R.bind, e2] at h
      intro w va vb H2 fs2 ga gb ew S2 ra rb ab hl
      refine h w (v1 :: va) vb H2 fs2 (g1 ++ ga) gb ew (S1.trans S2) (.cons (Rep.ext S1.renv S2.ext r1 a1) ra) rb (fun a ha => ?_) (by simp [hl])
      rcases List.mem_append.mp ha with z | z
      · rcases List.mem_append.mp z with z | z
        · exact apart_ext S2.ext S2.sub (Rep.there _ _ _ r1) a1 a z
        · exact ab a (List.mem_append_left _ z)
      · exact ab a (List.mem_append_right _ z)
def eFnIO (n i : Nat) (den : Den) (g : EvZ) : Ev := fun env => (g env).bind fun x => (ownAt (x.2.at i)).bind fun u => if (x.1.1 ++ u :: x.1.2).length = n then (den (x.1.1 ++ u :: x.1.2)).bind fun r => .ok (r.1, x.2.set i (.own r.2)) else .no
/-- the slots, one of them left out, where something else has changed -/
theorem RepEnv.away {K : Frag} {W : Addr → Prop} {H H' : Hp} {σ : L2.St} {env : Env} {fs fc : Fs} (he : RepEnv K W H σ env fs) (x : Ext H H' fc) (pl : ∀ i, ∀ a ∈ fc i, Pl H a) (ap : ∀ i, ∀ a ∈ fc i, (∀ j, a ∉ fs j) ∧ ¬ W a) : RepEnv K W H' σ env fs := by
  have stay : ∀ {v : V} {d : D} {g : List Addr}, Rep K H v d g → (∀ a ∈ g, ∀ i, a ∉ fc i) → Rep K H' v d g := fun r n =>
    Rep.stay (M := fun a => ∃ i, a ∈ fc i) (fun a ⟨i, ha⟩ => pl i a ha) (fun b o e nb => x b o e fun i hi => nb ⟨i, hi⟩) _ _ _ r fun a ha ⟨i, hi⟩ => n a ha i hi
  refine ⟨fun j => ?_, he.disj, he.nd, fun j a ha => ?_, he.off, fun a ha => ?_⟩
  · have q := he.slot j
    cases e : env.at j with
    | dead => rw [e] at q; exact q
    | own d =>
      rw [e] at q
      obtain ⟨v, e1, r⟩ := q
      exact ⟨v, e1, stay r fun a ha i hi => (ap i a hi).1 j ha⟩
    | view d =>
      rw [e] at q
      obtain ⟨z, v, g, e1, r, n⟩ := q
      exact ⟨z, v, g, e1, stay r fun a ha i hi => (ap i a hi).2 (n a ha), n⟩
  · obtain ⟨o, e, m⟩ := he.pl j a ha
    exact ⟨o, x a o e fun i hi => (ap i a hi).1 j ha, m⟩
  · obtain ⟨o, e⟩ := he.wt a ha
    exact ⟨o, x a o e fun i hi => (ap i a hi).2 ha⟩
theorem mid_get {α : Type} {a b : List α} {x : α} {j : Nat} : (a ++ x :: b)[j]? = if j < a.length then a[j]? else if j = a.length then some x else b[j - a.length - 1]? := by
  by_cases h : j < a.length
  · rw [if_pos h, List.getElem?_append_left h]
  · rw [if_neg h, List.getElem?_append_right (Nat.le_of_not_lt h)]
    by_cases e : j = a.length
    · rw [if_pos e, e]; simp
    · rw [if_neg e]
      have : j - a.length = (j - a.length - 1) + 1 := by omega
      rw [this, List.getElem?_cons_succ]
      simp
theorem RepEnv.argsIO {K : Frag} {H : Hp} {v1 v2 : List V} {w : V} {d1 d2 : List D} {u : D} {g1 g2 fi : List Addr} {k : Nat} (r1 : RepL K H v1 d1 g1) (r2 : RepL K H v2 d2 g2) (r : Rep K H w u fi) (hk : v1.length = k) (nd : fi.Nodup) (pl : ∀ a ∈ fi, Pl H a) (ap : ∀ a ∈ g1 ++ g2, a ∉ fi) :
    RepEnv K (fun a => a ∈ g1 ++ g2) H ((v1 ++ w :: v2).map some) (argEnv (some k) (d1 ++ u :: d2)) (fun j => if j = k then fi else []) where
  slot := fun j => by
    have l1 := RepL.length r1
    cases h : (d1 ++ u :: d2)[j]? with
    | none =>
      rw [env_none h]
      show (if j = k then fi else []) = []
      rw [if_neg fun e => ?_]
      rw [e, mid_get, ← l1, hk, if_neg (Nat.lt_irrefl _), if_pos rfl] at h
      cases h
    | some d =>
      have ea : Env.at (argEnv (some k) (d1 ++ u :: d2)) j = if some k = some j then Slot.own d else .view d := by
        rw [at_eq, argEnv_get, h]
        rfl
      rw [ea]
      by_cases e : j = k
      · subst e
        rw [if_pos rfl]
        rw [mid_get, ← l1, hk, if_neg (Nat.lt_irrefl _), if_pos rfl] at h
        cases h
        refine ⟨w, ?_, ?_⟩
        · rw [List.getElem?_map, mid_get, hk, if_neg (Nat.lt_irrefl _), if_pos rfl]
          rfl
        · show Rep K H w u (if j = j then fi else [])
          rw [if_pos rfl]; exact r
      · rw [if_neg fun z => e (Option.some.inj z).symm]
        refine ⟨if_neg e, ?_⟩
        rw [mid_get, ← l1, hk] at h
        by_cases c : j < k
        · rw [if_pos c] at h
          obtain ⟨v, gi, e1, rr, s, _⟩ := RepL.get r1 h
          refine ⟨v, gi, ?_, rr, fun a ha => List.mem_append_left _ (s a ha)⟩
          rw [List.getElem?_map, mid_get, hk, if_pos c, e1]
          rfl
        · rw [if_neg c, if_neg e] at h
          obtain ⟨v, gi, e1, rr, s, _⟩ := RepL.get r2 h
          refine ⟨v, gi, ?_, rr, fun a ha => List.mem_append_right _ (s a ha)⟩
          rw [List.getElem?_map, mid_get, hk, if_neg c, if_neg e, e1]
          rfl
  disj := fun i j a hi hj => by
    by_cases e : i = k
    · by_cases e2 : j = k
      · rw [e, e2]
      · rw [if_neg e2] at hj; cases hj
    · rw [if_neg e] at hi; cases hi
  nd := fun j => by
    by_cases e : j = k
    · rw [if_pos e]; exact nd
    · rw [if_neg e]; exact .nil
  pl := fun j a ha => by
    by_cases e : j = k
    · rw [if_pos e] at ha; exact pl a ha
    · rw [if_neg e] at ha; cases ha
  off := fun j a ha z => by
    by_cases e : j = k
    · rw [if_pos e] at ha; exact ap a z ha
    · rw [if_neg e] at ha; cases ha
  wt := fun a ha => (List.mem_append.mp ha).elim (RepL.there _ _ _ r1 a) (RepL.there _ _ _ r2 a)
theorem de_fnIO {i kk : Nat} {den : Den} {g : EvZ} {q pos : Pos} (F : FnG X.prog X.w X.K X.mg X.base CX k f fd ps (spD X.K n (some kk) den)) (room : Room k X.A) (gd : X.A.guards = some []) (hm : X.mg x = some (.ref f)) (kp : PySem.W.keepIn X.K (.ref f) = true) (bi : Binds X.K fd ps []) (pa : Passes CX X E)
    (ha : DIO X E p i kk (e :: es) g) (hg : Gl X x := by rfl) (nd : (x == ("__debug__" : Str)) = false := by decide) (st : starEach (e :: es) X.env = (false, eval e X.env) :: starEach es X.env := by rfl) (pl : (backTo pos (starEach es X.env)).any (·.1) = false := by rfl) :
    DE X E false true (.Call (.Name x q) (e :: es) [] pos) (eFnIO n i den g) := by
  refine PE.mono (pe_fnG F room gd hg hm kp bi pa ha nd st pl) fun σ H Q ⟨env, fs, W, he, h⟩ => ⟨env, fs, W, he, ?_⟩
  unfold eFnIO at h
  cases e1 : g env with
  | no => rw [e1] at h; exact h
  | ex c => rw [e1] at h; exact h
  | ok y =>
    obtain ⟨⟨ds1, ds2⟩, env1⟩ := y
    rw [e1] at h
    simp only [R.bind] at h
    intro w v1 v2 H1 fs1 g1 g2 ew S r1 r2 ap hk
    cases e0 : ownAt (env1.at i) with
    | no => rw [e0] at h; exact h.elim
    | ex c => exact absurd e0 ownAt_ex
    | ok u =>
      rw [e0] at h
      simp only at h
      by_cases nds : (ds1 ++ u :: ds2).length = n
      case neg => rw [if_neg nds] at h; exact h.elim
      rw [if_pos nds] at h
      obtain ⟨ei, hi, w', ew', r⟩ := S.renv.valAt e0
      rw [ew] at ew'
      cases ew'
      have l1 := RepL.length r1
      have l2 := RepL.length r2
      have sub1 : ∀ j, ∀ a ∈ (fun j => if j = kk then fs1 i else []) j, a ∈ fs1 i := fun j a ha => by
        by_cases c : j = kk
        · simp only [c, if_true] at ha; exact ha
        · simp only [c, if_false] at ha; cases ha
      have nvs : ((v1 ++ w :: v2) ++ []).length = n := by
        rw [List.append_nil, ← nds]
        simp [l1, l2]
      refine ⟨nvs, ds1 ++ u :: ds2, _, _, nds, by rw [List.append_nil]; exact RepEnv.argsIO r1 r2 r hk (S.renv.nd i) (S.renv.pl i) fun a ha z => ap a ha i z, ?_⟩
      cases e2 : den (ds1 ++ u :: ds2) with
      | no => rw [e2] at h; exact h.elim
      | ex c =>
        rw [e2] at h
        exact fun H' ad x n => ExP.before h S H' ad (fun b o eb nb => x b o eb fun j z => nb i (sub1 j b z)) n
      | ok rr =>
        obtain ⟨rd, u'⟩ := rr
        rw [e2] at h
        intro v H' g' gu z
        rw [List.append_nil] at z
        obtain ⟨xw, ex, ru⟩ := z.io
        have exw : xw = w := by
          rw [mid_get, hk, if_neg (Nat.lt_irrefl _), if_pos rfl] at ex
          exact (Option.some.inj ex).symm
        subst exw
        obtain ⟨n1, n2, n3⟩ := List.nodup_append.mp z.nd
        -- where the new objects stand
        have sub2 : ∀ a ∈ g' ++ gu, a ∈ fs1 i ∨ H1 a = none := fun a ha => by
          rcases z.sub a ha with ⟨j, hj⟩ | q
          · exact .inl (sub1 j a hj)
          · exact .inr q
        have hd : RepEnv X.K W H' σ (env1.set i .dead) (fput fs1 i []) := by
          have k1 := S.renv.lay (s := .dead) (σ' := σ) hi (fun _ _ => rfl) (if_pos rfl)
          refine k1.away z.ext (fun j a ha => S.renv.pl i a (sub1 j a ha)) fun j a ha => ⟨fun l hl => ?_, S.renv.off i a (sub1 j a ha)⟩
          have hl' := fput_sub l a hl
          have := S.renv.disj l i a hl' (sub1 j a ha)
          subst this
          unfold fput at hl
          rw [if_pos rfl] at hl
          cases hl
        have apart : ∀ a ∈ g' ++ gu, ∀ j, a ∉ fput fs1 i [] j := fun a ha j hj => by
          have hj' := fput_sub j a hj
          rcases sub2 a ha with y | y
          · have := S.renv.disj j i a hj' y
            subst this
            unfold fput at hj
            rw [if_pos rfl] at hj
            cases hj
          · obtain ⟨o, eo, _⟩ := S.renv.pl j a hj'
            rw [y] at eo; cases eo
        have nW : ∀ a ∈ g' ++ gu, ¬ W a := fun a ha hw => by
          rcases sub2 a ha with y | y
          · exact S.renv.off i a y hw
          · obtain ⟨o, eo⟩ := S.renv.wt a hw
            rw [y] at eo; cases eo
        have mg' : ∀ {a}, a ∈ g' → a ∈ g' ++ gu := fun z => List.mem_append_left _ z
        have mgu : ∀ {a}, a ∈ gu → a ∈ g' ++ gu := fun z => List.mem_append_right _ z
        have σi : σ.set i (some xw) = σ := by
          refine List.ext_getElem? fun j => ?_
          by_cases c : i = j
          · subst c
            rw [List.getElem?_set_self (List.getElem?_eq_some_iff.mp ew).1, ew]
          · rw [List.getElem?_set_ne c]
        have hp : RepEnv X.K W H' σ (env1.set i (.own u')) (fput (fput fs1 i []) i gu) := by
          have := hd.put (i := i) (by simpa using hi) (List.getElem?_eq_some_iff.mp ew).1 ru n2 (fun a ha => apart a (mgu ha)) (fun a ha => z.pl a (mgu ha)) fun a ha => nW a (mgu ha)
          rw [List.set_set, σi] at this
          exact this
        have sub3 : ∀ a ∈ g' ++ gu, (∃ j, a ∈ fs1 j) ∨ H1 a = none := fun a ha => (sub2 a ha).imp (fun y => ⟨i, y⟩) id
        refine h v H' (fput (fput fs1 i []) i gu) g' ⟨⟨S.ext.trans S.sub fun b o eb nb => z.ext b o eb fun j y => nb i (sub1 j b y), hp, fun j a ha => ?_, fun z => (nomatch z), fun j d e => ?_⟩, z.rep, fun _ => ⟨n1, fun a ha j hj => ?_, fun a ha => z.pl a (mg' ha), Sub.trans S.ext S.sub fun a ha => sub3 a (mg' ha)⟩⟩
        · refine Sub.trans S.ext S.sub ?_ a ha
          intro b hb
          unfold fput at hb
          by_cases c : j = i
          · rw [if_pos c] at hb; exact sub3 b (mgu hb)
          · rw [if_neg c, if_neg c] at hb; exact .inl ⟨j, hb⟩
        · rw [at_set hi] at e
          by_cases c : j = i
          · rw [if_pos c] at e; cases e
          · rw [if_neg c] at e; exact S.vw j d e
        · by_cases c : j = i
          · unfold fput at hj
            rw [if_pos c] at hj
            exact n3 a ha a hj rfl
          · have : a ∈ fput fs1 i [] j := by
              unfold fput at hj ⊢
              rw [if_neg c] at hj
              exact hj
            exact apart a (mg' ha) j this
end
end DV
end
section
set_option Elab.async false
set_option linter.all false
set_option maxRecDepth 100000
namespace DV
open PySem PySem.Spec PyProof.Rows L2
section
variable {X : Cx}
/-! ### repr -/
def reprD : List D → Option D
  | [d] => if d.plain = true ∧ d.showable = true ∧ d.hasDict = false ∧ d.depth ≤ 60 ∧ d.shown.length ≤ 16000000 then some (.str d.shown) else none
  | _ => none
theorem cr_reprV (hu : X.A.units + 64 < cLine) (gd : X.A.guards = some []) : CallR X (.builtin "repr") (rDn X.K reprD) := by
  rintro pins s σ H xs us Q I r ⟨ds, g, r', rep, hF, q⟩
  unfold reprD at hF
  split at hF
  · rename_i d
    split at hF
    · rename_i c
      obtain ⟨pl, sh, nd, dp, lg⟩ := c
      cases hF
      cases rep with
      | cons r1 r2 =>
        cases r2
        cases r with
        | cons rv rr =>
          cases rr
          rename_i v g1 u
          have fin : ∀ t tk, EP X pins σ Q (.str d.shown t) { s with toks := tk } := fun t tk => ⟨.str d.shown, H, I.tok _, ⟨_, rfl⟩, q _ _ _ (.scal (.str _))⟩
          obtain ⟨as, rd⟩ := rep_reads I r1 pl rv
          have lg' : d.shown.length ≤ sizeLine := in_line lg
          cases r1 with
          | non => cases rv; exact P.repr_of_none (fin _ _)
          | bl b => cases rv; exact P.repr_of_bool (fin _ _)
          | int i =>
            obtain ⟨t, rfl⟩ := rv
            exact P.repr_of_int (by simpa [PyData.showable] using sh) (fin _ _)
          | str z =>
            obtain ⟨t, rfl⟩ := rv
            exact P.repr_of_str (fin _ _) lg'
          | tup h l =>
            cases rv
            exact repr_of_reads' rd sh (PyData.noDict_hsm nd) gd (by omega) (fun _ _ e => e) (fun h' t tk hk => ⟨.str _, H, I.kept (t' := tk) hk, ⟨_, rfl⟩, q _ _ _ (.scal (.str _))⟩) lg'
          | lst h l =>
            cases rv
            exact repr_of_reads' rd sh (PyData.noDict_hsm nd) gd (by omega) (fun _ _ e => e) (fun h' t tk hk => ⟨.str _, H, I.kept (t' := tk) hk, ⟨_, rfl⟩, q _ _ _ (.scal (.str _))⟩) lg'
          | dK h l => simp [PyData.hasDict] at nd
          | dT h l => simp [PyData.hasDict] at nd
    · cases hF
  · cases hF
end
/-! ### the end: the law's own call -/
/-- the law at its caller -/
theorem lawCallG {P : Program} {w : World} {K : Frag} {mg mb : Str → Option Value} {CX : CXT} {k : Nat} {fa a : Addr} {fd : FuncData} {x : Str} {sp : Sp} {s₁ : Shared} {vs : List Value} {ns : List Int}
    (inK : K.In s₁.heap) (nsM : s₁.heap.Ns mainGlobals mg) (nsB : s₁.heap.Ns builtinsNs mb) (boot : ∀ x : Str, x ≠ "__name__" → mb x = bootBuiltins x) (lim : s₁.heap.NoLimit) (noG : s₁.gens = #[])
    (obj : s₁.heap.get? a = some { cls := .type "list", data := .seq vs.toArray }) (nums : IntsAre vs ns) (few : ns.length ≤ sizeLine) (room : Room k callerA)
    (F : ∀ base : Heap, K.In base → base.Ns mainGlobals mg → FnG P w K mg base CX k fa fd [x] sp) (bound : ∀ (s : Shared) (u : Value), BindsTo s fd ⟨[u], []⟩ [(x, u)])
    (pr : ∀ H : Hp, Only H → SqL K H a (ns.map V.int) → sp [.ref a] H (fun v _ => v = .bl true) fun _ _ _ => False) (noX : ∀ H e s', CX [] H s₁ (fun _ _ _ => False) e s' → False) :
    codeAny (model P w) callerA (.call (.ref fa) ⟨[.ref a], []⟩) (fun r s' => r = .ok (.ret (.bool true)) ∧ OldK s₁.heap s'.heap ∧ s'.os = s₁.os ∧ AllBare s'.gens) s₁ := by
  have rel := vals_ints nums; have nv := nums.length; have nil : ∀ {b : Addr}, b ∉ ([] : List Addr) := fun {b} z => nomatch z
  -- over any heap that tracks at most the script, frozen
  have main : ∀ H : Hp, Only H → SqL K H a (ns.map V.int) → HOk P w H s₁.heap → (∀ b, H b ≠ none → b = a) → (H a ≠ none → K.lookup a = none) → codeAny (model P w) callerA (.call (.ref fa) ⟨[.ref a], []⟩) (fun r s' => r = .ok (.ret (.bool true)) ∧ OldK s₁.heap s'.heap ∧ s'.os = s₁.os ∧ AllBare s'.gens) s₁ := by
    intro H only seq hok just own
    have dictFree : ∀ {b : Addr} {o : Obj} {es : Array DictEntry} {ep : Nat}, s₁.heap.get? b = some o → o.data = .dict es ep → H b = none := fun {b o es ep} e d => Classical.byContradiction fun z => (by
      have eb := just b z; rw [eb, obj] at e; cases e; cases d)
    have keepNs : ∀ {b : Addr} {m : Str → Option Value}, s₁.heap.Ns b m → (hidT s₁.heap H).Ns b m := fun {b m} ⟨o, es, ep, e, d, r⟩ => ⟨o, es, ep, hidT_get e (dictFree e d), d, r⟩
    have inK' : K.In (hidT s₁.heap H) := fun b o e => hidT_get (inK b o e) (Classical.byContradiction fun z => (by
      have eb := just b z; rw [eb] at e z; rw [own z] at e; cases e))
    have modl : Mod K mg (hidT s₁.heap H) := ⟨inK', keepNs nsM, ⟨mb, keepNs nsB, boot⟩, lim.imp fun mc h => ⟨keepNs h.1, h.2⟩⟩
    have start : Env0 P w K mg (hidT s₁.heap H) callerA [] s₁ H := ⟨rfl, modl, fun b o e => of_hidT e, Nat.le_of_eq (hidT_size _ _), trivial, fun b hb => (nil hb).elim, hok, .of_eq noG⟩
    refine codeAny_mono ((F _ inK' (keepNs nsM)).goes callerA [] s₁ H ⟨[.ref a], []⟩ [.ref a] [.ref a] _ _ room rfl start (bound s₁ (.ref a)) (.cons rfl .nil) (pr H only seq)) fun r s' z => ?_
    match r, z with
    | .error e, z => exact (noX H e s' z).elim
    | .ok (.ret u), z =>
      obtain ⟨v, H', os, bare, un, hok', ru, qv⟩ := z
      have qv : v = .bl true := qv
      subst qv
      obtain rfl : u = Value.bool true := ru
      refine ⟨rfl, OldK.of_keep fun b o e => ?_, os, bare⟩
      rcases only b with hb | ⟨ob, xs, hb⟩
      · exact un.keep b o e hb nil nil
      · obtain ⟨e1, _⟩ := hok b _ hb; obtain ⟨e2, _⟩ := hok' b _ (un.frzs b ob _ hb)
        rw [e] at e1; cases e1; exact e2
  cases hk : K.lookup a with
  | some o =>
    have eo := inK a o hk; rw [obj] at eo; cases eo
    refine main (fun _ => none) (fun _ => .inl rfl) (.inr ⟨_, vs.toArray, _, hk, rfl, rfl, rfl, by rw [List.size_toArray, nv]; exact few, by simpa using rel⟩) (fun b u z => (nomatch z)) (fun b z => absurd rfl z) fun z => absurd rfl z
  | none =>
    let H0 : Hp := fun b => if b = a then some (.frz { cls := .type "list", data := .seq vs.toArray } (.lst (ns.map V.int))) else none
    have at0 : H0 a = some (.frz { cls := .type "list", data := .seq vs.toArray } (.lst (ns.map V.int))) := if_pos rfl
    have off0 : ∀ b, b ≠ a → H0 b = none := fun b hb => if_neg hb
    have just0 : ∀ b, H0 b ≠ none → b = a := fun b z => Classical.byContradiction fun y => z (off0 b y)
    refine main H0 (fun b => ?_) (.inl (.inr ⟨_, at0⟩)) (fun b u z => ?_) just0 fun _ => hk
    · by_cases hb : b = a
      · subst hb; exact .inr ⟨_, _, at0⟩
      · exact .inl (off0 b hb)
    · have hb := just0 b (by rw [z]; simp)
      subst hb
      rw [at0] at z
      cases z
      exact ⟨obj, by rw [List.length_map]; exact few, vs, _, rel, obj⟩
/-- the law, over a head by facts -/
theorem walkG {l : PySem.W.OpenLaw} {n k : Nat} {q : Program} {loose : List Str} {XP : (Str → Option Value) → Heap → Prop} {YP : World → Heap → Prop} {d : DefRec} {CX : CXT} {x : Str}
    (most : l.most = some n) (fits : n ≤ sizeLine) (plain : d.params.defaults = []) (room : Room k callerA)
    (F : ∀ (w : World) (mg : Str → Option Value) (fa : Addr) (h : Heap), YP w h → h.Ns mainGlobals mg → mg d.name = some (.ref fa) →
      ∃ (K : Frag) (fd : FuncData) (sp : Sp), K.In h ∧ (∀ (s : Shared) (u : Value), BindsTo s fd ⟨[u], []⟩ [(x, u)]) ∧
        (∀ (H : Hp) (a : Addr) (ns : List Int), ns.length ≤ n → Only H → SqL K H a (ns.map V.int) → sp [.ref a] H (fun v _ => v = .bl true) fun _ _ _ => False) ∧
        ∀ base : Heap, K.In base → base.Ns mainGlobals mg → FnG l.prog w K mg base CX k fa fd [x] sp)
    (noX : ∀ (H : Hp) (s : Shared) (e : Value) (s' : Shared), CX [] H s (fun _ _ _ => False) e s' → False) : PySem.W.WalkO q loose XP YP l.row.toRowW d [] (fun f vs => PySem.call f vs) := by
  refine Att.attach_call most plain fun w s₀ s₁ mg mb fa o pm cd doc a vs ns G Y ho hd hcd hmg obj nums few noG => ?_
  obtain ⟨K, fd, sp, inK, bound, pr, all⟩ := F w mg fa _ Y G.T.g hmg
  exact lawCallG inK G.T.g G.T.b G.T.builtins G.T.nolimit noG obj nums (Nat.le_trans few fits) room all bound (fun H only seq => pr H a ns few only seq) fun H e s' => noX H s₁ e s'
end DV
end
section
set_option Elab.async false
set_option linter.all false
set_option maxRecDepth 100000
namespace DV
open PySem PySem.Spec
/-! ### reckoning with what is computed -/
section
variable {α β γ : Type}
@[simp] theorem bind_ok {a : α} {f : α → R β} : (R.ok a).bind f = f a := (rfl)
@[simp] theorem bind_no {f : α → R β} : (R.no : R α).bind f = .no := (rfl)
@[simp] theorem bind_ex {c : Exc} {f : α → R β} : (R.ex c : R α).bind f = .ex c := (rfl)
@[simp] theorem of_some {a : α} : R.of (some a) = .ok a := (rfl)
@[simp] theorem of_none : R.of (none : Option α) = .no := (rfl)
@[simp] theorem noEx_ok {a : α} : noEx (R.ok a) = .ok a := (rfl)
@[simp] theorem noEx_no : noEx (R.no : R α) = .no := (rfl)
@[simp] theorem at_zero {s : Slot} {e : Env} : Env.at (s :: e) 0 = s := (rfl)
@[simp] theorem at_succ {s : Slot} {e : Env} {n : Nat} : Env.at (s :: e) (n + 1) = Env.at e n := (rfl)
@[simp] theorem at_nil {n : Nat} : Env.at [] n = .dead := (rfl)
@[simp] theorem get_own {d : D} : Slot.get (.own d) = .ok d := (rfl)
@[simp] theorem get_view {d : D} : Slot.get (.view d) = .ok d := (rfl)
@[simp] theorem get_dead : Slot.get .dead = .no := (rfl)
@[simp] theorem lst_own {ds : List D} : Slot.lst (.own (.list ds)) = .ok ds := (rfl)
@[simp] theorem ownAt_own {d : D} : ownAt (.own d) = .ok d := (rfl)
@[simp] theorem ioVal_none {e : Env} : ioVal none e = .ok .none := (rfl)
theorem ioVal_some {e : Env} {k : Nat} {d : D} (h : e.at k = .own d) : ioVal (some k) e = .ok d := by
  unfold ioVal
  simp only [h]
@[simp] theorem kill_nil {e : Env} : killS [] e = e := (rfl)
@[simp] theorem kill_cons {v : Nat} {vs : List Nat} {e : Env} : killS (v :: vs) e = killS vs (e.set v .dead) := (rfl)
@[simp] theorem back_nil {o e : Env} : backS [] o e = e := (rfl)
@[simp] theorem back_cons {v : Nat} {vs : List Nat} {o e : Env} : backS (v :: vs) o e = backS vs o (e.set v (o.at v)) := (rfl)
end
theorem int_beq (i j : Int) : (i == j) = decide (i = j) := by
  by_cases h : i = j <;> simp [h]
theorem le_not (i j : Int) : (!decide (j < i)) = decide (i ≤ j) := by
  by_cases h : i ≤ j
  · simp [h, Int.not_lt.mpr h]
  · simp [h, Int.not_le.mp h]
section
variable {i j : Int} {a b : Bool} {s t : Str} {d e : D} {xs ys : List D} {env : Env}
@[simp] theorem addD_int : addD (.int i) (.int j) = some (.int (i + j)) := (rfl)
@[simp] theorem subD_int : subD (.int i) (.int j) = some (.int (i - j)) := (rfl)
theorem mulD_l (h1 : -(2 ^ 64) < i) (h2 : i < 2 ^ 64) : mulD (.int i) (.int j) = some (.int (i * j)) := if_pos (.inl ⟨h1, h2⟩)
theorem mulD_r (h1 : -(2 ^ 64) < j) (h2 : j < 2 ^ 64) : mulD (.int i) (.int j) = some (.int (i * j)) := if_pos (.inr ⟨h1, h2⟩)
theorem fdivD_int (h1 : 0 < j) (h2 : j < 1073741824) : fdivD (.int i) (.int j) = some (.int (i / j)) := if_pos ⟨h1, h2⟩
@[simp] theorem negD_int : negD (.int i) = some (.int (-i)) := (rfl)
theorem modD_int (h : 0 < j) : modD (.int i) (.int j) = some (.int (i % j)) := if_pos h
@[simp] theorem intD_int : intD [.int i] = some (.int i) := (rfl)
@[simp] theorem augAdd_int : augAdd (.int i) (.int j) = some (.int (i + j)) := (rfl)
@[simp] theorem eqD_int : eqD (.int i) (.int j) = some (.bool (decide (i = j))) := by
  simp [eqD, PyData.plain, PyData.depth, PyData.eqv, int_beq]
@[simp] theorem neD_int : neD (.int i) (.int j) = some (.bool (decide (i ≠ j))) := by
  simp [neD, PyData.plain, PyData.depth, PyData.eqv, int_beq]
@[simp] theorem ltD_int : ltD (.int i) (.int j) = some (.bool (decide (i < j))) := by
  simp [ltD, cmpD, PyData.plain, PyData.depth, PySem.W.alike, PySem.W.dataLt_int, notNone]
@[simp] theorem gtD_int : gtD (.int i) (.int j) = some (.bool (decide (j < i))) := by
  simp [gtD, cmpD, PyData.plain, PyData.depth, PySem.W.alike, PySem.W.dataLt_int, notNone]
@[simp] theorem leD_int : leD (.int i) (.int j) = some (.bool (decide (i ≤ j))) := by
  simp [leD, cmpD, PyData.plain, PyData.depth, PySem.W.alike, PySem.W.dataLt_int, notNone, -Bool.not_eq_eq_eq_not]
  exact le_not _ _
@[simp] theorem geD_int : geD (.int i) (.int j) = some (.bool (decide (j ≤ i))) := by
  simp [geD, cmpD, PyData.plain, PyData.depth, PySem.W.alike, PySem.W.dataLt_int, notNone, -Bool.not_eq_eq_eq_not]
  exact le_not _ _
@[simp] theorem boolOf_bool : boolOf (some (.bool a)) = some a := (rfl)
@[simp] theorem truth_bool : truthD (.bool a) = some a := (rfl)
@[simp] theorem truth_int : truthD (.int i) = some (i != 0) := (rfl)
@[simp] theorem truth_none : truthD .none = some false := (rfl)
@[simp] theorem truth_list : truthD (.list xs) = some !xs.isEmpty := (rfl)
@[simp] theorem truth_tuple : truthD (.tuple xs) = some !xs.isEmpty := (rfl)
@[simp] theorem isn_none : isnD .none .none = some (.bool true) := (rfl)
@[simp] theorem isn_int : isnD (.int i) .none = some (.bool false) := (rfl)
@[simp] theorem isn_tuple : isnD (.tuple xs) .none = some (.bool false) := (rfl)
@[simp] theorem notn_none : notnD .none .none = some (.bool false) := (rfl)
@[simp] theorem notn_int : notnD (.int i) .none = some (.bool true) := (rfl)
@[simp] theorem notn_tuple : notnD (.tuple xs) .none = some (.bool true) := (rfl)
@[simp] theorem lenD_list : lenD [.list xs] = some (.int xs.length) := (rfl)
@[simp] theorem lenD_tuple : lenD [.tuple xs] = some (.int xs.length) := (rfl)
@[simp] theorem absD_int : absD [.int i] = some (.int (if i < 0 then -i else i)) := (rfl)
@[simp] theorem revD_list : revD (.list xs) = if immL xs = true then some (.list xs.reverse) else none := (rfl)
@[simp] theorem revD_tuple : revD (.tuple xs) = if immL xs = true then some (.tuple xs.reverse) else none := (rfl)
@[simp] theorem imm_int : imm (.int i) = true := (rfl)
@[simp] theorem imm_none : imm .none = true := (rfl)
@[simp] theorem imm_bool : imm (.bool a) = true := (rfl)
@[simp] theorem imm_str : imm (.str s) = true := (rfl)
@[simp] theorem imm_tuple : imm (.tuple xs) = immL xs := by simp [imm]
@[simp] theorem immL_nil : immL [] = true := (rfl)
@[simp] theorem immL_cons : immL (d :: xs) = (imm d && immL xs) := by simp [immL]
theorem immL_all : immL xs = true ↔ ∀ d ∈ xs, imm d = true := by
  induction xs with
  | nil => simp
  | cons d xs ih => simp [ih]
theorem immL_map {α : Type} {f : α → D} {l : List α} (h : ∀ x ∈ l, imm (f x) = true) : immL (l.map f) = true := immL_all.mpr fun d hd => by
  obtain ⟨x, hx, rfl⟩ := List.mem_map.mp hd
  exact h x hx
@[simp] theorem immL_ints {l : List Int} : immL (l.map PyData.int) = true := immL_map fun _ _ => rfl
@[simp] theorem int_Int : PyData.isInt (.int i) = true := (rfl)
@[simp] theorem int_Bool : PyData.isBool (.int i) = false := (rfl)
@[simp] theorem tuple_Tuple : PyData.isTuple (.tuple xs) = true := (rfl)
@[simp] theorem plain_int : PyData.plain (.int i) = true := by simp [PyData.plain]
theorem tupleD_list (h : immL xs = true) : tupleD [.list xs] = some (.tuple xs) := if_pos h
theorem tupleD_tuple (h : immL xs = true) : tupleD [.tuple xs] = some (.tuple xs) := if_pos h
theorem atI_nat {α : Type} {l : List α} {k : Nat} : L2.atI l (k : Int) = l[k]? := by
  unfold L2.atI L2.ixN
  by_cases h : k < l.length
  · simp [h]
  · simp [h]
theorem ixD_list {k : Nat} : ixD (.list xs) (.int (k : Int)) = xs[k]? := atI_nat
theorem ixD_tuple {k : Nat} : ixD (.tuple xs) (.int (k : Int)) = xs[k]? := atI_nat
theorem ixN_nat {n k : Nat} (h : k < n) : L2.ixN n (k : Int) = some k := by
  unfold L2.ixN
  simp [h]
theorem setD_nat {k : Nat} (h : k < xs.length) : setD xs (.int (k : Int)) e = some (xs.set k e) := by
  show Option.map (fun j => xs.set j e) (L2.ixN xs.length (k : Int)) = _
  rw [ixN_nat h]
  rfl
theorem atI_last {α : Type} {l : List α} (h : l ≠ []) : L2.atI l (-1) = l.getLast? := by
  have hl : 0 < l.length := List.length_pos_iff.mpr h
  unfold L2.atI L2.ixN
  rw [if_neg (by decide), if_pos (by omega), List.getLast?_eq_getElem?]
  simp only [Option.bind_some]
  congr 1
  omega
theorem atI_zero {α : Type} {x : α} {l : List α} : L2.atI (x :: l) 0 = some x := by
  unfold L2.atI L2.ixN
  simp
end
end DV
end
section
set_option Elab.async false
set_option linter.all false
set_option maxRecDepth 100000
namespace DV
open PySem PySem.Spec PyProof.Rows L2
/-! ### slots held for reading only from now on -/
section
variable {X : Cx} {E : XK} {A : List Nat}
def frz1 (i : Nat) (env : Env) : Env := match env.at i with
  | .own d => env.set i (.view d)
  | _ => env
def frzS (is : List Nat) (env : Env) : Env := is.foldl (fun e i => frz1 i e) env
def sFrz (is : List Nat) (f : Sv) : Sv := fun env => f (frzS is env)
theorem RepEnv.frz1 {K : Frag} {W : Addr → Prop} {H : Hp} {σ : L2.St} {env : Env} {fs : Fs} (h : RepEnv K W H σ env fs) (i : Nat) : ∃ fs' W', RepEnv K W' H σ (DV.frz1 i env) fs' ∧ (∀ a, W a → W' a) ∧ ∀ j, ∀ a ∈ fs' j, a ∈ fs j := by
  unfold DV.frz1
  cases e : env.at i with
  | dead => exact ⟨fs, W, h, fun _ z => z, fun _ _ z => z⟩
  | view d => exact ⟨fs, W, h, fun _ z => z, fun _ _ z => z⟩
  | own d =>
    have q := h.slot i
    rw [e] at q
    obtain ⟨v, e1, r⟩ := q
    have hi := at_len e (fun z => nomatch z)
    have h1 := h.lay (s := .dead) (σ' := σ) hi (fun _ _ => rfl) (if_pos rfl)
    have ap : ∀ a ∈ fs i, ∀ j, a ∉ fput fs i [] j := fun a ha j hj => by
      have hj' := fput_sub j a hj
      have := h.disj j i a hj' ha
      subst this
      unfold fput at hj
      rw [if_pos rfl] at hj
      cases hj
    have h2 := h1.prot ap (Rep.there _ _ _ r)
    refine ⟨fput fs i [], fun a => W a ∨ a ∈ fs i, ?_, fun a z => .inl z, fput_sub⟩
    have h3 := h2.lay (i := i) (s := .view d) (σ' := σ) (by simpa using hi) (fun _ _ => rfl) ⟨if_pos rfl, v, fs i, e1, r, fun a ha => .inr ha⟩
    rw [List.set_set] at h3
    have ef : fput (fput fs i []) i [] = fput fs i [] := by
      funext j
      unfold fput
      by_cases c : j = i
      · rw [if_pos c, if_pos c]
      · rw [if_neg c, if_neg c]
    rwa [ef] at h3
theorem RepEnv.frz {K : Frag} {H : Hp} {σ : L2.St} : ∀ (is : List Nat) {W : Addr → Prop} {env : Env} {fs : Fs}, RepEnv K W H σ env fs → ∃ fs' W', RepEnv K W' H σ (frzS is env) fs' ∧ (∀ a, W a → W' a) ∧ ∀ j, ∀ a ∈ fs' j, a ∈ fs j
  | [], W, _, fs, h => ⟨fs, W, h, fun _ z => z, fun _ _ z => z⟩
  | i :: is, W, _, fs, h => by
    obtain ⟨fs1, W1, h1, w1, s1⟩ := h.frz1 i
    obtain ⟨fs2, W2, h2, w2, s2⟩ := RepEnv.frz is h1
    exact ⟨fs2, W2, h2, fun a z => w2 a (w1 a z), fun j a ha => s1 j a (s2 j a ha)⟩
theorem OutP.wider {K : Frag} {W W1 : Addr → Prop} {Dn : Ends} {σ : L2.St} {H : Hp} {fs : Fs} {r : R Out} (h : OutP K E W A Dn σ H fs r) (w : ∀ a, W a → W1 a) : OutP K E W1 A Dn σ H fs r := by
  cases r with
  | no => exact h
  | ex c => exact h
  | ok o =>
    cases o with
    | nx e => exact fun W' σ' H' fs' m => h W' σ' H' fs' ⟨m.ext, m.renv, fun a z => m.more a (w a z), m.sub, m.keep⟩
    | bk e => exact fun W' σ' H' fs' m => h W' σ' H' fs' ⟨m.ext, m.renv, fun a z => m.more a (w a z), m.sub, m.keep⟩
    | ct e => exact fun W' σ' H' fs' m => h W' σ' H' fs' ⟨m.ext, m.renv, fun a z => m.more a (w a z), m.sub, m.keep⟩
    | rt d e => exact fun W' v σ' H' fs' g m => h W' v σ' H' fs' g ⟨m.ext, m.renv, fun a z => m.more a (w a z), m.sub, m.keep⟩
theorem db_frz {sts : List Stmt} {f : Sv} {is : List Nat} (h : DB X E A sts f) : DB X E A sts (sFrz is f) := by
  refine DB.imp h fun D σ H env fs W he q => ?_
  obtain ⟨fs', W', h', w', s'⟩ := he.frz is
  exact tS_iff.mpr ⟨_, fs', W', h', OutP.wider (OutP.less q s') w'⟩
end
/-- an own slot's value, taken out of it -/
def eMove (i : Nat) : Ev := fun env => (ownAt (env.at i)).bind fun d => .ok (d, env.set i .dead)
@[simp] theorem eMove_is {i : Nat} {env : Env} : eMove i env = (ownAt (env.at i)).bind fun d => .ok (d, env.set i .dead) := (rfl)
@[simp] theorem sFrz_is {ls : List Nat} {s : Sv} {env : Env} : sFrz ls s env = s (frzS ls env) := (rfl)
@[simp] theorem frzS_nil {e : Env} : frzS [] e = e := (rfl)
@[simp] theorem frzS_cons {v : Nat} {vs : List Nat} {e : Env} : frzS (v :: vs) e = frzS vs (frz1 v e) := (rfl)
@[simp] theorem frz1_is {v : Nat} {e : Env} : frz1 v e = match e.at v with
  | .own d => e.set v (.view d)
  | _ => e := (rfl)
theorem de_move {X : Cx} {E : XK} {i : Nat} {x : Str} {pos : Pos} (hN : X.N[i]? = some x := by rfl) (hv : Vis X.env.scope x := by first | exact .inl rfl | exact .inr (.inl rfl) | exact .inr (.inr rfl)) (hd : (x == ("__debug__" : Str)) = false := by decide) (hcd : (x == ("__classdict__" : Str)) = false := by decide) :
    DE X E false true (.Name x pos) (eMove i) := by
  refine PE.mono (pe_var hN hv hd hcd) fun σ H Q ⟨env, fs, W, he, h⟩ => ?_
  unfold eMove at h
  cases e0 : ownAt (env.at i) with
  | no => rw [e0] at h; exact h.elim
  | ex c => exact absurd e0 ownAt_ex
  | ok d =>
    rw [e0] at h
    obtain ⟨e1, hi, w, ew, r⟩ := he.valAt e0
    refine ⟨w, ew, h w H (fput fs i []) (fs i) ⟨⟨Ext.refl, he.lay (s := .dead) (σ' := σ) hi (fun _ _ => rfl) (if_pos rfl), fun j a ha => .inl ⟨j, fput_sub j a ha⟩, fun z => (nomatch z), fun j d' e => ?_⟩, r, fun _ => ⟨he.nd i, fun a ha j hj => ?_, he.pl i, fun a ha => .inl ⟨i, ha⟩⟩⟩⟩
    · rw [at_set hi] at e
      by_cases c : j = i
      · rw [if_pos c] at e; cases e
      · rw [if_neg c] at e; exact e
    · have hj' := fput_sub j a hj
      have := he.disj j i a hj' ha
      subst this
      unfold fput at hj
      rw [if_pos rfl] at hj
      cases hj
/-! ### a law's first call, and the law -/
def stateD (ns : List Int) (seed : Int) : D := .list [.list (ns.map .int), .int 0, .int 0, .int seed]
def seedOf (ns : List Int) : Int := ns.foldl (fun s c => (s * 48271 + c) % 2147483629 + 1) 7
def spStart (K : Frag) : Sp := fun vs H Q _ => ∃ (a : Addr) (ns : List Int), vs = [.ref a] ∧ SqL K H a (ns.map V.int) ∧ ∀ v H' g, Fresh K H v H' (stateD ns (seedOf ns)) g → Q v H'
def fSeed : Ev := eBin addD (eBin modD (eCall intD (aCons (eBin addD (eBin mulD (eRead 1) (eC (.int 48271))) (eRead 2)) aNil)) (eC (.int 2147483629))) (eC (.int 1))
def gCell (K : Frag) : TG := fun v σ H Q => σ.length = 3 → tGV K 3 [2] (.nm 2) v σ H Q
def rLstOf (K : Frag) : List V → Hp → VK → Prop := fun xs H Q => ∃ (p : Addr) (ys : List V), xs = [.ref p] ∧ (SqL K H p ys ∨ SqT K H p ys) ∧ ∀ q, H q = none → Q (.ref q) (upd H q (.lst ys))
def tStart (K : Frag) (E : XK) : TS :=
  tSeq (tS K E [1] (sSet 1 (eC (.int 7)))) (tSeq (tFor (iList K (tVar 0)) (gCell K) (tS K E ([1] ++ []) (sSeq (sSet 1 fSeed) sNx)))
    (tSeq (tRet (tLst (tCons (tCB (rLstOf K) (tCons (tVar 0) tNil)) (tCons (tC (.int 0)) (tCons (tC (.int 0)) (tCons (tVar 1) tNil)))))) tNext))
theorem SqL.sameS {K : Frag} {H H' : Hp} {a : Addr} {xs : List V} (h : SqL K H a xs) (s : Same H H') : SqL K H' a xs := by
  rcases h with (h | ⟨o, h⟩) | h
  · exact .inl (.inl (s _ _ h))
  · exact .inl (.inr ⟨o, s _ _ h⟩)
  · exact .inr h
theorem RepEnv.none3 {K : Frag} {H : Hp} {σ : L2.St} {m : Nat} : RepEnv K (fun _ => False) H σ (List.replicate m .dead) (fun _ => []) where
  slot := fun i => by
    have e : Env.at (List.replicate m .dead) i = .dead := by
      rw [at_eq, List.getElem?_replicate]
      by_cases c : i < m
      · rw [if_pos c]; rfl
      · rw [if_neg c]; rfl
    rw [e]
    rfl
  disj := fun _ _ _ h _ => nomatch h
  nd := fun _ => .nil
  pl := fun _ _ h => nomatch h
  off := fun _ _ h => nomatch h
  wt := fun _ h => h.elim
theorem seed_step (s c : Int) {x : Slot} (hx : x = .view (.int c)) : fSeed [.dead, .own (.int s), x] = .ok (.int ((s * 48271 + c) % 2147483629 + 1), [.dead, .own (.int s), x]) := by
  subst hx
  simp [fSeed, eBin, eCall, aCons, aNil, eRead, eC, modD_int, mulD_r]
theorem kill_move {K : Frag} {W W1 : Addr → Prop} {A : List Nat} {H H1 : Hp} {fs fs1 : Fs} {σ σ1 : L2.St} {env1 : Env} (m : Move K W W1 A H fs H1 σ σ1 env1 fs1) (vs : List Nat) : Move K W W1 A H fs H1 σ σ1 (killS vs env1) (fblank vs fs1) :=
  ⟨m.ext, m.renv.killX fun _ _ => rfl, m.more, fun i a ha => m.sub i a (fblank_sub ha).2, m.keep⟩
theorem repL_ints {K : Frag} {H : Hp} : ∀ (ns : List Int), RepL K H (ns.map V.int) (ns.map PyData.int) []
  | [] => .nil
  | n :: ns => RepL.cons (g := []) (.int n) (repL_ints ns)
theorem rep_int {K : Frag} {H : Hp} {v : V} {i : Int} {g : List Addr} (r : Rep K H v (.int i) g) : v = .int i := by
  cases r
  rfl
theorem start_run {K : Frag} {E E' : XK} {vs : List V} {H : Hp} {Q : VK} (h : spStart K vs H Q E') : tStart K E { nx := fun _ H' => Q .non H', rt := Q } (L2.start ["script", "seed", "cell"] vs) H := by
  obtain ⟨a, ns, rfl, hs, q⟩ := h
  let σ0 : L2.St := [some (.ref a), none, none]
  have hn : ns.length ≤ 1000000000 ∨ True := .inr trivial
  show tStart K E { nx := fun _ H' => Q .non H', rt := Q } σ0 H
  refine tS_iff.mpr ⟨List.replicate 3 .dead, fun _ => [], fun _ => False, RepEnv.none3, ?_⟩
  intro W1 σ1 H1 fs1 m1
  have same : ∀ {H' : Hp}, Ext H H' (fun _ => []) → Same H H' := fun x b o e => x b o e fun _ z => nomatch z
  have s10 : σ1[0]? = some (some (.ref a)) := m1.keep 0 (by simp)
  refine ⟨_, s10, a, rfl, ⟨_, SqL.sameS hs (same m1.ext)⟩, ?_⟩
  let env0 : Env := [.dead, .own (.int 7), .dead]
  have m1 : Move K (fun _ => False) W1 [1, 2] H (fun _ => []) H1 σ0 σ1 env0 fs1 := m1.mono (by simp)
  let P : Nat → L2.St → Hp → Prop := fun i σ' H' => ∃ fs' W', Move K (fun _ => False) W' [1, 2] H (fun _ => []) H' σ0 σ' [.dead, .own (.int (seedOf (ns.take i))), .dead] fs'
  refine for_it (walk_list (K := K) (a := a) (xs := ns.map V.int)) (g := gCell K) (tb := tS K E ([1] ++ []) (sSeq (sSet 1 fSeed) sNx)) (D := { nx := _, rt := Q }) P ⟨fs1, W1, m1⟩ ?_ ?_ ?_
  · rintro i σ' H' _ ⟨fs', W', m⟩
    exact SqL.sameS hs (same m.ext)
  · rintro i x σ' H' H2 hi ⟨fs', W', m⟩ ⟨rfl, hx⟩ hl
    rw [List.length_map] at hi
    have ex : x = .int ns[i] := by
      rw [List.getElem?_map, List.getElem?_eq_getElem hi] at hx
      exact (Option.some.inj hx).symm
    subst ex
    refine ⟨.int ns[i], [], W', _, [.dead, .own (.int (seedOf (ns.take i))), .view (.int ns[i])], fs', hl, m.renv, .int _, fun _ z => (nomatch z), rfl, fun σ2 fs2 bd => ?_⟩
    have mv : Move K W' W' [1, 2] H2 fs' H2 σ' σ2 [.dead, .own (.int (seedOf (ns.take i))), .view (.int ns[i])] fs2 :=
      ⟨Ext.refl, bd.renv, fun _ z => z, fun j b hb => (bd.sub j b hb).elim (fun y => .inl ⟨j, y⟩) fun y => (nomatch y), fun j hj => bd.keep j fun z => hj (by simp at z; simp [z])⟩
    refine tS_iff.mpr ⟨_, fs2, W', bd.renv, ?_⟩
    show OutP K E W' _ _ σ2 H2 fs2 (sSeq (sSet 1 fSeed) sNx [.dead, .own (.int (seedOf (ns.take i))), .view (.int ns[i])])
    unfold sSeq sSet
    rw [seed_step _ _ rfl]
    intro W3 σ3 H3 fs3 m3
    have e1 : seedOf (ns.take (i + 1)) = (seedOf (ns.take i) * 48271 + ns[i]) % 2147483629 + 1 := by
      unfold seedOf
      rw [List.take_succ_eq_append_getElem hi, List.foldl_append]
      rfl
    refine ⟨fblank [2] fs3, W3, ?_⟩
    have := kill_move (m.trans (mv.trans (m3.mono (A := [1, 2]) (by simp)))) [2]
    rw [e1]
    exact this
  · rintro σ' H' ⟨fs', W', m⟩
    rw [List.length_map, List.take_of_length_le (Nat.le_refl _)] at m
    have s0 : σ'[0]? = some (some (.ref a)) := m.keep 0 (by simp)
    have s1 : σ'[1]? = some (some (.int (seedOf ns))) := by
      obtain ⟨v, e, r⟩ := m.renv.slot 1
      rw [rep_int r] at e
      exact e
    have sm := same m.ext
    refine ⟨_, s0, a, _, rfl, .inl (SqL.sameS hs sm), fun l hl => ⟨_, s1, le_line (by simp), fun r hr => ?_⟩⟩
    have nl : l ≠ r := fun z => by
      rw [← z, upd_same] at hr
      cases hr
    have sm1 : Same H (upd H' l (.lst (ns.map V.int))) := fun b o e => same_upd hl b o (sm b o e)
    have sm2 : Same H (upd (upd H' l (.lst (ns.map V.int))) r (.lst [.ref l, .int 0, .int 0, .int (seedOf ns)])) := fun b o e => same_upd hr b o (sm1 b o e)
    have hH : ∀ b, (H' b = none) → H b = none := fun b e => by
      cases z : H b with
      | none => rfl
      | some o => rw [sm b o z] at e; cases e
    have hr0 : H r = none := by
      cases z : H r with
      | none => rfl
      | some o => rw [sm1 r o z] at hr; cases hr
    have rin : Rep K (upd (upd H' l (.lst (ns.map V.int))) r (.lst [.ref l, .int 0, .int 0, .int (seedOf ns)])) (.ref l) (.list (ns.map .int)) (l :: []) := .lst (by rw [upd_ne nl]; exact upd_same) ((repL_ints ns))
    refine q _ _ [r, l] ⟨sm2, .lst upd_same (.cons rin (.cons (.int 0) (.cons (.int 0) (.cons (.int _) .nil)))), by simp; exact fun z => nl z.symm, fun b hb => ?_, fun b hb => ?_⟩
    · have : b = r ∨ b = l := by simpa using hb
      rcases this with rfl | rfl
      · exact hr0
      · exact hH _ hl
    · have : b = r ∨ b = l := by simpa using hb
      rcases this with rfl | rfl
      · exact ⟨.lst _, upd_same, trivial⟩
      · exact ⟨.lst _, by rw [upd_ne nl]; exact upd_same, trivial⟩
/-! the law -/
def spLaw (K : Frag) : Sp := fun vs H Q _ => ∃ (a : Addr) (ns : List Int), vs = [.ref a] ∧ ns.length ≤ 63 ∧ SqL K H a (ns.map V.int) ∧ ∀ H', Q (.bl true) H'
def tLaw (K : Frag) (E : XK) (A : List Nat) (f : Sv) : TS := tSeq (tAsg (tCall (spStart K) [] E (tCons (tVar 0) tNil)) (gName 1)) (tS K E A f)
theorem law_run {K : Frag} {E E' : XK} {A : List Nat} {f : Sv} {N : List Str} {vs : List V} {H : Hp} {Q : VK} (h : spLaw K vs H Q E') (hN : 2 ≤ N.length)
    (hf : ∀ ns : List Int, ns.length ≤ 63 → ∃ env', f (.dead :: .own (stateD ns (seedOf ns)) :: List.replicate (N.length - 2) .dead) = .ok (.rt (.bool true) env')) : tLaw K E A f { nx := fun _ H' => Q .non H', rt := Q } (L2.start N vs) H := by
  obtain ⟨a, ns, rfl, hl, hs, q⟩ := h
  have eσ : L2.start N [.ref a] = some (.ref a) :: none :: List.replicate (N.length - 2) none := by
    unfold L2.start
    have : N.length - [V.ref a].length = (N.length - 2) + 1 := by simp; omega
    rw [this, List.replicate_succ]
    rfl
  rw [eσ]
  refine ⟨_, rfl, a, ns, rfl, hs, fun v H' g fr => ?_⟩
  obtain ⟨env', e⟩ := hf ns hl
  have R0 : RepEnv K (fun _ => False) H (some (.ref a) :: none :: List.replicate (N.length - 2) none) (List.replicate N.length .dead) (fun _ => []) := RepEnv.none3
  have R1 := (R0.same fr.same).put (i := 1) (v := v) (by simp; omega) (by simp) fr.rep fr.nd (fun _ _ _ z => nomatch z) fr.pl fun _ _ z => z
  have e2 : (List.replicate N.length Slot.dead).set 1 (.own (stateD ns (seedOf ns))) = .dead :: .own (stateD ns (seedOf ns)) :: List.replicate (N.length - 2) .dead := by
    have : N.length = (N.length - 2) + 1 + 1 := by omega
    rw [this, List.replicate_succ, List.replicate_succ]
    simp
  rw [e2] at R1
  refine tS_iff.mpr ⟨_, _, _, R1, ?_⟩
  rw [e]
  intro W' u σ' H2 fs' gg m r w
  cases r
  exact q H2
end DV
end
section
set_option Elab.async false
set_option linter.all false
set_option maxRecDepth 100000
namespace DV
open PySem PySem.Spec
/-! the words, spelled out -/
section
variable {f g h : Ev} {t u : Et} {a b : EvA} {z : EvZ} {s s' : Sv} {env : Env} {i k n : Nat} {d : D} {F : D → D → Option D} {G : D → Option D} {C : List D → Option D} {den : Den} {io : Option Nat} {m : Nat} {ds : List D} {kk : Ec} {P : D → Bool} {ls : List Nat}
@[simp] theorem sSeq_is : sSeq s s' env = (s env).bind fun o => match o with
  | .nx e => s' e
  | .bk e => .ok (.bk e)
  | .ct e => .ok (.ct e)
  | .rt d e => .ok (.rt d e) := (rfl)
@[simp] theorem sNx_is : sNx env = .ok (.nx env) := (rfl)
@[simp] theorem sNo_is : sNo env = .no := (rfl)
@[simp] theorem sBk_is : sBk env = .ok (.bk env) := (rfl)
@[simp] theorem sCt_is : sCt env = .ok (.ct env) := (rfl)
@[simp] theorem sRetN_is : sRetN env = .ok (.rt .none env) := (rfl)
@[simp] theorem sRet_is : sRet f env = (f env).bind fun x => .ok (.rt x.1 x.2) := (rfl)
@[simp] theorem sIf_is : sIf t s s' env = (t env).bind fun x => if x.1 = true then s x.2 else s' x.2 := (rfl)
@[simp] theorem sSet_is : sSet i f env = (f env).bind fun x => if i < x.2.length then .ok (.nx (x.2.set i (.own x.1))) else .no := (rfl)
@[simp] theorem sSetIx_is : sSetIx i f g env = (g env).bind fun y => (Slot.lst (y.2.at i)).bind fun ds => (f y.2).bind fun k => (R.of (setD ds k.1 y.1)).bind fun ds' => .ok (.nx (y.2.set i (.own (.list ds')))) := (rfl)
@[simp] theorem sExpr_is : sExpr f env = (f env).bind fun x => .ok (.nx x.2) := (rfl)
@[simp] theorem sKill_is : sKill ls s env = s (killS ls env) := (rfl)
@[simp] theorem sAug_is : sAug i F f env = (Slot.get (env.at i)).bind fun d => (f env).bind fun y => (R.of (F d y.1)).bind fun r => if i < y.2.length then .ok (.nx (y.2.set i (.own r))) else .no := (rfl)
@[simp] theorem sAsg_is {tg : Tg} : sAsg tg f env = (f env).bind fun x => (R.of (bindO tg x.1 x.2)).bind fun e => .ok (.nx e) := (rfl)
@[simp] theorem sPar2_is : sPar2 i k a env = (a env).bind fun x => par2 i k x.1 x.2 := (rfl)
@[simp] theorem sPar3_is : sPar3 i k n a env = (a env).bind fun x => par3 i k n x.1 x.2 := (rfl)
@[simp] theorem par2_is {x y : D} : par2 i k [x, y] env = if i < env.length ∧ k < env.length then .ok (.nx ((env.set i (.own x)).set k (.own y))) else .no := (rfl)
@[simp] theorem par3_is {x y w : D} : par3 i k n [x, y, w] env = if i < env.length ∧ k < env.length ∧ n < env.length then .ok (.nx (((env.set i (.own x)).set k (.own y)).set n (.own w))) else .no := (rfl)
@[simp] theorem sFor_is {ks : List Nat} {tg : Tg} {it : Ei} : sFor ks tg it s env = (it env).bind fun x => forL ks tg s x.1 x.2 := (rfl)
@[simp] theorem eC_is : eC d env = .ok (d, env) := (rfl)
@[simp] theorem eRead_is : eRead i env = (env.at i).get.bind fun d => .ok (d, env) := (rfl)
@[simp] theorem eReadP_is : eReadP i env = match env.at i with
  | .dead => .no
  | .own d => if imm d = true then .ok (d, env) else .no
  | .view d => .ok (d, env) := (rfl)
@[simp] theorem eImm_is : eImm f env = (f env).bind fun x => if imm x.1 = true then .ok x else .no := (rfl)
@[simp] theorem eBin_is : eBin F f g env = (f env).bind fun x => (g x.2).bind fun y => (R.of (F x.1 y.1)).bind fun r => .ok (r, y.2) := (rfl)
@[simp] theorem eUn_is : eUn G f env = (f env).bind fun x => (R.of (G x.1)).bind fun r => .ok (r, x.2) := (rfl)
@[simp] theorem eIx_is : eIx f g env = (f env).bind fun x => (g x.2).bind fun y => (R.of (ixD x.1 y.1)).bind fun r => .ok (r, y.2) := (rfl)
@[simp] theorem eCall_is : eCall C a env = (a env).bind fun x => (R.of (C x.1)).bind fun r => .ok (r, x.2) := (rfl)
@[simp] theorem aNil_is : aNil env = .ok ([], env) := (rfl)
@[simp] theorem aCons_is : aCons f a env = (f env).bind fun x => (a x.2).bind fun y => .ok (x.1 :: y.1, y.2) := (rfl)
@[simp] theorem eTup_is : eTup a env = (a env).bind fun x => if x.1.length ≤ 1000 then .ok (.tuple x.1, x.2) else .no := (rfl)
@[simp] theorem eLst_is : eLst a env = (a env).bind fun x => if x.1.length ≤ 1000 then .ok (.list x.1, x.2) else .no := (rfl)
@[simp] theorem eAnd_is : eAnd f g env = (f env).bind fun x => match x.1 with
  | .bool b => if b = true then g x.2 else .ok (.bool false, x.2)
  | _ => .no := (rfl)
@[simp] theorem eOr_is : eOr f g env = (f env).bind fun x => match x.1 with
  | .bool b => if b = true then .ok (.bool true, x.2) else g x.2
  | _ => .no := (rfl)
@[simp] theorem eIf_is : eIf t f g env = (t env).bind fun x => if x.1 = true then f x.2 else g x.2 := (rfl)
@[simp] theorem eIs_is : eIs P f env = (f env).bind fun x => if x.1.plain = true then .ok (.bool (P x.1), x.2) else .no := (rfl)
@[simp] theorem notD_bool {b : Bool} : notD (.bool b) = some (.bool (!b)) := (rfl)
@[simp] theorem tAndE_is : tAndE t u env = (t env).bind fun x => if x.1 = true then u x.2 else .ok (false, x.2) := (rfl)
@[simp] theorem tOrE_is : tOrE t u env = (t env).bind fun x => if x.1 = true then .ok (true, x.2) else u x.2 := (rfl)
@[simp] theorem tNotE_is : tNotE t env = (t env).bind fun x => .ok (!x.1, x.2) := (rfl)
@[simp] theorem tYesE_is : tYesE env = .ok (true, env) := (rfl)
@[simp] theorem eT_is : eT f env = (f env).bind fun x => match x.1 with
  | .bool b => .ok (b, x.2)
  | _ => .no := (rfl)
@[simp] theorem eTru_is : eTru f env = (f env).bind fun x => (R.of (truthD x.1)).bind fun b => .ok (b, x.2) := (rfl)
@[simp] theorem tChain_is : tChain f kk env = (f env).bind fun x => kk x.1 x.2 := (rfl)
@[simp] theorem eChain_is : eChain f kk env = (f env).bind fun x => (kk x.1 x.2).bind fun y => .ok (.bool y.1, y.2) := (rfl)
@[simp] theorem cLast_is : cLast F g d env = (g env).bind fun y => (R.of (boolOf (F d y.1))).bind fun b => .ok (b, y.2) := (rfl)
@[simp] theorem cLink_is : cLink F g kk d env = (g env).bind fun y => (R.of (boolOf (F d y.1))).bind fun b => if b = true then kk y.1 y.2 else .ok (false, y.2) := (rfl)
@[simp] theorem eFn_is : eFn n den a env = (a env).bind fun x => if x.1.length = n then (den x.1).bind fun r => .ok (r.1, x.2) else .no := (rfl)
@[simp] theorem eFnIO_is : eFnIO n i den z env = (z env).bind fun x => (ownAt (x.2.at i)).bind fun u => if (x.1.1 ++ u :: x.1.2).length = n then (den (x.1.1 ++ u :: x.1.2)).bind fun r => .ok (r.1, x.2.set i (.own r.2)) else .no := (rfl)
@[simp] theorem zHere_is : zHere i a env = (ownAt (env.at i)).bind fun _ => (a env).bind fun y => .ok (([], y.1), y.2) := (rfl)
@[simp] theorem zCons_is : zCons f z env = (f env).bind fun x => (z x.2).bind fun y => .ok ((x.1 :: y.1.1, y.1.2), y.2) := (rfl)
@[simp] theorem argEnv_nil : argEnv io [] = [] := (rfl)
@[simp] theorem ioVal_is : ioVal (some k) env = match env.at k with
  | .own u => .ok u
  | _ => .no := (rfl)
@[simp] theorem outR_rt : outR io (.rt d env) = (ioVal io env).bind fun u => .ok (d, u) := (rfl)
@[simp] theorem outR_nx : outR io (.nx env) = (ioVal io env).bind fun u => .ok (.none, u) := (rfl)
theorem denOf_is : denOf m io s ds = (s (argEnv io ds ++ List.replicate m .dead)).bind (outR io) := rfl
@[simp] theorem iLst_is : iLst f env = (f env).bind fun x => match x.1 with
  | .list ds => .ok (ds, x.2)
  | _ => .no := (rfl)
@[simp] theorem iTpl_is : iTpl f env = (f env).bind fun x => match x.1 with
  | .tuple ds => .ok (ds, x.2)
  | _ => .no := (rfl)
@[simp] theorem iFn_is {C : List D → Option (List D)} : iFn C a env = (a env).bind fun x => (R.of (C x.1)).bind fun r => .ok (r, x.2) := (rfl)
@[simp] theorem eApp_is : eApp i f env = (Slot.lst (env.at i)).bind fun _ => (f env).bind fun y => (Slot.lst (y.2.at i)).bind fun ds => if ds.length < 16000000 then .ok (.none, y.2.set i (.own (.list (ds ++ [y.1])))) else .no := (rfl)
@[simp] theorem bindV_nm : bindV (.nm i) d env = if i < env.length then some (env.set i (.view d)) else none := by simp [bindV]
@[simp] theorem bindV_tp {l : List Tg} : bindV (.tp l) (.tuple ds) env = bindVs l ds env := by simp [bindV]
@[simp] theorem bindVs_nil : bindVs [] [] env = some env := by simp [bindVs]
@[simp] theorem bindVs_cons {tg : Tg} {l : List Tg} : bindVs (tg :: l) (d :: ds) env = (bindV tg d env).bind fun e => bindVs l ds e := by simp [bindVs]
@[simp] theorem bindO_nm : bindO (.nm i) d env = if i < env.length then some (env.set i (.own d)) else none := by simp [bindO]
@[simp] theorem bindO_tp {l : List Tg} : bindO (.tp l) (.tuple ds) env = bindOs l ds env := by simp [bindO]
@[simp] theorem bindOs_nil : bindOs [] [] env = some env := by simp [bindOs]
@[simp] theorem bindOs_cons {tg : Tg} {l : List Tg} : bindOs (tg :: l) (d :: ds) env = (bindO tg d env).bind fun e => bindOs l ds e := by simp [bindOs]
end
end DV
end
section
set_option Elab.async false
set_option linter.all false
set_option maxRecDepth 100000
namespace DV
open PySem PySem.Spec
/-! ### comprehensions, loops: what they come to -/
inductive F2 {α β : Type} (r : α → β → Prop) : List α → List β → Prop where
  | nil : F2 r [] []
  | cons {x y xs ys} : r x y → F2 r xs ys → F2 r (x :: xs) (y :: ys)
theorem F2.length {α β : Type} {r : α → β → Prop} {xs : List α} {ys : List β} (h : F2 r xs ys) : ys.length = xs.length := by
  induction h with
  | nil => rfl
  | cons _ _ ih => simp [ih]
theorem F2.mono {α β : Type} {r r' : α → β → Prop} {xs : List α} {ys : List β} (h : F2 r xs ys) (m : ∀ x y, r x y → r' x y) : F2 r' xs ys := by
  induction h with
  | nil => exact .nil
  | cons a _ ih => exact .cons (m _ _ a) ih
/-- rows of what is told by a value each -/
theorem F2.unmap {α β γ : Type} {r : α → γ → Prop} {f : γ → β} {xs : List α} {ys : List β} (h : F2 (fun x y => ∃ z, y = f z ∧ r x z) xs ys) : ∃ zs, ys = zs.map f ∧ F2 r xs zs := by
  induction h with
  | nil => exact ⟨[], rfl, .nil⟩
  | cons a _ ih =>
    obtain ⟨z, rfl, rz⟩ := a
    obtain ⟨zs, rfl, rzs⟩ := ih
    exact ⟨z :: zs, rfl, .cons rz rzs⟩
theorem F2.all_right {α β : Type} {r : α → β → Prop} {p : β → Prop} {xs : List α} {ys : List β} (h : F2 r xs ys) (m : ∀ x y, x ∈ xs → r x y → p y) : ∀ y ∈ ys, p y := by
  induction h with
  | nil => simp
  | cons a _ ih =>
    intro y hy
    rcases List.mem_cons.mp hy with rfl | hy
    · exact m _ _ List.mem_cons_self a
    · exact ih (fun x y hx => m x y (List.mem_cons_of_mem _ hx)) y hy
section
variable {α σ : Type} {vs ks : List Nat} {t : Tg} {c : Et} {e : Ev} {it : Ei} {b : Sv} {env env1 : Env}
theorem back_kill' (vs : List Nat) (o env : Env) : backS vs o (killS vs env) = backS vs o env := by
  refine List.ext_getElem? fun j => ?_
  rw [back_get, back_get, kill_len, kill_get]
  by_cases h1 : j ∈ vs ∧ j < env.length
  · rw [if_pos h1, if_pos h1]
  · rw [if_neg h1, if_neg h1, if_neg h1]
theorem kill_kill (vs : List Nat) (env : Env) : killS vs (killS vs env) = killS vs env := by
  refine List.ext_getElem? fun j => ?_
  rw [kill_get, kill_get, kill_len]
  by_cases h1 : j ∈ vs ∧ j < env.length
  · rw [if_pos h1, if_pos h1]
  · rw [if_neg h1, if_neg h1]
/-- a comprehension that changes nothing -/
theorem lcL_pure (hT : ∀ j ∈ Tg.slots t, j ∈ vs) (f g : α → D) (p : α → Bool) : ∀ (xs : List α) (env1 : Env), killS vs env1 = killS vs env → (∀ x ∈ xs, ∃ e1, bindV t (f x) (killS vs env) = some e1 ∧ c e1 = .ok (p x, e1) ∧ (p x = true → e e1 = .ok (g x, e1))) →
    ∃ env2, lcL vs t c e (xs.map f) env1 = .ok ((xs.filter p).map g, env2) ∧ killS vs env2 = killS vs env
  | [], env1, hk, _ => ⟨env1, rfl, hk⟩
  | x :: xs, env1, hk, h => by
    obtain ⟨e1, b1, c1, y1⟩ := h x List.mem_cons_self
    have k1 : killS vs e1 = killS vs env := bindV_kill b1 hT
    obtain ⟨env2, l2, k2⟩ := lcL_pure hT f g p xs e1 k1 fun x hx => h x (List.mem_cons_of_mem _ hx)
    refine ⟨env2, ?_, k2⟩
    simp only [List.map_cons]
    unfold lcL
    rw [hk, b1]
    simp only [of_some, bind_ok, c1]
    by_cases hp : p x = true
    · rw [if_pos hp, y1 hp]
      simp only [bind_ok, l2, List.filter_cons_of_pos hp, List.map_cons]
    · rw [if_neg hp, l2, List.filter_cons_of_neg hp]
theorem lc_pure {xs : List α} (f g : α → D) (p : α → Bool) (hi : it env = .ok (xs.map f, env)) (hz : xs.length ≤ 16000000) (h : ∀ x ∈ xs, ∃ e1, bindV t (f x) (killS vs env) = some e1 ∧ c e1 = .ok (p x, e1) ∧ (p x = true → e e1 = .ok (g x, e1))) (hT : ∀ j ∈ Tg.slots t, j ∈ vs := by decide) :
    eLc vs t it c e env = .ok (.list ((xs.filter p).map g), env) := by
  unfold eLc
  rw [hi]
  obtain ⟨env2, l2, k2⟩ := lcL_pure hT f g p xs env rfl h
  simp only [bind_ok, List.length_map, if_pos hz, l2, noEx_ok]
  have : backS vs env env2 = env := by rw [← back_kill', k2, back_kill]
  rw [this]
theorem lc_map {xs : List α} (f g : α → D) (hi : it env = .ok (xs.map f, env)) (hz : xs.length ≤ 16000000) (h : ∀ x ∈ xs, ∃ e1, bindV t (f x) (killS vs env) = some e1 ∧ e e1 = .ok (g x, e1)) (hT : ∀ j ∈ Tg.slots t, j ∈ vs := by decide) :
    eLc vs t it tYesE e env = .ok (.list (xs.map g), env) := by
  have := lc_pure (c := tYesE) (e := e) (p := fun _ => true) f g hi hz (fun x hx => let ⟨e1, b1, y1⟩ := h x hx; ⟨e1, b1, rfl, fun _ => y1⟩) hT
  rw [this, List.filter_eq_self.mpr fun _ _ => rfl]
/-- a comprehension whose items change what stands elsewhere -/
theorem lcL_rel (f : α → D) (I : Env → Prop) (out : α → D → Prop) : ∀ (xs : List α) (env1 : Env), I (killS vs env1) → (∀ x ∈ xs, ∀ env, I env → ∃ e1 e2 y e3, bindV t (f x) env = some e1 ∧ c e1 = .ok (true, e2) ∧ e e2 = .ok (y, e3) ∧ out x y ∧ I (killS vs e3)) →
    ∃ ys env2, lcL vs t c e (xs.map f) env1 = .ok (ys, env2) ∧ F2 out xs ys ∧ I (killS vs env2)
  | [], env1, hI, _ => ⟨[], env1, rfl, .nil, hI⟩
  | x :: xs, env1, hI, h => by
    obtain ⟨e1, e2, y, e3, b1, c1, y1, o1, i1⟩ := h x List.mem_cons_self _ hI
    obtain ⟨ys, env2, l2, f2, i2⟩ := lcL_rel f I out xs e3 i1 fun x hx => h x (List.mem_cons_of_mem _ hx)
    refine ⟨y :: ys, env2, ?_, .cons o1 f2, i2⟩
    simp only [List.map_cons]
    unfold lcL
    rw [b1]
    simp only [of_some, bind_ok, c1, if_true, y1, l2]
theorem lc_rel {xs : List α} (f : α → D) (I : Env → Prop) (out : α → D → Prop) (hi : it env = .ok (xs.map f, env1)) (hz : xs.length ≤ 16000000) (hI : I (killS vs env1)) (h : ∀ x ∈ xs, ∀ env, I env → ∃ e1 e2 y e3, bindV t (f x) env = some e1 ∧ c e1 = .ok (true, e2) ∧ e e2 = .ok (y, e3) ∧ out x y ∧ I (killS vs e3)) :
    ∃ ys env2, eLc vs t it c e env = .ok (.list ys, backS vs env1 env2) ∧ F2 out xs ys ∧ I env2 := by
  obtain ⟨ys, env2, l2, f2, i2⟩ := lcL_rel f I out xs env1 hI h
  refine ⟨ys, killS vs env2, ?_, f2, i2⟩
  unfold eLc
  rw [hi]
  simp only [bind_ok, List.length_map, if_pos hz, l2, noEx_ok, back_kill']
/-- a for that ends: the slots told by a value s at each turn's start -/
theorem for_fold (E : σ → Env) (J : σ → Prop) (step : σ → α → σ) (f : α → D) : ∀ (xs : List α) (env : Env) (s : σ), killS ks env = E s → J s → (∀ s, J s → ∀ x ∈ xs, ∃ e1 e2, bindV t (f x) (E s) = some e1 ∧ (b e1 = .ok (.nx e2) ∨ b e1 = .ok (.ct e2)) ∧ killS ks e2 = E (step s x) ∧ J (step s x)) →
    forL ks t b (xs.map f) env = .ok (.nx (E (xs.foldl step s))) ∧ J (xs.foldl step s)
  | [], env, s, he, hj, _ => ⟨by simp only [List.map_nil, forL, he, List.foldl_nil], hj⟩
  | x :: xs, env, s, he, hj, h => by
    obtain ⟨e1, e2, b1, r, k, j⟩ := h s hj x List.mem_cons_self
    have ih := for_fold E J step f xs e2 (step s x) k j fun s hs x hx => h s hs x (List.mem_cons_of_mem _ hx)
    refine ⟨?_, ih.2⟩
    simp only [List.map_cons, List.foldl_cons]
    unfold forL
    rw [he, b1]
    simp only [of_some, bind_ok]
    rcases r with r | r
    · rw [r]; exact ih.1
    · rw [r]; exact ih.1
/-- .. by a relation -/
theorem for_rel (I : Nat → Env → Prop) : ∀ (ds : List D) (n : Nat) (env : Env), I n (killS ks env) → (∀ i d env, ds[i]? = some d → I (n + i) env → ∃ e1 e2, bindV t d env = some e1 ∧ (b e1 = .ok (.nx e2) ∨ b e1 = .ok (.ct e2)) ∧ I (n + i + 1) (killS ks e2)) →
    ∃ env2, forL ks t b ds env = .ok (.nx env2) ∧ I (n + ds.length) env2
  | [], n, env, hI, _ => ⟨_, rfl, hI⟩
  | d :: ds, n, env, hI, h => by
    obtain ⟨e1, e2, b1, r, i1⟩ := h 0 d _ rfl hI
    obtain ⟨env2, l2, i2⟩ := for_rel I ds (n + 1) e2 i1 fun i d env hd hi => by
      have := h (i + 1) d env (by simpa using hd) (by rw [show n + (i + 1) = n + 1 + i by omega]; exact hi)
      rw [show n + (i + 1) + 1 = n + 1 + i + 1 by omega] at this
      exact this
    refine ⟨env2, ?_, by rw [show n + (d :: ds).length = n + 1 + ds.length by simp; omega]; exact i2⟩
    unfold forL
    rw [b1]
    simp only [of_some, bind_ok]
    rcases r with r | r
    · rw [r]; exact l2
    · rw [r]; exact l2
theorem forL_kill (ds : List D) (env : Env) : forL ks t b ds (killS ks env) = forL ks t b ds env := by
  cases ds with
  | nil => simp only [forL, kill_kill]
  | cons d ds => simp only [forL, kill_kill]
theorem forL_cons {d : D} {ds : List D} {e1 e2 : Env} (hb : bindV t d (killS ks env) = some e1) (h : b e1 = .ok (.nx e2)) : forL ks t b (d :: ds) env = forL ks t b ds (killS ks e2) := by
  rw [forL_kill]
  simp only [forL, hb, of_some, bind_ok, h]
  rfl
end
end DV
end
section
set_option Elab.async false
set_option linter.all false
set_option maxRecDepth 100000
namespace DV
open PySem PySem.Spec
/-! ### what repr tells fits -/
mutual
def smallD : D → Bool
  | .int i => decide (i.natAbs < 10 ^ 20)
  | .list xs => smallL xs
  | .tuple xs => smallL xs
  | .dict _ => false
  | _ => true
def smallL : List D → Bool
  | [] => true
  | x :: xs => smallD x && smallL xs
end
mutual
def wtD : D → Nat
  | .none => 4
  | .bool _ => 5
  | .int _ => 21
  | .str x => (reprText x).length
  | .list xs => 2 + wtL xs
  | .tuple xs => 3 + wtL xs
  | .dict _ => 0
def wtL : List D → Nat
  | [] => 0
  | x :: xs => wtD x + 2 + wtL xs
end
@[simp] theorem smallL_nil : smallL [] = true := rfl
@[simp] theorem smallL_cons {x : D} {xs : List D} : smallL (x :: xs) = (smallD x && smallL xs) := by simp [smallL]
@[simp] theorem smallD_int {i : Int} : smallD (.int i) = decide (i.natAbs < 10 ^ 20) := by simp [smallD]
@[simp] theorem smallD_none : smallD .none = true := by simp [smallD]
@[simp] theorem smallD_bool {b : Bool} : smallD (.bool b) = true := by simp [smallD]
@[simp] theorem smallD_str {b : Str} : smallD (.str b) = true := by simp [smallD]
@[simp] theorem smallD_list {xs : List D} : smallD (.list xs) = smallL xs := by simp [smallD]
@[simp] theorem smallD_tuple {xs : List D} : smallD (.tuple xs) = smallL xs := by simp [smallD]
theorem smallL_all {xs : List D} : smallL xs = true ↔ ∀ d ∈ xs, smallD d = true := by
  induction xs with
  | nil => simp
  | cons d xs ih => simp [ih]
theorem smallL_map {α : Type} {f : α → D} {l : List α} (h : ∀ x ∈ l, smallD (f x) = true) : smallL (l.map f) = true := smallL_all.mpr fun d hd => by
  obtain ⟨x, hx, rfl⟩ := List.mem_map.mp hd
  exact h x hx
@[simp] theorem wtL_nil : wtL [] = 0 := by simp [wtL]
@[simp] theorem wtL_cons {x : D} {xs : List D} : wtL (x :: xs) = wtD x + 2 + wtL xs := by simp [wtL]
@[simp] theorem wtD_none : wtD .none = 4 := by simp [wtD]
@[simp] theorem wtD_int {i : Int} : wtD (.int i) = 21 := by simp [wtD]
@[simp] theorem wtD_list {xs : List D} : wtD (.list xs) = 2 + wtL xs := by simp [wtD]
@[simp] theorem wtD_tuple {xs : List D} : wtD (.tuple xs) = 3 + wtL xs := by simp [wtD]
theorem wtL_le {xs : List D} {k : Nat} (h : ∀ d ∈ xs, wtD d ≤ k) : wtL xs ≤ xs.length * (k + 2) := by
  induction xs with
  | nil => simp
  | cons d xs ih =>
    have h1 := h d List.mem_cons_self
    have h2 := ih fun d hd => h d (List.mem_cons_of_mem _ hd)
    simp only [wtL_cons, List.length_cons, Nat.succ_mul]
    omega
theorem wtL_map {α : Type} {f : α → D} {l : List α} {k : Nat} (h : ∀ x ∈ l, wtD (f x) ≤ k) : wtL (l.map f) ≤ l.length * (k + 2) := by
  have := wtL_le (xs := l.map f) (k := k) fun d hd => by
    obtain ⟨x, hx, rfl⟩ := List.mem_map.mp hd
    exact h x hx
  simpa using this
theorem from_len : ∀ (ts : List Str) (k : Nat) (acc : Str), (textFrom k acc ts).length ≤ acc.length + piled ts
  | [], k, acc => by simp [textFrom, piled]
  | t :: ts, k, acc => by
    have h1 := from_len ts (k + 1) (acc ++ (if k > 0 then ", " else "" : String) ++ t)
    have h2 : (acc ++ (if k > 0 then ", " else "" : String) ++ t : Str).length ≤ acc.length + 2 + t.length := by
      rw [Str.length_append, Str.length_append]
      by_cases c : k > 0
      · rw [if_pos c]
        have : (Str.ofString ", ").length = 2 := by decide
        omega
      · rw [if_neg c]
        have : (Str.ofString "").length = 0 := by decide
        omega
    rw [piled_cons]
    unfold textFrom
    omega
theorem joined_len : ∀ (ts : List Str), (Str.join ", " ts).length ≤ piled ts
  | [] => by
    have : (Str.join ", " ([] : List Str)).length = 0 := by decide
    omega
  | t :: ts => by
    have := join_length_add (t :: ts) (by simp)
    omega
mutual
theorem shown_len : ∀ (d : D), smallD d = true → d.shown.length ≤ wtD d
  | .none, _ => by simp only [PyData.shown, wtD]; decide
  | .bool b, _ => by simp only [PyData.shown, wtD]; cases b <;> decide
  | .int i, h => by
    have h' : i.natAbs < 10 ^ 20 := by simpa [smallD] using h
    have := int_text_length_le10 (k := 20) (by decide) h'
    simp only [PyData.shown, wtD]
    rw [ofString_length]
    exact this
  | .str x, _ => by simp only [PyData.shown, wtD]; exact Nat.le_refl _
  | .list xs, h => by
    have h' : smallL xs = true := by simpa [smallD] using h
    have h1 := shownL_len xs h'
    have h2 := from_len (PyData.shownAll xs) 0 "["
    have e1 : (Str.ofString "[").length = 1 := by decide
    have e2 : (Str.ofString "]").length = 1 := by decide
    simp only [PyData.shown, wtD, listText]
    rw [Str.length_append]
    omega
  | .tuple xs, h => by
    have h' : smallL xs = true := by simpa [smallD] using h
    have h1 := shownL_len xs h'
    have h2 := joined_len (PyData.shownAll xs)
    have e1 : (Str.ofString "(").length = 1 := by decide
    simp only [PyData.shown, wtD, tupleText]
    rw [Str.length_append, Str.length_append]
    have e2 : (Str.ofString (if (PyData.shownAll xs).length == 1 then ",)" else ")" : String)).length ≤ 2 := by split <;> decide
    omega
  | .dict _, h => by simp [smallD] at h
theorem shownL_len : ∀ (xs : List D), smallL xs = true → piled (PyData.shownAll xs) ≤ wtL xs
  | [], _ => by simp [PyData.shownAll, wtL, piled]
  | x :: xs, h => by
    have h' : smallD x = true ∧ smallL xs = true := by simpa [smallL] using h
    have h1 := shown_len x h'.1
    have h2 := shownL_len xs h'.2
    simp only [PyData.shownAll, wtL]
    rw [piled_cons]
    omega
end
mutual
theorem small_ok : ∀ (d : D), smallD d = true → d.plain = true ∧ d.showable = true ∧ d.hasDict = false ∧ PyData.eqv d d = true
  | .none, _ => by simp [PyData.plain, PyData.showable, PyData.hasDict, PyData.eqv]
  | .bool b, _ => by simp [PyData.plain, PyData.showable, PyData.hasDict, PyData.eqv]
  | .int i, h => by
    have h' : i.natAbs < 10 ^ 20 := by simpa [smallD] using h
    have : i.natAbs.log2 < 1920 := by
      by_cases z : i.natAbs = 0
      · rw [z]; decide
      · exact (Nat.log2_lt z).mpr (Nat.lt_of_lt_of_le h' (by decide +kernel))
    simp [PyData.plain, PyData.showable, PyData.hasDict, PyData.eqv, this]
  | .str x, _ => by simp [PyData.plain, PyData.showable, PyData.hasDict, PyData.eqv]
  | .list xs, h => by
    have h' : smallL xs = true := by simpa [smallD] using h
    have := smallL_ok xs h'
    simp [PyData.plain, PyData.showable, PyData.hasDict, PyData.eqv, this]
  | .tuple xs, h => by
    have h' : smallL xs = true := by simpa [smallD] using h
    have := smallL_ok xs h'
    simp [PyData.plain, PyData.showable, PyData.hasDict, PyData.eqv, this]
  | .dict _, h => by simp [smallD] at h
theorem smallL_ok : ∀ (xs : List D), smallL xs = true → PyData.plainAll xs = true ∧ PyData.showableAll xs = true ∧ PyData.hasDictAll xs = false ∧ PyData.eqvAll xs xs = true
  | [], _ => by simp [PyData.plainAll, PyData.showableAll, PyData.hasDictAll, PyData.eqvAll]
  | x :: xs, h => by
    have h' : smallD x = true ∧ smallL xs = true := by simpa [smallL] using h
    have h1 := small_ok x h'.1
    have h2 := smallL_ok xs h'.2
    simp [PyData.plainAll, PyData.showableAll, PyData.hasDictAll, PyData.eqvAll, h1, h2]
end
/-- two that are one and the same, told alike -/
theorem eqD_same {d : D} (h : smallD d = true) (hd : d.depth ≤ 60) : eqD d d = some (.bool true) := by
  have := small_ok d h
  unfold eqD
  rw [if_pos ⟨this.1, this.1, hd⟩, this.2.2.2]
theorem reprD_ok {d : D} (h : smallD d = true) (hd : d.depth ≤ 60) (hw : wtD d ≤ 16000000) : reprD [d] = some (.str d.shown) := by
  have := small_ok d h
  unfold reprD
  exact if_pos ⟨this.1, this.2.1, this.2.2.1, hd, Nat.le_trans (shown_len d h) hw⟩
theorem eqD_str {x : Str} : eqD (.str x) (.str x) = some (.bool true) := by
  simp [eqD, PyData.plain, PyData.depth, PyData.eqv]
theorem alike_ints (ns : List Int) : PySem.W.AlikeAll (ns.map PyData.int) := by
  refine ⟨fun x hx y hy => ?_, fun x hx => ?_⟩
  · obtain ⟨i, _, rfl⟩ := List.mem_map.mp hx
    obtain ⟨j, _, rfl⟩ := List.mem_map.mp hy
    simp [PySem.W.alike]
  · obtain ⟨i, _, rfl⟩ := List.mem_map.mp hx
    exact fun z => nomatch z
theorem depthAll_ints (ns : List Int) : PyData.depthAll (ns.map PyData.int) = 0 := by
  induction ns with
  | nil => simp [PyData.depthAll]
  | cons n ns ih => simp [PyData.depthAll, PyData.depth, ih]
theorem maxD1_ints {n : Int} {ns : List Int} : maxD1 [.list (.int n :: ns.map PyData.int)] = some (.int (ns.foldl max n)) := by
  have h : immL (.int n :: ns.map PyData.int) = true ∧ PySem.W.AlikeAll (.int n :: ns.map PyData.int) ∧ PyData.depthAll (.int n :: ns.map PyData.int) ≤ 60 := ⟨immL_ints (l := n :: ns), alike_ints (n :: ns), by have := depthAll_ints (n :: ns); simp only [List.map_cons] at this; omega⟩
  unfold maxD1
  simp only
  rw [if_pos h, PySem.W.maxD_ints]
theorem minD1_ints {n : Int} {ns : List Int} : minD1 [.list (.int n :: ns.map PyData.int)] = some (.int (ns.foldl min n)) := by
  have h : immL (.int n :: ns.map PyData.int) = true ∧ PySem.W.AlikeAll (.int n :: ns.map PyData.int) ∧ PyData.depthAll (.int n :: ns.map PyData.int) ≤ 60 := ⟨immL_ints (l := n :: ns), alike_ints (n :: ns), by have := depthAll_ints (n :: ns); simp only [List.map_cons] at this; omega⟩
  unfold minD1
  simp only
  rw [if_pos h, PySem.W.minD_ints]
@[simp] theorem maxD1_two {i j : Int} : maxD1 [.list [.int i, .int j]] = some (.int (max i j)) := maxD1_ints (ns := [j])
@[simp] theorem minD1_two {i j : Int} : minD1 [.list [.int i, .int j]] = some (.int (min i j)) := minD1_ints (ns := [j])
@[simp] theorem maxD1_pair {i j : Int} : maxD1 [.int i, .int j] = some (.int (max i j)) := by
  simp only [maxD1, Option.some.injEq, PyData.int.injEq]
  split <;> omega
@[simp] theorem minD1_pair {i j : Int} : minD1 [.int i, .int j] = some (.int (min i j)) := by
  simp only [minD1, Option.some.injEq, PyData.int.injEq]
  split <;> omega
theorem sumD_ints {ns : List Int} : sumD [.list (ns.map PyData.int)] = some (.int ns.sum) := by simp [sumD]
theorem sumD_intsT {ns : List Int} : sumD [.tuple (ns.map PyData.int)] = some (.int ns.sum) := by simp [sumD]
theorem allD_bools {bs : List Bool} : allD [.list (bs.map PyData.bool)] = some (.bool (bs.all id)) := by simp [allD]
theorem allD_true {α : Type} {l : List α} : allD [.list (l.map fun _ => PyData.bool true)] = some (.bool true) := by
  have : (l.map fun _ => PyData.bool true) = (l.map fun _ => true).map PyData.bool := by simp
  rw [this, allD_bools]
  simp
theorem addD_tuple {xs ys : List D} (h1 : immL xs = true) (h2 : immL ys = true) (h3 : xs.length + ys.length ≤ 16000000) : addD (.tuple xs) (.tuple ys) = some (.tuple (xs ++ ys)) := if_pos ⟨h1, h2, h3⟩
theorem rng_map {lo : Int} {n : Nat} : rng lo n = (List.range n).map fun (i : Nat) => PyData.int (lo + i) := rfl
theorem rng1_nat {n : Nat} (h : n < 2 ^ 62) : rng1D [.int (n : Int)] = some ((List.range n).map fun (i : Nat) => PyData.int (i : Int)) := by
  have hs : sml (n : Int) := ⟨by omega, by omega⟩
  show (if sml (n : Int) then some (rng 0 (n : Int).toNat) else none) = _
  rw [if_pos hs, rng_map]
  simp
theorem rng2_nat {lo n : Nat} (h : lo + n < 2 ^ 62) : rng2D [.int (lo : Int), .int ((lo + n : Nat) : Int)] = some ((List.range n).map fun (i : Nat) => PyData.int ((lo + i : Nat) : Int)) := by
  have hs : sml (lo : Int) ∧ sml ((lo + n : Nat) : Int) := ⟨⟨by omega, by omega⟩, ⟨by omega, by omega⟩⟩
  show (if sml (lo : Int) ∧ sml ((lo + n : Nat) : Int) then some (rng lo (((lo + n : Nat) : Int) - lo).toNat) else none) = _
  rw [if_pos hs, rng_map]
  have : (((lo + n : Nat) : Int) - (lo : Int)).toNat = n := by omega
  rw [this]
  simp
/-! slices -/
theorem sIx_nat {n d k : Nat} : HT.sIx n d (some ((k : Nat) : Int)) = min k n := by
  unfold HT.sIx
  simp only
  split <;> omega
theorem cut_nat {α : Type} {xs : List α} {a b : Nat} (h : b ≤ xs.length) : cut xs (some (a : Nat)) (some (b : Nat)) = (xs.drop a).take (b - a) := by
  unfold cut
  rw [sIx_nat, sIx_nat]
  by_cases c : a ≤ xs.length
  · rw [Nat.min_eq_left c, Nat.min_eq_left h]
  · have e1 : min a xs.length = xs.length := by omega
    rw [e1, Nat.min_eq_left h, List.drop_length, List.drop_eq_nil_of_le (by omega)]
    simp
theorem cut_to {α : Type} {xs : List α} {b : Nat} : cut xs none (some (b : Nat)) = xs.take b := by
  unfold cut
  rw [sIx_nat]
  have : HT.sIx xs.length 0 none = 0 := rfl
  rw [this, List.drop_zero, Nat.sub_zero]
  by_cases c : b ≤ xs.length
  · rw [Nat.min_eq_left c]
  · have e1 : min b xs.length = xs.length := by omega
    rw [e1, List.take_of_length_le (Nat.le_refl _), List.take_of_length_le (by omega)]
@[simp] theorem oNone_is {env : Env} : oNone env = .ok (none, env) := (rfl)
@[simp] theorem oSome_is {f : Ev} {env : Env} : oSome f env = (f env).bind fun x => match x.1 with
  | .int i => .ok (some i, x.2)
  | _ => .no := (rfl)
@[simp] theorem eSl_is {f : Ev} {l u : Eo} {env : Env} : eSl f l u env = (f env).bind fun x => (l x.2).bind fun y => (u y.2).bind fun z => (R.of (sliceD x.1 y.1 z.1)).bind fun r => .ok (r, z.2) := (rfl)
theorem slice_tuple {xs : List D} {l u : Option Int} (h : immL xs = true) : sliceD (.tuple xs) l u = some (.tuple (cut xs l u)) := if_pos h
theorem slice_list {xs : List D} {l u : Option Int} (h : immL xs = true) : sliceD (.list xs) l u = some (.list (cut xs l u)) := if_pos h
theorem cut_map {α β : Type} {f : α → β} {xs : List α} {l u : Option Int} : cut (xs.map f) l u = (cut xs l u).map f := by
  unfold cut
  simp [List.map_drop, List.map_take]
end DV
end
section
set_option Elab.async false
set_option linter.all false
set_option maxRecDepth 100000
set_option maxHeartbeats 2000000
namespace DV
open PySem PySem.W PySem.Spec PyProof.Rows L2
open PySem.HandSPX (excO refsVE)
/-! ### an own exception over ValueError whose __init__(self, reason) says super().__init__(text) and self.reason = reason -/
def xBody (z : Str) (j : Nat) (p0 p1 p2 p3 p4 p5 q1 q2 q3 q4 : Pos) : List Stmt :=
  [.Expr (.Call (.Attribute (.Call (.Name "super" p0) [] [] p1) "__init__" p2) [.Constant (.str z) j p3] [] p4) p5, .Assign [.Attribute (.Name "self" q1) "reason" q2] (.Name "reason" q3) q4]
def xArgs (p1 p2 : Pos) : Arguments := { posonlyargs := [], args := [{ arg := "self", annotation := none, pos := p1 }, { arg := "reason", annotation := none, pos := p2 }], vararg := none, kwonlyargs := [], kw_defaults := [], kwarg := none, defaults := [] }
structure XScope (sc : Scope) : Prop where
  kind : sc.kind = .function
  self : sc.names.lookup ("self" : Str) = some .local
  reason : sc.names.lookup ("reason" : Str) = some .local
  sup : sc.names.lookup ("super" : Str) = some .globalImplicit
  cls : sc.names.lookup ("__class__" : Str) = some .free
  cell : ∀ x ∈ sc.names, x.2 ≠ .cell
  co : sc.isCoroutine = false
  gen : sc.isGenerator = false
/-- what the head says of the class at C -/
structure XC (P : Program) (K : Frag) (C : Addr) : Prop where
  ox : OexC K C
  noR : findIn K (.ref C) "reason" = some none
  fn : ∃ (fI cc cda : Addr) (q : Str) (sc : Scope) (oc : Value) (od : Option Addr) (doc pm : Value) (an : Option Addr) (ct : Value) (osl : Array (Option Value)) (z : Str) (j : Nat) (p0 p1 p2 p3 p4 p5 q1 q2 q3 q4 a1 a2 : Pos),
    findIn K (.ref C) "__init__" = some (some (.ref fI)) ∧ typeIn K (.ref fI) = some (.type "function") ∧
    K.lookup fI = some ⟨oc, od, .func (fnX "__init__" q (xArgs a1 a2) (xBody z j p0 p1 p2 p3 p4 p5 q1 q2 q3 q4) sc [("__class__", cc)] .none .none doc pm an (.ref cda) ct), osl⟩ ∧ codeIn K (.ref cda) q = true ∧ XScope sc ∧
    (∃ (ccl : Value) (cdd : Option Addr) (vs : Array Value) (ccs : Array (Option Value)) (file : Str) (tf : Tok), K.lookup cda = some ⟨ccl, cdd, .fields vs, ccs⟩ ∧ vs[2]? = some (.str file tf) ∧ ((P.main.file : Str) == file) = true) ∧
    (∃ (cl : Value) (cld : Option Addr) (csl : Array (Option Value)), K.lookup cc = some ⟨cl, cld, .cell (some (.ref C)), csl⟩) ∧
    (∃ pl : Sem Bool, ∀ (L fI : Addr) (cdv : Value) (cc : Addr), eval (.Call (.Attribute (.Call (.Name "super" p0) [] [] p1) "__init__" p2) [.Constant (.str z) j p3] [] p4) (ksEnv q sc L fI cdv cc) = (do
      let ov ← attributeBase (.Call (.Name "super" p0) [] [] p1) "__init__" (ksEnv q sc L fI cdv cc) (eval (.Call (.Name "super" p0) [] [] p1) (ksEnv q sc L fI cdv cc))
      standAt p2.atName
      let (f, first) ← holding [ov] (getMethod ov "__init__" pl)
      callWith p4 f first (backTo p4 (starEach [.Constant (.str z) j p3] (ksEnv q sc L fI cdv cc))) []))
  sup : ks_superIn K C C "__init__" = some (some (.builtin "ValueError.__init__"))
  own : mroIn K C (.ref C) = some true
  ve : subIn K (.ref C) (.type "ValueError") = some true
  noo : nsIn K cStatics "thirdparty.any" = some none
  top : (P.main.scope.names.lookup ("super" : Str)).isSome = false
/-- what __init__ leaves of a fresh exception at x -/
structure XEnd (h h' : Heap) (x C dx t1 : Addr) (v : Value) : Prop where
  keep : ∀ b o, b ≠ x → h.get? b = some o → h'.get? b = some o
  obj : h'.get? x = some { cls := .ref C, dict := some dx, data := .fields #[.ref t1, .none, .none, .none, .bool false, .none] }
  dbig : h.objs.size ≤ dx
  dne : dx ≠ x
  ns : h'.Ns1 dx (fun y => if y = "reason" then some v else none)
section
variable {P : Program} {w : World} {A : Around} {R : Result → Shared → Prop} {s : Shared} {K : Frag} {mg : Str → Option Value} {base : Heap} {C : Addr}
theorem x_super {A : Around} {E : Value → Shared → Prop} {hp : Heap} {g : Array GenState} {d : Drawn} {t : Nat} {os : OsState} {x t0 u : Addr} {rest : List Value} {Q : Value → Shared → Prop} (T : OexC K C) (X : K.In hp) (he : hp.get? x = some (excO C t0)) (hu : hp.get? u = some (kxs_mw "ValueError.__init__" x)) (hz : rest.length ≤ sizeLine)
    (hq : ∀ h' t1, (∀ b o, b ≠ x → hp.get? b = some o → h'.get? b = some o) → h'.get? x = some (excO C t1) → Q .none ⟨h', g, d, t, os⟩) :
    wpAny (model P w) A (call (.ref u) rest) Q E ⟨hp, g, d, t, os⟩ := by
  obtain ⟨nm, q, N, bs, bm, sn, sub, ab, col, dd, k0, k1, k2, k3, k5, hC, hbm⟩ := T.cls
  refine wpAny_call (codeAny_of_tree ?_)
  show wpAny _ A.in1 (callAny (.ref u) ⟨rest, []⟩) _ _ _
  simp only [callAny]
  refine wpAny_bind (wpAny_load hu ?_)
  simp only [kxs_mw, show (Value.type "method-wrapper" == Value.type "method" || Value.type "method-wrapper" == Value.type "builtin_function_or_method" || Value.type "method-wrapper" == Value.type "method-wrapper") = true by decide, if_true]
  refine KFB.if_so (by decide) ?_
  refine wpAny_bind (check_bound_init F.excBase_ValueError.toExcCallFacts (X _ _ hC) he rfl ?_)
  refine wpAny_bind (wpAny_pure (wpAny_pure ?_))
  refine ⟨plainId_quiet F.excBase_ValueError.init.plain _, codeAny_builtin F.excBase_ValueError.initEntry ?_⟩
  exact exc_init_tree (cls := .ref C) (t0 := t0) (dv := none) (c2 := .none) (c3 := .none) (b4 := .bool false) he hz fun h' k e' _ => hq h' hp.objs.size k e'
theorem x_init (T : XC P K C) (M : Mod K mg base) (ms : mg "super" = none) (bk : ∀ b o, base.get? b = some o → s.heap.get? b = some o) {x t0 fI : Addr} {v : Value} (hf : findIn K (.ref C) "__init__" = some (some (.ref fI))) (hx : s.heap.get? x = some (excO C t0)) (hnx : K.lookup x = none) (hroom : A.depth < recursionLimit)
    (hq : ∀ h' tk dx t1, XEnd s.heap h' x C dx t1 v → R (.ok (.ret .none)) { s with heap := h', toks := tk }) :
    codeAny (model P w) A (.call (.ref fI) ⟨[.ref x, v], []⟩) R s := by
  obtain ⟨fI', cc, cda, q, sc, oc, od, doc, pm, an, ct, osl, z, j, p0, p1, p2, p3, p4, p5, q1, q2, q3, q4, a1, a2, h1, h2, ho, hcd, S, ⟨ccl, cdd, vs, ccs, file, tf, hcode, hvs, hfile⟩, ⟨cl, cld, csl, hcell⟩, ⟨pl, hmc⟩⟩ := T.fn
  rw [hf] at h1
  cases h1
  obtain ⟨nm, qn, N, bs, bm, sn, sub, ab, col, dd, k0, k1, k2, k3, k5, hC, hbm⟩ := T.ox.cls
  have hcl : clsIn K C = some { name := nm, bases := bs, mro := .ref C :: bm, ns := N, qualname := qn, hasDict := true, slotNames := sn, subclasses := sub, abstract := ab, collection := col, hasDel := false } := by unfold clsIn; rw [hC] <;> rfl
  have X : K.In s.heap := M.kin.keeps bk
  refine ks_codeAny_call_defAt (fd := fnX "__init__" q (xArgs a1 a2) (xBody z j p0 p1 p2 p3 p4 p5 q1 q2 q3 q4) sc [("__class__", cc)] .none .none doc pm an (.ref cda) ct) (body := xBody z j p0 p1 p2 p3 p4 p5 q1 q2 q3 q4) (binds := [("self", .ref x), ("reason", v)]) hroom (X _ _ ho) rfl (M.nolimit.keeps bk) (codeRec_of X hcd) rfl (BindsTo.of_eq (by first | rfl | with_unfolding_all rfl)) S.cell ?_ (fun h₁ hns k => ?_) S.co S.gen S.kind
  · intro y hy
    rcases List.mem_cons.mp hy with rfl | hy
    · exact S.self
    · rcases List.mem_cons.mp hy with rfl | hy
      · exact S.reason
      · cases hy
  obtain ⟨hp, g, d, tk, os⟩ := s
  obtain ⟨kind, names, isGen, isCo, more⟩ := sc
  obtain rfl : kind = .function := S.kind
  have X1 : K.In h₁ := X.keeps k
  have bk1 : ∀ b o, base.get? b = some o → h₁.get? b = some o := fun b o e => k b o (bk b o e)
  have hx1 : h₁.get? x = some (excO C t0) := k _ _ hx
  have hsup : names.lookup ("super" : Str) = some .globalImplicit := S.sup
  have hcls : names.lookup ("__class__" : Str) = some .free := S.cls
  show _root_.PySem.wpAt (model P w) (A.deeper (ksEnv q ⟨.function, names, isGen, isCo, more⟩ hp.objs.size fI (.ref cda) cc)) (.func (xBody z j p0 p1 p2 p3 p4 p5 q1 q2 q3 q4) (ksEnv q ⟨.function, names, isGen, isCo, more⟩ hp.objs.size fI (.ref cda) cc)) (execs (xBody z j p0 p1 p2 p3 p4 p5 q1 q2 q3 q4) (ksEnv q ⟨.function, names, isGen, isCo, more⟩ hp.objs.size fI (.ref cda) cc)) _ _ _
  obtain ⟨mb, hmb, hbt⟩ := M.blt
  refine ks_wpAt_execs_cons (ks_wpAt_Expr_any (ks_wpAt_MethodCall (pl := pl) ?_ (hmc _ _ _ _)))
  refine ks_wpAt_super_base (env := ksEnv q ⟨.function, names, isGen, isCo, more⟩ hp.objs.size fI (.ref cda) cc) hsup hcls rfl rfl (X1 _ _ ho) rfl rfl rfl (X1 _ _ hcode) rfl hvs hfile T.top ?_
  refine ks_loadName_global rfl hsup (Calls.loadGlobal_builtin (env := ksEnv q ⟨.function, names, isGen, isCo, more⟩ hp.objs.size fI (.ref cda) cc) (M.glob.keeps bk1) ms (hmb.keeps bk1) ((hbt _ (by decide +kernel)).trans PyProof.Rows.Boot.«super») ⟨rfl, ?_⟩)
  refine wpAny_loadName_free rfl hcls rfl ⟨_, X1 _ _ hcell, rfl⟩ ?_
  refine wpAny_loadName_local rfl S.self hns (v := .ref x) rfl ?_
  refine ks_wpAny_isType_cls (X1 _ _ hC) rfl ⟨rfl, ?_⟩
  refine ks_wpAny_call_super (X1 _ _ hC) rfl hx1 rfl (fun c e => by cases e) (looks_mroIn X1 T.own) (fun h2 hso k2 => ?_)
  have X2 : K.In h2 := X1.keeps k2
  have hx2 : h2.get? x = some (excO C t0) := k2 _ _ hx1
  have hxC : x ≠ C := fun e => by rw [e, hC] at hnx; cases hnx
  have sup := T.sup
  unfold ks_superIn at sup
  rw [hcl] at sup
  refine kxs_getMethod kxs_ValueError (l₀ := .ref C :: bm) hso (looks_opaque X2 T.noo) (fun A Q E s k q => wpAny_bind ((looks_clsIn X2 hcl) A _ E s k (wpAny_pure q))) rfl X2 sup (Looks.andThen (fun A Q E s k q => wpAny_typeOf_ref (k _ _ hx2) q) (looks_subIn X2 T.ve)) hxC rfl ?_
  dsimp only
  refine kxs_callWith (i := "ValueError.__init__") (x := x) rfl (Calls.evalArgs_plain (spliced_more (Calls.Constant_str (spliced_none ?_))))
  have hu : (h2.push (kxs_mw "ValueError.__init__" x)).get? h2.objs.size = some (kxs_mw "ValueError.__init__" x) := Heap.get?_push_at rfl rfl
  have k3 : ∀ b o, h2.get? b = some o → (h2.push (kxs_mw "ValueError.__init__" x)).get? b = some o := fun b o e => Heap.get?_push_of_some _ e
  refine ⟨hu, ?_⟩
  refine x_super T.ox (X2.keeps k3) (k3 _ _ hx2) hu (by rw [sizeLine_eq]; simp) (fun h4 t1 k4 hx4 => ?_)
  dsimp only
  have kall : ∀ b o, b ≠ x → h₁.get? b = some o → h4.get? b = some o := fun b o n e => k4 b o n (k3 b o (k2 b o e))
  have Lx : hp.objs.size ≠ x := Nat.ne_of_gt (Heap.lt_size hx)
  have X4 : K.In h4 := fun a o e => kall a o (fun z => by rw [z, hnx] at e; cases e) (X1 a o e)
  have hns4 : h4.Ns hp.objs.size (fun y => [(("self" : Str), Value.ref x), ("reason", v)].reverse.lookup y) := by
    obtain ⟨oL, es, ep, hL, r⟩ := hns
    exact ⟨oL, es, ep, kall _ _ Lx hL, r⟩
  have hre : (ksEnv q ⟨.function, names, isGen, isCo, more⟩ hp.objs.size fI (.ref cda) cc).kindOf "reason" = some .local := S.reason
  have hse : (ksEnv q ⟨.function, names, isGen, isCo, more⟩ hp.objs.size fI (.ref cda) cc).kindOf "self" = some .local := S.self
  refine ks_wpAt_execs_cons (ks_wpAt_Assign_Attr ?_)
  refine wpAt_of_wpAny ?_
  refine wpAny_Name ?_
  refine wpAny_loadName_local rfl hre hns4 rfl ?_
  refine wpAny_Name ?_
  refine wpAny_loadName_local rfl hse hns4 rfl ?_
  refine set_plain X4 (ox := excO C t1) (od := none) ⟨hx4, rfl, rfl, trivial⟩ T.ox.sa ?_
  refine HandSPX.exc_osa X4 hx4 hcl (show refsVE (.ref C :: bm) = true from hbm) rfl T.noR (fun h5 tk5 dx k5' dn dne hx5 hn5 => ?_)
  have sz : hp.objs.size ≤ h4.objs.size := by
    obtain ⟨oL, es, ep, hL, r⟩ := hns4
    exact Nat.le_of_lt (Heap.lt_size hL)
  exact wpAt_of_wpAny (wpAny_execs_nil (hq h5 tk5 dx t1 ⟨fun b o n e => k5' b o n (kall b o n (k b o e)), hx5, Nat.le_trans sz dn, dne, hn5⟩))
/-- a made exception -/
structure XMade (h h' : Heap) (e C d : Addr) (v : Value) : Prop where
  keep : ∀ b o, h.get? b = some o → h'.get? b = some o
  new : h.objs.size ≤ e
  obj : ∃ oe vs, h'.get? e = some oe ∧ oe.cls = .ref C ∧ oe.dict = some d ∧ oe.data = .fields vs ∧ vs[1]? = some .none
  dbig : h.objs.size ≤ d
  dne : d ≠ e
  ns : h'.Ns1 d (fun y => if y = "reason" then some v else none)
theorem x_made (T : XC P K C) (M : Mod K mg base) (ms : mg "super" = none) (bk : ∀ b o, base.get? b = some o → s.heap.get? b = some o) {v : Value} (hroom : A.depth + 1 < recursionLimit)
    (hq : ∀ h' tk e d, XMade s.heap h' e C d v → R (.ok (.ret (.ref e))) { s with heap := h', toks := tk }) :
    codeAny (model P w) A (.call (.ref C) ⟨[v], []⟩) R s := by
  obtain ⟨fI, cc, cda, q, sc, oc, od, doc, pm, an, ct, osl, z, j, p0, p1, p2, p3, p4, p5, q1, q2, q3, q4, a1, a2, h1, h2, _⟩ := T.fn
  obtain ⟨nm, qn, N, bs, bm, sn, sub, ab, col, dd, k0, k1, k2, k3, k5, hC, hbm⟩ := T.ox.cls
  have X : K.In s.heap := M.kin.keeps bk
  obtain ⟨hp, g, dr, tk, os⟩ := s
  have k : ∀ b o, hp.get? b = some o → ((hp.push (kdv_tup [v])).push (excO C hp.objs.size)).get? b = some o := fun b o e => Heap.get?_push_of_some _ (Heap.get?_push_of_some _ e)
  have hget : ((hp.push (kdv_tup [v])).push (excO C hp.objs.size)).get? (hp.objs.size + 1) = some (excO C hp.objs.size) := by heap_get
  have hnx : K.lookup (hp.objs.size + 1) = none := by
    cases e : K.lookup (hp.objs.size + 1) with
    | none => rfl
    | some o =>
      have z : hp.get? (hp.objs.size + 1) = some o := X _ _ e
      exact absurd (Nat.lt_of_succ_lt (Heap.lt_size z)) (Nat.lt_irrefl _)
  refine HandSPX.call_own F.excBase_ValueError (fun X => HandSPX.refsVE_contains X bm hbm) (X _ _ hC) (looks_findIn X h1) (fun self => bind_fn X self h2) (by rw [sizeLine_eq]; simp) ?_
  refine x_init (s := ⟨(hp.push (kdv_tup [v])).push (excO C hp.objs.size), g, dr, tk, os⟩) T M ms (fun b o e => k b o (bk b o e)) h1 hget hnx hroom fun h' tk' dx t1 ⟨k', hx, dn, dne, hns⟩ => ?_
  have old : ∀ b o, hp.get? b = some o → h'.get? b = some o := fun b o e => k' b o (Nat.ne_of_lt (Nat.lt_succ_of_lt (Heap.lt_size e))) (k b o e)
  have z : hp.objs.size + 1 + 1 ≤ dx := by
    first
      | (simpa only [Heap.size_push] using dn)
      | exact dn
      | (have q := dn; rw [Heap.size_push, Heap.size_push] at q; exact q)
  exact ⟨rfl, hq h' tk' (hp.objs.size + 1) dx ⟨old, Nat.le_succ _, ⟨_, _, hx, rfl, rfl, rfl, rfl⟩, Nat.le_trans (Nat.le_trans (Nat.le_succ _) (Nat.le_succ _)) z, dne, hns⟩⟩
end
theorem relO_reason {v : V} {v' : Value} (r : RelV v v') (f : Str) : RelO (List.lookup f [(("reason" : Str), v)]) (if f = "reason" then some v' else none) := by
  by_cases hw : f = "reason"
  · subst hw
    rw [if_pos rfl]
    have q : List.lookup ("reason" : Str) [(("reason" : Str), v)] = some v := by simp [List.lookup]
    rw [q]
    exact r
  · rw [if_neg hw]
    have qw : (f == ("reason" : Str)) = false := by simpa using hw
    have q2 : List.lookup f [(("reason" : Str), v)] = none := by simp [List.lookup, qw]
    rw [q2]
    trivial
def tMkX (C : Addr) (ta : TA) : L2.St → Hp → XK → Prop := fun σ H Q => ta σ H fun vs H1 => ∃ v, vs = [v] ∧ ∀ d, H1 d = none → Q (.ref C) (some d) (upd H1 d (.xd [(("reason" : Str), v)]))
theorem pmk_x {X : Cx} {C : Addr} {x : Str} {a : Expr} {ta : TA} {p pos : Pos} {k : Nat} (T : XC X.prog X.K C) (hr : Room k X.A) (mx : X.mg x = some (.ref C)) (ms : X.mg "super" = none) (ha : PA X [a] ta) (hg : Gl X x := by rfl)
    (hd : (x == ("__debug__" : Str)) = false := by decide) (he : starEach (a :: []) X.env = (false, eval a X.env) :: starEach [] X.env := by rfl) (hpl : (backTo pos (starEach [] X.env)).any (·.1) = false := by rfl) :
    PMk X (.Call (.Name x p) [a] [] pos) (tMkX C ta) := by
  intro pins s σ H Q I h
  refine wpAny_Call_Name_kw (ld_glob I hg mx ?_ hd)
  refine PySem.W.callWith_K (h₀ := X.base) I.ok.mod.kin T.ox.kC (thn (ha.run pos pins s σ H _ I h) fun us s1 hh => ?_) he hpl
  obtain ⟨vs, H1, I1, r1, v, ev, q1⟩ := hh
  subst ev
  refine ⟨I1.kIn, ?_⟩
  cases r1 with
  | cons rv rn =>
    rename_i v' us'
    cases rn
    show wpAny _ _ (call (.ref C) [v']) _ _ _
    obtain ⟨hp, g, dr, tk, os⟩ := s1
    refine wpAny_call (x_made T I1.mod ms I1.bk (by have := hr.dp; omega) fun h' tk' e d M => ?_)
    show MkP X pins σ Q (.ref e) ⟨h', g, dr, tk', os⟩
    obtain ⟨oe, fv, hoe, hc, hd, hdat, h1⟩ := M.obj
    have hns := M.ns
    obtain ⟨G', g1, g2⟩ := restrict h' fun b => decide (b ≠ e)
    have gk : ∀ b, b ≠ e → G'.get? b = h'.get? b := fun b hb => g1 b (decide_eq_true hb)
    have ge : G'.get? e = none := g2 e (by simp)
    have old : ∀ b o, hp.get? b = some o → G'.get? b = some o := fun b o q => (gk b (Nat.ne_of_lt (Nat.lt_of_lt_of_le (Heap.lt_size q) M.new))).trans (M.keep b o q)
    have ob : ObjOk X.prog X.w (upd H1 d (.xd [(("reason" : Str), v)])) G' d (.xd [(("reason" : Str), v)]) :=
      ⟨_, hns.at (fun o q => (gk d M.dne).trans q), fun f => relO_reason rv f⟩
    have J : Inv X pins σ (upd H1 d (.xd [(("reason" : Str), v)])) ⟨G', g, dr, tk', os⟩ := I1.laid (t' := tk') old M.dbig ob
    refine ⟨e, oe, fv, ⟨G', g, dr, tk', os⟩, _, .ref C, some d, rfl, J, fun b o q => ?_, ge, hoe, ⟨hc, hd⟩, hdat, h1, ?_, rfl, I1.bare, raises_own T.ox.exC T.ox.tyC, q1 d (I1.hok.fresh M.dbig)⟩
    · by_cases hb : b = e
      · have q' : G'.get? b = some o := q
        rw [hb, ge] at q'; cases q'
      · exact (gk b hb).symm.trans q
    · rw [upd_ne (Ne.symm M.dne)]
      exact I1.hok.fresh M.new
end DV
end
section
set_option Elab.async false
set_option linter.all false
set_option maxRecDepth 100000
namespace DV
open PySem PySem.W PySem.Spec PyProof.Rows L2
def sRaise (c : Str) (g : EvA) : Sv := fun env => (g env).bind fun x => match x.1 with
  | .str z :: r => (match r with
    | [] => .ex ⟨c, "reason", .str z⟩
    | _ => .no)
  | _ => .no
theorem ds_raise {X : Cx} {E : XK} {A : List Nat} {p o : Bool} {x : Str} {a : Expr} {g : EvA} {k : Nat} {p1 pos pos2 : Pos} (tk : Takes X (fun cls d _ H => E cls d H)) (T : XC X.prog X.K (He.ga X.K x)) (hr : Room k X.A) (mx : X.mg x = some (.ref (He.ga X.K x))) (ms : X.mg "super" = none) (ha : DA X E p o [a] g)
    (hc : X.calm = true := by rfl) (hg : Gl X x := by rfl) (hd : (x == ("__debug__" : Str)) = false := by decide) (he : starEach (a :: []) X.env = (false, eval a X.env) :: starEach [] X.env := by rfl) (hpl : (backTo pos (starEach [] X.env)).any (·.1) = false := by rfl) :
    DS X E A (.Raise (some (.Call (.Name x p1) [a] [] pos)) none pos2) (sRaise x g) := by
  refine DS.imp (ps_raise hc tk (pmk_x T hr mx ms ha hg hd he hpl)) fun D σ H env fs W re h => ?_
  refine ⟨env, fs, W, re, ?_⟩
  unfold sRaise at h
  cases e1 : g env with
  | no => rw [e1] at h; exact h
  | ex c => rw [e1] at h; exact h
  | ok y =>
    obtain ⟨ds, env1⟩ := y
    rw [e1] at h
    simp only [R.bind] at h
    intro vs H1 fs1 gg P
    match ds, h, P with
    | [.str z], h, P =>
      have r := P.rep
      cases r with
      | cons r1 r2 =>
        cases r2
        cases r1
        exact ⟨_, rfl, fun d hd => h H1 d P.step.ext hd⟩
    | [], h, P => exact h.elim
    | .str _ :: _ :: _, h, P => exact h.elim
    | .none :: _, h, P => exact h.elim
    | .bool _ :: _, h, P => exact h.elim
    | .int _ :: _, h, P => exact h.elim
    | .list _ :: _, h, P => exact h.elim
    | .tuple _ :: _, h, P => exact h.elim
    | .dict _ :: _, h, P => exact h.elim
end DV
end
section
set_option Elab.async false
set_option linter.all false
set_option maxRecDepth 100000
namespace DV
open PySem PySem.W PySem.Spec PyProof.Rows L2
theorem isx_nested {prog : Program} {w : World} {A : Around} {R : Result → Shared → Prop} {s : Shared} {x D : Addr} {o : Obj} (hx : s.heap.get? x = some o) (hc : o.cls = .ref D) (hq : ∀ tk, R (.ok (.ret (.bool true))) { s with toks := tk }) :
    wpAny (model prog w) A.in1 (Builtin.«isinstance.nested» ⟨[.ref x, .ref D, rawInt 0], []⟩)
      (fun fin s' => match fin with | .done f => R (.ok f) s' | .again c' => c'.quiet = true ∧ codeAny (model prog w) A c' R s') (fun e s' => R (.error e) s') s := by
  have LT : Looks (model prog w) s.heap (typeOf (.ref x)) (.ref D) := fun A Q E s k q => wpAny_typeOf_ref (k _ _ hx) (by rw [hc]; exact q)
  obtain ⟨h0, g, d, tt, os⟩ := s
  unfold Builtin.«isinstance.nested»
  refine wpAny_bind (LT.at ?_)
  rw [if_pos (by simp)]
  first
    | exact wpAny_bind (wpAny_rule (hq tt))
    | exact wpAny_bind (wpAny_rule (wpAny_pure (hq tt)))
theorem isx {prog : Program} {w : World} {A : Around} {E : Value → Shared → Prop} {Q : Value → Shared → Prop} {s : Shared} {x D : Addr} {o : Obj} (hx : s.heap.get? x = some o) (hc : o.cls = .ref D) (h : ∀ tk, Q (.bool true) { s with toks := tk }) :
    wpAny (model prog w) A (call (.builtin "isinstance") [.ref x, .ref D]) Q E s :=
  call_isinstance (S := fun _ R s => (∃ o, s.heap.get? x = some o ∧ o.cls = .ref D) ∧ ∀ tk, R (.ok (.ret (.bool true))) { s with toks := tk })
    (fun prog w A R s hs => isinstance_outer (let ⟨⟨o, hx, hc⟩, h⟩ := hs; isx_nested hx hc h) (fun z => nomatch z)) ⟨⟨o, hx, hc⟩, h⟩
/-- isinstance(e, c), e the exception that the suite holds, c its very class -/
def rIsX (cls : Value) (D a : Addr) : List V → Hp → VK → Prop := fun xs H Q => cls = .ref D ∧ ∃ c : V, xs = [.ref a, c] ∧ (∀ u, RelV c u → u = .ref D) ∧ Q (.bl true) H
theorem call_isX {X : Cx} {a D : Addr} {cls : Value} {oe : Obj} {d : Option Addr} {pn : List (Addr × Obj)} (hz : Zc cls d oe) : CallR (X.suite a ((a, oe) :: pn)) (.builtin "isinstance") (rIsX cls D a) := by
  intro pins s σ H xs us Q I r h
  obtain ⟨ec, c, rfl, hcv, q⟩ := h
  subst ec
  cases r with
  | cons rx rr =>
    cases rr with
    | cons rt rr =>
      cases rr
      cases rx
      have ec := hcv _ rt
      subst ec
      obtain ⟨hget, _⟩ := I.pin (a, oe) (List.mem_append.mpr (.inl List.mem_cons_self))
      exact isx hget hz.1 fun tk => ⟨.bl true, H, I.kept (t' := tk) fun _ _ z => z, rfl, q⟩
end DV
end
section
set_option Elab.async false
set_option linter.all false
set_option maxRecDepth 100000
namespace DV
open PySem PySem.W PySem.Spec PyProof.Rows L2
/-- return e.reason if isinstance(e, Y) else .. : read where e is a Y -/
def tRef (Y : Addr) (i : Nat) (a : Addr) (cls : Value) (d : Option Addr) : TS := fun D σ H => cls = .ref Y ∧ σ[i]? = some (some (.ref a)) ∧ ∃ (dd : Addr) (fs : List (Str × V)) (v : V), d = some dd ∧ H dd = some (.xd fs) ∧ fs.lookup ("reason" : Str) = some v ∧ D.rt v H
theorem pss_ref {X : Cx} {Y a : Addr} {oe : Obj} {cls : Value} {d : Option Addr} {pn : List (Addr × Obj)} {i j : Nat} {e y m : Str} {q1 q2 q3 q4 q5 q6 q7 q8 q9 : Pos} (T : XfC X.K Y) (hno : PySem.W.findIn X.K (.ref Y) "reason" = some none) (hz : Zc cls d oe) (hf : ∃ vs, oe.data = .fields vs)
    (my : X.mg y = some (.ref Y)) (mi : X.mg "isinstance" = none) (hN : X.N[i]? = some e) (hv : Vis X.env.scope e) (he : (e == ("__debug__" : Str)) = false) (he2 : (e == ("__classdict__" : Str)) = false) (gi : Gl X "isinstance") (gy : Gl X y) (hy : (y == ("__debug__" : Str)) = false)
    (h1 : starEach [.Name e q1, .Name y q2] X.env = (false, eval (.Name e q1) X.env) :: starEach [.Name y q2] X.env) (h2 : starEach [.Name y q2] X.env = (false, eval (.Name y q2) X.env) :: starEach [] X.env) (h3 : (backTo q4 (starEach [.Name y q2] X.env)).any (·.1) = false)
    (hb : attributeBase (.Name e q5) "reason" X.env (eval (.Name e q5) X.env) = eval (.Name e q5) X.env) :
    PSs (X.suite a ((a, oe) :: pn)) [.Return (some (.IfExp (.Call (.Name "isinstance" q3) [.Name e q1, .Name y q2] [] q4) (.Attribute (.Name e q5) "reason" q6) (.Constant (.str m) j q7) q8)) q9] (tRef Y i a cls d) := by
  refine PSs.mono (pss_one (ps_ret (pe_ifExp (pt_val (pe_callB (call_isX (D := Y) hz) gi mi PyProof.Rows.boot_isinstance (pa_cons (pe_var hN hv he he2) (pa_cons (pe_glob (v := .ref Y) gy my rfl hy) pa_nil h2) h1) (by decide) (by decide) h1 h3)) (pe_xf T hno hz hf (pe_var hN hv he he2) hb) pe_str))) fun D σ H h => ?_
  obtain ⟨ec, es, dd, fs, v, ed, ea, el, q⟩ := h
  refine ⟨_, es, ec, _, rfl, fun u r => r, true, rfl, ?_⟩
  exact ⟨_, es, rfl, ec, dd, fs, v, ed, ea, el, q⟩
end DV
end
section
set_option Elab.async false
set_option linter.all false
set_option maxRecDepth 100000
namespace DV
open PySem PySem.W PySem.Spec PyProof.Rows L2
/-- what is asked of an exception, whatever the state -/
def EW (N : List Str) (W : WX) : XK := fun cls d H => ∀ σ, σ.length = N.length → W cls d σ H
theorem takesEW {X : Cx} {W : WX} (tk : Takes X W) : Takes X (fun cls d _ H => EW X.N W cls d H) := fun u s' ⟨a, B, sI, pins, σ, H, cls, d, e, I, nb, up, sky, na, os, ag, w⟩ =>
  tk u s' ⟨a, B, sI, pins, σ, H, cls, d, e, I, nb, up, sky, na, os, ag, w σ I.len⟩
def sTryRef (y : Str) (f : Sv) : Sv := fun env => match f env with
  | .ok o => .ok o
  | .no => .no
  | .ex c => if c.cls = y ∧ c.fld = "reason" then (match c.arg with
    | .str z => .ok (.rt (.str z) [])
    | _ => .no) else .no
theorem ds_tryRef {X : Cx} {E : XK} {A : List Nat} {C : Addr} {y n x : Str} {i : Nat} {body suite : List Stmt} {b₀ : Stmt} {np pos pos' : Pos} {f : Sv} (hb : ∀ (E' : XK) (pn : List (Addr × Obj)) (xe : Value → Shared → Prop), Takes (X.tr pn xe) (fun cls d _ H => E' cls d H) → PassesOwn (model X.prog X.w) X.A X.env xe → DB (X.tr pn xe) E' A body f)
    (hsu : ∀ (a : Addr) (oe : Obj) (cls : Value) (d : Option Addr) (pn : List (Addr × Obj)), Zc cls d oe → (∃ vs, oe.data = .fields vs) → PSs (X.suite a ((a, oe) :: pn)) (b₀ :: suite) (tRef (He.ga X.K y) i a cls d))
    (hs : X.stack = X.env :: X.outer) (hf : X.env.frame = some X.env.locals) (hN : X.N.Nodup) (hi : X.N[i]? = some n) (hln : X.env.kindOf n = some .local) (hc : Names X x (.ref C)) (tk : Takes X (fun cls d _ H => E cls d H)) (ex : PySem.W.exmOne X.K (.ref (He.ga X.K y)) (.ref C) = some true) :
    DS X E A (.Try body [.ExceptHandler (some (.Name x np)) (some n) (b₀ :: suite) pos'] [] [] pos) (sTryRef y f) := by
  refine DS.imp (ps_try_as (tb := fun W => tS X.K (EW X.N W) A f) (ts := tRef (He.ga X.K y) i) (Wout := fun cls d _ H => E cls d H) hs hf hN hi hln hc tk (fun W pn xe tk' po => hb _ pn xe (takesEW (X := X.tr pn xe) tk') po) hsu) fun D σ H env fs W re h => ?_
  refine tS_iff.mpr ⟨env, fs, W, re, ?_⟩
  unfold sTryRef at h
  cases e : f env with
  | no => rw [e] at h; exact h
  | ok o => rw [e] at h; cases o <;> exact h
  | ex c =>
    rw [e] at h
    simp only at h
    by_cases q : c.cls = y ∧ c.fld = "reason"
    case neg => rw [if_neg q] at h; exact h.elim
    rw [if_pos q] at h
    obtain ⟨cc, cf, ca⟩ := c
    obtain ⟨q1, q2⟩ := q
    simp only at q1 q2
    subst q1 q2
    cases ca with
    | str z =>
      intro H' ad xt hd σ' hl
      have il : i < σ'.length := by rw [hl]; exact (List.getElem?_eq_some_iff.mp hi).1
      have xt2 : Ext H (upd H' ad (.xd [("reason", .str z)])) fs := fun b o eb nb => by
        have z1 := xt b o eb nb
        rw [upd_ne (fun z2 => by rw [z2, hd] at z1; cases z1)]
        exact z1
      refine ⟨true, ex, fun _ a _ => ?_, fun z => nomatch z⟩
      refine ⟨rfl, by rw [List.getElem?_set_self il], ad, _, _, rfl, upd_same, (show List.lookup ("reason" : Str) [(("reason" : Str), V.str z)] = some (V.str z) by simp [List.lookup]), ?_⟩
      refine h W (.str z) σ _ (fun _ => []) [] ⟨xt2, ⟨fun j => ?_, fun _ _ _ z => (nomatch z), fun _ => .nil, fun _ _ z => (nomatch z), fun _ _ z => (nomatch z), fun a wa => ?_⟩, fun _ z => z, fun _ _ z => (nomatch z), fun _ _ => rfl⟩ (.str z) Own.nil
      · rw [at_eq]; rfl
      · obtain ⟨o, eo⟩ := re.wt a wa
        exact ⟨o, xt2 a o eo fun j hj => re.off j a hj wa⟩
    | _ => exact h.elim
end DV
end
section
set_option Elab.async false
set_option linter.all false
set_option maxRecDepth 100000
namespace DV
open PySem PySem.W PySem.Spec PyProof.Rows L2
/-- a def that may raise: calls -/
theorem passX {X : Cx} {E : XK} (tk : Takes X (fun cls d _ H => E cls d H)) : Passes (L2.CX X.prog X.w) X E := passes_call tk fun _ _ _ _ h => h
theorem takesX {P : Program} {w : World} {K : Frag} {mg : Str → Option Value} {base : Heap} {N : List Str} {qual : Str} {sc : Scope} {f : Addr} {cdv : Value} {A : Around} {out : List PySem.Env} {s : Shared} {H : Hp} {E : XK} :
    Takes (cxOf (L2.CX P w) P w K mg base N qual sc f cdv A out s H E) (fun cls d _ H => E cls d H) := takes_of rfl rfl rfl rfl
end DV
end
section
set_option Elab.async false
set_option linter.all false
set_option maxRecDepth 100000
set_option maxHeartbeats 2000000
namespace DV
open PySem PySem.W PySem.Spec PyProof.Rows L2
open PySem.HandSPX (excO refsVE)
/-! ### what the head says of an own exception's class, by a test -/
theorem x_eval (q sc z j p0 p1 p2 p3 p4) (hl : (p2.endLine == p4.line) = true) : ∃ pl : Sem Bool, ∀ (L fI : Addr) (cdv : Value) (cc : Addr), eval (.Call (.Attribute (.Call (.Name "super" p0) [] [] p1) "__init__" p2) [.Constant (.str z) j p3] [] p4) (ksEnv q sc L fI cdv cc) = (do
      let ov ← attributeBase (.Call (.Name "super" p0) [] [] p1) "__init__" (ksEnv q sc L fI cdv cc) (eval (.Call (.Name "super" p0) [] [] p1) (ksEnv q sc L fI cdv cc))
      standAt p2.atName
      let (f, first) ← holding [ov] (getMethod ov "__init__" pl)
      callWith p4 f first (backTo p4 (starEach [.Constant (.str z) j p3] (ksEnv q sc L fI cdv cc))) []) := by
  refine ⟨?_, fun L fI cdv cc => ?_⟩
  rotate_left
  · rw [arm_eval_Call]
    have hform : methodCallForm ([Expr.Constant (Const.str z) j p3].length + ([] : List Keyword).length) (backTo p4 (starEach [.Constant (.str z) j p3] (ksEnv q sc L fI cdv cc))) (backToKw p4 (keywordEach [] (ksEnv q sc L fI cdv cc))) = true := rfl
    have hpos : methodCallPos true (.Call (.Name "super" p0) [] [] p1) (ksEnv q sc L fI cdv cc) p2 p4 = pure p4 := by unfold methodCallPos; simp [hl]
    unfold methodCall
    simp only [hform, hpos, pure_bind]
    rfl
def xbB : List Stmt → Bool
  | [  .Expr (.Call (.Attribute (.Call (.Name a _) [] [] _) b x2) [.Constant (.str _) _ _] [] x4) _, .Assign [.Attribute (.Name c _) d _] (.Name e _) _] => (x2.endLine == x4.line) && decide (a = "super") && (decide (b = "__init__") && (decide (c = "self") && (decide (d = "reason") && decide (e = "reason"))))
  | _ => false
theorem xbB_ok {b : List Stmt} (h : xbB b = true) : ∃ z j p0 p1 p2 p3 p4 p5 q1 q2 q3 q4, b = xBody z j p0 p1 p2 p3 p4 p5 q1 q2 q3 q4 ∧ (p2.endLine == p4.line) = true := by
  unfold xbB at h
  split at h
  · simp only [Bool.and_eq_true, decide_eq_true_eq] at h
    obtain ⟨⟨hl, rfl⟩, rfl, rfl, rfl, rfl⟩ := h
    exact ⟨_, _, _, _, _, _, _, _, _, _, _, _, rfl, hl⟩
  · cases h
def xaB : Arguments → Bool
  | ⟨[], [⟨n1, none, _⟩, ⟨n2, none, _⟩], none, [], [], none, []⟩ => decide (n1 = "self") && decide (n2 = "reason")
  | _ => false
theorem xaB_ok {a : Arguments} (h : xaB a = true) : ∃ a1 a2, a = xArgs a1 a2 := by
  unfold xaB at h
  split at h
  · simp only [Bool.and_eq_true, decide_eq_true_eq] at h
    obtain ⟨rfl, rfl⟩ := h
    exact ⟨_, _, rfl⟩
  · cases h
def xsB (sc : Scope) : Bool := decide (sc.kind = .function) && (decide (sc.names.lookup ("self" : Str) = some .local) && (decide (sc.names.lookup ("reason" : Str) = some .local) && (decide (sc.names.lookup ("super" : Str) = some .globalImplicit) && (decide (sc.names.lookup ("__class__" : Str) = some .free) &&
  ((sc.names.all fun x => decide (x.2 ≠ .cell)) && (!sc.isCoroutine && !sc.isGenerator))))))
theorem xsB_ok {sc : Scope} (h : xsB sc = true) : XScope sc := by
  unfold xsB at h
  simp only [Bool.and_eq_true, decide_eq_true_eq, Bool.not_eq_true', List.all_eq_true] at h
  obtain ⟨h1, h2, h3, h4, h5, h6, h7, h8⟩ := h
  exact ⟨h1, h2, h3, h4, h5, h6, h7, h8⟩
def xfileB (file : Str) (K : Frag) (c : Addr) : Bool := match K.lookup c with
  | some ⟨_, _, .fields vs, _⟩ => (match (vs[2]? : Option Value) with
    | some (.str f _) => decide (f = file)
    | _ => false)
  | _ => false
theorem xfileB_ok {file : Str} {K : Frag} {c : Addr} (h : xfileB file K c = true) : ∃ (ccl : Value) (cdd : Option Addr) (vs : Array Value) (ccs : Array (Option Value)) (tf : Tok), K.lookup c = some ⟨ccl, cdd, .fields vs, ccs⟩ ∧ vs[2]? = some (.str file tf) := by
  unfold xfileB at h
  split at h
  · split at h
    · have e := of_decide_eq_true h
      subst e
      exact ⟨_, _, _, _, _, by assumption, by assumption⟩
    · cases h
  · cases h
def xcellB (K : Frag) (C cc : Addr) : Bool := match K.lookup cc with
  | some ⟨_, _, .cell (some (.ref D)), _⟩ => decide (D = C)
  | _ => false
theorem xcellB_ok {K : Frag} {C cc : Addr} (h : xcellB K C cc = true) : ∃ (cl : Value) (cld : Option Addr) (csl : Array (Option Value)), K.lookup cc = some ⟨cl, cld, .cell (some (.ref C)), csl⟩ := by
  unfold xcellB at h
  split at h
  · have e := of_decide_eq_true h
    subst e
    exact ⟨_, _, _, by assumption⟩
  · cases h
def xclsB (K : Frag) (C : Addr) : Bool := match K.lookup C with
  | some ⟨.type t, _, .cls cd, sl⟩ => decide (t = "type") && (match cd.mro, sl.toList with
    | .ref C' :: bm, [_, _, _, _, some (.builtin n), _] => decide (C' = C) && (decide (n = "ValueError.__new__") && (!cd.hasDel && (cd.hasDict && refsVE bm)))
    | _, _ => false)
  | _ => false
theorem xclsB_ok {K : Frag} {C : Addr} (h : xclsB K C = true) : ∃ nm q N bs bm sn sub ab col dd k0 k1 k2 k3 k5, K.lookup C = some (excClassObj nm q C N bs bm true sn sub ab col dd k0 k1 k2 k3 k5 "ValueError.__new__") ∧ refsVE bm = true := by
  unfold xclsB at h
  split at h
  · rename_i t dd cd sl ho
    simp only [Bool.and_eq_true, decide_eq_true_eq] at h
    obtain ⟨rfl, h⟩ := h
    split at h
    · rename_i C' bm k0 k1 k2 k3 n k5 hm hs
      simp only [Bool.and_eq_true, decide_eq_true_eq, Bool.not_eq_true'] at h
      obtain ⟨rfl, rfl, hdel, hdict, ht⟩ := h
      obtain ⟨nm, bs, mro, ns, qn, hd, sn, sub, ab, col, del⟩ := cd
      dsimp only at hm hdel hdict
      subst hm hdel hdict
      have hsl : sl = #[k0, k1, k2, k3, some (.builtin "ValueError.__new__"), k5] := by
        obtain ⟨l⟩ := sl
        simp only at hs
        rw [hs]
      subst hsl
      exact ⟨nm, qn, ns, bs, bm, sn, sub, ab, col, dd, k0, k1, k2, k3, k5, ho, ht⟩
    · cases h
  · cases h
def xfnB (file : Str) (K : Frag) (C fI : Addr) : Bool := match K.lookup fI with
  | some ⟨_, _, .func ⟨n, q, pa, .stmts b, sc, g, [(x, cc)], .none, .none, _, _, _, .ref cda, _, bu⟩, _⟩ => decide (n = "__init__") && (xaB pa && (xbB b && (xsB sc && (decide (g = mainGlobals) && (decide (bu = builtinsNs) && (decide (x = "__class__") && (codeIn K (.ref cda) q && (xfileB file K cda && xcellB K C cc))))))))
  | _ => false
def xcB (file : Str) (K : Frag) (C : Addr) : Bool :=
  xclsB K C && (decide (findIn K (.ref C) "__setattr__" = some (some (.builtin "object.__setattr__"))) && (decide (subIn K (.ref C) (.type "BaseException") = some true) && (decide (typeIn K (.ref C) = some (.type "type")) && (keepIn K (.ref C) &&
  (decide (findIn K (.ref C) "reason" = some none) && ((match findIn K (.ref C) "__init__" with
    | some (some (.ref fI)) => decide (typeIn K (.ref fI) = some (.type "function")) && xfnB file K C fI
    | _ => false) && (decide (ks_superIn K C C "__init__" = some (some (.builtin "ValueError.__init__"))) && (decide (mroIn K C (.ref C) = some true) && (decide (subIn K (.ref C) (.type "ValueError") = some true) && decide (nsIn K cStatics "thirdparty.any" = some none))))))))))
theorem xc_of {P : Program} {file : Str} {K : Frag} {C : Addr} (h : xcB file K C = true) (hf : ((P.main.file : Str) == file) = true) (top : (P.main.scope.names.lookup ("super" : Str)).isSome = false) : XC P K C := by
  unfold xcB at h
  simp only [Bool.and_eq_true, decide_eq_true_eq] at h
  obtain ⟨h1, h2, h3, h4, h5, h6, h7, h8, h9, h10, h11⟩ := h
  refine ⟨⟨xclsB_ok h1, h2, h3, h4, h5⟩, h6, ?_, h8, h9, h10, h11, top⟩
  split at h7
  · rename_i fI hfi
    simp only [Bool.and_eq_true, decide_eq_true_eq] at h7
    obtain ⟨t1, t2⟩ := h7
    unfold xfnB at t2
    split at t2
    · rename_i oc od n q pa b sc g x cc doc pm an cda ct bu osl ho
      simp only [Bool.and_eq_true, decide_eq_true_eq] at t2
      obtain ⟨rfl, ha, hb, hs, rfl, rfl, rfl, hc, hfl, hcell⟩ := t2
      obtain ⟨a1, a2, rfl⟩ := xaB_ok ha
      obtain ⟨z, j, p0, p1, p2, p3, p4, p5, q1, q2, q3, q4, rfl, hl⟩ := xbB_ok hb
      obtain ⟨ccl, cdd, vs, ccs, tf, e1, e2⟩ := xfileB_ok hfl
      exact ⟨fI, cc, cda, q, sc, oc, od, doc, pm, an, ct, osl, z, j, p0, p1, p2, p3, p4, p5, q1, q2, q3, q4, a1, a2, hfi, t1, ho, hc, xsB_ok hs, ⟨ccl, cdd, vs, ccs, file, tf, e1, e2, hf⟩, xcellB_ok hcell, x_eval _ _ _ _ _ _ _ _ _ hl⟩
    · cases t2
  · cases h7
/-! ### constant data behind the module's names -/
mutual
def repB (K : Frag) : D → Value → Bool
  | .none, .none => true
  | .bool b, .bool c => decide (b = c)
  | .int i, .int j _ => decide (i = j)
  | .str x, .str y _ => decide (x = y)
  | .tuple ds, .ref a => (match K.lookup a with
    | some ⟨.type c, _, .seq its _, _⟩ => decide (c = "tuple") && (decide (its.size ≤ sizeLine) && repBs K ds its.toList)
    | _ => false)
  | _, _ => false
def repBs (K : Frag) : List D → List Value → Bool
  | [], [] => true
  | d :: ds, u :: us => repB K d u && repBs K ds us
  | _, _ => false
end
mutual
theorem repB_ok {K : Frag} : ∀ (d : D) (u : Value), repB K d u = true → ∃ v, RelV v u ∧ ∀ H, Rep K H v d []
  | .none, u, h => by
    cases u <;> simp [repB] at h
    exact ⟨.non, rfl, fun _ => .non⟩
  | .bool b, u, h => by
    cases u <;> simp [repB] at h
    subst h
    exact ⟨.bl b, rfl, fun _ => .bl b⟩
  | .int i, u, h => by
    cases u <;> simp [repB] at h
    subst h
    exact ⟨.int i, ⟨_, rfl⟩, fun _ => .int i⟩
  | .str x, u, h => by
    cases u <;> simp [repB] at h
    subst h
    exact ⟨.str x, ⟨_, rfl⟩, fun _ => .str x⟩
  | .tuple ds, u, h => by
    cases u <;> simp only [repB] at h <;> try (cases h)
    rename_i a
    split at h
    · rename_i c dd its n sl ho
      simp only [Bool.and_eq_true, decide_eq_true_eq] at h
      obtain ⟨rfl, hs, hr⟩ := h
      obtain ⟨vs, hv, hrep⟩ := repBs_ok ds its.toList hr
      exact ⟨.ref a, rfl, fun H => .tup (.inr ⟨_, its, n, ho, rfl, rfl, hs, hv⟩) (hrep H)⟩
    · cases h
  | .list ds, u, h => by cases u <;> simp [repB] at h
  | .dict es, u, h => by cases u <;> simp [repB] at h
theorem repBs_ok {K : Frag} : ∀ (ds : List D) (us : List Value), repBs K ds us = true → ∃ vs, Vals vs us ∧ ∀ H, RepL K H vs ds []
  | [], us, h => by
    cases us <;> simp [repBs] at h
    exact ⟨[], .nil, fun _ => .nil⟩
  | d :: ds, us, h => by
    cases us with
    | nil => simp [repBs] at h
    | cons u us =>
      simp only [repBs, Bool.and_eq_true] at h
      obtain ⟨v, r, q⟩ := repB_ok d u h.1
      obtain ⟨vs, rs, qs⟩ := repBs_ok ds us h.2
      exact ⟨v :: vs, .cons r rs, fun H => .cons (q H) (qs H)⟩
end
/-- the module's name x stands for the data d -/
def GDat (K : Frag) (mg : Str → Option Value) (x : Str) (d : D) : Prop := ∃ u v, mg x = some u ∧ RelV v u ∧ ∀ H, Rep K H v d []
def datB (K : Frag) (x : Str) (d : D) : Bool := match nsIn K mainGlobals x with
  | some (some u) => repB K d u
  | _ => false
theorem dat_ok {K : Frag} {h : Heap} {mg : Str → Option Value} {x : Str} {d : D} (X : K.In h) (G : h.Ns mainGlobals mg) (c : datB K x d = true) : GDat K mg x d := by
  unfold datB at c
  split at c
  · rename_i u e
    obtain ⟨v, r, q⟩ := repB_ok d u c
    exact ⟨u, v, PySem.W.mg_of X G e, r, q⟩
  · cases c
theorem de_gdat {X : Cx} {E : XK} {x : Str} {d : D} {pos : Pos} (hg : Gl X x) (hm : GDat X.K X.mg x d) (hd : (x == ("__debug__" : Str)) = false := by decide) : DE X E true true (.Name x pos) (eC d) := by
  obtain ⟨u, v, e, r, q⟩ := hm
  exact PE.mono (pe_glob (v := v) hg e r hd) fun σ H Q ⟨env, fs, W, he, h⟩ => h v H fs [] ⟨Step.refl he, q _, fun _ => Own.nil⟩
/-! ### the head by facts and one more test -/
abbrev AlE : Type := He.AlD × Bool
def adE (g : Addr → Option Obj) (n : Nat) : List Addr := cStatics :: He.asD g n
def obsE (n : Nat) (fa : List He.Fa) (fn : List He.DefD) (ex : Frag → Bool) (g : Addr → Option Obj) : AlE := (He.obsD fa fn (He.frG g (adE g n)), ex (He.frG g (adE g n)))
def hookE (n : Nat) (fa : List He.Fa) (fn : List He.DefD) (ex : Frag → Bool) : PySem.W.Hook where
  α := AlE
  obs := fun s => obsE n fa fn ex s.heap.get?
  val := fun _ => (He.valD fn, true)
  says := fun _ h => ∃ K : Frag, K.In h ∧ He.SaysD fa fn K ∧ ex K = true
  of := fun _ _ e => ⟨_, He.frG_in, congrArg (fun z : AlE => z.1) e, congrArg (fun z : AlE => z.2) e⟩
  keeps := fun _ _ _ ⟨K, hK, c⟩ k => ⟨K, PySem.W.Frag.In.keeps hK k, c⟩
theorem obsE_eq {n : Nat} {fa : List He.Fa} {fn : List He.DefD} {ex : Frag → Bool} {g : Addr → Option Obj} {s : Shared} (h : ∀ a, g a = s.heap.get? a) : obsE n fa fn ex g = (hookE n fa fn ex).obs s := by
  have e : g = s.heap.get? := funext h
  rw [e] <;> rfl
/-! ### try, what is caught alone -/
theorem ds_tryRef0 {X : Cx} {E : XK} {A : List Nat} {C : Addr} {y n x : Str} {i : Nat} {body suite : List Stmt} {b₀ : Stmt} {np pos pos' : Pos} {f : Sv} (hb : ∀ (E' : XK) (pn : List (Addr × Obj)) (xe : Value → Shared → Prop), Takes (X.tr pn xe) (fun cls d _ H => E' cls d H) → PassesOwn (model X.prog X.w) X.A X.env xe → DB (X.tr pn xe) E' A body f)
    (hsu : ∀ (a : Addr) (oe : Obj) (cls : Value) (d : Option Addr) (pn : List (Addr × Obj)), Zc cls d oe → (∃ vs, oe.data = .fields vs) → PSs (X.suite a ((a, oe) :: pn)) (b₀ :: suite) (tRef (He.ga X.K y) i a cls d))
    (hs : X.stack = X.env :: X.outer) (hf : X.env.frame = some X.env.locals) (hN : X.N.Nodup) (hi : X.N[i]? = some n) (hln : X.env.kindOf n = some .local) (hc : Names X x (.ref C)) (ex : PySem.W.exmOne X.K (.ref (He.ga X.K y)) (.ref C) = some true) :
    DS X E A (.Try body [.ExceptHandler (some (.Name x np)) (some n) (b₀ :: suite) pos'] [] [] pos) (sTryRef y f) := by
  refine DS.imp (ps_try_as (tb := fun W => tS X.K (EW X.N W) A f) (ts := tRef (He.ga X.K y) i) (Wout := fun _ _ _ _ => False) hs hf hN hi hln hc takes0 (fun W pn xe tk' po => hb _ pn xe (takesEW (X := X.tr pn xe) tk') po) hsu) fun D σ H env fs W re h => ?_
  refine tS_iff.mpr ⟨env, fs, W, re, ?_⟩
  unfold sTryRef at h
  cases e : f env with
  | no => rw [e] at h; exact h
  | ok o => rw [e] at h; cases o <;> exact h
  | ex c =>
    rw [e] at h
    simp only at h
    by_cases q : c.cls = y ∧ c.fld = "reason"
    case neg => rw [if_neg q] at h; exact h.elim
    rw [if_pos q] at h
    obtain ⟨cc, cf, ca⟩ := c
    obtain ⟨q1, q2⟩ := q
    simp only at q1 q2
    subst q1 q2
    cases ca with
    | str z =>
      intro H' ad xt hd σ' hl
      have il : i < σ'.length := by rw [hl]; exact (List.getElem?_eq_some_iff.mp hi).1
      have xt2 : Ext H (upd H' ad (.xd [("reason", .str z)])) fs := fun b o eb nb => by
        have z1 := xt b o eb nb
        rw [upd_ne (fun z2 => by rw [z2, hd] at z1; cases z1)]
        exact z1
      refine ⟨true, ex, fun _ a _ => ?_, fun z => nomatch z⟩
      refine ⟨rfl, by rw [List.getElem?_set_self il], ad, _, _, rfl, upd_same, (show List.lookup ("reason" : Str) [(("reason" : Str), V.str z)] = some (V.str z) by simp [List.lookup]), ?_⟩
      refine h W (.str z) σ _ (fun _ => []) [] ⟨xt2, ⟨fun j => ?_, fun _ _ _ z => (nomatch z), fun _ => .nil, fun _ _ z => (nomatch z), fun _ _ z => (nomatch z), fun a wa => ?_⟩, fun _ z => z, fun _ _ z => (nomatch z), fun _ _ => rfl⟩ (.str z) Own.nil
      · rw [at_eq]; rfl
      · obtain ⟨o, eo⟩ := re.wt a wa
        exact ⟨o, xt2 a o eo fun j hj => re.off j a hj wa⟩
    | _ => exact h.elim
end DV
end
section
set_option Elab.async false
set_option linter.all false
set_option maxRecDepth 100000
namespace DV
open PySem PySem.Spec PyProof.Rows L2
/-! ### a list within an own list, written in place -/
section
variable {K : Frag} {W : Addr → Prop} {H H' H1 : Hp} {σ : L2.St} {env env1 : Env} {fs fs1 : Fs}
theorem RepL.hole : ∀ {ds : List D} {xs : List V} {g : List Addr} {j : Nat} {e : D}, RepL K H xs ds g → ds[j]? = some e → ∃ w ge, xs[j]? = some w ∧ Rep K H w e ge ∧ (∀ a ∈ ge, a ∈ g) ∧ (g.Nodup → ge.Nodup) ∧
    ∀ (H' : Hp) (e' : D) (ge' : List Addr), g.Nodup → (∀ a ∈ ge, Pl H a) → (∀ b o, H b = some o → b ∉ ge → H' b = some o) → Rep K H' w e' ge' → (∀ a ∈ ge', a ∈ ge ∨ a ∉ g) → ge'.Nodup → ∃ g', RepL K H' xs (ds.set j e') g' ∧ (∀ a ∈ g', a ∈ g ∨ a ∈ ge') ∧ g'.Nodup
  | [], _, _, j, e, h, he => by simp at he
  | d :: ds, _, _, 0, e, h, he => by
    cases h with
    | @cons v vs _ _ g1 g2 h1 h2 =>
      simp at he; subst he
      refine ⟨v, g1, rfl, h1, fun a ha => List.mem_append_left _ ha, fun n => (List.nodup_append.mp n).1, fun H' e' ge' nd pl off r sub nd' => ?_⟩
      obtain ⟨n1, n2, n3⟩ := List.nodup_append.mp nd
      have st : RepL K H' vs ds g2 := RepL.stay (M := fun a => a ∈ g1) pl off ds vs g2 h2 fun a ha hm => n3 a hm a ha rfl
      refine ⟨_, .cons r st, fun a ha => (List.mem_append.mp ha).symm.imp (fun z => List.mem_append_right _ z) id, List.nodup_append.mpr ⟨nd', n2, fun a ha b hb z => ?_⟩⟩
      subst z
      rcases sub a ha with q | q
      · exact n3 a q a hb rfl
      · exact q (List.mem_append_right _ hb)
  | d :: ds, _, _, j + 1, e, h, he => by
    cases h with
    | @cons v vs _ _ g1 g2 h1 h2 =>
      obtain ⟨w, ge, e1, r1, s1, n1, put⟩ := RepL.hole (j := j) h2 (by simpa using he)
      refine ⟨w, ge, by simpa using e1, r1, fun a ha => List.mem_append_right _ (s1 a ha), fun n => n1 (List.nodup_append.mp n).2.1, fun H' e' ge' nd pl off r sub nd' => ?_⟩
      obtain ⟨m1, m2, m3⟩ := List.nodup_append.mp nd
      obtain ⟨g', r', s', n'⟩ := put H' e' ge' m2 pl off r (fun a ha => (sub a ha).imp id fun z q => z (List.mem_append_right _ q)) nd'
      have st : Rep K H' v d g1 := Rep.stay (M := fun a => a ∈ ge) pl off d v g1 h1 fun a ha hm => m3 a ha a (s1 a hm) rfl
      refine ⟨_, .cons st r', fun a ha => (List.mem_append.mp ha).elim (fun z => .inl (List.mem_append_left _ z)) fun z => (s' a z).imp (fun z => List.mem_append_right _ z) id, List.nodup_append.mpr ⟨m1, n', fun a ha b hb z => ?_⟩⟩
      subst z
      rcases s' a hb with q | q
      · exact m3 a ha a q rfl
      · rcases sub a q with q | q
        · exact m3 a ha a (s1 a q) rfl
        · exact q (List.mem_append_left _ ha)
/-- u, that stands within v, with its place -/
def Into (K : Frag) (H : Hp) (v : V) (g : List Addr) (u : V) (c : D) (gc : List Addr) (put : D → D) : Prop :=
  Rep K H u c gc ∧ (∀ a ∈ gc, a ∈ g) ∧ (g.Nodup → gc.Nodup) ∧ ∀ (H' : Hp) (c' : D) (gc' : List Addr), g.Nodup → (∀ a ∈ g, Pl H a) → (∀ b o, H b = some o → b ∉ gc → H' b = some o) → Rep K H' u c' gc' → (∀ a ∈ gc', a ∈ gc ∨ a ∉ g) → gc'.Nodup →
    ∃ g', Rep K H' v (put c') g' ∧ (∀ a ∈ g', a ∈ g ∨ a ∈ gc') ∧ g'.Nodup
theorem Into.here {v : V} {d : D} {g : List Addr} (r : Rep K H v d g) : Into K H v g v d g id :=
  ⟨r, fun _ z => z, fun z => z, fun H' c' gc' _ _ _ r' _ nd' => ⟨gc', r', fun a ha => .inr ha, nd'⟩⟩
theorem Into.ix {v w : V} {g gc : List Addr} {ds : List D} {xs : List V} {a : Addr} {put : D → D} {k : Int} {e : D} (I : Into K H v g (.ref a) (.list ds) gc put) (hl : H a = some (.lst xs)) (he : atI ds k = some e) (hw : atI xs k = some w) :
    ∃ j ge, ixN ds.length k = some j ∧ Into K H v g w e ge fun e' => put (.list (ds.set j e')) := by
  obtain ⟨r, s, n, p⟩ := I
  cases r with
  | lst h1 l1 =>
    rw [hl] at h1
    cases h1
    rename_i g1
    obtain ⟨j, e1, e2⟩ := atI_some he
    obtain ⟨j', e1', e2'⟩ := atI_some hw
    rw [RepL.length l1, e1] at e1'
    cases e1'
    obtain ⟨w', ge, e3, r3, s3, n3, p3⟩ := RepL.hole l1 e2
    rw [e2'] at e3
    cases e3
    refine ⟨j, ge, e1, r3, fun b hb => s b (List.mem_cons_of_mem _ (s3 b hb)), fun z => n3 (List.nodup_cons.mp (n z)).2, fun H' c' gc' nd pl off r' sub nd' => ?_⟩
    have ng := List.nodup_cons.mp (n nd)
    obtain ⟨g', r4, s4, n4⟩ := p3 H' c' gc' ng.2 (fun b hb => pl b (s b (List.mem_cons_of_mem _ (s3 b hb)))) off r' (fun b hb => (sub b hb).imp id fun z q => z (s b (List.mem_cons_of_mem _ q))) nd'
    have ha : H' a = some (.lst xs) := off a _ hl fun z => ng.1 (s3 a z)
    have na : a ∉ g' := fun z => by
      rcases s4 a z with q | q
      · exact ng.1 q
      · rcases sub a q with q | q
        · exact ng.1 (s3 a q)
        · exact q (s a List.mem_cons_self)
    have sb : ∀ b ∈ a :: g', b ∈ a :: g1 ∨ b ∉ g := fun b hb => by
      rcases List.mem_cons.mp hb with q | q
      · exact .inl (q ▸ List.mem_cons_self)
      · rcases s4 b q with q | q
        · exact .inl (List.mem_cons_of_mem _ q)
        · exact (sub b q).imp (fun z => List.mem_cons_of_mem _ (s3 b z)) id
    obtain ⟨g'', r5, s5, n5⟩ := p H' (.list (ds.set j c')) (a :: g') nd pl (fun b o e n => off b o e fun z => n (List.mem_cons_of_mem _ (s3 b z))) (.lst ha r4) sb (List.nodup_cons.mpr ⟨na, n4⟩)
    refine ⟨g'', r5, fun b hb => ?_, n5⟩
    rcases s5 b hb with q | q
    · exact .inl q
    · rcases List.mem_cons.mp q with q | q
      · exact .inl (q ▸ s a List.mem_cons_self)
      · exact (s4 b q).imp (fun z => s b (List.mem_cons_of_mem _ z)) id
/-- the slot's value changes in its own objects alone -/
theorem RepEnv.change (he : RepEnv K W H σ env fs) {i : Nat} {v : V} {d' : D} {g' : List Addr} (hi : i < env.length) (hσ : σ[i]? = some (some v)) (hx : ∀ b o, H b = some o → b ∉ fs i → H' b = some o) (r : Rep K H' v d' g') (nd : g'.Nodup) (pl : ∀ b ∈ g', Pl H' b)
    (sub : ∀ b ∈ g', b ∈ fs i ∨ ((∀ j, b ∉ fs j) ∧ ¬ W b)) : RepEnv K W H' σ (env.set i (.own d')) (fput fs i g') := by
  have plk : ∀ {j b}, j ≠ i → b ∈ fs j → ∃ o, H b = some o ∧ H' b = some o ∧ MutO o := fun {j b} hj hb => by
    obtain ⟨o, e, m⟩ := he.pl j b hb
    exact ⟨o, e, hx b o e fun z => hj (he.disj j i b hb z), m⟩
  have stay : ∀ {v : V} {d : D} {g : List Addr}, Rep K H v d g → (∀ a ∈ g, a ∉ fs i) → Rep K H' v d g := fun r n => Rep.stay (M := fun b => b ∈ fs i) (fun b e => he.pl i b e) hx _ _ _ r n
  have fj : ∀ {j}, j ≠ i → fput fs i g' j = fs j := fun {j} h => if_neg h
  have fi : fput fs i g' i = g' := if_pos rfl
  refine ⟨fun j => ?_, fun j k a hj hk => ?_, fun j => ?_, fun j b hb => ?_, fun j b hb => ?_, fun b hb => ?_⟩
  · rw [at_set hi]
    by_cases c : j = i
    · subst c
      rw [if_pos rfl]
      refine ⟨v, hσ, ?_⟩
      rw [fi]; exact r
    · rw [if_neg c]
      have q := he.slot j
      cases e : env.at j with
      | dead => rw [e] at q; exact (fj c).trans q
      | own d =>
        rw [e] at q
        obtain ⟨w, e1, r1⟩ := q
        refine ⟨w, e1, ?_⟩
        rw [fj c]
        exact stay r1 fun a ha z => c (he.disj j i a ha z)
      | view d =>
        rw [e] at q
        obtain ⟨q0, w, gw, e1, r1, n1⟩ := q
        exact ⟨(fj c).trans q0, w, gw, e1, stay r1 fun a ha z => he.off i a z (n1 a ha), n1⟩
  · by_cases c1 : j = i
    · by_cases c2 : k = i
      · rw [c1, c2]
      · rw [fj c2] at hk
        rw [c1, fi] at hj
        rcases sub a hj with z | z
        · exact absurd (he.disj i k a z hk).symm c2
        · exact absurd hk (z.1 k)
    · rw [fj c1] at hj
      by_cases c2 : k = i
      · rw [c2, fi] at hk
        rcases sub a hk with z | z
        · exact absurd (he.disj i j a z hj).symm c1
        · exact absurd hj (z.1 j)
      · rw [fj c2] at hk
        exact he.disj j k a hj hk
  · by_cases c : j = i
    · rw [c, fi]; exact nd
    · rw [fj c]; exact he.nd j
  · by_cases c : j = i
    · rw [c, fi] at hb; exact pl b hb
    · rw [fj c] at hb
      obtain ⟨o, _, e, m⟩ := plk c hb
      exact ⟨o, e, m⟩
  · by_cases c : j = i
    · rw [c, fi] at hb
      rcases sub b hb with z | z
      · exact he.off i b z
      · exact z.2
    · rw [fj c] at hb; exact he.off j b hb
  · obtain ⟨o, e⟩ := he.wt b hb
    exact ⟨o, hx b o e fun z => he.off i b z hb⟩
theorem Step.change {p : Bool} {H0 : Hp} {env0 : Env} {fs0 : Fs} (S : Step K W p H0 env0 fs0 H1 σ env1 fs1) {i : Nat} {v : V} {d' : D} {g' : List Addr} (hi : i < env1.length) (hσ : σ[i]? = some (some v)) (hx : ∀ b o, H1 b = some o → b ∉ fs1 i → H' b = some o) (r : Rep K H' v d' g') (nd : g'.Nodup) (pl : ∀ b ∈ g', Pl H' b)
    (sub : ∀ b ∈ g', b ∈ fs1 i ∨ ((∀ j, b ∉ fs1 j) ∧ ¬ W b ∧ ((∃ j, b ∈ fs0 j) ∨ H0 b = none))) : Step K W false H0 env0 fs0 H' σ (env1.set i (.own d')) (fput fs1 i g') where
  ext := fun b o e n => by
    have q := S.ext b o e n
    refine hx b o q fun z => ?_
    rcases S.sub i b z with ⟨j, hj⟩ | q
    · exact n j hj
    · rw [q] at e; cases e
  renv := S.renv.change hi hσ hx r nd pl fun b hb => (sub b hb).imp id fun z => ⟨z.1, z.2.1⟩
  sub := fun j b hb => by
    unfold fput at hb
    by_cases e : j = i
    · rw [if_pos e] at hb
      rcases sub b hb with z | z
      · exact S.sub i b z
      · exact z.2.2
    · rw [if_neg e] at hb; exact S.sub j b hb
  pure := fun z => nomatch z
  vw := fun j d e => by
    rw [at_set hi] at e
    by_cases q : j = i
    · rw [if_pos q] at e; cases e
    · rw [if_neg q] at e; exact S.vw j d e
end
section
variable {X : Cx} {E : XK} {p p1 p2 p3 o o1 o2 o3 : Bool} {A A1 A2 : List Nat} {pos : Pos}
/-! ### a place: what stands there, and the slot's value with another thing there -/
abbrev Epl := Env → R (D × (D → D))
def tPl (K : Frag) (E : XK) (i : Nat) (f : Epl) : TE := fun σ H Q => ∃ env fs W, RepEnv K W H σ env fs ∧ match f env with
  | .no => False
  | .ex c => ExP K E c H fs
  | .ok (c, put) => ∀ u H' gc, Same H H' → (∀ v, σ[i]? = some (some v) → Into K H' v (fs i) u c gc put) → Q u H'
structure DL (X : Cx) (E : XK) (i : Nat) (e : Expr) (f : Epl) : Prop where
  run : PE X e (tPl X.K E i f)
  own : ∀ env c put, f env = .ok (c, put) → ∃ d, env.at i = .own d
def plNm (i : Nat) : Epl := fun env => (ownAt (env.at i)).bind fun d => .ok (d, id)
theorem dl_nm {i : Nat} {x : Str} {pos : Pos} (hN : X.N[i]? = some x := by rfl) (hv : Vis X.env.scope x := by first | exact .inl rfl | exact .inr (.inl rfl) | exact .inr (.inr rfl)) (hd : (x == ("__debug__" : Str)) = false := by decide) (hcd : (x == ("__classdict__" : Str)) = false := by decide) :
    DL X E i (.Name x pos) (plNm i) := by
  refine ⟨PE.mono (pe_var hN hv hd hcd) fun σ H Q ⟨env, fs, W, he, h⟩ => ?_, fun env c put h => ?_⟩
  · unfold plNm at h
    cases e0 : ownAt (env.at i) with
    | no => rw [e0] at h; exact h.elim
    | ex c => exact absurd e0 ownAt_ex
    | ok d =>
      rw [e0] at h
      obtain ⟨e1, hi, w, ew, r⟩ := he.valAt e0
      exact ⟨w, ew, h w H (fs i) (fun _ _ z => z) fun v ev => by
        rw [ew] at ev; cases ev
        exact Into.here r⟩
  · unfold plNm at h
    cases e0 : ownAt (env.at i) with
    | no => rw [e0] at h; cases h
    | ex c => exact absurd e0 ownAt_ex
    | ok d =>
      unfold ownAt at e0
      split at e0
      · exact ⟨_, by assumption⟩
      · cases e0
def ixPl (c k : D) : Option (D × (D → D)) := match c, k with
  | .list ds, .int k => (ixN ds.length k).bind fun j => (ds[j]?).map fun e => (e, fun e' => .list (ds.set j e'))
  | _, _ => none
def plIx (f : Epl) (g : Ev) : Epl := fun env => (f env).bind fun x => (g env).bind fun y => (R.of (ixPl x.1 y.1)).bind fun z => .ok (z.1, fun e => x.2 (z.2 e))
theorem Into.same {K : Frag} {H H' : Hp} {v : V} {g : List Addr} {u : V} {c : D} {gc : List Addr} {put : D → D} (I : Into K H v g u c gc put) (s : Same H H') (pl : ∀ a ∈ g, Pl H a) : Into K H' v g u c gc put :=
  ⟨I.1.same s, I.2.1, I.2.2.1, fun H2 c' gc' nd _ off r sub nd' => I.2.2.2 H2 c' gc' nd pl (fun b o e n => off b o (s b o e) n) r sub nd'⟩
theorem dl_ix {i : Nat} {a b : Expr} {f : Epl} {g : Ev} {pos : Pos} (ha : DL X E i a f) (hb : DE X E true o b g) (hs : PlainIx b := by exact fun _ _ => rfl) : DL X E i (.Subscript a b pos) (plIx f g) := by
  refine ⟨PE.mono (pe_ix ix_list ha.run hb hs) fun σ H Q ⟨env, fs, W, he, h⟩ => ⟨env, fs, W, he, ?_⟩, fun env c put h => ?_⟩
  · unfold plIx at h
    cases e1 : f env with
    | no => rw [e1] at h; exact h
    | ex c => rw [e1] at h; exact h
    | ok x =>
      obtain ⟨c, put⟩ := x
      rw [e1] at h
      simp only [R.bind] at h
      intro u H1 gc s1 I1
      refine ⟨env, fs, W, he.same s1, ?_⟩
      cases e2 : g env with
      | no => rw [e2] at h; exact h
      | ex c => rw [e2] at h; exact (show ExP X.K E c H fs from h).before (Step.same he s1 (p := true))
      | ok y =>
        obtain ⟨d2, env2⟩ := y
        rw [e2] at h
        simp only [R.bind] at h
        intro v2 H2 fs2 g2 P2
        obtain ⟨s2, eeq, ffq⟩ := P2.step.pure rfl
        have ees2 := eeq.symm
        have ffs2 := ffq.symm
        subst ees2
        subst ffs2
        cases e3 : ixPl c d2 with
        | none => rw [e3] at h; exact h.elim
        | some z =>
          rw [e3] at h
          simp only [R.of, R.bind] at h
          unfold ixPl at e3
          split at e3
          · rename_i ds k
            obtain ⟨j, ej, e3⟩ := Option.bind_eq_some_iff.mp e3
            obtain ⟨e, ee, rfl⟩ := Option.map_eq_some_iff.mp e3
            have rk := P2.rep
            cases rk
            obtain ⟨d, ed⟩ := ha.own _ _ _ e1
            have sl := he.slot i
            rw [ed] at sl
            obtain ⟨v, ev, _⟩ := sl
            have I2 := (I1 v ev).same s2 fun b hb => (he.same s1).pl i b hb
            have r2 := I2.1
            cases r2 with
            | lst h1 l1 =>
              rename_i au xs g1
              have hk : atI ds k = some e := atI_of ej ee
              obtain ⟨w, gi, ew, _, _, _⟩ := RepL.atI l1 hk
              obtain ⟨j', ge, ej', I3⟩ := Into.ix I2 h1 hk ew
              rw [ej] at ej'
              cases ej'
              refine ⟨_, _, _, w, rfl, rfl, SqL.of h1, ew, h w H2 ge (fun b o z => s2 b o (s1 b o z)) fun v' ev' => ?_⟩
              rw [ev] at ev'
              cases ev'
              exact I3
          · cases e3
  · unfold plIx at h
    cases e1 : f env with
    | no => rw [e1] at h; cases h
    | ex c => rw [e1] at h; cases h
    | ok x => exact ha.own _ _ _ e1
/-- place.append(e), e pure -/
def eAppU (i : Nat) (f : Epl) (g : Ev) : Ev := fun env => (f env).bind fun x => match x.1 with
  | .list ds => (g env).bind fun y => if ds.length < 16000000 then .ok (.none, env.set i (.own (x.2 (.list (ds ++ [y.1]))))) else .no
  | _ => .no
theorem into_lst {K : Frag} {H : Hp} {v : V} {g : List Addr} {u : V} {ds : List D} {gc : List Addr} {put : D → D} (I : Into K H v g u (.list ds) gc put) : ∃ a xs g1, u = .ref a ∧ gc = a :: g1 ∧ H a = some (.lst xs) ∧ RepL K H xs ds g1 := by
  have r := I.1
  cases r with
  | lst h l => exact ⟨_, _, _, rfl, rfl, h, l⟩
/-- a list in place is written -/
theorem Into.wrote {K : Frag} {W : Addr → Prop} {H0 H : Hp} {σ : L2.St} {env0 env : Env} {fs0 fs : Fs} {i : Nat} {v : V} {a : Addr} {ds ds' : List D} {g1 gn : List Addr} {put : D → D} {xs' : List V} (S : Step K W p H0 env0 fs0 H σ env fs) (I : Into K H v (fs i) (.ref a) (.list ds) (a :: g1) put) (hi : i < env.length) (hσ : σ[i]? = some (some v))
    (hl : RepL K H xs' ds' gn) (nd : gn.Nodup) (sub : ∀ b ∈ gn, b ∈ g1 ∨ ((∀ j, b ∉ fs j) ∧ Pl H b ∧ ¬ W b ∧ ((∃ j, b ∈ fs0 j) ∨ H0 b = none))) :
    ∃ g', Step K W false H0 env0 fs0 (upd H a (.lst xs')) σ (env.set i (.own (put (.list ds')))) (fput fs i g') := by
  have ai : a ∈ fs i := I.2.1 a List.mem_cons_self
  have n1 := List.nodup_cons.mp (I.2.2.1 (S.renv.nd i))
  have off : ∀ b o, H b = some o → b ≠ a → upd H a (.lst xs') b = some o := fun b o e n => by rw [upd_ne n]; exact e
  have na : a ∉ gn := fun z => by
    rcases sub a z with q | q
    · exact n1.1 q
    · exact q.1 i ai
  have r : RepL K (upd H a (.lst xs')) xs' ds' gn := RepL.stay (M := fun b => b = a) (fun b e => e ▸ S.renv.pl i a ai) (fun b o e n => off b o e n) _ _ _ hl fun b hb e => na (e ▸ hb)
  obtain ⟨g', r', s', n'⟩ := I.2.2.2 (upd H a (.lst xs')) (.list ds') (a :: gn) (S.renv.nd i) (S.renv.pl i) (fun b o e n => off b o e fun z => n (z ▸ List.mem_cons_self)) (.lst upd_same r) (fun b hb => by
    rcases List.mem_cons.mp hb with q | q
    · exact .inl (q ▸ List.mem_cons_self)
    · rcases sub b q with z | z
      · exact .inl (List.mem_cons_of_mem _ z)
      · exact .inr (z.1 i)) (List.nodup_cons.mpr ⟨na, nd⟩)
  have plk : ∀ b, Pl H b → Pl (upd H a (.lst xs')) b := fun b ⟨o, e, m⟩ => by
    by_cases q : b = a
    · subst q; exact ⟨_, upd_same, trivial⟩
    · exact ⟨o, off b o e q, m⟩
  have cl : ∀ b ∈ g', b ∈ fs i ∨ ((∀ j, b ∉ fs j) ∧ Pl H b ∧ ¬ W b ∧ ((∃ j, b ∈ fs0 j) ∨ H0 b = none)) := fun b hb => by
    rcases s' b hb with q | q
    · exact .inl q
    · rcases List.mem_cons.mp q with q | q
      · exact .inl (q ▸ ai)
      · exact (sub b q).imp (fun z => I.2.1 b (List.mem_cons_of_mem _ z)) id
  exact ⟨g', S.change hi hσ (fun b o e n => off b o e fun z => n (z ▸ ai)) r' n' (fun b hb => plk b ((cl b hb).elim (S.renv.pl i b) fun z => z.2.1)) fun b hb => (cl b hb).imp id fun z => ⟨z.1, z.2.2⟩⟩
theorem de_appU {i : Nat} {o e : Expr} {f : Epl} {g : Ev} {apos cpos : Pos} (ho : DL X E i o f) (h : DE X E true true e g)
    (hs : starEach [e] X.env = (false, eval e X.env) :: starEach [] X.env := by rfl)
    (hbase : attributeBase o "append" X.env (eval o X.env) = eval o X.env := by rfl)
    (hfew : ((backTo cpos (starEach [e] X.env)).all (fun x => !x.1) && (backToKw cpos (keywordEach [] X.env)).all (fun x => x.1.isSome)
      && decide ([e].length + ([] : List Keyword).length + (if ([] : List Keyword).isEmpty then 0 else 1) < 30)) = true := by rfl)
    (hline : (apos.endLine == cpos.line) = true := by rfl) (hplain : (backTo cpos (starEach [] X.env)).any (·.1) = false := by rfl) :
    DE X E false true (.Call (.Attribute o "append" apos) [e] [] cpos) (eAppU i f g) := by
  refine PE.mono (pe_bm PySem.F.plainAttrs_list PySem.F.slot_list_append PySem.F.type_list_append mt_append ho.run (pa_cons h pa_nil hs) hbase hfew hline hs hplain) fun σ H Q ⟨env, fs, W, he, h⟩ => ⟨env, fs, W, he, ?_⟩
  unfold eAppU at h
  cases e1 : f env with
  | no => rw [e1] at h; exact h
  | ex c => rw [e1] at h; exact h
  | ok x =>
    obtain ⟨c, put⟩ := x
    rw [e1] at h
    simp only [R.bind] at h
    intro u H1 gc s1 I1
    obtain ⟨d, ed⟩ := ho.own _ _ _ e1
    have sl := he.slot i
    rw [ed] at sl
    obtain ⟨v, ev, _⟩ := sl
    have hi := at_len ed (fun z => nomatch z)
    have I1 := I1 v ev
    have he1 := he.same s1
    cases c with
    | list ds =>
      simp only at h
      obtain ⟨a, xs, g1, rfl, rfl, h1, l1⟩ := into_lst I1
      refine ⟨.inl ⟨rfl, _, .inl (.inl h1)⟩, env, fs, W, he1, ?_⟩
      cases e2 : g env with
      | no => rw [e2] at h; exact h.elim
      | ex cc =>
        rw [e2] at h
        exact (show ExP X.K E cc H fs from h).before (Step.same he s1 (p := true))
      | ok y =>
        obtain ⟨d2, env2⟩ := y
        rw [e2] at h
        simp only at h
        intro v2 H2 fs2 g2 P2
        obtain ⟨s2, eeq, ffq⟩ := P2.step.pure rfl
        have ees2 := eeq.symm
        have ffs2 := ffq.symm
        subst ees2
        subst ffs2
        by_cases c : ds.length < 16000000
        · rw [if_pos c] at h
          have I2 := I1.same s2 fun b hb => he1.pl i b hb
          have l2 := l1.same s2
          refine ⟨a, xs, v2, rfl, rfl, s2 _ _ h1, by rw [RepL.length l1]; exact line_lt c, ?_⟩
          have S : Step X.K W true H env fs H2 σ env fs := by simpa using (Step.same he s1 (p := true)).trans P2.step
          have w : Own H fs H2 fs g2 := Own.before (Step.same he s1 (p := true)) (P2.own rfl)
          have nw := w.new he S.renv
          have n1 := List.nodup_cons.mp (I2.2.2.1 (he.nd i))
          have ap : ∀ b ∈ g2, b ∉ g1 := fun b hb z => (nw b hb).1 i (I2.2.1 b (List.mem_cons_of_mem _ z))
          obtain ⟨g', S'⟩ := Into.wrote S I2 hi ev (RepL.append l2 (.cons P2.rep .nil)) (by
            rw [List.append_nil]
            exact List.nodup_append.mpr ⟨n1.2, w.nd, fun b hb b' hb' e => ap b' hb' (e ▸ hb)⟩) fun b hb => by
            rcases List.mem_append.mp hb with z | z
            · exact .inl z
            · have z' : b ∈ g2 := by simpa using z
              exact .inr ⟨(nw b z').1, (nw b z').2.1, (nw b z').2.2, w.sub b z'⟩
          exact h .non _ _ [] ⟨S', .non, fun _ => Own.nil⟩
        · rw [if_neg c] at h
          exact h.elim
    | _ => exact h.elim
/-- place[k] = e: the value first (pure), the place, the index behind it -/
def sSetU (i : Nat) (pl : Epl) (fk fe : Ev) : Sv := fun env => (fe env).bind fun y => (pl env).bind fun x => match x.1 with
  | .list ds => (fk env).bind fun k => (R.of (setD ds k.1 y.1)).bind fun ds' => .ok (.nx (env.set i (.own (x.2 (.list ds')))))
  | _ => .no
theorem ds_setU {i : Nat} {b e k : Expr} {pl : Epl} {fe fk : Ev} {tpos : Pos} (hb : DL X E i b pl) (he : DE X E true true e fe) (hk : DE X E true o k fk)
    (ha : ∀ v, assign (.Subscript b k tpos) X.env v = (do
      let ov ← holding [v] (eval b X.env)
      let iv ← holding [v, ov] (eval k X.env)
      standAt tpos
      holding [v, ov, iv] (setItem ov iv v)
      release [v, ov, iv] []) := by intro _; rfl)
    (hs : swapsWithSole [.Subscript b k tpos] e pos.line X.env = pure false := by rfl) (hw : swappedStores [.Subscript b k tpos] e X.env = pure none := by rfl)
    (h1 : (assignEach [.Subscript b k tpos] X.env).map (·.2) = [assign (.Subscript b k tpos) X.env] := by rfl) :
    DS X E [] (.Assign [.Subscript b k tpos] e pos) (sSetU i pl fk fe) := by
  refine DS.imp (ps_asg he (pg_sub hb.run hk set_list ha) hs hw h1) fun D σ H env fs W hr q => ?_
  unfold sSetU at q
  refine ⟨env, fs, W, hr, ?_⟩
  cases e1 : fe env with
  | no => rw [e1] at q; exact q.elim
  | ex c => rw [e1] at q; exact q
  | ok y =>
    obtain ⟨y, env1⟩ := y
    rw [e1] at q
    simp only [R.bind] at q
    intro v H1 fs1 gy P
    obtain ⟨s1, eeq, ffq⟩ := P.step.pure rfl
    have ees1 := eeq.symm
    have ffs1 := ffq.symm
    subst ees1
    subst ffs1
    refine ⟨env, fs, W, P.step.renv, ?_⟩
    cases e2 : pl env with
    | no => rw [e2] at q; exact q.elim
    | ex c => rw [e2] at q; exact (show ExP X.K E c H fs from q).before P.step
    | ok x =>
      obtain ⟨c, put⟩ := x
      rw [e2] at q
      simp only [R.bind] at q
      intro u H2 gc s2 I2
      obtain ⟨d, ed⟩ := hb.own _ _ _ e2
      have sl := hr.slot i
      rw [ed] at sl
      obtain ⟨v0, ev, _⟩ := sl
      have hi := at_len ed (fun z => nomatch z)
      have I2 := I2 v0 ev
      cases c with
      | list ds =>
        simp only at q
        obtain ⟨a, xs, g1, rfl, rfl, h1', l1⟩ := into_lst I2
        have S2 : Step X.K W true H env fs H2 σ env fs := P.step.and_same s2
        refine ⟨env, fs, W, S2.renv, ?_⟩
        cases e3 : fk env with
        | no => rw [e3] at q; exact q.elim
        | ex c => rw [e3] at q; exact (show ExP X.K E c H fs from q).before S2
        | ok kk =>
          obtain ⟨k', env2⟩ := kk
          rw [e3] at q
          simp only [R.bind] at q
          intro kv H3 fs2 gk P3
          obtain ⟨s3, eeq, ffq⟩ := P3.step.pure rfl
          have ees3 := eeq.symm
          have ffs3 := ffq.symm
          subst ees3
          subst ffs3
          cases e4 : setD ds k' y with
          | none => rw [e4] at q; exact q.elim
          | some ds' =>
            rw [e4] at q
            simp only [R.of] at q
            unfold setD at e4
            split at e4
            · rename_i kz
              obtain ⟨j, ej, rfl⟩ := Option.map_eq_some_iff.mp e4
              have rk := P3.rep
              cases rk
              have l3 : RepL X.K H3 xs ds g1 := l1.same s3
              refine ⟨a, xs, kz, j, rfl, rfl, s3 _ _ h1', by rw [RepL.length l1]; exact ej, ?_⟩
              have S3 : Step X.K W true H env fs H3 σ env fs := S2.and_same s3
              have I3 := I2.same s3 fun b hb => S2.renv.pl i b hb
              have w : Own H fs H3 fs gy := ((P.own rfl).same s2).same s3
              have ry : Rep X.K H3 v y gy := (P.rep.same s2).same s3
              have nw := w.new hr S3.renv
              have n1 := List.nodup_cons.mp (I3.2.2.1 (hr.nd i))
              have ap : ∀ b ∈ gy, b ∉ g1 := fun b hb z => (nw b hb).1 i (I3.2.1 b (List.mem_cons_of_mem _ z))
              obtain ⟨g', r', s', n'⟩ := RepL.set (j := j) l3 ry
              obtain ⟨g'', S'⟩ := Into.wrote S3 I3 hi ev r' (n' n1.2 w.nd ap) fun b hb => by
                rcases s' b hb with z | z
                · exact .inl z
                · exact .inr ⟨(nw b z).1, (nw b z).2.1, (nw b z).2.2, w.sub b z⟩
              exact q W σ _ _ S'.move
            · cases e4
      | _ => exact q.elim
end
end DV
end
section
set_option Elab.async false
set_option linter.all false
set_option maxRecDepth 100000
namespace DV
open PySem PySem.Spec PyProof.Rows L2
/-! ### a call without arguments -/
def eFn0 (den : Den) : Ev := fun env => (den []).bind fun r => .ok (r.1, env)
@[simp] theorem eFn0_is {den : Den} {env : Env} : eFn0 den env = (den []).bind fun r => .ok (r.1, env) := (rfl)
section
variable {X : Cx} {E : XK} {CX : CXT} {k : Nat} {f : Addr} {fd : FuncData} {ps : List Str} {x : Str}
theorem de_fn0 {den : Den} {q pos : Pos} (F : FnG X.prog X.w X.K X.mg X.base CX k f fd ps (spD X.K 0 none den)) (room : Room k X.A) (gd : X.A.guards = some []) (hm : X.mg x = some (.ref f)) (kp : PySem.W.keepIn X.K (.ref f) = true) (bi : Binds X.K fd ps []) (pa : Passes CX X E)
    (hg : Gl X x := by rfl) (nd : (x == ("__debug__" : Str)) = false := by decide) : DE X E true true (.Call (.Name x q) [] [] pos) (eFn0 den) := by
  refine PE.mono (t := tCall (spD X.K 0 none den) [] E tNil) ⟨fun pins s σ H Q I z => wpAny_Call_Name_kw (ld_glob I hg hm (PySem.W.callWith_K0 I.kIn kp (run_fnG (us := []) F room gd bi pa I .nil z)) nd)⟩ fun σ H Q ⟨env, fs, W, he, h⟩ => ?_
  unfold eFn0 at h
  refine ⟨rfl, [], fun _ => [], fun a => a ∈ ([] : List Addr), rfl, RepEnv.args (vs := []) (ds := []) (g := []) .nil, ?_⟩
  cases e2 : den [] with
  | no => rw [e2] at h; exact h.elim
  | ex c =>
    rw [e2] at h
    exact fun H' ad x n => (show ExP X.K E c H fs from h) H' ad (fun b o eb _ => x b o eb fun _ z => nomatch z) n
  | ok r =>
    obtain ⟨r, u⟩ := r
    rw [e2] at h
    intro v H' g' gu z
    have hgu : gu = [] := z.io
    subst hgu
    have hsub : ∀ a ∈ g', H a = none := fun a ha => by
      rcases z.sub a (List.mem_append_left _ ha) with ⟨j, hj⟩ | q
      · cases hj
      · exact q
    exact h v H' fs g' (Post.fresh (Step.refl he (p := true)) ⟨fun b o eb => z.ext b o eb (fun _ y => (nomatch y)), z.rep, (List.nodup_append.mp z.nd).1, hsub, fun a ha => z.pl a (List.mem_append_left _ ha)⟩)
end
end DV
end
section
set_option Elab.async false
set_option linter.all false
set_option maxRecDepth 100000
set_option maxHeartbeats 1000000
namespace DV
open PySem PySem.Spec PyProof.Rows L2
open PySem (Heap.get?_push_size Heap.size_push)
/-! ### enumerate of a tuple -/
theorem meets_enumB1 {v : Value} {o : Obj} {H : Heap → Prop} (B : Begins v o H) :
    Meets (Builtin.«enumerate.__new__» ⟨[.type "enumerate", v], []⟩) (fun _ R s => H s.heap ∧
      R (.ok (.ret (.ref (s.heap.push o).objs.size))) { s with heap := (s.heap.push o).push { cls := .type "enumerate", data := .fields #[.none, .bool false, .ref s.heap.objs.size, rawInt 0, .none, .none] } }) :=
  .of_wp fun prog w A R s h => by
    obtain ⟨hp, g, d, tk, os⟩ := s; obtain ⟨h1, h⟩ := h
    have hsub := sub_enumerate
    have q1 : ∀ {A' : Around} {E : Value → Shared → Prop} {Q : Value → Shared → Prop}, Q (.ref hp.objs.size) ⟨hp.push o, g, d, tk, os⟩ → wpAny (model prog w) A' (pyIter v) Q E ⟨hp, g, d, tk, os⟩ :=
      fun q => B.iter prog w _ _ ⟨hp, g, d, tk, os⟩ _ h1 q
    wp_walk using q1
    refine wpAny_stack_any fun st => wpAny_pure ?_
    split
    · rename_i c _ _ _ _ _
      cases (c == Value.type "enumerate")
      · wp_walk using q1
        exact ⟨_, rfl, h⟩
      · wp_walk using q1
        exact ⟨_, rfl, h⟩
    · wp_walk using q1
      exact ⟨_, rfl, h⟩
theorem enum_begins1 {prog : Program} {w : World} {A : Around} {E : Value → Shared → Prop} {s : Shared} {v : Value} {o : Obj} {H : Heap → Prop} {Q : Value → Shared → Prop} (B : Begins v o H) (h1 : H s.heap)
    (h : ∀ h', IsEnum h' (s.heap.objs.size + 1) s.heap.objs.size 0 .none → h'.get? s.heap.objs.size = some o → h'.objs.size = s.heap.objs.size + 2 →
      (∀ b o, s.heap.get? b = some o → h'.get? b = some o) → Q (.ref (s.heap.objs.size + 1)) { s with heap := h' }) :
    wpAny (model prog w) A (call (.type "enumerate") [v]) Q E s := by
  refine callType_new F.called_enumerate (by decide) (F.typeCall_enumerate_1 _) (F.newCall_enumerate_1 _) (fun obj => F.args_object_init_2 obj _) F.entry_enumerate_new
    (meets_enumB1 B) ⟨h1, ?_⟩
  have hz : (s.heap.push o).objs.size = s.heap.objs.size + 1 := Heap.size_push ..
  show _ ∧ _
  rw [hz]
  have he : IsEnum ((s.heap.push o).push
      { cls := .type "enumerate", data := .fields #[.none, .bool false, .ref s.heap.objs.size, rawInt 0, .none, .none] }) (s.heap.objs.size + 1) s.heap.objs.size 0 .none := by
    have := Heap.get?_push_size (s.heap.push o)
      (o := { cls := .type "enumerate", data := .fields #[.none, .bool false, .ref s.heap.objs.size, rawInt 0, .none, .none] }) rfl
    rw [hz] at this; exact this
  refine ⟨⟨_, he, rfl⟩, h _ he (Heap.get?_push_of_some _ (Heap.get?_push_size _ B.free)) (by rw [Heap.size_push, hz]) fun b o x => Heap.get?_push_of_some _ (Heap.get?_push_of_some _ x)⟩
def IteT (K : Frag) (a : Addr) : It :=
  ⟨fun i H => ∃ (xs : List V) (x : V), SqT K H a xs ∧ xs[i]? = some x, fun i H v H' => ∃ T x, v = .ref T ∧ H T = none ∧ H' = upd H T (.tup [.int (i : Nat), x]) ∧ ∀ xs, SqT K H a xs → xs[i]? = some x, fun i H => ∃ xs : List V, SqT K H a xs ∧ xs.length = i⟩
theorem turn_enumT {P : Program} {w : World} {K : Frag} {elts : List Expr} {kk : Nat} {tpos : Pos} (a e it : Addr) :
    Turn P w K (.Tuple elts kk tpos) (IteT K a) [e, it] e (fun i h => (∃ old, IsEnum h e it ((i : Nat) : Int) old) ∧ h.IsTupleIter it a i ∧ e ≠ it ∧ e ≠ a ∧ a ≠ it) where
  mem := by simp
  obj := fun i h st b hb => by
    obtain ⟨⟨old, he⟩, ⟨o, ho, hc, hd⟩, _⟩ := st
    have e' : b = e ∨ b = it := by simpa using hb
    rcases e' with z | z
    · rw [z]; exact ⟨_, he, fun v q => nomatch q⟩
    · rw [z]; exact ⟨o, ho, fun v q => by rw [hd] at q; cases q⟩
  keep := fun i h h' st k => let ⟨⟨old, he⟩, hi, hne⟩ := st; ⟨⟨old, k e (by simp) _ he⟩, hi.at fun o q => k it (by simp) o q, hne⟩
  item := by
    intro X hP hw hK hc i pins s σ H E I hf st hg
    subst hP hw hK
    obtain ⟨⟨old, he⟩, hit, hne, hea, hai⟩ := st
    obtain ⟨xs, x, hq, hx⟩ := hg
    obtain ⟨its, rv, p, hz⟩ := I.tuple hq
    obtain ⟨u, hu, ru⟩ := rv.get hx
    have hel : e < s.heap.objs.size := Heap.lt_size he
    have hil : it < s.heap.objs.size := by obtain ⟨_, q, _⟩ := hit; exact Heap.lt_size q
    have hlt : i < its.toArray.size := by
      have := (List.getElem?_eq_some_iff.mp hu).1
      simpa using this
    refine wpAny_pyNext_enum_itemD (Draws.tuple (show X.A.in1.handled = none from I.ok.hd hc) it a hai its.toArray) he ⟨hit, p⟩ hlt hne (by simp [hne, hea]) fun y h' tk hy ho hit' hT hsz hk => ?_
    have hyu : y = u := by
      have h1 : its.toArray[i]? = some u := by simpa using hu
      rw [h1] at hy
      exact (Option.some.inj hy).symm
    subst hyu
    refine ⟨_, rfl, wpAny_letOwnedTupleGo_enum (s := { s with heap := h', toks := tk + 1 }) ho fun h'' he' sb => ?_⟩
    have hT2 : h''.get? s.heap.objs.size = some { cls := .type "tuple", data := .seq #[.int i tk, y] } := (sb.2 _ (Nat.ne_of_gt hel)).trans hT
    have new : ObjOk X.prog X.w (upd H s.heap.objs.size (.tup [.int (i : Nat), x])) h'' s.heap.objs.size (.tup [.int (i : Nat), x]) :=
      ⟨by show 2 ≤ sizeLine; decide, [.int i tk, y], .cons ⟨_, rfl⟩ (.cons ru .nil), ⟨_, hT2, rfl, _, rfl⟩⟩
    have I1 : Inv X pins σ (upd H s.heap.objs.size (.tup [.int (i : Nat), x])) { s with heap := h'', toks := tk + 1 } :=
      I.turnedNew (ch := [e, it]) (fun b ob hb q => (sb.2 b (fun z => hb (by simp [z]))).trans (hk b ob (fun z => hb (by simp [z])) (fun z => hb (by simp [z])) q)) hf (Nat.le_refl _) new
    refine ⟨.ref s.heap.objs.size, _, I1, rfl, ⟨_, x, rfl, I.hok.fresh (Nat.le_refl _), rfl, fun ys hy => by rw [I.tuple_inj hy hq]; exact hx⟩, ⟨⟨y, ?_⟩, hit'.1.at fun o q => (sb.2 it (Ne.symm hne)).trans q, hne, hea, hai⟩, fun b hb => ?_⟩
    · have e1 : ((i + 1 : Nat) : Int) = (i : Int) + 1 := by omega
      rw [e1]; exact he'
    · have hb' : b < s.heap.objs.size := by
        have e' : b = e ∨ b = it := by simpa using hb
        rcases e' with z | z
        · rw [z]; exact hel
        · rw [z]; exact hil
      rw [upd_ne (Nat.ne_of_lt hb')]
      exact (hf b hb).1
  done := by
    intro X hP hw hK hc i pins s σ H E I hf st hg
    subst hP hw hK
    obtain ⟨⟨old, he⟩, hit, hne, hea, hai⟩ := st
    obtain ⟨xs, hq, hx⟩ := hg
    obtain ⟨its, rv, p, hz⟩ := I.tuple hq
    obtain ⟨f0, f1, f2, f3, f4, f5⟩ := hf it (by simp)
    have hl := rv.length
    have hn : its.toArray.size = i := by simp; omega
    subst hn
    exact wpAny_pyNext_enum_endD (Draws.tuple (show X.A.in1.handled = none from I.ok.hd hc) it a hai its.toArray) he ⟨hit, p⟩ fun h' eb => ⟨rfl, I.turned (t' := s.toks) (fun b o hb q => eb b o hb q) f0 f1 f3 f4 f5⟩
  self := fun A i s Q E st h => let ⟨⟨_, he⟩, _⟩ := st; wpAny_pyIter_enum he h
def iEnumT (K : Frag) (ta : TA) : TI := fun σ H R => ta σ H fun vs H1 => ∃ a xs, vs = [.ref a] ∧ SqT K H1 a xs ∧ R (IteT K a) H1
theorem pi_enumT {X : Cx} {e : Expr} {ta : TA} {p pos tpos : Pos} {elts : List Expr} {kk : Nat} (hg : Gl X "enumerate") (hm : X.mg "enumerate" = none) (ha : PA X [e] ta) (hs : starEach [e] X.env = [(false, eval e X.env)] := by rfl) :
    PI X (.Tuple elts kk tpos) (.Call (.Name "enumerate" p) [e] [] pos) (iEnumT X.K ta) := by
  refine ⟨fun pins s σ H R I h => ?_⟩
  refine Call_ (ld_blt I hg hm boot_enumerate (PyProof.Rows.callWith_type1 (thn (ha.run pos pins s σ H _ I h) fun us s1 ⟨vs, H1, I1, r1, q1⟩ => ?_) hs rfl))
  obtain ⟨a, xs, ex, hq, q⟩ := q1
  subst ex
  cases r1 with
  | cons r rr =>
    cases rr
    cases r
    obtain ⟨its, rv, p', hz⟩ := I1.tuple hq
    have hal : a < s1.heap.objs.size := by obtain ⟨_, q, _⟩ := id p'; exact Heap.lt_size q
    refine enum_begins1 (begins_tuple a its.toArray) p' fun h' he hit hsz hk => wpAny_pyIter_enum he ?_
    have I2 : Inv X pins σ H1 { s1 with heap := h' } := I1.kept (t' := s1.toks) hk
    refine ⟨s1.heap.objs.size + 1, [s1.heap.objs.size + 1, s1.heap.objs.size], _, _, H1, rfl, I2, turn_enumT a (s1.heap.objs.size + 1) s1.heap.objs.size, ⟨⟨.none, he⟩, ⟨_, hit, rfl, rfl⟩, Nat.succ_ne_self _, Nat.ne_of_gt (Nat.lt_succ_of_lt hal), Nat.ne_of_lt hal⟩, fun b hb => ?_, q⟩
    have e' : b = s1.heap.objs.size + 1 ∨ b = s1.heap.objs.size := by simpa using hb
    have hle : s1.heap.objs.size ≤ b := by
      rcases e' with z | z
      · rw [z]; exact Nat.le_add_right _ _
      · rw [z]; exact Nat.le_refl _
    exact I1.fpOk hle (I1.hok.fresh hle)
theorem walk_enumT {K : Frag} {a : Addr} {xs : List V} : Walk (IteT K a) xs.length (fun H => SqT K H a xs) (YPair (fun i => some (.int (i : Nat))) (fun i => xs[i]?)) := by
  refine ⟨fun i _ hi q => ⟨xs, xs[i], q, by simp [hi]⟩, fun _ q => ⟨xs, q, rfl⟩, fun i H v H' _ q y => ?_⟩
  obtain ⟨T, x, h1, h2, h3, h4⟩ := y
  exact ⟨T, .int (i : Nat), x, h1, h2, h3, rfl, h4 xs q⟩
def enumTD : List D → Option (List D)
  | [.tuple ds] => some (ds.mapIdx fun i d => .tuple [.int (i : Nat), d])
  | _ => none
theorem di_enumT {X : Cx} {E : XK} {p : Bool} {elts : List Expr} {kk : Nat} {e : Expr} {f : EvA} {p' pos tpos : Pos} (hm : X.mg "enumerate" = none) (h : DPA X E p [e] f) (hg : Gl X "enumerate" := by rfl) (hs : starEach [e] X.env = [(false, eval e X.env)] := by rfl) : DI X E p (.Tuple elts kk tpos) (.Call (.Name "enumerate" p') [e] [] pos) (iFn enumTD f) := by
  refine PI.mono (pi_enumT hg hm h hs) fun σ H Q z => tPA_then z fun ds r vs W env1 H1 fs1 gg he rep w e hj => ?_
  unfold enumTD at e
  split at e
  · rename_i ds
    cases e
    cases rep with
    | cons a b =>
      cases b
      cases a with
      | tup q l =>
        refine ⟨_, _, rfl, q, hj _ ?_⟩
        have hl := RepL.length l
        unfold ItOk
        rw [List.length_mapIdx, ← hl]
        refine walk_enumT.mono (fun H1 x => SqT.prot he x q) fun i H2 x H3 hi e y => ?_
        obtain ⟨T, x', y', rfl, hn, rfl, hx, hy⟩ := y
        cases hx
        have w' := fun b hb => w b (List.mem_append_left _ hb)
        obtain ⟨d, gi, e1, r1, s⟩ := RepL.get' (RepL.prot he e l w') hy
        refine ⟨same_upd hn, .tuple [.int (i : Nat), d], _, by simp [e1], pair_rep (.int _) r1 hn, fun b hb => w' b (s b (by simpa using hb))⟩
  · cases e
end DV
end
section
set_option Elab.async false
set_option linter.all false
set_option maxRecDepth 100000
namespace DV
open PySem PySem.Spec
/-! ### loops, plain -/
section
variable {α σ : Type} {ks : List Nat} {t : Tg} {b : Sv} {env env1 : Env} {c : Et}
theorem for_foldN (E : σ → Env) (J : Nat → σ → Prop) (step : σ → α → σ) (f : α → D) : ∀ (xs : List α) (n : Nat) (env : Env) (s : σ), killS ks env = E s → J n s → (∀ k s, k < n + xs.length → J k s → ∀ x ∈ xs, ∃ e1 e2, bindV t (f x) (E s) = some e1 ∧ (b e1 = .ok (.nx e2) ∨ b e1 = .ok (.ct e2)) ∧ killS ks e2 = E (step s x) ∧ J (k + 1) (step s x)) →
    forL ks t b (xs.map f) env = .ok (.nx (E (xs.foldl step s))) ∧ J (n + xs.length) (xs.foldl step s)
  | [], n, env, s, he, hj, _ => ⟨by simp only [List.map_nil, forL, he, List.foldl_nil], hj⟩
  | x :: xs, n, env, s, he, hj, h => by
    obtain ⟨e1, e2, b1, r, k, j⟩ := h n s (by simp) hj x List.mem_cons_self
    have ih := for_foldN E J step f xs (n + 1) e2 (step s x) k j fun m s hm hs x hx => h m s (by simp; omega) hs x (List.mem_cons_of_mem _ hx)
    refine ⟨?_, by rw [show n + (x :: xs).length = n + 1 + xs.length by simp; omega]; exact ih.2⟩
    simp only [List.map_cons, List.foldl_cons]
    unfold forL
    rw [he, b1]
    simp only [of_some, bind_ok]
    rcases r with r | r
    · rw [r]; exact ih.1
    · rw [r]; exact ih.1
theorem for_rangeA (E : Nat → Env) (f : Nat → D) : ∀ (m a : Nat) (env : Env), killS ks env = E a → (∀ i, a ≤ i → i < a + m → ∃ e1 e2, bindV t (f i) (E i) = some e1 ∧ (b e1 = .ok (.nx e2) ∨ b e1 = .ok (.ct e2)) ∧ killS ks e2 = E (i + 1)) → ∀ ds, forL ks t b ((List.range' a m).map f ++ ds) env = forL ks t b ds (E (a + m))
  | 0, a, env, he, _, ds => by
    simp only [List.range'_zero, List.map_nil, List.nil_append, Nat.add_zero]
    rw [← he, forL_kill]
  | m + 1, a, env, he, h, ds => by
    obtain ⟨e1, e2, b1, r, k⟩ := h a (Nat.le_refl _) (by omega)
    have ih := for_rangeA E f m (a + 1) e2 k (fun i h1 h2 => h i (by omega) (by omega)) ds
    rw [show a + (m + 1) = a + 1 + m by omega, ← ih]
    simp only [List.range'_succ, List.map_cons, List.cons_append]
    conv => lhs; unfold forL
    rw [he, b1]
    simp only [of_some, bind_ok]
    rcases r with r | r
    · rw [r]; rfl
    · rw [r]; rfl
/-- for i in range(m) -/
theorem for_range (E : Nat → Env) (f : Nat → D) {m : Nat} (h0 : killS ks env = E 0) (h : ∀ i, i < m → ∃ e1 e2, bindV t (f i) (E i) = some e1 ∧ (b e1 = .ok (.nx e2) ∨ b e1 = .ok (.ct e2)) ∧ killS ks e2 = E (i + 1)) : forL ks t b ((List.range m).map f) env = .ok (.nx (killS ks (E m))) := by
  have := for_rangeA (t := t) (b := b) E f m 0 env h0 (fun i _ hi => h i (by omega)) []
  rw [List.append_nil, Nat.zero_add] at this
  rw [List.range_eq_range', this]
  rfl
def outOf : R Out → R Out
  | .ok (.bk e) => .ok (.nx e)
  | r => r
/-- .. that ends early, at turn k -/
theorem for_range_out (E : Nat → Env) (f : Nat → D) {m k : Nat} (hk : k < m) (h0 : killS ks env = E 0) (h : ∀ i, i < k → ∃ e1 e2, bindV t (f i) (E i) = some e1 ∧ (b e1 = .ok (.nx e2) ∨ b e1 = .ok (.ct e2)) ∧ killS ks e2 = E (i + 1)) {e1 : Env} {r : R Out} (hb : bindV t (f k) (killS ks (E k)) = some e1) (hr : b e1 = r)
    (hn : (∃ d e, r = .ok (.rt d e)) ∨ (∃ c, r = .ex c) ∨ ∃ e, r = .ok (.bk e)) : forL ks t b ((List.range m).map f) env = outOf r := by
  have e1' : List.range m = List.range k ++ k :: (List.range' (k + 1) (m - k - 1)) := by
    rw [List.range_eq_range', List.range_eq_range', show m = k + (m - k) by omega, ← List.range'_append_1]
    congr 1
    rw [show m - k = (m - k - 1) + 1 by omega, Nat.zero_add, List.range'_succ, show k + (m - k - 1 + 1) - k - 1 = m - k - 1 by omega]
  have := for_rangeA (t := t) (b := b) E f k 0 env h0 (fun i _ hi => h i (by omega)) ((k :: (List.range' (k + 1) (m - k - 1))).map f)
  rw [e1', List.map_append, List.range_eq_range', this, Nat.zero_add]
  simp only [List.map_cons]
  unfold forL
  rw [hb]
  simp only [of_some, bind_ok, hr]
  rcases hn with ⟨d, e, rfl⟩ | ⟨c, rfl⟩ | ⟨e, rfl⟩ <;> rfl
/-- a list walked by its places -/
theorem for_list (E : Nat → Env) (xs : List D) (h0 : killS ks env = E 0) (h : ∀ i (hi : i < xs.length), ∃ e1 e2, bindV t xs[i] (E i) = some e1 ∧ (b e1 = .ok (.nx e2) ∨ b e1 = .ok (.ct e2)) ∧ killS ks e2 = E (i + 1)) : forL ks t b xs env = .ok (.nx (killS ks (E xs.length))) := by
  have e : xs = (List.range xs.length).map fun i => xs.getD i .none := by
    refine List.ext_getElem (by simp) fun i h1 h2 => ?_
    simp [h1]
  have := for_range (b := b) (t := t) (env := env) (ks := ks) E (fun i => xs.getD i .none) (m := xs.length) h0 fun i hi => by
    obtain ⟨e1, e2, h1, h2⟩ := h i hi
    refine ⟨e1, e2, ?_, h2⟩
    simpa [hi] using h1
  rw [← e] at this
  exact this
theorem while_go {e1 e2 : Env} (hc : c (killS ks env) = .ok (true, e1)) (hb : b e1 = .ok (.nx e2) ∨ b e1 = .ok (.ct e2)) : sWhile ks c b env = sWhile ks c b e2 := by
  rw [sWhile_eq, hc]
  simp only [bind_ok, if_true]
  rcases hb with h | h
  · rw [h]; rfl
  · rw [h]; rfl
theorem while_end {e1 : Env} (hc : c (killS ks env) = .ok (false, e1)) : sWhile ks c b env = .ok (.nx e1) := by
  rw [sWhile_eq, hc]
  rfl
end
section
variable {env : Env} {i k : Nat} {f : Epl} {g : Ev} {d e : D} {ds : List D}
@[simp] theorem eAppU_is : eAppU i f g env = (f env).bind fun x => match x.1 with
  | .list ds => (g env).bind fun y => if ds.length < 16000000 then .ok (.none, env.set i (.own (x.2 (.list (ds ++ [y.1]))))) else .no
  | _ => .no := (rfl)
@[simp] theorem sSetU_is {fk fe : Ev} : sSetU i f fk fe env = (fe env).bind fun y => (f env).bind fun x => match x.1 with
  | .list ds => (fk env).bind fun k => (R.of (setD ds k.1 y.1)).bind fun ds' => .ok (.nx (env.set i (.own (x.2 (.list ds')))))
  | _ => .no := (rfl)
@[simp] theorem plNm_is : plNm i env = (ownAt (env.at i)).bind fun d => .ok (d, id) := (rfl)
@[simp] theorem plIx_is : plIx f g env = (f env).bind fun x => (g env).bind fun y => (R.of (ixPl x.1 y.1)).bind fun z => .ok (z.1, fun e => x.2 (z.2 e)) := (rfl)
theorem ixPl_nat (h : ds[k]? = some e) : ixPl (.list ds) (.int (k : Nat)) = some (e, fun e' => .list (ds.set k e')) := by
  unfold ixPl
  simp only
  rw [ixN_nat (List.getElem?_eq_some_iff.mp h).1]
  simp only [Option.bind_some, h, Option.map_some]
@[simp] theorem eMove_is' : eMove i env = (ownAt (env.at i)).bind fun d => .ok (d, env.set i .dead) := (rfl)
@[simp] theorem sRaise_is {c : Str} {a : EvA} : sRaise c a env = (a env).bind fun x => match x.1 with
  | .str z :: r => (match r with
    | [] => .ex ⟨c, "reason", .str z⟩
    | _ => .no)
  | _ => .no := (rfl)
@[simp] theorem sTryRef_is {y : Str} {s : Sv} : sTryRef y s env = match s env with
  | .ok o => .ok o
  | .no => .no
  | .ex c => if c.cls = y ∧ c.fld = "reason" then (match c.arg with
    | .str z => .ok (.rt (.str z) [])
    | _ => .no) else .no := (rfl)
theorem enumTD_tuple : enumTD [.tuple ds] = some (ds.mapIdx fun i d => .tuple [.int (i : Nat), d]) := rfl
theorem enumTD_map {α : Type} {xs : List α} {h : α → D} : enumTD [.tuple (xs.map h)] = some (xs.zipIdx.map fun x => .tuple [.int (x.2 : Nat), h x.1]) := by
  show some _ = _
  congr 1
  rw [List.mapIdx_eq_zipIdx_map, List.zipIdx_map, List.map_map]
  rfl
end
end DV
end
section
set_option Elab.async false
set_option linter.all false
set_option maxRecDepth 100000
set_option maxHeartbeats 0
namespace HeadT
open PySem PySem.Spec PyProof.Rows L2
def top (i : Nat) : Stmt := PySem.Challenge.pw_setinlines_k69_two_texts_of_sixty_parts.main.body.getD i (.Pass ⟨0, 0, 0, 0⟩)
abbrev s0 : Stmt := top 5
def d0 : He.DefD := ⟨("is_integer", none), "is_integer", "is_integer", defArgs s0, defBody s0, defScope s0, [], []⟩
abbrev s1 : Stmt := top 10
def d1 : He.DefD := ⟨("check_sizes", none), "check_sizes", "check_sizes", defArgs s1, defBody s1, defScope s1, [], []⟩
abbrev s2 : Stmt := top 11
def d2 : He.DefD := ⟨("check_prices", none), "check_prices", "check_prices", defArgs s2, defBody s2, defScope s2, [], []⟩
abbrev s3 : Stmt := top 12
def d3 : He.DefD := ⟨("check_texts", none), "check_texts", "check_texts", defArgs s3, defBody s3, defScope s3, [], []⟩
abbrev s4 : Stmt := top 13
def d4 : He.DefD := ⟨("step_price", none), "step_price", "step_price", defArgs s4, defBody s4, defScope s4, [], []⟩
abbrev s5 : Stmt := top 14
def d5 : He.DefD := ⟨("table_of", none), "table_of", "table_of", defArgs s5, defBody s5, defScope s5, [], []⟩
abbrev s6 : Stmt := top 15
def d6 : He.DefD := ⟨("table", none), "table", "table", defArgs s6, defBody s6, defScope s6, [], []⟩
abbrev s7 : Stmt := top 16
def d7 : He.DefD := ⟨("aligned", none), "aligned", "aligned", defArgs s7, defBody s7, defScope s7, [], []⟩
abbrev s8 : Stmt := top 17
def d8 : He.DefD := ⟨("accept_steps", none), "accept_steps", "accept_steps", defArgs s8, defBody s8, defScope s8, [], []⟩
abbrev s9 : Stmt := top 18
def d9 : He.DefD := ⟨("accept_table", none), "accept_table", "accept_table", defArgs s9, defBody s9, defScope s9, [], []⟩
abbrev s10 : Stmt := top 19
def d10 : He.DefD := ⟨("pairs", none), "pairs", "pairs", defArgs s10, defBody s10, defScope s10, [], []⟩
abbrev s11 : Stmt := top 20
def d11 : He.DefD := ⟨("check_rows", none), "check_rows", "check_rows", defArgs s11, defBody s11, defScope s11, [], []⟩
abbrev s12 : Stmt := top 21
def d12 : He.DefD := ⟨("height_of", none), "height_of", "height_of", defArgs s12, defBody s12, defScope s12, [], []⟩
abbrev s13 : Stmt := top 22
def d13 : He.DefD := ⟨("page_prices", none), "page_prices", "page_prices", defArgs s13, defBody s13, defScope s13, [], []⟩
abbrev s14 : Stmt := top 23
def d14 : He.DefD := ⟨("check_height", none), "check_height", "check_height", defArgs s14, defBody s14, defScope s14, [], []⟩
abbrev s15 : Stmt := top 24
def d15 : He.DefD := ⟨("judge_pages", none), "judge_pages", "judge_pages", defArgs s15, defBody s15, defScope s15, [], []⟩
abbrev s16 : Stmt := top 25
def d16 : He.DefD := ⟨("accept_pages", none), "accept_pages", "accept_pages", defArgs s16, defBody s16, defScope s16, [], []⟩
abbrev s17 : Stmt := top 27
def d17 : He.DefD := ⟨("_law_start", none), "_law_start", "_law_start", defArgs s17, defBody s17, defScope s17, [], []⟩
abbrev s18 : Stmt := top 28
def d18 : He.DefD := ⟨("_law_draw", none), "_law_draw", "_law_draw", defArgs s18, defBody s18, defScope s18, [], []⟩
abbrev s19 : Stmt := top 29
def d19 : He.DefD := ⟨("_law_pick", none), "_law_pick", "_law_pick", defArgs s19, defBody s19, defScope s19, [], []⟩
abbrev s20 : Stmt := top 30
def d20 : He.DefD := ⟨("_law_same", none), "_law_same", "_law_same", defArgs s20, defBody s20, defScope s20, [], []⟩
abbrev s21 : Stmt := top 31
def d21 : He.DefD := ⟨("_law_text", none), "_law_text", "_law_text", defArgs s21, defBody s21, defScope s21, [], []⟩
abbrev s22 : Stmt := top 32
def d22 : He.DefD := ⟨("_law_near", none), "_law_near", "_law_near", defArgs s22, defBody s22, defScope s22, [], []⟩
abbrev s23 : Stmt := top 33
def d23 : He.DefD := ⟨("_law_steps", none), "_law_steps", "_law_steps", defArgs s23, defBody s23, defScope s23, [], []⟩
abbrev s24 : Stmt := top 34
def d24 : He.DefD := ⟨("_law_added", none), "_law_added", "_law_added", defArgs s24, defBody s24, defScope s24, [], []⟩
abbrev s25 : Stmt := top 35
def d25 : He.DefD := ⟨("_law_table", none), "_law_table", "_law_table", defArgs s25, defBody s25, defScope s25, [], []⟩
abbrev s26 : Stmt := top 36
def d26 : He.DefD := ⟨("_law_row", none), "_law_row", "_law_row", defArgs s26, defBody s26, defScope s26, [], []⟩
abbrev s27 : Stmt := top 37
def d27 : He.DefD := ⟨("_law_pairs", none), "_law_pairs", "_law_pairs", defArgs s27, defBody s27, defScope s27, [], []⟩
abbrev s28 : Stmt := top 38
def d28 : He.DefD := ⟨("_law_refused", none), "_law_refused", "_law_refused", defArgs s28, defBody s28, defScope s28, [], []⟩
abbrev s29 : Stmt := top 39
def d29 : He.DefD := ⟨("_law_texts_hold", none), "_law_texts_hold", "_law_texts_hold", defArgs s29, defBody s29, defScope s29, [], []⟩
abbrev s30 : Stmt := top 40
def d30 : He.DefD := ⟨("_law_pages", none), "_law_pages", "_law_pages", defArgs s30, defBody s30, defScope s30, [], []⟩
abbrev s31 : Stmt := top 41
def d31 : He.DefD := ⟨("law", none), "law", "law", defArgs s31, defBody s31, defScope s31, [], []⟩
def fn : List He.DefD := [d0, d1, d2, d3, d4, d5, d6, d7, d8, d9, d10, d11, d12, d13, d14, d15, d16, d17, d18, d19, d20, d21, d22, d23, d24, d25, d26, d27, d28, d29, d30, d31]
def fa : List He.Fa := [.glo "is_integer",
  .glo "check_sizes",
  .glo "check_prices",
  .glo "check_texts",
  .glo "step_price",
  .glo "table_of",
  .glo "table",
  .glo "aligned",
  .glo "accept_steps",
  .glo "accept_table",
  .glo "pairs",
  .glo "check_rows",
  .glo "height_of",
  .glo "page_prices",
  .glo "check_height",
  .glo "judge_pages",
  .glo "accept_pages",
  .glo "_law_start",
  .glo "_law_draw",
  .glo "_law_pick",
  .glo "_law_same",
  .glo "_law_text",
  .glo "_law_near",
  .glo "_law_steps",
  .glo "_law_added",
  .glo "_law_table",
  .glo "_law_row",
  .glo "_law_pairs",
  .glo "_law_refused",
  .glo "_law_texts_hold",
  .glo "_law_pages",
  .glo "law",
  .glo "PaperError",
  .glo "SetError",
  .exm "PaperError" "SetError" true,
  .free "ValueError",
  .free "abs",
  .free "all",
  .free "bool",
  .free "enumerate",
  .free "int",
  .free "isinstance",
  .free "len",
  .free "list",
  .free "max",
  .free "min",
  .free "range",
  .free "repr",
  .free "sum",
  .free "super",
  .free "tuple",
  .free "zip",
  .int "MAX_WIDTH" 100000,
  .int "MAX_BLOCKS" 60]
def loose0 : List PySem.Str := ["SetError", "ArgumentError", "PaperError", "is_integer", "MAX_WIDTH", "MAX_BLOCKS", "STEPS", "check_sizes", "check_prices", "check_texts", "step_price", "table_of", "table", "aligned", "accept_steps", "accept_table", "pairs", "check_rows", "height_of", "page_prices", "check_height", "judge_pages", "accept_pages", "_law_start", "_law_draw", "_law_pick", "_law_same", "_law_text", "_law_near", "_law_steps"]
def loose1 : List PySem.Str := ["_law_added", "_law_table", "_law_row", "_law_pairs", "_law_refused", "_law_texts_hold", "_law_pages"]
def loose : List PySem.Str := loose0 ++ loose1
def C_STEPS : DV.D := .tuple [.tuple [.int 1, .int 1], .tuple [.int 1, .int 0], .tuple [.int 0, .int 1], .tuple [.int 2, .int 1], .tuple [.int 1, .int 2]]
def ex (K : PySem.W.Frag) : Bool := (DV.xcB PySem.Challenge.pw_setinlines_k69_two_texts_of_sixty_parts.main.file K (He.ga K "PaperError") && (xfB K (He.ga K "PaperError") && (DV.datB K "STEPS" C_STEPS && true)))
abbrev R : PySem.W.OpenRow := PySem.W.OpenLaw.row PySem.Challenge.rw_setinlines_k69_two_texts_of_sixty_parts
abbrev hk : PySem.W.Hook := DV.hookE 4 fa fn ex
def ob (s : PySem.W.SharedT) : DV.AlE := DV.obsE 4 fa fn ex (HandSHeadRun.getT s)
theorem ob_eq (s : PySem.W.SharedT) : ob s = hk.obs s.abs := DV.obsE_eq (HandSHeadRun.getT_eq s)
theorem run (w : World) : HandSHeadRun.RunEq R (PySem.W.view R.prog [41]) hk ob 2000 loose w := by
  intro os
  kernel_rfl
end HeadT
end
section
set_option Elab.async false
set_option linter.all false
set_option maxRecDepth 100000
set_option maxHeartbeats 0
namespace FnT
open PySem PySem.Spec PyProof.Rows L2 DV HeadT
noncomputable section
abbrev FnP (K : PySem.W.Frag) (x : Str) (st : Stmt) (f : Addr) (fd : FuncData) : Prop := FunD K x x (defArgs st) (defBody st) (defScope st) [] [] f fd
/-- what stands behind the top -/
structure MF (P : Program) (K : PySem.W.Frag) (mg : Str → Option Value) where
  a__law_start : Addr
  fd__law_start : FuncData
  F__law_start : FnP K "_law_start" s17 a__law_start fd__law_start
  m__law_start : mg "_law_start" = some (.ref a__law_start)
  a__law_draw : Addr
  fd__law_draw : FuncData
  F__law_draw : FnP K "_law_draw" s18 a__law_draw fd__law_draw
  m__law_draw : mg "_law_draw" = some (.ref a__law_draw)
  a__law_pick : Addr
  fd__law_pick : FuncData
  F__law_pick : FnP K "_law_pick" s19 a__law_pick fd__law_pick
  m__law_pick : mg "_law_pick" = some (.ref a__law_pick)
  a__law_text : Addr
  fd__law_text : FuncData
  F__law_text : FnP K "_law_text" s21 a__law_text fd__law_text
  m__law_text : mg "_law_text" = some (.ref a__law_text)
  a__law_steps : Addr
  fd__law_steps : FuncData
  F__law_steps : FnP K "_law_steps" s23 a__law_steps fd__law_steps
  m__law_steps : mg "_law_steps" = some (.ref a__law_steps)
  a__law_added : Addr
  fd__law_added : FuncData
  F__law_added : FnP K "_law_added" s24 a__law_added fd__law_added
  m__law_added : mg "_law_added" = some (.ref a__law_added)
  a__law_table : Addr
  fd__law_table : FuncData
  F__law_table : FnP K "_law_table" s25 a__law_table fd__law_table
  m__law_table : mg "_law_table" = some (.ref a__law_table)
  a_is_integer : Addr
  fd_is_integer : FuncData
  F_is_integer : FnP K "is_integer" s0 a_is_integer fd_is_integer
  m_is_integer : mg "is_integer" = some (.ref a_is_integer)
  a_check_sizes : Addr
  fd_check_sizes : FuncData
  F_check_sizes : FnP K "check_sizes" s1 a_check_sizes fd_check_sizes
  m_check_sizes : mg "check_sizes" = some (.ref a_check_sizes)
  a_check_prices : Addr
  fd_check_prices : FuncData
  F_check_prices : FnP K "check_prices" s2 a_check_prices fd_check_prices
  m_check_prices : mg "check_prices" = some (.ref a_check_prices)
  a_check_texts : Addr
  fd_check_texts : FuncData
  F_check_texts : FnP K "check_texts" s3 a_check_texts fd_check_texts
  m_check_texts : mg "check_texts" = some (.ref a_check_texts)
  a_step_price : Addr
  fd_step_price : FuncData
  F_step_price : FnP K "step_price" s4 a_step_price fd_step_price
  m_step_price : mg "step_price" = some (.ref a_step_price)
  a_table_of : Addr
  fd_table_of : FuncData
  F_table_of : FnP K "table_of" s5 a_table_of fd_table_of
  m_table_of : mg "table_of" = some (.ref a_table_of)
  a_table : Addr
  fd_table : FuncData
  F_table : FnP K "table" s6 a_table fd_table
  m_table : mg "table" = some (.ref a_table)
  a__law_row : Addr
  fd__law_row : FuncData
  F__law_row : FnP K "_law_row" s26 a__law_row fd__law_row
  m__law_row : mg "_law_row" = some (.ref a__law_row)
  a__law_same : Addr
  fd__law_same : FuncData
  F__law_same : FnP K "_law_same" s20 a__law_same fd__law_same
  m__law_same : mg "_law_same" = some (.ref a__law_same)
  a_aligned : Addr
  fd_aligned : FuncData
  F_aligned : FnP K "aligned" s7 a_aligned fd_aligned
  m_aligned : mg "aligned" = some (.ref a_aligned)
  a_accept_steps : Addr
  fd_accept_steps : FuncData
  F_accept_steps : FnP K "accept_steps" s8 a_accept_steps fd_accept_steps
  m_accept_steps : mg "accept_steps" = some (.ref a_accept_steps)
  a_accept_table : Addr
  fd_accept_table : FuncData
  F_accept_table : FnP K "accept_table" s9 a_accept_table fd_accept_table
  m_accept_table : mg "accept_table" = some (.ref a_accept_table)
  a__law_refused : Addr
  fd__law_refused : FuncData
  F__law_refused : FnP K "_law_refused" s28 a__law_refused fd__law_refused
  m__law_refused : mg "_law_refused" = some (.ref a__law_refused)
  a__law_near : Addr
  fd__law_near : FuncData
  F__law_near : FnP K "_law_near" s22 a__law_near fd__law_near
  m__law_near : mg "_law_near" = some (.ref a__law_near)
  a_pairs : Addr
  fd_pairs : FuncData
  F_pairs : FnP K "pairs" s10 a_pairs fd_pairs
  m_pairs : mg "pairs" = some (.ref a_pairs)
  a__law_pairs : Addr
  fd__law_pairs : FuncData
  F__law_pairs : FnP K "_law_pairs" s27 a__law_pairs fd__law_pairs
  m__law_pairs : mg "_law_pairs" = some (.ref a__law_pairs)
  a__law_texts_hold : Addr
  fd__law_texts_hold : FuncData
  F__law_texts_hold : FnP K "_law_texts_hold" s29 a__law_texts_hold fd__law_texts_hold
  m__law_texts_hold : mg "_law_texts_hold" = some (.ref a__law_texts_hold)
  a__law_pages : Addr
  fd__law_pages : FuncData
  F__law_pages : FnP K "_law_pages" s30 a__law_pages fd__law_pages
  m__law_pages : mg "_law_pages" = some (.ref a__law_pages)
  a_check_rows : Addr
  fd_check_rows : FuncData
  F_check_rows : FnP K "check_rows" s11 a_check_rows fd_check_rows
  m_check_rows : mg "check_rows" = some (.ref a_check_rows)
  a_check_height : Addr
  fd_check_height : FuncData
  F_check_height : FnP K "check_height" s14 a_check_height fd_check_height
  m_check_height : mg "check_height" = some (.ref a_check_height)
  a_height_of : Addr
  fd_height_of : FuncData
  F_height_of : FnP K "height_of" s12 a_height_of fd_height_of
  m_height_of : mg "height_of" = some (.ref a_height_of)
  a_accept_pages : Addr
  fd_accept_pages : FuncData
  F_accept_pages : FnP K "accept_pages" s16 a_accept_pages fd_accept_pages
  m_accept_pages : mg "accept_pages" = some (.ref a_accept_pages)
  a_page_prices : Addr
  fd_page_prices : FuncData
  F_page_prices : FnP K "page_prices" s13 a_page_prices fd_page_prices
  m_page_prices : mg "page_prices" = some (.ref a_page_prices)
  a_judge_pages : Addr
  fd_judge_pages : FuncData
  F_judge_pages : FnP K "judge_pages" s15 a_judge_pages fd_judge_pages
  m_judge_pages : mg "judge_pages" = some (.ref a_judge_pages)
  a_law : Addr
  fd_law : FuncData
  F_law : FnP K "law" s31 a_law fd_law
  m_law : mg "law" = some (.ref a_law)
  z_abs : mg "abs" = none
  z_all : mg "all" = none
  z_bool : mg "bool" = none
  z_enumerate : mg "enumerate" = none
  z_int : mg "int" = none
  z_isinstance : mg "isinstance" = none
  z_len : mg "len" = none
  z_list : mg "list" = none
  z_max : mg "max" = none
  z_min : mg "min" = none
  z_range : mg "range" = none
  z_repr : mg "repr" = none
  z_sum : mg "sum" = none
  z_tuple : mg "tuple" = none
  z_zip : mg "zip" = none
  c_MAX_WIDTH : ∃ t : Tok, mg "MAX_WIDTH" = some (.int 100000 t)
  c_MAX_BLOCKS : ∃ t : Tok, mg "MAX_BLOCKS" = some (.int 60 t)
  x_PaperError : XC P K (He.ga K "PaperError")
  xf_PaperError : XfC K (He.ga K "PaperError")
  mx_PaperError : mg "PaperError" = some (.ref (He.ga K "PaperError"))
  ex_PaperError : PySem.W.exmOne K (.ref (He.ga K "PaperError")) (.ref (He.ga K "SetError")) = some true
  mx_SetError : mg "SetError" = some (.ref (He.ga K "SetError"))
  z_super : mg "super" = none
  g_STEPS : GDat K mg "STEPS" C_STEPS
variable {P : Program} {w : World} {K : PySem.W.Frag} {mg : Str → Option Value} {base : Heap}
/-! _law_start -/
theorem sc__law_start : FnScope ["script", "seed", "cell"] ["script"] (defScope s17) := ⟨rfl, rfl, rfl, by decide +kernel, rfl, by decide +kernel, by decide +kernel⟩
theorem nd__law_start : List.Nodup (["script", "seed", "cell"] : List Str) := sc__law_start.nd
theorem bi__law_start (m : MF P K mg) : Binds K m.fd__law_start ["script"] [] := m.F__law_start.bindsN fun _ _ _ _ _ _ us hl => match us, hl with | [_], _ => rfl
theorem g__law_start (m : MF P K mg) : FnG P w K mg base CX0 1 m.a__law_start m.fd__law_start ["script"] (spStart K) := by
  refine FunD.okG m.F__law_start sc__law_start (fun vs H Q E ⟨a, ns, e, _⟩ => by rw [e]; rfl) fun cdv A out s H vs Q E room gd pr => ⟨tStart K E, ?_, start_run pr⟩
  have hp : PassesOwn (model P w) (cxOf CX0 P w K mg base ["script", "seed", "cell"] "_law_start" (defScope s17) m.a__law_start cdv A out s H E).A _ _ := passes_of rfl
  exact pss_cons (ds_set (i := 1) (p := true) nd__law_start de_int)
    (pss_cons (ps_for hp rfl (pi_list (pe_var (i := 0) rfl (.inl rfl) (by decide) (by decide))) (tG_len (dg_name nd__law_start (i := 2)))
      (db_cons (ds_set (i := 1) (p := true) nd__law_start (de_op (p1 := true) (o1 := true) (p2 := true) (o2 := true) op_addV (de_op (p1 := true) (o1 := true) (p2 := true) (o2 := true) op_modV (de_callT (p := true) (o := true) cr_intV m.z_int (da_cons (p1 := true) (o1 := true) (p2 := true) (o2 := true) (de_op (p1 := true) (o1 := true) (p2 := true) (o2 := false) op_addV (de_op (p1 := true) (o1 := false) (p2 := true) (o2 := true) op_mulV (de_read (i := 1)) de_int) (de_read (i := 2))) da_nil)) de_int) de_int)) db_nil))
    (pss_cons (ps_ret (pe_lst (pa_cons (pe_callTy call_list_of rfl m.z_list (by decide +kernel) (pa_cons (pe_var (i := 0) rfl (.inl rfl) (by decide) (by decide)) pa_nil)) (pa_cons pe_int (pa_cons pe_int (pa_cons (pe_var (i := 1) rfl (.inl rfl) (by decide) (by decide)) pa_nil)))))) pss_nil))
/-! _law_draw -/
theorem sc__law_draw : FnScope ["state", "many", "value"] ["state", "many"] (defScope s18) := ⟨rfl, rfl, rfl, by decide +kernel, rfl, by decide +kernel, by decide +kernel⟩
theorem nd__law_draw : List.Nodup (["state", "many", "value"] : List Str) := sc__law_draw.nd
theorem bi__law_draw (m : MF P K mg) : Binds K m.fd__law_draw ["state", "many"] [] := m.F__law_draw.bindsN fun _ _ _ _ _ _ us hl => match us, hl with | [_, _], _ => rfl
def f__law_draw : Sv := (sSeq (sIf (tAndE (eT (eBin eqD (eIx (eRead 0) (eC (.int 1))) (eC (.int 0)))) (eT (eBin geD (eIx (eRead 0) (eC (.int 2))) (eCall lenD (aCons (eIx (eRead 0) (eC (.int 0))) aNil)))))
  (sSeq (sSetIx 0 (eC (.int 3)) (eBin modD (eCall intD (aCons (eBin addD (eBin mulD (eIx (eRead 0) (eC (.int 3))) (eC (.int 48271))) (eC (.int 69621))) aNil)) (eC (.int 2147483629))))
  (sSeq (sRet (eBin modD (eCall intD (aCons (eBin fdivD (eIx (eRead 0) (eC (.int 3))) (eC (.int 13))) aNil)) (eRead 1)))
  sNx))
  sNx)
  (sSeq (sIf (eT (eBin eqD (eIx (eRead 0) (eC (.int 1))) (eC (.int 0))))
  (sSeq (sSetIx 0 (eC (.int 1)) (eCall absD (aCons (eIx (eIx (eRead 0) (eC (.int 0))) (eIx (eRead 0) (eC (.int 2)))) aNil)))
  (sSeq (sSetIx 0 (eC (.int 2)) (eBin addD (eIx (eRead 0) (eC (.int 2))) (eC (.int 1))))
  sNx))
  sNx)
  (sSeq (sSet 2 (eBin modD (eCall intD (aCons (eIx (eRead 0) (eC (.int 1))) aNil)) (eRead 1)))
  (sSeq (sSetIx 0 (eC (.int 1)) (eBin fdivD (eIx (eRead 0) (eC (.int 1))) (eRead 1)))
  (sSeq (sRet (eImm (eRead 2)))
  sNx)))))
def D__law_draw : Den := denOf 1 (some 0) f__law_draw
theorem g__law_draw (m : MF P K mg) : FnG P w K mg base CX0 1 m.a__law_draw m.fd__law_draw ["state", "many"] (spD K 2 (some 0) D__law_draw) := by
  refine fn_den (A' := [2]) m.F__law_draw sc__law_draw (by intro k hk; first | (cases hk; done) | (cases hk; decide)) (by intro k hk; first | (cases hk; done) | (cases hk; decide)) fun cdv A out s H E room gd => ?_
  have hp : PassesOwn (model P w) (cxOf CX0 P w K mg base ["state", "many", "value"] "_law_draw" (defScope s18) m.a__law_draw cdv A out s H E).A _ _ := passes_of rfl
  have hu : (cxOf CX0 P w K mg base ["state", "many", "value"] "_law_draw" (defScope s18) m.a__law_draw cdv A out s H E).A.units + 64 < cLine := by have := room.un; show (A.deeper _).units + 64 < cLine; omega
  exact db_sub (db_cons (ds_if (p := true) (dt_w (dw_and (p1 := true) (p2 := true) (dt_cmp (p1 := true) (o1 := false) (p2 := true) (o2 := true) (op_eqV hu) (de_ix (p1 := true) (o1 := false) (p2 := true) (o2 := true) (de_read (i := 0)) de_int) de_int) (dw_and1 (p := true) (dt_cmp (p1 := true) (o1 := false) (p2 := true) (o2 := true) (op_geV hu) (de_ix (p1 := true) (o1 := false) (p2 := true) (o2 := true) (de_read (i := 0)) de_int) (de_callB (p := true) (o := false) cr_lenV m.z_len (da_cons (p1 := true) (o1 := false) (p2 := true) (o2 := true) (de_ix (p1 := true) (o1 := false) (p2 := true) (o2 := true) (de_read (i := 0)) de_int) da_nil))))))
  (db_cons (ds_setIx (i := 0) (p := true) (o := true) (de_op (p1 := true) (o1 := true) (p2 := true) (o2 := true) op_modV (de_callT (p := true) (o := true) cr_intV m.z_int (da_cons (p1 := true) (o1 := true) (p2 := true) (o2 := true) (de_op (p1 := true) (o1 := true) (p2 := true) (o2 := true) op_addV (de_op (p1 := true) (o1 := false) (p2 := true) (o2 := true) op_mulV (de_ix (p1 := true) (o1 := false) (p2 := true) (o2 := true) (de_read (i := 0)) de_int) de_int) de_int) da_nil)) de_int) de_int)
  (db_cons (ds_ret (p := true) (de_op (p1 := true) (o1 := true) (p2 := true) (o2 := false) op_modV (de_callT (p := true) (o := true) cr_intV m.z_int (da_cons (p1 := true) (o1 := true) (p2 := true) (o2 := true) (de_op (p1 := true) (o1 := false) (p2 := true) (o2 := true) op_fdivV (de_ix (p1 := true) (o1 := false) (p2 := true) (o2 := true) (de_read (i := 0)) de_int) de_int) da_nil)) (de_read (i := 1))))
  db_nil))
  db_nil)
  (db_cons (ds_if (p := true) (dt_cmp (p1 := true) (o1 := false) (p2 := true) (o2 := true) (op_eqV hu) (de_ix (p1 := true) (o1 := false) (p2 := true) (o2 := true) (de_read (i := 0)) de_int) de_int)
  (db_cons (ds_setIx (i := 0) (p := true) (o := true) (de_callB (p := true) (o := false) cr_absV m.z_abs (da_cons (p1 := true) (o1 := false) (p2 := true) (o2 := true) (de_ix (p1 := true) (o1 := false) (p2 := true) (o2 := false) (de_ix (p1 := true) (o1 := false) (p2 := true) (o2 := true) (de_read (i := 0)) de_int) (de_ix (p1 := true) (o1 := false) (p2 := true) (o2 := true) (de_read (i := 0)) de_int)) da_nil)) de_int)
  (db_cons (ds_setIx (i := 0) (p := true) (o := true) (de_op (p1 := true) (o1 := false) (p2 := true) (o2 := true) op_addV (de_ix (p1 := true) (o1 := false) (p2 := true) (o2 := true) (de_read (i := 0)) de_int) de_int) de_int)
  db_nil))
  db_nil)
  (db_cons (ds_set (i := 2) (p := true) nd__law_draw (de_op (p1 := true) (o1 := true) (p2 := true) (o2 := false) op_modV (de_callT (p := true) (o := false) cr_intV m.z_int (da_cons (p1 := true) (o1 := false) (p2 := true) (o2 := true) (de_ix (p1 := true) (o1 := false) (p2 := true) (o2 := true) (de_read (i := 0)) de_int) da_nil)) (de_read (i := 1))))
  (db_cons (ds_setIx (i := 0) (p := true) (o := true) (de_op (p1 := true) (o1 := false) (p2 := true) (o2 := false) op_fdivV (de_ix (p1 := true) (o1 := false) (p2 := true) (o2 := true) (de_read (i := 0)) de_int) (de_read (i := 1))) de_int)
  (db_cons (ds_ret (p := true) (de_imm (p := true) (o := false) (de_read (i := 2))))
  db_nil))))) (by decide)
/-! _law_pick -/
theorem sc__law_pick : FnScope ["state", "some"] ["state", "some"] (defScope s19) := ⟨rfl, rfl, rfl, by decide +kernel, rfl, by decide +kernel, by decide +kernel⟩
theorem nd__law_pick : List.Nodup (["state", "some"] : List Str) := sc__law_pick.nd
theorem bi__law_pick (m : MF P K mg) : Binds K m.fd__law_pick ["state", "some"] [] := m.F__law_pick.bindsN fun _ _ _ _ _ _ us hl => match us, hl with | [_, _], _ => rfl
def f__law_pick : Sv := (sSeq (sRet (eImm (eIx (eReadP 1) (eFnIO 2 0 (D__law_draw) (zHere 0 (aCons (eCall lenD (aCons (eRead 1) aNil)) aNil))))))
  sNx)
def D__law_pick : Den := denOf 0 (some 0) f__law_pick
theorem g__law_pick (m : MF P K mg) : FnG P w K mg base CX0 2 m.a__law_pick m.fd__law_pick ["state", "some"] (spD K 2 (some 0) D__law_pick) := by
  refine fn_den (A' := []) m.F__law_pick sc__law_pick (by intro k hk; first | (cases hk; done) | (cases hk; decide)) (by intro k hk; first | (cases hk; done) | (cases hk; decide)) fun cdv A out s H E room gd => ?_
  have hp : PassesOwn (model P w) (cxOf CX0 P w K mg base ["state", "some"] "_law_pick" (defScope s19) m.a__law_pick cdv A out s H E).A _ _ := passes_of rfl
  have hu : (cxOf CX0 P w K mg base ["state", "some"] "_law_pick" (defScope s19) m.a__law_pick cdv A out s H E).A.units + 64 < cLine := by have := room.un; show (A.deeper _).units + 64 < cLine; omega
  exact db_sub (db_cons (ds_ret (p := false) (de_imm (p := false) (o := false) (de_ofQ (p := false) (dq_ix (p1 := true) (p2 := false) (o2 := true) (dq_read (i := 1)) (de_fnIO (p := true) ((g__law_draw m).more (by decide)) room gd m.m__law_draw m.F__law_draw.kp (bi__law_draw m) pass0 (dio_here (p := true) (i := 0) (dza_cons (p1 := true) (p2 := true) (dz_own (p := true) (de_callB (p := true) (o := false) cr_lenV m.z_len (da_cons (p1 := true) (o1 := false) (p2 := true) (o2 := true) (de_read (i := 1)) da_nil))) dza_nil)))))))
  db_nil) (by decide)
/-! _law_text -/
theorem sc__law_text : FnScope ["state", "most", "top", "k"] ["state", "most"] (defScope s21) := ⟨rfl, rfl, rfl, by decide +kernel, rfl, by decide +kernel, by decide +kernel⟩
theorem nd__law_text : List.Nodup (["state", "most", "top", "k"] : List Str) := sc__law_text.nd
theorem bi__law_text (m : MF P K mg) : Binds K m.fd__law_text ["state", "most"] [] := m.F__law_text.bindsN fun _ _ _ _ _ _ us hl => match us, hl with | [_, _], _ => rfl
def f__law_text : Sv := (sSeq (sSet 2 (eFnIO 2 0 (D__law_pick) (zHere 0 (aCons (eLst (aCons (eC (.int 3)) (aCons (eC (.int 20)) (aCons (eC (.int 900)) aNil)))) aNil))))
  (sSeq (sRet (eCall tupleD (aCons (eLc [3] (.nm 3) (iFn rng1D (aCons (eFnIO 2 0 (D__law_draw) (zHere 0 (aCons (eBin addD (eRead 1) (eC (.int 1))) aNil))) aNil)) tYesE (eFnIO 2 0 (D__law_draw) (zHere 0 (aCons (eBin addD (eRead 2) (eC (.int 1))) aNil)))) aNil)))
  sNx))
def D__law_text : Den := denOf 2 (some 0) f__law_text
theorem g__law_text (m : MF P K mg) : FnG P w K mg base CX0 3 m.a__law_text m.fd__law_text ["state", "most"] (spD K 2 (some 0) D__law_text) := by
  refine fn_den (A' := [2]) m.F__law_text sc__law_text (by intro k hk; first | (cases hk; done) | (cases hk; decide)) (by intro k hk; first | (cases hk; done) | (cases hk; decide)) fun cdv A out s H E room gd => ?_
  have hp : PassesOwn (model P w) (cxOf CX0 P w K mg base ["state", "most", "top", "k"] "_law_text" (defScope s21) m.a__law_text cdv A out s H E).A _ _ := passes_of rfl
  have hu : (cxOf CX0 P w K mg base ["state", "most", "top", "k"] "_law_text" (defScope s21) m.a__law_text cdv A out s H E).A.units + 64 < cLine := by have := room.un; show (A.deeper _).units + 64 < cLine; omega
  exact db_sub (db_cons (ds_set (i := 2) (p := false) nd__law_text (de_fnIO (p := true) ((g__law_pick m).more (by decide)) room gd m.m__law_pick m.F__law_pick.kp (bi__law_pick m) pass0 (dio_here (p := true) (i := 0) (dza_cons (p1 := true) (p2 := true) (dz_own (p := true) (de_lst (p := true) (o := true) (da_cons (p1 := true) (o1 := true) (p2 := true) (o2 := true) de_int (da_cons (p1 := true) (o1 := true) (p2 := true) (o2 := true) de_int (da_cons (p1 := true) (o1 := true) (p2 := true) (o2 := true) de_int da_nil))))) dza_nil))))
  (db_cons (ds_ret (p := false) (de_callT (p := false) (o := true) cr_tupleV m.z_tuple (da_cons (p1 := false) (o1 := true) (p2 := true) (o2 := true) (de_lc (own := [("k", 3)]) (p1 := false) (p2 := true) (p3 := false) rfl nd__law_text (di_range1 (p := false) (o := true) m.z_range (da_cons (p1 := false) (o1 := true) (p2 := true) (o2 := true) (de_fnIO (p := true) ((g__law_draw m).more (by decide)) room gd m.m__law_draw m.F__law_draw.kp (bi__law_draw m) pass0 (dio_here (p := true) (i := 0) (dza_cons (p1 := true) (p2 := true) (dz_own (p := true) (de_op (p1 := true) (o1 := false) (p2 := true) (o2 := true) op_addV (de_read (i := 1)) de_int)) dza_nil))) da_nil)) (blkOk_by (own := [("k", 3)]) (by kernel_rfl)) (fun _ _ _ _ _ => (dg_name nd__law_text (i := 3))) (fun _ _ _ _ _ => dts_nil) (fun _ _ _ _ _ => (de_fnIO (p := true) ((g__law_draw m).more (by decide)) room gd m.m__law_draw m.F__law_draw.kp (bi__law_draw m) pass0 (dio_here (p := true) (i := 0) (dza_cons (p1 := true) (p2 := true) (dz_own (p := true) (de_op (p1 := true) (o1 := false) (p2 := true) (o2 := true) op_addV (de_read (i := 2)) de_int)) dza_nil))))) da_nil)))
  db_nil)) (by decide)
/-! _law_steps -/
theorem sc__law_steps : FnScope [] [] (defScope s23) := ⟨rfl, rfl, rfl, by decide +kernel, rfl, by decide +kernel, by decide +kernel⟩
theorem nd__law_steps : List.Nodup ([] : List Str) := sc__law_steps.nd
theorem bi__law_steps (m : MF P K mg) : Binds K m.fd__law_steps [] [] := m.F__law_steps.bindsN fun _ _ _ _ _ _ us hl => match us, hl with | [], _ => rfl
def f__law_steps : Sv := (sSeq (sRet (eLst (aCons (eTup (aCons (eC (.int 1)) (aCons (eC (.int 1)) aNil))) (aCons (eTup (aCons (eC (.int 1)) (aCons (eC (.int 0)) aNil))) (aCons (eTup (aCons (eC (.int 0)) (aCons (eC (.int 1)) aNil))) (aCons (eTup (aCons (eC (.int 2)) (aCons (eC (.int 1)) aNil))) (aCons (eTup (aCons (eC (.int 1)) (aCons (eC (.int 2)) aNil))) aNil)))))))
  sNx)
def D__law_steps : Den := denOf 0 none f__law_steps
theorem g__law_steps (m : MF P K mg) : FnG P w K mg base CX0 1 m.a__law_steps m.fd__law_steps [] (spD K 0 none D__law_steps) := by
  refine fn_den (A' := []) m.F__law_steps sc__law_steps (by intro k hk; first | (cases hk; done) | (cases hk; decide)) (by intro k hk; first | (cases hk; done) | (cases hk; decide)) fun cdv A out s H E room gd => ?_
  have hp : PassesOwn (model P w) (cxOf CX0 P w K mg base [] "_law_steps" (defScope s23) m.a__law_steps cdv A out s H E).A _ _ := passes_of rfl
  have hu : (cxOf CX0 P w K mg base [] "_law_steps" (defScope s23) m.a__law_steps cdv A out s H E).A.units + 64 < cLine := by have := room.un; show (A.deeper _).units + 64 < cLine; omega
  exact db_sub (db_cons (ds_ret (p := true) (de_lst (p := true) (o := true) (da_cons (p1 := true) (o1 := true) (p2 := true) (o2 := true) (de_tup (p := true) (o := true) (da_cons (p1 := true) (o1 := true) (p2 := true) (o2 := true) de_int (da_cons (p1 := true) (o1 := true) (p2 := true) (o2 := true) de_int da_nil))) (da_cons (p1 := true) (o1 := true) (p2 := true) (o2 := true) (de_tup (p := true) (o := true) (da_cons (p1 := true) (o1 := true) (p2 := true) (o2 := true) de_int (da_cons (p1 := true) (o1 := true) (p2 := true) (o2 := true) de_int da_nil))) (da_cons (p1 := true) (o1 := true) (p2 := true) (o2 := true) (de_tup (p := true) (o := true) (da_cons (p1 := true) (o1 := true) (p2 := true) (o2 := true) de_int (da_cons (p1 := true) (o1 := true) (p2 := true) (o2 := true) de_int da_nil))) (da_cons (p1 := true) (o1 := true) (p2 := true) (o2 := true) (de_tup (p := true) (o := true) (da_cons (p1 := true) (o1 := true) (p2 := true) (o2 := true) de_int (da_cons (p1 := true) (o1 := true) (p2 := true) (o2 := true) de_int da_nil))) (da_cons (p1 := true) (o1 := true) (p2 := true) (o2 := true) (de_tup (p := true) (o := true) (da_cons (p1 := true) (o1 := true) (p2 := true) (o2 := true) de_int (da_cons (p1 := true) (o1 := true) (p2 := true) (o2 := true) de_int da_nil))) da_nil)))))))
  db_nil) (by decide)
/-! _law_added -/
theorem sc__law_added : FnScope ["left", "right", "prices", "one", "other", "step", "up", "over"] ["left", "right", "prices", "one", "other", "step"] (defScope s24) := ⟨rfl, rfl, rfl, by decide +kernel, rfl, by decide +kernel, by decide +kernel⟩
theorem nd__law_added : List.Nodup (["left", "right", "prices", "one", "other", "step", "up", "over"] : List Str) := sc__law_added.nd
theorem bi__law_added (m : MF P K mg) : Binds K m.fd__law_added ["left", "right", "prices", "one", "other", "step"] [] := m.F__law_added.bindsN fun _ _ _ _ _ _ us hl => match us, hl with | [_, _, _, _, _, _], _ => rfl
def f__law_added : Sv := (sSeq (sAsg (.tp ((.nm 6) :: ((.nm 7) :: []))) (eIx (eFn0 (D__law_steps)) (eRead 5)))
  (sSeq (sRet (eBin addD (eIx (eRead 2) (eRead 5)) (eCall absD (aCons (eBin subD (eCall sumD (aCons (eSl (eRead 0) (oSome (eBin subD (eRead 3) (eRead 6))) (oSome (eRead 3))) aNil)) (eCall sumD (aCons (eSl (eRead 1) (oSome (eBin subD (eRead 4) (eRead 7))) (oSome (eRead 4))) aNil))) aNil))))
  sNx))
def D__law_added : Den := denOf 2 none f__law_added
theorem g__law_added (m : MF P K mg) : FnG P w K mg base CX0 2 m.a__law_added m.fd__law_added ["left", "right", "prices", "one", "other", "step"] (spD K 6 none D__law_added) := by
  refine fn_den (A' := [6, 7]) m.F__law_added sc__law_added (by intro k hk; first | (cases hk; done) | (cases hk; decide)) (by intro k hk; first | (cases hk; done) | (cases hk; decide)) fun cdv A out s H E room gd => ?_
  have hp : PassesOwn (model P w) (cxOf CX0 P w K mg base ["left", "right", "prices", "one", "other", "step", "up", "over"] "_law_added" (defScope s24) m.a__law_added cdv A out s H E).A _ _ := passes_of rfl
  have hu : (cxOf CX0 P w K mg base ["left", "right", "prices", "one", "other", "step", "up", "over"] "_law_added" (defScope s24) m.a__law_added cdv A out s H E).A.units + 64 < cLine := by have := room.un; show (A.deeper _).units + 64 < cLine; omega
  exact db_sub (db_cons (ds_asg (p := true) (dg_tup rfl (dgs_cons (dg_name nd__law_added (i := 6)) (dgs_cons (dg_name nd__law_added (i := 7)) dgs_nil))) (de_ix (p1 := true) (o1 := true) (p2 := true) (o2 := false) (de_fn0 ((g__law_steps m).more (by decide)) room gd m.m__law_steps m.F__law_steps.kp (bi__law_steps m) pass0) (de_read (i := 5))))
  (db_cons (ds_ret (p := true) (de_op (p1 := true) (o1 := false) (p2 := true) (o2 := true) op_addV (de_ix (p1 := true) (o1 := false) (p2 := true) (o2 := false) (de_read (i := 2)) (de_read (i := 5))) (de_callB (p := true) (o := true) cr_absV m.z_abs (da_cons (p1 := true) (o1 := true) (p2 := true) (o2 := true) (de_op (p1 := true) (o1 := true) (p2 := true) (o2 := true) op_subV (de_callB (p := true) (o := true) (cr_sumV rfl) m.z_sum (da_cons (p1 := true) (o1 := true) (p2 := true) (o2 := true) (de_slice (p := true) (o := false) (de_read (i := 0)) (do_some (o := true) (de_op (p1 := true) (o1 := false) (p2 := true) (o2 := false) op_subV (de_read (i := 3)) (de_read (i := 6)))) (do_some (o := false) (de_read (i := 3)))) da_nil)) (de_callB (p := true) (o := true) (cr_sumV rfl) m.z_sum (da_cons (p1 := true) (o1 := true) (p2 := true) (o2 := true) (de_slice (p := true) (o := false) (de_read (i := 1)) (do_some (o := true) (de_op (p1 := true) (o1 := false) (p2 := true) (o2 := false) op_subV (de_read (i := 4)) (de_read (i := 7)))) (do_some (o := false) (de_read (i := 4)))) da_nil))) da_nil))))
  db_nil)) (by decide)
/-! _law_table -/
theorem sc__law_table : FnScope ["left", "right", "prices", "rows", "one", "row", "other", "ways", "step", "up", "over"] ["left", "right", "prices"] (defScope s25) := ⟨rfl, rfl, rfl, by decide +kernel, rfl, by decide +kernel, by decide +kernel⟩
theorem nd__law_table : List.Nodup (["left", "right", "prices", "rows", "one", "row", "other", "ways", "step", "up", "over"] : List Str) := sc__law_table.nd
theorem bi__law_table (m : MF P K mg) : Binds K m.fd__law_table ["left", "right", "prices"] [] := m.F__law_table.bindsN fun _ _ _ _ _ _ us hl => match us, hl with | [_, _, _], _ => rfl
def l0__law_table : Sv := (sSeq (sAsg (.tp ((.nm 9) :: ((.nm 10) :: []))) (eIx (eFn0 (D__law_steps)) (eRead 8)))
  (sSeq (sIf (tAndE (eT (eBin leD (eRead 9) (eRead 4))) (eT (eBin leD (eRead 10) (eRead 6))))
  (sSeq (sExpr (eApp 7 (eBin addD (eIf (eT (eBin eqD (eRead 9) (eC (.int 0)))) (eIx (eRead 5) (eBin subD (eRead 6) (eRead 10))) (eIx (eIx (eRead 3) (eBin subD (eRead 4) (eRead 9))) (eBin subD (eRead 6) (eRead 10)))) (eFn 6 (D__law_added) (aCons (eRead 0) (aCons (eRead 1) (aCons (eRead 2) (aCons (eRead 4) (aCons (eRead 6) (aCons (eRead 8) aNil))))))))))
  sNx)
  sNx)
  sNx))
def l1__law_table : Sv := (sSeq (sSet 7 (eIf (tAndE (eT (eBin eqD (eRead 4) (eC (.int 0)))) (eT (eBin eqD (eRead 6) (eC (.int 0))))) (eLst (aCons (eC (.int 0)) aNil)) (eLst aNil)))
  (sSeq (sFor [8, 9, 10] (.nm 8) (iFn rng1D (aCons (eC (.int 5)) aNil))
  l0__law_table)
  (sSeq (sExpr (eApp 5 (eCall minD1 (aCons (eRead 7) aNil))))
  sNx)))
def l2__law_table : Sv := (sSeq (sSet 5 (eLst aNil))
  (sSeq (sFor [6, 7, 8, 9, 10] (.nm 6) (iFn rng1D (aCons (eBin addD (eCall lenD (aCons (eRead 1) aNil)) (eC (.int 1))) aNil))
  l1__law_table)
  (sSeq (sExpr (eApp 3 (eCall tupleD (aCons (eRead 5) aNil))))
  sNx)))
def f__law_table : Sv := (sSeq (sSet 3 (eLst aNil))
  (sSeq (sFor [4, 5, 6, 7, 8, 9, 10] (.nm 4) (iFn rng1D (aCons (eBin addD (eCall lenD (aCons (eRead 0) aNil)) (eC (.int 1))) aNil))
  l2__law_table)
  (sSeq (sRet (eCall tupleD (aCons (eRead 3) aNil)))
  sNx)))
def D__law_table : Den := denOf 8 none f__law_table
theorem g__law_table (m : MF P K mg) : FnG P w K mg base CX0 3 m.a__law_table m.fd__law_table ["left", "right", "prices"] (spD K 3 none D__law_table) := by
  refine fn_den (A' := [3, 4, 5, 6, 7, 8, 9, 10]) m.F__law_table sc__law_table (by intro k hk; first | (cases hk; done) | (cases hk; decide)) (by intro k hk; first | (cases hk; done) | (cases hk; decide)) fun cdv A out s H E room gd => ?_
  have hp : PassesOwn (model P w) (cxOf CX0 P w K mg base ["left", "right", "prices", "rows", "one", "row", "other", "ways", "step", "up", "over"] "_law_table" (defScope s25) m.a__law_table cdv A out s H E).A _ _ := passes_of rfl
  have hu : (cxOf CX0 P w K mg base ["left", "right", "prices", "rows", "one", "row", "other", "ways", "step", "up", "over"] "_law_table" (defScope s25) m.a__law_table cdv A out s H E).A.units + 64 < cLine := by have := room.un; show (A.deeper _).units + 64 < cLine; omega
  exact db_sub (db_cons (ds_set (i := 3) (p := true) nd__law_table (de_lst (p := true) (o := true) da_nil))
  (db_cons (ds_for (p := true) (ks := [4, 5, 6, 7, 8, 9, 10]) hp rfl (di_range1 (p := true) (o := true) m.z_range (da_cons (p1 := true) (o1 := true) (p2 := true) (o2 := true) (de_op (p1 := true) (o1 := true) (p2 := true) (o2 := true) op_addV (de_callB (p := true) (o := false) cr_lenV m.z_len (da_cons (p1 := true) (o1 := false) (p2 := true) (o2 := true) (de_read (i := 0)) da_nil)) de_int) da_nil)) (dg_name nd__law_table (i := 4))
  (db_cons (ds_set (i := 5) (p := true) nd__law_table (de_lst (p := true) (o := true) da_nil))
  (db_cons (ds_for (p := true) (ks := [6, 7, 8, 9, 10]) hp rfl (di_range1 (p := true) (o := true) m.z_range (da_cons (p1 := true) (o1 := true) (p2 := true) (o2 := true) (de_op (p1 := true) (o1 := true) (p2 := true) (o2 := true) op_addV (de_callB (p := true) (o := false) cr_lenV m.z_len (da_cons (p1 := true) (o1 := false) (p2 := true) (o2 := true) (de_read (i := 1)) da_nil)) de_int) da_nil)) (dg_name nd__law_table (i := 6))
  (db_cons (ds_set (i := 7) (p := true) nd__law_table (de_if (pt := true) (p1 := true) (o1 := true) (p2 := true) (o2 := true) (dt_w (dw_and (p1 := true) (p2 := true) (dt_cmp (p1 := true) (o1 := false) (p2 := true) (o2 := true) (op_eqV hu) (de_read (i := 4)) de_int) (dw_and1 (p := true) (dt_cmp (p1 := true) (o1 := false) (p2 := true) (o2 := true) (op_eqV hu) (de_read (i := 6)) de_int)))) (de_lst (p := true) (o := true) (da_cons (p1 := true) (o1 := true) (p2 := true) (o2 := true) de_int da_nil)) (de_lst (p := true) (o := true) da_nil)))
  (db_cons (ds_for (p := true) (ks := [8, 9, 10]) hp rfl (di_range1 (p := true) (o := true) m.z_range (da_cons (p1 := true) (o1 := true) (p2 := true) (o2 := true) de_int da_nil)) (dg_name nd__law_table (i := 8))
  (db_cons (ds_asg (p := true) (dg_tup rfl (dgs_cons (dg_name nd__law_table (i := 9)) (dgs_cons (dg_name nd__law_table (i := 10)) dgs_nil))) (de_ix (p1 := true) (o1 := true) (p2 := true) (o2 := false) (de_fn0 ((g__law_steps m).more (by decide)) room gd m.m__law_steps m.F__law_steps.kp (bi__law_steps m) pass0) (de_read (i := 8))))
  (db_cons (ds_if (p := true) (dt_w (dw_and (p1 := true) (p2 := true) (dt_cmp (p1 := true) (o1 := false) (p2 := true) (o2 := false) (op_leV hu) (de_read (i := 9)) (de_read (i := 4))) (dw_and1 (p := true) (dt_cmp (p1 := true) (o1 := false) (p2 := true) (o2 := false) (op_leV hu) (de_read (i := 10)) (de_read (i := 6))))))
  (db_cons (ds_expr (p := false) (o := true) (de_app (p := true) (i := 7) (de_op (p1 := true) (o1 := false) (p2 := true) (o2 := true) op_addV (de_if (pt := true) (p1 := true) (o1 := false) (p2 := true) (o2 := false) (dt_cmp (p1 := true) (o1 := false) (p2 := true) (o2 := true) (op_eqV hu) (de_read (i := 9)) de_int) (de_ix (p1 := true) (o1 := false) (p2 := true) (o2 := true) (de_read (i := 5)) (de_op (p1 := true) (o1 := false) (p2 := true) (o2 := false) op_subV (de_read (i := 6)) (de_read (i := 10)))) (de_ix (p1 := true) (o1 := false) (p2 := true) (o2 := true) (de_ix (p1 := true) (o1 := false) (p2 := true) (o2 := true) (de_read (i := 3)) (de_op (p1 := true) (o1 := false) (p2 := true) (o2 := false) op_subV (de_read (i := 4)) (de_read (i := 9)))) (de_op (p1 := true) (o1 := false) (p2 := true) (o2 := false) op_subV (de_read (i := 6)) (de_read (i := 10))))) (de_fn (p := true) (o := false) ((g__law_added m).more (by decide)) room gd m.m__law_added m.F__law_added.kp (bi__law_added m) pass0 (da_cons (p1 := true) (o1 := false) (p2 := true) (o2 := false) (de_read (i := 0)) (da_cons (p1 := true) (o1 := false) (p2 := true) (o2 := false) (de_read (i := 1)) (da_cons (p1 := true) (o1 := false) (p2 := true) (o2 := false) (de_read (i := 2)) (da_cons (p1 := true) (o1 := false) (p2 := true) (o2 := false) (de_read (i := 4)) (da_cons (p1 := true) (o1 := false) (p2 := true) (o2 := false) (de_read (i := 6)) (da_cons (p1 := true) (o1 := false) (p2 := true) (o2 := true) (de_read (i := 8)) da_nil))))))))))
  db_nil)
  db_nil)
  db_nil)))
  (db_cons (ds_expr (p := false) (o := true) (de_app (p := true) (i := 5) (de_callB (p := true) (o := false) (cr_minV rfl hu) m.z_min (da_cons (p1 := true) (o1 := false) (p2 := true) (o2 := true) (de_read (i := 7)) da_nil))))
  db_nil))))
  (db_cons (ds_expr (p := false) (o := true) (de_app (p := true) (i := 3) (de_callT (p := true) (o := false) cr_tupleV m.z_tuple (da_cons (p1 := true) (o1 := false) (p2 := true) (o2 := true) (de_read (i := 5)) da_nil))))
  db_nil))))
  (db_cons (ds_ret (p := true) (de_callT (p := true) (o := false) cr_tupleV m.z_tuple (da_cons (p1 := true) (o1 := false) (p2 := true) (o2 := true) (de_read (i := 3)) da_nil)))
  db_nil))) (by decide)
/-! is_integer -/
theorem sc_is_integer : FnScope ["value"] ["value"] (defScope s0) := ⟨rfl, rfl, rfl, by decide +kernel, rfl, by decide +kernel, by decide +kernel⟩
theorem nd_is_integer : List.Nodup (["value"] : List Str) := sc_is_integer.nd
theorem bi_is_integer (m : MF P K mg) : Binds K m.fd_is_integer ["value"] [] := m.F_is_integer.bindsN fun _ _ _ _ _ _ us hl => match us, hl with | [_], _ => rfl
def f_is_integer : Sv := (sSeq (sRet (eAnd (eIs PyData.isInt (eRead 0)) (eUn notD (eIs PyData.isBool (eRead 0)))))
  sNx)
def D_is_integer : Den := denOf 0 none f_is_integer
theorem g_is_integer (m : MF P K mg) : FnG P w K mg base CX0 1 m.a_is_integer m.fd_is_integer ["value"] (spD K 1 none D_is_integer) := by
  refine fn_den (A' := []) m.F_is_integer sc_is_integer (by intro k hk; first | (cases hk; done) | (cases hk; decide)) (by intro k hk; first | (cases hk; done) | (cases hk; decide)) fun cdv A out s H E room gd => ?_
  have hp : PassesOwn (model P w) (cxOf CX0 P w K mg base ["value"] "is_integer" (defScope s0) m.a_is_integer cdv A out s H E).A _ _ := passes_of rfl
  have hu : (cxOf CX0 P w K mg base ["value"] "is_integer" (defScope s0) m.a_is_integer cdv A out s H E).A.units + 64 < cLine := by have := room.un; show (A.deeper _).units + 64 < cLine; omega
  exact db_sub (db_cons (ds_ret (p := true) (de_and (p1 := true) (o1 := true) (p2 := true) (o2 := true) (de_isV (p := true) (o := false) (cr_isV PySem.W.isinstance_int_data) m.z_isinstance m.z_int rfl (de_read (i := 0))) (de_and1 (p := true) (o := true) (de_not (p := true) (o := true) (de_isV (p := true) (o := false) (cr_isV PySem.W.isinstance_bool_data) m.z_isinstance m.z_bool rfl (de_read (i := 0)))))))
  db_nil) (by decide)
/-! check_sizes -/
theorem sc_check_sizes : FnScope ["value", "reason", "size"] ["value", "reason"] (defScope s1) := ⟨rfl, rfl, rfl, by decide +kernel, rfl, by decide +kernel, by decide +kernel⟩
theorem nd_check_sizes : List.Nodup (["value", "reason", "size"] : List Str) := sc_check_sizes.nd
theorem bi_check_sizes (m : MF P K mg) : Binds K m.fd_check_sizes ["value", "reason"] [] := m.F_check_sizes.bindsN fun _ _ _ _ _ _ us hl => match us, hl with | [_, _], _ => rfl
def f_check_sizes : Sv := (sSeq (sIf (tOrE (tNotE (eTru (eIs PyData.isTuple (eRead 0)))) (eT (eBin gtD (eCall lenD (aCons (eRead 0) aNil)) (eC (.int 60)))))
  (sSeq sNo
  sNx)
  sNx)
  (sSeq (sIf (tNotE (eTru (eCall allD (aCons (eLc [2] (.nm 2) (iTpl (eReadP 0)) tYesE (eAnd (eFn 1 (D_is_integer) (aCons (eRead 2) aNil)) (eChain (eC (.int 0)) (cLink leD (eRead 2) (cLast leD (eC (.int 100000))))))) aNil))))
  (sSeq sNo
  sNx)
  sNx)
  sNx))
def D_check_sizes : Den := denOf 1 none f_check_sizes
theorem g_check_sizes (m : MF P K mg) : FnG P w K mg base CX0 2 m.a_check_sizes m.fd_check_sizes ["value", "reason"] (spD K 2 none D_check_sizes) := by
  refine fn_den (A' := []) m.F_check_sizes sc_check_sizes (by intro k hk; first | (cases hk; done) | (cases hk; decide)) (by intro k hk; first | (cases hk; done) | (cases hk; decide)) fun cdv A out s H E room gd => ?_
  have hp : PassesOwn (model P w) (cxOf CX0 P w K mg base ["value", "reason", "size"] "check_sizes" (defScope s1) m.a_check_sizes cdv A out s H E).A _ _ := passes_of rfl
  have hu : (cxOf CX0 P w K mg base ["value", "reason", "size"] "check_sizes" (defScope s1) m.a_check_sizes cdv A out s H E).A.units + 64 < cLine := by have := room.un; show (A.deeper _).units + 64 < cLine; omega
  exact db_sub (db_cons (ds_if (p := true) (dt_w (dw_or (p1 := true) (p2 := true) (dt_not (p := true) (dt_truth (p := true) (o := true) (de_isV (p := true) (o := false) (cr_isV PySem.W.isinstance_tuple_data) m.z_isinstance m.z_tuple rfl (de_read (i := 0))))) (dw_or1 (p := true) (dt_cmp (p1 := true) (o1 := true) (p2 := true) (o2 := true) (op_gtV hu) (de_callB (p := true) (o := false) cr_lenV m.z_len (da_cons (p1 := true) (o1 := false) (p2 := true) (o2 := true) (de_read (i := 0)) da_nil)) (de_gint rfl (m.c_MAX_BLOCKS).choose_spec)))))
  (db_cons ds_never
  db_nil)
  db_nil)
  (db_cons (ds_if (p := true) (dt_not (p := true) (dt_truth (p := true) (o := true) (de_callB (p := true) (o := true) (cr_allV rfl) m.z_all (da_cons (p1 := true) (o1 := true) (p2 := true) (o2 := true) (de_lc (own := [("size", 2)]) (p1 := true) (p2 := true) (p3 := true) rfl nd_check_sizes (di_tup (p := true) (dp_ofQ (p := true) (dq_read (i := 0)))) (blkOk_by (own := [("size", 2)]) (by kernel_rfl)) (fun _ _ _ _ _ => (dg_name nd_check_sizes (i := 2))) (fun _ _ _ _ _ => dts_nil) (fun _ _ _ _ _ => (de_and (p1 := true) (o1 := true) (p2 := true) (o2 := true) (de_fn (p := true) (o := false) ((g_is_integer m).more (by decide)) room gd m.m_is_integer m.F_is_integer.kp (bi_is_integer m) pass0 (da_cons (p1 := true) (o1 := false) (p2 := true) (o2 := true) (de_read (i := 2)) da_nil)) (de_and1 (p := true) (o := true) (de_chain (o := true) de_int (dcv_link (o := false) (op_leV hu) (de_read (i := 2)) (dcv_last (o := true) (op_leV hu) (de_gint rfl (m.c_MAX_WIDTH).choose_spec)))))))) da_nil))))
  (db_cons ds_never
  db_nil)
  db_nil)
  db_nil)) (by decide)
/-! check_prices -/
theorem sc_check_prices : FnScope ["prices", "price"] ["prices"] (defScope s2) := ⟨rfl, rfl, rfl, by decide +kernel, rfl, by decide +kernel, by decide +kernel⟩
theorem nd_check_prices : List.Nodup (["prices", "price"] : List Str) := sc_check_prices.nd
theorem bi_check_prices (m : MF P K mg) : Binds K m.fd_check_prices ["prices"] [] := m.F_check_prices.bindsN fun _ _ _ _ _ _ us hl => match us, hl with | [_], _ => rfl
def f_check_prices : Sv := (sSeq (sIf (tOrE (tNotE (eTru (eIs PyData.isTuple (eRead 0)))) (eT (eBin neD (eCall lenD (aCons (eRead 0) aNil)) (eCall lenD (aCons (eC C_STEPS) aNil)))))
  (sSeq sNo
  sNx)
  sNx)
  (sSeq (sIf (tNotE (eTru (eCall allD (aCons (eLc [1] (.nm 1) (iTpl (eReadP 0)) tYesE (eAnd (eFn 1 (D_is_integer) (aCons (eRead 1) aNil)) (eChain (eC (.int 0)) (cLink leD (eRead 1) (cLast leD (eC (.int 100000))))))) aNil))))
  (sSeq sNo
  sNx)
  sNx)
  sNx))
def D_check_prices : Den := denOf 1 none f_check_prices
theorem g_check_prices (m : MF P K mg) : FnG P w K mg base CX0 2 m.a_check_prices m.fd_check_prices ["prices"] (spD K 1 none D_check_prices) := by
  refine fn_den (A' := []) m.F_check_prices sc_check_prices (by intro k hk; first | (cases hk; done) | (cases hk; decide)) (by intro k hk; first | (cases hk; done) | (cases hk; decide)) fun cdv A out s H E room gd => ?_
  have hp : PassesOwn (model P w) (cxOf CX0 P w K mg base ["prices", "price"] "check_prices" (defScope s2) m.a_check_prices cdv A out s H E).A _ _ := passes_of rfl
  have hu : (cxOf CX0 P w K mg base ["prices", "price"] "check_prices" (defScope s2) m.a_check_prices cdv A out s H E).A.units + 64 < cLine := by have := room.un; show (A.deeper _).units + 64 < cLine; omega
  exact db_sub (db_cons (ds_if (p := true) (dt_w (dw_or (p1 := true) (p2 := true) (dt_not (p := true) (dt_truth (p := true) (o := true) (de_isV (p := true) (o := false) (cr_isV PySem.W.isinstance_tuple_data) m.z_isinstance m.z_tuple rfl (de_read (i := 0))))) (dw_or1 (p := true) (dt_cmp (p1 := true) (o1 := true) (p2 := true) (o2 := true) (op_neV hu) (de_callB (p := true) (o := false) cr_lenV m.z_len (da_cons (p1 := true) (o1 := false) (p2 := true) (o2 := true) (de_read (i := 0)) da_nil)) (de_callB (p := true) (o := true) cr_lenV m.z_len (da_cons (p1 := true) (o1 := true) (p2 := true) (o2 := true) (de_gdat rfl m.g_STEPS) da_nil))))))
  (db_cons ds_never
  db_nil)
  db_nil)
  (db_cons (ds_if (p := true) (dt_not (p := true) (dt_truth (p := true) (o := true) (de_callB (p := true) (o := true) (cr_allV rfl) m.z_all (da_cons (p1 := true) (o1 := true) (p2 := true) (o2 := true) (de_lc (own := [("price", 1)]) (p1 := true) (p2 := true) (p3 := true) rfl nd_check_prices (di_tup (p := true) (dp_ofQ (p := true) (dq_read (i := 0)))) (blkOk_by (own := [("price", 1)]) (by kernel_rfl)) (fun _ _ _ _ _ => (dg_name nd_check_prices (i := 1))) (fun _ _ _ _ _ => dts_nil) (fun _ _ _ _ _ => (de_and (p1 := true) (o1 := true) (p2 := true) (o2 := true) (de_fn (p := true) (o := false) ((g_is_integer m).more (by decide)) room gd m.m_is_integer m.F_is_integer.kp (bi_is_integer m) pass0 (da_cons (p1 := true) (o1 := false) (p2 := true) (o2 := true) (de_read (i := 1)) da_nil)) (de_and1 (p := true) (o := true) (de_chain (o := true) de_int (dcv_link (o := false) (op_leV hu) (de_read (i := 1)) (dcv_last (o := true) (op_leV hu) (de_gint rfl (m.c_MAX_WIDTH).choose_spec)))))))) da_nil))))
  (db_cons ds_never
  db_nil)
  db_nil)
  db_nil)) (by decide)
/-! check_texts -/
theorem sc_check_texts : FnScope ["left", "right", "prices"] ["left", "right", "prices"] (defScope s3) := ⟨rfl, rfl, rfl, by decide +kernel, rfl, by decide +kernel, by decide +kernel⟩
theorem nd_check_texts : List.Nodup (["left", "right", "prices"] : List Str) := sc_check_texts.nd
theorem bi_check_texts (m : MF P K mg) : Binds K m.fd_check_texts ["left", "right", "prices"] [] := m.F_check_texts.bindsN fun _ _ _ _ _ _ us hl => match us, hl with | [_, _, _], _ => rfl
def f_check_texts : Sv := (sSeq (sExpr (eFn 2 (D_check_sizes) (aCons (eRead 0) (aCons (eC (.str "left")) aNil))))
  (sSeq (sExpr (eFn 2 (D_check_sizes) (aCons (eRead 1) (aCons (eC (.str "right")) aNil))))
  (sSeq (sExpr (eFn 1 (D_check_prices) (aCons (eRead 2) aNil)))
  sNx)))
def D_check_texts : Den := denOf 0 none f_check_texts
theorem g_check_texts (m : MF P K mg) : FnG P w K mg base CX0 3 m.a_check_texts m.fd_check_texts ["left", "right", "prices"] (spD K 3 none D_check_texts) := by
  refine fn_den (A' := []) m.F_check_texts sc_check_texts (by intro k hk; first | (cases hk; done) | (cases hk; decide)) (by intro k hk; first | (cases hk; done) | (cases hk; decide)) fun cdv A out s H E room gd => ?_
  have hp : PassesOwn (model P w) (cxOf CX0 P w K mg base ["left", "right", "prices"] "check_texts" (defScope s3) m.a_check_texts cdv A out s H E).A _ _ := passes_of rfl
  have hu : (cxOf CX0 P w K mg base ["left", "right", "prices"] "check_texts" (defScope s3) m.a_check_texts cdv A out s H E).A.units + 64 < cLine := by have := room.un; show (A.deeper _).units + 64 < cLine; omega
  exact db_sub (db_cons (ds_expr (p := true) (o := true) (de_fn (p := true) (o := false) ((g_check_sizes m).more (by decide)) room gd m.m_check_sizes m.F_check_sizes.kp (bi_check_sizes m) pass0 (da_cons (p1 := true) (o1 := false) (p2 := true) (o2 := true) (de_read (i := 0)) (da_cons (p1 := true) (o1 := true) (p2 := true) (o2 := true) de_str da_nil))))
  (db_cons (ds_expr (p := true) (o := true) (de_fn (p := true) (o := false) ((g_check_sizes m).more (by decide)) room gd m.m_check_sizes m.F_check_sizes.kp (bi_check_sizes m) pass0 (da_cons (p1 := true) (o1 := false) (p2 := true) (o2 := true) (de_read (i := 1)) (da_cons (p1 := true) (o1 := true) (p2 := true) (o2 := true) de_str da_nil))))
  (db_cons (ds_expr (p := true) (o := true) (de_fn (p := true) (o := false) ((g_check_prices m).more (by decide)) room gd m.m_check_prices m.F_check_prices.kp (bi_check_prices m) pass0 (da_cons (p1 := true) (o1 := false) (p2 := true) (o2 := true) (de_read (i := 2)) da_nil)))
  db_nil))) (by decide)
/-! step_price -/
theorem sc_step_price : FnScope ["left", "right", "prices", "place", "number", "one", "other", "first", "second"] ["left", "right", "prices", "place", "number"] (defScope s4) := ⟨rfl, rfl, rfl, by decide +kernel, rfl, by decide +kernel, by decide +kernel⟩
theorem nd_step_price : List.Nodup (["left", "right", "prices", "place", "number", "one", "other", "first", "second"] : List Str) := sc_step_price.nd
theorem bi_step_price (m : MF P K mg) : Binds K m.fd_step_price ["left", "right", "prices", "place", "number"] [] := m.F_step_price.bindsN fun _ _ _ _ _ _ us hl => match us, hl with | [_, _, _, _, _], _ => rfl
def f_step_price : Sv := (sSeq (sAsg (.tp ((.nm 5) :: ((.nm 6) :: []))) (eIx (eC C_STEPS) (eRead 4)))
  (sSeq (sSet 7 (eCall sumD (aCons (eSl (eRead 0) (oSome (eBin subD (eIx (eRead 3) (eC (.int 0))) (eRead 5))) (oSome (eIx (eRead 3) (eC (.int 0))))) aNil)))
  (sSeq (sSet 8 (eCall sumD (aCons (eSl (eRead 1) (oSome (eBin subD (eIx (eRead 3) (eC (.int 1))) (eRead 6))) (oSome (eIx (eRead 3) (eC (.int 1))))) aNil)))
  (sSeq (sRet (eBin addD (eIx (eRead 2) (eRead 4)) (eCall absD (aCons (eBin subD (eRead 7) (eRead 8)) aNil))))
  sNx))))
def D_step_price : Den := denOf 4 none f_step_price
theorem g_step_price (m : MF P K mg) : FnG P w K mg base CX0 1 m.a_step_price m.fd_step_price ["left", "right", "prices", "place", "number"] (spD K 5 none D_step_price) := by
  refine fn_den (A' := [5, 6, 7, 8]) m.F_step_price sc_step_price (by intro k hk; first | (cases hk; done) | (cases hk; decide)) (by intro k hk; first | (cases hk; done) | (cases hk; decide)) fun cdv A out s H E room gd => ?_
  have hp : PassesOwn (model P w) (cxOf CX0 P w K mg base ["left", "right", "prices", "place", "number", "one", "other", "first", "second"] "step_price" (defScope s4) m.a_step_price cdv A out s H E).A _ _ := passes_of rfl
  have hu : (cxOf CX0 P w K mg base ["left", "right", "prices", "place", "number", "one", "other", "first", "second"] "step_price" (defScope s4) m.a_step_price cdv A out s H E).A.units + 64 < cLine := by have := room.un; show (A.deeper _).units + 64 < cLine; omega
  exact db_sub (db_cons (ds_asg (p := true) (dg_tup rfl (dgs_cons (dg_name nd_step_price (i := 5)) (dgs_cons (dg_name nd_step_price (i := 6)) dgs_nil))) (de_ix (p1 := true) (o1 := true) (p2 := true) (o2 := false) (de_gdat rfl m.g_STEPS) (de_read (i := 4))))
  (db_cons (ds_set (i := 7) (p := true) nd_step_price (de_callB (p := true) (o := true) (cr_sumV rfl) m.z_sum (da_cons (p1 := true) (o1 := true) (p2 := true) (o2 := true) (de_slice (p := true) (o := false) (de_read (i := 0)) (do_some (o := true) (de_op (p1 := true) (o1 := false) (p2 := true) (o2 := false) op_subV (de_ix (p1 := true) (o1 := false) (p2 := true) (o2 := true) (de_read (i := 3)) de_int) (de_read (i := 5)))) (do_some (o := false) (de_ix (p1 := true) (o1 := false) (p2 := true) (o2 := true) (de_read (i := 3)) de_int))) da_nil)))
  (db_cons (ds_set (i := 8) (p := true) nd_step_price (de_callB (p := true) (o := true) (cr_sumV rfl) m.z_sum (da_cons (p1 := true) (o1 := true) (p2 := true) (o2 := true) (de_slice (p := true) (o := false) (de_read (i := 1)) (do_some (o := true) (de_op (p1 := true) (o1 := false) (p2 := true) (o2 := false) op_subV (de_ix (p1 := true) (o1 := false) (p2 := true) (o2 := true) (de_read (i := 3)) de_int) (de_read (i := 6)))) (do_some (o := false) (de_ix (p1 := true) (o1 := false) (p2 := true) (o2 := true) (de_read (i := 3)) de_int))) da_nil)))
  (db_cons (ds_ret (p := true) (de_op (p1 := true) (o1 := false) (p2 := true) (o2 := true) op_addV (de_ix (p1 := true) (o1 := false) (p2 := true) (o2 := false) (de_read (i := 2)) (de_read (i := 4))) (de_callB (p := true) (o := true) cr_absV m.z_abs (da_cons (p1 := true) (o1 := true) (p2 := true) (o2 := true) (de_op (p1 := true) (o1 := false) (p2 := true) (o2 := false) op_subV (de_read (i := 7)) (de_read (i := 8))) da_nil))))
  db_nil)))) (by decide)
/-! table_of -/
theorem sc_table_of : FnScope ["left", "right", "prices", "rows", "first", "second", "ways", "number", "one", "other", "ahead"] ["left", "right", "prices"] (defScope s5) := ⟨rfl, rfl, rfl, by decide +kernel, rfl, by decide +kernel, by decide +kernel⟩
theorem nd_table_of : List.Nodup (["left", "right", "prices", "rows", "first", "second", "ways", "number", "one", "other", "ahead"] : List Str) := sc_table_of.nd
theorem bi_table_of (m : MF P K mg) : Binds K m.fd_table_of ["left", "right", "prices"] [] := m.F_table_of.bindsN fun _ _ _ _ _ _ us hl => match us, hl with | [_, _, _], _ => rfl
def l0_table_of : Sv := (sSeq (sIf (tAndE (eT (eBin geD (eRead 4) (eRead 8))) (eT (eBin geD (eRead 5) (eRead 9))))
  (sSeq (sSet 10 (eImm (eIx (eIx (eRead 3) (eBin subD (eRead 4) (eRead 8))) (eBin subD (eRead 5) (eRead 9)))))
  (sSeq (sExpr (eApp 6 (eBin addD (eRead 10) (eFn 5 (D_step_price) (aCons (eRead 0) (aCons (eRead 1) (aCons (eRead 2) (aCons (eTup (aCons (eRead 4) (aCons (eRead 5) aNil))) (aCons (eRead 7) aNil)))))))))
  sNx))
  sNx)
  sNx)
def l1_table_of : Sv := (sSeq (sSet 6 (eIf (tAndE (eT (eBin eqD (eRead 4) (eC (.int 0)))) (eT (eBin eqD (eRead 5) (eC (.int 0))))) (eLst (aCons (eC (.int 0)) aNil)) (eLst aNil)))
  (sSeq (sFor [7, 8, 9, 10] (.tp ((.nm 7) :: ((.tp ((.nm 8) :: ((.nm 9) :: []))) :: []))) (iFn enumTD (aCons (eC C_STEPS) aNil))
  l0_table_of)
  (sSeq (sExpr (eAppU 3 (plIx (plNm 3) (eRead 4)) (eCall minD1 (aCons (eRead 6) aNil))))
  sNx)))
def l2_table_of : Sv := (sSeq (sExpr (eApp 3 (eLst aNil)))
  (sSeq (sFor [5, 6, 7, 8, 9, 10] (.nm 5) (iFn rng1D (aCons (eBin addD (eCall lenD (aCons (eRead 1) aNil)) (eC (.int 1))) aNil))
  l1_table_of)
  sNx))
def f_table_of : Sv := (sSeq (sSet 3 (eLst aNil))
  (sSeq (sFor [4, 5, 6, 7, 8, 9, 10] (.nm 4) (iFn rng1D (aCons (eBin addD (eCall lenD (aCons (eRead 0) aNil)) (eC (.int 1))) aNil))
  l2_table_of)
  (sSeq (sRet (eMove 3))
  sNx)))
def D_table_of : Den := denOf 8 none f_table_of
theorem g_table_of (m : MF P K mg) : FnG P w K mg base CX0 2 m.a_table_of m.fd_table_of ["left", "right", "prices"] (spD K 3 none D_table_of) := by
  refine fn_den (A' := [3, 4, 5, 6, 7, 8, 9, 10]) m.F_table_of sc_table_of (by intro k hk; first | (cases hk; done) | (cases hk; decide)) (by intro k hk; first | (cases hk; done) | (cases hk; decide)) fun cdv A out s H E room gd => ?_
  have hp : PassesOwn (model P w) (cxOf CX0 P w K mg base ["left", "right", "prices", "rows", "first", "second", "ways", "number", "one", "other", "ahead"] "table_of" (defScope s5) m.a_table_of cdv A out s H E).A _ _ := passes_of rfl
  have hu : (cxOf CX0 P w K mg base ["left", "right", "prices", "rows", "first", "second", "ways", "number", "one", "other", "ahead"] "table_of" (defScope s5) m.a_table_of cdv A out s H E).A.units + 64 < cLine := by have := room.un; show (A.deeper _).units + 64 < cLine; omega
  exact db_sub (db_cons (ds_set (i := 3) (p := true) nd_table_of (de_lst (p := true) (o := true) da_nil))
  (db_cons (ds_for (p := true) (ks := [4, 5, 6, 7, 8, 9, 10]) hp rfl (di_range1 (p := true) (o := true) m.z_range (da_cons (p1 := true) (o1 := true) (p2 := true) (o2 := true) (de_op (p1 := true) (o1 := true) (p2 := true) (o2 := true) op_addV (de_callB (p := true) (o := false) cr_lenV m.z_len (da_cons (p1 := true) (o1 := false) (p2 := true) (o2 := true) (de_read (i := 0)) da_nil)) de_int) da_nil)) (dg_name nd_table_of (i := 4))
  (db_cons (ds_expr (p := false) (o := true) (de_app (p := true) (i := 3) (de_lst (p := true) (o := true) da_nil)))
  (db_cons (ds_for (p := true) (ks := [5, 6, 7, 8, 9, 10]) hp rfl (di_range1 (p := true) (o := true) m.z_range (da_cons (p1 := true) (o1 := true) (p2 := true) (o2 := true) (de_op (p1 := true) (o1 := true) (p2 := true) (o2 := true) op_addV (de_callB (p := true) (o := false) cr_lenV m.z_len (da_cons (p1 := true) (o1 := false) (p2 := true) (o2 := true) (de_read (i := 1)) da_nil)) de_int) da_nil)) (dg_name nd_table_of (i := 5))
  (db_cons (ds_set (i := 6) (p := true) nd_table_of (de_if (pt := true) (p1 := true) (o1 := true) (p2 := true) (o2 := true) (dt_w (dw_and (p1 := true) (p2 := true) (dt_cmp (p1 := true) (o1 := false) (p2 := true) (o2 := true) (op_eqV hu) (de_read (i := 4)) de_int) (dw_and1 (p := true) (dt_cmp (p1 := true) (o1 := false) (p2 := true) (o2 := true) (op_eqV hu) (de_read (i := 5)) de_int)))) (de_lst (p := true) (o := true) (da_cons (p1 := true) (o1 := true) (p2 := true) (o2 := true) de_int da_nil)) (de_lst (p := true) (o := true) da_nil)))
  (db_cons (ds_for (p := true) (ks := [7, 8, 9, 10]) hp rfl (di_enumT (p := true) m.z_enumerate (dpa_cons (p1 := true) (p2 := true) (dp_own (p := true) (de_gdat rfl m.g_STEPS)) dpa_nil)) (dg_tup rfl (dgs_cons (dg_name nd_table_of (i := 7)) (dgs_cons (dg_tup rfl (dgs_cons (dg_name nd_table_of (i := 8)) (dgs_cons (dg_name nd_table_of (i := 9)) dgs_nil))) dgs_nil)))
  (db_cons (ds_if (p := true) (dt_w (dw_and (p1 := true) (p2 := true) (dt_cmp (p1 := true) (o1 := false) (p2 := true) (o2 := false) (op_geV hu) (de_read (i := 4)) (de_read (i := 8))) (dw_and1 (p := true) (dt_cmp (p1 := true) (o1 := false) (p2 := true) (o2 := false) (op_geV hu) (de_read (i := 5)) (de_read (i := 9))))))
  (db_cons (ds_set (i := 10) (p := true) nd_table_of (de_imm (p := true) (o := false) (de_ix (p1 := true) (o1 := false) (p2 := true) (o2 := true) (de_ix (p1 := true) (o1 := false) (p2 := true) (o2 := true) (de_read (i := 3)) (de_op (p1 := true) (o1 := false) (p2 := true) (o2 := false) op_subV (de_read (i := 4)) (de_read (i := 8)))) (de_op (p1 := true) (o1 := false) (p2 := true) (o2 := false) op_subV (de_read (i := 5)) (de_read (i := 9))))))
  (db_cons (ds_expr (p := false) (o := true) (de_app (p := true) (i := 6) (de_op (p1 := true) (o1 := false) (p2 := true) (o2 := true) op_addV (de_read (i := 10)) (de_fn (p := true) (o := false) ((g_step_price m).more (by decide)) room gd m.m_step_price m.F_step_price.kp (bi_step_price m) pass0 (da_cons (p1 := true) (o1 := false) (p2 := true) (o2 := false) (de_read (i := 0)) (da_cons (p1 := true) (o1 := false) (p2 := true) (o2 := false) (de_read (i := 1)) (da_cons (p1 := true) (o1 := false) (p2 := true) (o2 := false) (de_read (i := 2)) (da_cons (p1 := true) (o1 := false) (p2 := true) (o2 := false) (de_tup (p := true) (o := false) (da_cons (p1 := true) (o1 := false) (p2 := true) (o2 := false) (de_read (i := 4)) (da_cons (p1 := true) (o1 := false) (p2 := true) (o2 := true) (de_read (i := 5)) da_nil))) (da_cons (p1 := true) (o1 := false) (p2 := true) (o2 := true) (de_read (i := 7)) da_nil)))))))))
  db_nil))
  db_nil)
  db_nil))
  (db_cons (ds_expr (p := false) (o := true) (de_appU (i := 3) (dl_ix (o := false) (dl_nm (i := 3)) (de_read (i := 4))) (de_callB (p := true) (o := false) (cr_minV rfl hu) m.z_min (da_cons (p1 := true) (o1 := false) (p2 := true) (o2 := true) (de_read (i := 6)) da_nil))))
  db_nil))))
  db_nil)))
  (db_cons (ds_ret (p := false) (de_move (i := 3)))
  db_nil))) (by decide)
/-! table -/
theorem sc_table : FnScope ["left", "right", "prices", "row"] ["left", "right", "prices"] (defScope s6) := ⟨rfl, rfl, rfl, by decide +kernel, rfl, by decide +kernel, by decide +kernel⟩
theorem nd_table : List.Nodup (["left", "right", "prices", "row"] : List Str) := sc_table.nd
theorem bi_table (m : MF P K mg) : Binds K m.fd_table ["left", "right", "prices"] [] := m.F_table.bindsN fun _ _ _ _ _ _ us hl => match us, hl with | [_, _, _], _ => rfl
def f_table : Sv := (sSeq (sExpr (eFn 3 (D_check_texts) (aCons (eRead 0) (aCons (eRead 1) (aCons (eRead 2) aNil)))))
  (sSeq (sRet (eCall tupleD (aCons (eLc [3] (.nm 3) (iLst (eFn 3 (D_table_of) (aCons (eRead 0) (aCons (eRead 1) (aCons (eRead 2) aNil))))) tYesE (eCall tupleD (aCons (eRead 3) aNil))) aNil)))
  sNx))
def D_table : Den := denOf 1 none f_table
theorem g_table (m : MF P K mg) : FnG P w K mg base CX0 4 m.a_table m.fd_table ["left", "right", "prices"] (spD K 3 none D_table) := by
  refine fn_den (A' := []) m.F_table sc_table (by intro k hk; first | (cases hk; done) | (cases hk; decide)) (by intro k hk; first | (cases hk; done) | (cases hk; decide)) fun cdv A out s H E room gd => ?_
  have hp : PassesOwn (model P w) (cxOf CX0 P w K mg base ["left", "right", "prices", "row"] "table" (defScope s6) m.a_table cdv A out s H E).A _ _ := passes_of rfl
  have hu : (cxOf CX0 P w K mg base ["left", "right", "prices", "row"] "table" (defScope s6) m.a_table cdv A out s H E).A.units + 64 < cLine := by have := room.un; show (A.deeper _).units + 64 < cLine; omega
  exact db_sub (db_cons (ds_expr (p := true) (o := true) (de_fn (p := true) (o := false) ((g_check_texts m).more (by decide)) room gd m.m_check_texts m.F_check_texts.kp (bi_check_texts m) pass0 (da_cons (p1 := true) (o1 := false) (p2 := true) (o2 := false) (de_read (i := 0)) (da_cons (p1 := true) (o1 := false) (p2 := true) (o2 := false) (de_read (i := 1)) (da_cons (p1 := true) (o1 := false) (p2 := true) (o2 := true) (de_read (i := 2)) da_nil)))))
  (db_cons (ds_ret (p := true) (de_callT (p := true) (o := true) cr_tupleV m.z_tuple (da_cons (p1 := true) (o1 := true) (p2 := true) (o2 := true) (de_lc (own := [("row", 3)]) (p1 := true) (p2 := true) (p3 := true) rfl nd_table (di_list (p := true) (dp_own (p := true) (de_fn (p := true) (o := false) ((g_table_of m).more (by decide)) room gd m.m_table_of m.F_table_of.kp (bi_table_of m) pass0 (da_cons (p1 := true) (o1 := false) (p2 := true) (o2 := false) (de_read (i := 0)) (da_cons (p1 := true) (o1 := false) (p2 := true) (o2 := false) (de_read (i := 1)) (da_cons (p1 := true) (o1 := false) (p2 := true) (o2 := true) (de_read (i := 2)) da_nil)))))) (blkOk_by (own := [("row", 3)]) (by kernel_rfl)) (fun _ _ _ _ _ => (dg_name nd_table (i := 3))) (fun _ _ _ _ _ => dts_nil) (fun _ _ _ _ _ => (de_callT (p := true) (o := false) cr_tupleV m.z_tuple (da_cons (p1 := true) (o1 := false) (p2 := true) (o2 := true) (de_read (i := 3)) da_nil)))) da_nil)))
  db_nil)) (by decide)
/-! _law_row -/
theorem sc__law_row : FnScope ["left", "right", "prices", "told", "one", "other", "found", "step", "up", "over"] ["left", "right", "prices", "told"] (defScope s26) := ⟨rfl, rfl, rfl, by decide +kernel, rfl, by decide +kernel, by decide +kernel⟩
theorem nd__law_row : List.Nodup (["left", "right", "prices", "told", "one", "other", "found", "step", "up", "over"] : List Str) := sc__law_row.nd
theorem bi__law_row (m : MF P K mg) : Binds K m.fd__law_row ["left", "right", "prices", "told"] [] := m.F__law_row.bindsN fun _ _ _ _ _ _ us hl => match us, hl with | [_, _, _, _], _ => rfl
def l0__law_row : Sv := (sSeq (sAsg (.tp ((.nm 8) :: ((.nm 9) :: []))) (eIx (eFn0 (D__law_steps)) (eRead 7)))
  (sSeq (sIf (tAndE (eT (eBin leD (eRead 8) (eRead 4))) (tAndE (eT (eBin leD (eRead 9) (eRead 5))) (eT (eBin eqD (eBin addD (eIx (eIx (eRead 3) (eBin subD (eRead 4) (eRead 8))) (eBin subD (eRead 5) (eRead 9))) (eFn 6 (D__law_added) (aCons (eRead 0) (aCons (eRead 1) (aCons (eRead 2) (aCons (eRead 4) (aCons (eRead 5) (aCons (eRead 7) aNil)))))))) (eIx (eIx (eRead 3) (eRead 4)) (eRead 5))))))
  (sSeq (sExpr (eApp 6 (eImm (eRead 7))))
  (sSeq (sPar2 4 5 (aCons (eBin subD (eRead 4) (eRead 8)) (aCons (eBin subD (eRead 5) (eRead 9)) aNil)))
  (sSeq sBk
  sNx)))
  sNx)
  sNx))
def l1__law_row : Sv := (sSeq (sFor [7, 8, 9] (.nm 7) (iFn rng1D (aCons (eC (.int 5)) aNil))
  l0__law_row)
  sNx)
def f__law_row : Sv := (sSeq (sPar3 4 5 6 (aCons (eCall lenD (aCons (eRead 0) aNil)) (aCons (eCall lenD (aCons (eRead 1) aNil)) (aCons (eLst aNil) aNil))))
  (sSeq (sWhile [7, 8, 9] (tOrE (eT (eBin gtD (eRead 4) (eC (.int 0)))) (eT (eBin gtD (eRead 5) (eC (.int 0)))))
  l1__law_row)
  (sSeq (sRet (eCall tupleD (aCons (eUn revD (eRead 6)) aNil)))
  sNx)))
def D__law_row : Den := denOf 6 none f__law_row
theorem g__law_row (m : MF P K mg) : FnG P w K mg base CX0 3 m.a__law_row m.fd__law_row ["left", "right", "prices", "told"] (spD K 4 none D__law_row) := by
  refine fn_den (A' := [4, 5, 6, 7, 8, 9]) m.F__law_row sc__law_row (by intro k hk; first | (cases hk; done) | (cases hk; decide)) (by intro k hk; first | (cases hk; done) | (cases hk; decide)) fun cdv A out s H E room gd => ?_
  have hp : PassesOwn (model P w) (cxOf CX0 P w K mg base ["left", "right", "prices", "told", "one", "other", "found", "step", "up", "over"] "_law_row" (defScope s26) m.a__law_row cdv A out s H E).A _ _ := passes_of rfl
  have hu : (cxOf CX0 P w K mg base ["left", "right", "prices", "told", "one", "other", "found", "step", "up", "over"] "_law_row" (defScope s26) m.a__law_row cdv A out s H E).A.units + 64 < cLine := by have := room.un; show (A.deeper _).units + 64 < cLine; omega
  exact db_sub (db_cons (ds_par3 (i := 4) (j := 5) (l := 6) (p := true) rfl nd__law_row (da_cons (p1 := true) (o1 := true) (p2 := true) (o2 := true) (de_callB (p := true) (o := false) cr_lenV m.z_len (da_cons (p1 := true) (o1 := false) (p2 := true) (o2 := true) (de_read (i := 0)) da_nil)) (da_cons (p1 := true) (o1 := true) (p2 := true) (o2 := true) (de_callB (p := true) (o := false) cr_lenV m.z_len (da_cons (p1 := true) (o1 := false) (p2 := true) (o2 := true) (de_read (i := 1)) da_nil)) (da_cons (p1 := true) (o1 := true) (p2 := true) (o2 := true) (de_lst (p := true) (o := true) da_nil) da_nil))))
  (db_cons (ds_while (p := true) (ks := [7, 8, 9]) hp (dt_w (dw_or (p1 := true) (p2 := true) (dt_cmp (p1 := true) (o1 := false) (p2 := true) (o2 := true) (op_gtV hu) (de_read (i := 4)) de_int) (dw_or1 (p := true) (dt_cmp (p1 := true) (o1 := false) (p2 := true) (o2 := true) (op_gtV hu) (de_read (i := 5)) de_int))))
  (db_cons (ds_for (p := true) (ks := [7, 8, 9]) hp rfl (di_range1 (p := true) (o := true) m.z_range (da_cons (p1 := true) (o1 := true) (p2 := true) (o2 := true) de_int da_nil)) (dg_name nd__law_row (i := 7))
  (db_cons (ds_asg (p := true) (dg_tup rfl (dgs_cons (dg_name nd__law_row (i := 8)) (dgs_cons (dg_name nd__law_row (i := 9)) dgs_nil))) (de_ix (p1 := true) (o1 := true) (p2 := true) (o2 := false) (de_fn0 ((g__law_steps m).more (by decide)) room gd m.m__law_steps m.F__law_steps.kp (bi__law_steps m) pass0) (de_read (i := 7))))
  (db_cons (ds_if (p := true) (dt_w (dw_and (p1 := true) (p2 := true) (dt_cmp (p1 := true) (o1 := false) (p2 := true) (o2 := false) (op_leV hu) (de_read (i := 8)) (de_read (i := 4))) (dw_and (p1 := true) (p2 := true) (dt_cmp (p1 := true) (o1 := false) (p2 := true) (o2 := false) (op_leV hu) (de_read (i := 9)) (de_read (i := 5))) (dw_and1 (p := true) (dt_cmp (p1 := true) (o1 := true) (p2 := true) (o2 := false) (op_eqV hu) (de_op (p1 := true) (o1 := false) (p2 := true) (o2 := true) op_addV (de_ix (p1 := true) (o1 := false) (p2 := true) (o2 := true) (de_ix (p1 := true) (o1 := false) (p2 := true) (o2 := true) (de_read (i := 3)) (de_op (p1 := true) (o1 := false) (p2 := true) (o2 := false) op_subV (de_read (i := 4)) (de_read (i := 8)))) (de_op (p1 := true) (o1 := false) (p2 := true) (o2 := false) op_subV (de_read (i := 5)) (de_read (i := 9)))) (de_fn (p := true) (o := false) ((g__law_added m).more (by decide)) room gd m.m__law_added m.F__law_added.kp (bi__law_added m) pass0 (da_cons (p1 := true) (o1 := false) (p2 := true) (o2 := false) (de_read (i := 0)) (da_cons (p1 := true) (o1 := false) (p2 := true) (o2 := false) (de_read (i := 1)) (da_cons (p1 := true) (o1 := false) (p2 := true) (o2 := false) (de_read (i := 2)) (da_cons (p1 := true) (o1 := false) (p2 := true) (o2 := false) (de_read (i := 4)) (da_cons (p1 := true) (o1 := false) (p2 := true) (o2 := false) (de_read (i := 5)) (da_cons (p1 := true) (o1 := false) (p2 := true) (o2 := true) (de_read (i := 7)) da_nil)))))))) (de_ix (p1 := true) (o1 := false) (p2 := true) (o2 := false) (de_ix (p1 := true) (o1 := false) (p2 := true) (o2 := false) (de_read (i := 3)) (de_read (i := 4))) (de_read (i := 5))))))))
  (db_cons (ds_expr (p := false) (o := true) (de_app (p := true) (i := 6) (de_imm (p := true) (o := false) (de_read (i := 7)))))
  (db_cons (ds_par2 (i := 4) (j := 5) (p := true) rfl nd__law_row (da_cons (p1 := true) (o1 := true) (p2 := true) (o2 := true) (de_op (p1 := true) (o1 := false) (p2 := true) (o2 := false) op_subV (de_read (i := 4)) (de_read (i := 8))) (da_cons (p1 := true) (o1 := true) (p2 := true) (o2 := true) (de_op (p1 := true) (o1 := false) (p2 := true) (o2 := false) op_subV (de_read (i := 5)) (de_read (i := 9))) da_nil)))
  (db_cons ds_break
  db_nil)))
  db_nil)
  db_nil)))
  db_nil))
  (db_cons (ds_ret (p := true) (de_callT (p := true) (o := true) cr_tupleV m.z_tuple (da_cons (p1 := true) (o1 := true) (p2 := true) (o2 := true) (de_rev (p := true) (o := false) (de_read (i := 6))) da_nil)))
  db_nil))) (by decide)
/-! _law_same -/
theorem sc__law_same : FnScope ["actual", "due"] ["actual", "due"] (defScope s20) := ⟨rfl, rfl, rfl, by decide +kernel, rfl, by decide +kernel, by decide +kernel⟩
theorem nd__law_same : List.Nodup (["actual", "due"] : List Str) := sc__law_same.nd
theorem bi__law_same (m : MF P K mg) : Binds K m.fd__law_same ["actual", "due"] [] := m.F__law_same.bindsN fun _ _ _ _ _ _ us hl => match us, hl with | [_, _], _ => rfl
def f__law_same : Sv := (sSeq (sRet (eAnd (eBin eqD (eRead 0) (eRead 1)) (eBin eqD (eCall reprD (aCons (eRead 0) aNil)) (eCall reprD (aCons (eRead 1) aNil)))))
  sNx)
def D__law_same : Den := denOf 0 none f__law_same
theorem g__law_same (m : MF P K mg) : FnG P w K mg base CX0 1 m.a__law_same m.fd__law_same ["actual", "due"] (spD K 2 none D__law_same) := by
  refine fn_den (A' := []) m.F__law_same sc__law_same (by intro k hk; first | (cases hk; done) | (cases hk; decide)) (by intro k hk; first | (cases hk; done) | (cases hk; decide)) fun cdv A out s H E room gd => ?_
  have hp : PassesOwn (model P w) (cxOf CX0 P w K mg base ["actual", "due"] "_law_same" (defScope s20) m.a__law_same cdv A out s H E).A _ _ := passes_of rfl
  have hu : (cxOf CX0 P w K mg base ["actual", "due"] "_law_same" (defScope s20) m.a__law_same cdv A out s H E).A.units + 64 < cLine := by have := room.un; show (A.deeper _).units + 64 < cLine; omega
  exact db_sub (db_cons (ds_ret (p := true) (de_and (p1 := true) (o1 := true) (p2 := true) (o2 := true) (de_cmp (p1 := true) (o1 := false) (p2 := true) (o2 := false) (op_eqV hu) (de_read (i := 0)) (de_read (i := 1))) (de_and1 (p := true) (o := true) (de_cmp (p1 := true) (o1 := true) (p2 := true) (o2 := true) (op_eqV hu) (de_callB (p := true) (o := false) (cr_reprV hu gd) m.z_repr (da_cons (p1 := true) (o1 := false) (p2 := true) (o2 := true) (de_read (i := 0)) da_nil)) (de_callB (p := true) (o := false) (cr_reprV hu gd) m.z_repr (da_cons (p1 := true) (o1 := false) (p2 := true) (o2 := true) (de_read (i := 1)) da_nil))))))
  db_nil) (by decide)
/-! aligned -/
theorem sc_aligned : FnScope ["left", "right", "prices", "rows", "first", "second", "found", "number", "one", "other", "own"] ["left", "right", "prices"] (defScope s7) := ⟨rfl, rfl, rfl, by decide +kernel, rfl, by decide +kernel, by decide +kernel⟩
theorem nd_aligned : List.Nodup (["left", "right", "prices", "rows", "first", "second", "found", "number", "one", "other", "own"] : List Str) := sc_aligned.nd
theorem bi_aligned (m : MF P K mg) : Binds K m.fd_aligned ["left", "right", "prices"] [] := m.F_aligned.bindsN fun _ _ _ _ _ _ us hl => match us, hl with | [_, _, _], _ => rfl
def l0_aligned : Sv := (sSeq (sIf (tAndE (eT (eBin geD (eRead 4) (eRead 8))) (eT (eBin geD (eRead 5) (eRead 9))))
  (sSeq (sSet 10 (eBin addD (eIx (eIx (eRead 3) (eBin subD (eRead 4) (eRead 8))) (eBin subD (eRead 5) (eRead 9))) (eFn 5 (D_step_price) (aCons (eRead 0) (aCons (eRead 1) (aCons (eRead 2) (aCons (eTup (aCons (eRead 4) (aCons (eRead 5) aNil))) (aCons (eRead 7) aNil))))))))
  (sSeq (sIf (eT (eBin eqD (eRead 10) (eIx (eIx (eRead 3) (eRead 4)) (eRead 5))))
  (sSeq (sExpr (eApp 6 (eImm (eRead 7))))
  (sSeq (sPar2 4 5 (aCons (eBin subD (eRead 4) (eRead 8)) (aCons (eBin subD (eRead 5) (eRead 9)) aNil)))
  (sSeq sBk
  sNx)))
  sNx)
  sNx))
  sNx)
  sNx)
def l1_aligned : Sv := (sSeq (sFor [7, 8, 9, 10] (.tp ((.nm 7) :: ((.tp ((.nm 8) :: ((.nm 9) :: []))) :: []))) (iFn enumTD (aCons (eC C_STEPS) aNil))
  l0_aligned)
  sNx)
def f_aligned : Sv := (sSeq (sExpr (eFn 3 (D_check_texts) (aCons (eRead 0) (aCons (eRead 1) (aCons (eRead 2) aNil)))))
  (sSeq (sSet 3 (eFn 3 (D_table_of) (aCons (eRead 0) (aCons (eRead 1) (aCons (eRead 2) aNil)))))
  (sSeq (sPar2 4 5 (aCons (eCall lenD (aCons (eRead 0) aNil)) (aCons (eCall lenD (aCons (eRead 1) aNil)) aNil)))
  (sSeq (sSet 6 (eLst aNil))
  (sSeq (sWhile [7, 8, 9, 10] (tOrE (eT (eBin gtD (eRead 4) (eC (.int 0)))) (eT (eBin gtD (eRead 5) (eC (.int 0)))))
  l1_aligned)
  (sSeq (sRet (eTup (aCons (eImm (eIx (eIx (eRead 3) (eUn negD (eC (.int 1)))) (eUn negD (eC (.int 1))))) (aCons (eCall tupleD (aCons (eUn revD (eRead 6)) aNil)) aNil))))
  sNx))))))
def D_aligned : Den := denOf 8 none f_aligned
theorem g_aligned (m : MF P K mg) : FnG P w K mg base CX0 4 m.a_aligned m.fd_aligned ["left", "right", "prices"] (spD K 3 none D_aligned) := by
  refine fn_den (A' := [3, 4, 5, 6, 7, 8, 9, 10]) m.F_aligned sc_aligned (by intro k hk; first | (cases hk; done) | (cases hk; decide)) (by intro k hk; first | (cases hk; done) | (cases hk; decide)) fun cdv A out s H E room gd => ?_
  have hp : PassesOwn (model P w) (cxOf CX0 P w K mg base ["left", "right", "prices", "rows", "first", "second", "found", "number", "one", "other", "own"] "aligned" (defScope s7) m.a_aligned cdv A out s H E).A _ _ := passes_of rfl
  have hu : (cxOf CX0 P w K mg base ["left", "right", "prices", "rows", "first", "second", "found", "number", "one", "other", "own"] "aligned" (defScope s7) m.a_aligned cdv A out s H E).A.units + 64 < cLine := by have := room.un; show (A.deeper _).units + 64 < cLine; omega
  exact db_sub (db_cons (ds_expr (p := true) (o := true) (de_fn (p := true) (o := false) ((g_check_texts m).more (by decide)) room gd m.m_check_texts m.F_check_texts.kp (bi_check_texts m) pass0 (da_cons (p1 := true) (o1 := false) (p2 := true) (o2 := false) (de_read (i := 0)) (da_cons (p1 := true) (o1 := false) (p2 := true) (o2 := false) (de_read (i := 1)) (da_cons (p1 := true) (o1 := false) (p2 := true) (o2 := true) (de_read (i := 2)) da_nil)))))
  (db_cons (ds_set (i := 3) (p := true) nd_aligned (de_fn (p := true) (o := false) ((g_table_of m).more (by decide)) room gd m.m_table_of m.F_table_of.kp (bi_table_of m) pass0 (da_cons (p1 := true) (o1 := false) (p2 := true) (o2 := false) (de_read (i := 0)) (da_cons (p1 := true) (o1 := false) (p2 := true) (o2 := false) (de_read (i := 1)) (da_cons (p1 := true) (o1 := false) (p2 := true) (o2 := true) (de_read (i := 2)) da_nil)))))
  (db_cons (ds_par2 (i := 4) (j := 5) (p := true) rfl nd_aligned (da_cons (p1 := true) (o1 := true) (p2 := true) (o2 := true) (de_callB (p := true) (o := false) cr_lenV m.z_len (da_cons (p1 := true) (o1 := false) (p2 := true) (o2 := true) (de_read (i := 0)) da_nil)) (da_cons (p1 := true) (o1 := true) (p2 := true) (o2 := true) (de_callB (p := true) (o := false) cr_lenV m.z_len (da_cons (p1 := true) (o1 := false) (p2 := true) (o2 := true) (de_read (i := 1)) da_nil)) da_nil)))
  (db_cons (ds_set (i := 6) (p := true) nd_aligned (de_lst (p := true) (o := true) da_nil))
  (db_cons (ds_while (p := true) (ks := [7, 8, 9, 10]) hp (dt_w (dw_or (p1 := true) (p2 := true) (dt_cmp (p1 := true) (o1 := false) (p2 := true) (o2 := true) (op_gtV hu) (de_read (i := 4)) de_int) (dw_or1 (p := true) (dt_cmp (p1 := true) (o1 := false) (p2 := true) (o2 := true) (op_gtV hu) (de_read (i := 5)) de_int))))
  (db_cons (ds_for (p := true) (ks := [7, 8, 9, 10]) hp rfl (di_enumT (p := true) m.z_enumerate (dpa_cons (p1 := true) (p2 := true) (dp_own (p := true) (de_gdat rfl m.g_STEPS)) dpa_nil)) (dg_tup rfl (dgs_cons (dg_name nd_aligned (i := 7)) (dgs_cons (dg_tup rfl (dgs_cons (dg_name nd_aligned (i := 8)) (dgs_cons (dg_name nd_aligned (i := 9)) dgs_nil))) dgs_nil)))
  (db_cons (ds_if (p := true) (dt_w (dw_and (p1 := true) (p2 := true) (dt_cmp (p1 := true) (o1 := false) (p2 := true) (o2 := false) (op_geV hu) (de_read (i := 4)) (de_read (i := 8))) (dw_and1 (p := true) (dt_cmp (p1 := true) (o1 := false) (p2 := true) (o2 := false) (op_geV hu) (de_read (i := 5)) (de_read (i := 9))))))
  (db_cons (ds_set (i := 10) (p := true) nd_aligned (de_op (p1 := true) (o1 := false) (p2 := true) (o2 := true) op_addV (de_ix (p1 := true) (o1 := false) (p2 := true) (o2 := true) (de_ix (p1 := true) (o1 := false) (p2 := true) (o2 := true) (de_read (i := 3)) (de_op (p1 := true) (o1 := false) (p2 := true) (o2 := false) op_subV (de_read (i := 4)) (de_read (i := 8)))) (de_op (p1 := true) (o1 := false) (p2 := true) (o2 := false) op_subV (de_read (i := 5)) (de_read (i := 9)))) (de_fn (p := true) (o := false) ((g_step_price m).more (by decide)) room gd m.m_step_price m.F_step_price.kp (bi_step_price m) pass0 (da_cons (p1 := true) (o1 := false) (p2 := true) (o2 := false) (de_read (i := 0)) (da_cons (p1 := true) (o1 := false) (p2 := true) (o2 := false) (de_read (i := 1)) (da_cons (p1 := true) (o1 := false) (p2 := true) (o2 := false) (de_read (i := 2)) (da_cons (p1 := true) (o1 := false) (p2 := true) (o2 := false) (de_tup (p := true) (o := false) (da_cons (p1 := true) (o1 := false) (p2 := true) (o2 := false) (de_read (i := 4)) (da_cons (p1 := true) (o1 := false) (p2 := true) (o2 := true) (de_read (i := 5)) da_nil))) (da_cons (p1 := true) (o1 := false) (p2 := true) (o2 := true) (de_read (i := 7)) da_nil))))))))
  (db_cons (ds_if (p := true) (dt_cmp (p1 := true) (o1 := false) (p2 := true) (o2 := false) (op_eqV hu) (de_read (i := 10)) (de_ix (p1 := true) (o1 := false) (p2 := true) (o2 := false) (de_ix (p1 := true) (o1 := false) (p2 := true) (o2 := false) (de_read (i := 3)) (de_read (i := 4))) (de_read (i := 5))))
  (db_cons (ds_expr (p := false) (o := true) (de_app (p := true) (i := 6) (de_imm (p := true) (o := false) (de_read (i := 7)))))
  (db_cons (ds_par2 (i := 4) (j := 5) (p := true) rfl nd_aligned (da_cons (p1 := true) (o1 := true) (p2 := true) (o2 := true) (de_op (p1 := true) (o1 := false) (p2 := true) (o2 := false) op_subV (de_read (i := 4)) (de_read (i := 8))) (da_cons (p1 := true) (o1 := true) (p2 := true) (o2 := true) (de_op (p1 := true) (o1 := false) (p2 := true) (o2 := false) op_subV (de_read (i := 5)) (de_read (i := 9))) da_nil)))
  (db_cons ds_break
  db_nil)))
  db_nil)
  db_nil))
  db_nil)
  db_nil))
  db_nil))
  (db_cons (ds_ret (p := true) (de_tup (p := true) (o := true) (da_cons (p1 := true) (o1 := true) (p2 := true) (o2 := true) (de_imm (p := true) (o := false) (de_ix (p1 := true) (o1 := false) (p2 := true) (o2 := true) (de_ix (p1 := true) (o1 := false) (p2 := true) (o2 := true) (de_read (i := 3)) (de_un (p := true) (o := true) un_negV de_int)) (de_un (p := true) (o := true) un_negV de_int))) (da_cons (p1 := true) (o1 := true) (p2 := true) (o2 := true) (de_callT (p := true) (o := true) cr_tupleV m.z_tuple (da_cons (p1 := true) (o1 := true) (p2 := true) (o2 := true) (de_rev (p := true) (o := false) (de_read (i := 6))) da_nil)) da_nil))))
  db_nil)))))) (by decide)
/-! accept_steps -/
theorem sc_accept_steps : FnScope ["left", "right", "prices", "price", "steps", "first", "second", "total", "number"] ["left", "right", "prices", "price", "steps"] (defScope s8) := ⟨rfl, rfl, rfl, by decide +kernel, rfl, by decide +kernel, by decide +kernel⟩
theorem nd_accept_steps : List.Nodup (["left", "right", "prices", "price", "steps", "first", "second", "total", "number"] : List Str) := sc_accept_steps.nd
theorem bi_accept_steps (m : MF P K mg) : Binds K m.fd_accept_steps ["left", "right", "prices", "price", "steps"] [] := m.F_accept_steps.bindsN fun _ _ _ _ _ _ us hl => match us, hl with | [_, _, _, _, _], _ => rfl
def l0_accept_steps : Sv := (sSeq (sPar2 5 6 (aCons (eBin addD (eRead 5) (eIx (eIx (eC C_STEPS) (eRead 8)) (eC (.int 0)))) (aCons (eBin addD (eRead 6) (eIx (eIx (eC C_STEPS) (eRead 8)) (eC (.int 1)))) aNil)))
  (sSeq (sIf (tOrE (eT (eBin gtD (eRead 5) (eCall lenD (aCons (eRead 0) aNil)))) (eT (eBin gtD (eRead 6) (eCall lenD (aCons (eRead 1) aNil)))))
  (sSeq sNo
  sNx)
  sNx)
  (sSeq (sAug 7 augAdd (eFn 5 (D_step_price) (aCons (eRead 0) (aCons (eRead 1) (aCons (eRead 2) (aCons (eTup (aCons (eRead 5) (aCons (eRead 6) aNil))) (aCons (eRead 8) aNil)))))))
  sNx)))
def f_accept_steps : Sv := (sSeq (sExpr (eFn 3 (D_check_texts) (aCons (eRead 0) (aCons (eRead 1) (aCons (eRead 2) aNil)))))
  (sSeq (sIf (tOrE (tNotE (eTru (eFn 1 (D_is_integer) (aCons (eRead 3) aNil)))) (tNotE (eTru (eIs PyData.isTuple (eRead 4)))))
  (sSeq sNo
  sNx)
  sNx)
  (sSeq (sIf (tNotE (eTru (eCall allD (aCons (eLc [8] (.nm 8) (iTpl (eReadP 4)) tYesE (eAnd (eFn 1 (D_is_integer) (aCons (eRead 8) aNil)) (eChain (eC (.int 0)) (cLink leD (eRead 8) (cLast ltD (eCall lenD (aCons (eC C_STEPS) aNil))))))) aNil))))
  (sSeq sNo
  sNx)
  sNx)
  (sSeq (sAsg (.tp ((.nm 5) :: ((.nm 6) :: ((.nm 7) :: [])))) (eTup (aCons (eC (.int 0)) (aCons (eC (.int 0)) (aCons (eC (.int 0)) aNil)))))
  (sSeq (sFor [8] (.nm 8) (iTpl (eReadP 4))
  l0_accept_steps)
  (sSeq (sIf (eT (eBin neD (eTup (aCons (eRead 5) (aCons (eRead 6) aNil))) (eTup (aCons (eCall lenD (aCons (eRead 0) aNil)) (aCons (eCall lenD (aCons (eRead 1) aNil)) aNil)))))
  (sSeq sNo
  sNx)
  sNx)
  (sSeq (sIf (eT (eBin gtD (eRead 7) (eRead 3)))
  (sSeq sNo
  sNx)
  sNx)
  sNx)))))))
def D_accept_steps : Den := denOf 4 none f_accept_steps
theorem g_accept_steps (m : MF P K mg) : FnG P w K mg base CX0 4 m.a_accept_steps m.fd_accept_steps ["left", "right", "prices", "price", "steps"] (spD K 5 none D_accept_steps) := by
  refine fn_den (A' := [5, 6, 7, 8]) m.F_accept_steps sc_accept_steps (by intro k hk; first | (cases hk; done) | (cases hk; decide)) (by intro k hk; first | (cases hk; done) | (cases hk; decide)) fun cdv A out s H E room gd => ?_
  have hp : PassesOwn (model P w) (cxOf CX0 P w K mg base ["left", "right", "prices", "price", "steps", "first", "second", "total", "number"] "accept_steps" (defScope s8) m.a_accept_steps cdv A out s H E).A _ _ := passes_of rfl
  have hu : (cxOf CX0 P w K mg base ["left", "right", "prices", "price", "steps", "first", "second", "total", "number"] "accept_steps" (defScope s8) m.a_accept_steps cdv A out s H E).A.units + 64 < cLine := by have := room.un; show (A.deeper _).units + 64 < cLine; omega
  exact db_sub (db_cons (ds_expr (p := true) (o := true) (de_fn (p := true) (o := false) ((g_check_texts m).more (by decide)) room gd m.m_check_texts m.F_check_texts.kp (bi_check_texts m) pass0 (da_cons (p1 := true) (o1 := false) (p2 := true) (o2 := false) (de_read (i := 0)) (da_cons (p1 := true) (o1 := false) (p2 := true) (o2 := false) (de_read (i := 1)) (da_cons (p1 := true) (o1 := false) (p2 := true) (o2 := true) (de_read (i := 2)) da_nil)))))
  (db_cons (ds_if (p := true) (dt_w (dw_or (p1 := true) (p2 := true) (dt_not (p := true) (dt_truth (p := true) (o := true) (de_fn (p := true) (o := false) ((g_is_integer m).more (by decide)) room gd m.m_is_integer m.F_is_integer.kp (bi_is_integer m) pass0 (da_cons (p1 := true) (o1 := false) (p2 := true) (o2 := true) (de_read (i := 3)) da_nil)))) (dw_or1 (p := true) (dt_not (p := true) (dt_truth (p := true) (o := true) (de_isV (p := true) (o := false) (cr_isV PySem.W.isinstance_tuple_data) m.z_isinstance m.z_tuple rfl (de_read (i := 4))))))))
  (db_cons ds_never
  db_nil)
  db_nil)
  (db_cons (ds_if (p := true) (dt_not (p := true) (dt_truth (p := true) (o := true) (de_callB (p := true) (o := true) (cr_allV rfl) m.z_all (da_cons (p1 := true) (o1 := true) (p2 := true) (o2 := true) (de_lc (own := [("number", 8)]) (p1 := true) (p2 := true) (p3 := true) rfl nd_accept_steps (di_tup (p := true) (dp_ofQ (p := true) (dq_read (i := 4)))) (blkOk_by (own := [("number", 8)]) (by kernel_rfl)) (fun _ _ _ _ _ => (dg_name nd_accept_steps (i := 8))) (fun _ _ _ _ _ => dts_nil) (fun _ _ _ _ _ => (de_and (p1 := true) (o1 := true) (p2 := true) (o2 := true) (de_fn (p := true) (o := false) ((g_is_integer m).more (by decide)) room gd m.m_is_integer m.F_is_integer.kp (bi_is_integer m) pass0 (da_cons (p1 := true) (o1 := false) (p2 := true) (o2 := true) (de_read (i := 8)) da_nil)) (de_and1 (p := true) (o := true) (de_chain (o := true) de_int (dcv_link (o := false) (op_leV hu) (de_read (i := 8)) (dcv_last (o := true) (op_ltV hu) (de_callB (p := true) (o := true) cr_lenV m.z_len (da_cons (p1 := true) (o1 := true) (p2 := true) (o2 := true) (de_gdat rfl m.g_STEPS) da_nil))))))))) da_nil))))
  (db_cons ds_never
  db_nil)
  db_nil)
  (db_cons (ds_asg (p := true) (dg_tup rfl (dgs_cons (dg_name nd_accept_steps (i := 5)) (dgs_cons (dg_name nd_accept_steps (i := 6)) (dgs_cons (dg_name nd_accept_steps (i := 7)) dgs_nil)))) (de_tup (p := true) (o := true) (da_cons (p1 := true) (o1 := true) (p2 := true) (o2 := true) de_int (da_cons (p1 := true) (o1 := true) (p2 := true) (o2 := true) de_int (da_cons (p1 := true) (o1 := true) (p2 := true) (o2 := true) de_int da_nil)))))
  (db_cons (ds_for (p := true) (ks := [8]) hp rfl (di_tup (p := true) (dp_ofQ (p := true) (dq_read (i := 4)))) (dg_name nd_accept_steps (i := 8))
  (db_cons (ds_par2 (i := 5) (j := 6) (p := true) rfl nd_accept_steps (da_cons (p1 := true) (o1 := true) (p2 := true) (o2 := true) (de_op (p1 := true) (o1 := false) (p2 := true) (o2 := true) op_addV (de_read (i := 5)) (de_ix (p1 := true) (o1 := true) (p2 := true) (o2 := true) (de_ix (p1 := true) (o1 := true) (p2 := true) (o2 := false) (de_gdat rfl m.g_STEPS) (de_read (i := 8))) de_int)) (da_cons (p1 := true) (o1 := true) (p2 := true) (o2 := true) (de_op (p1 := true) (o1 := false) (p2 := true) (o2 := true) op_addV (de_read (i := 6)) (de_ix (p1 := true) (o1 := true) (p2 := true) (o2 := true) (de_ix (p1 := true) (o1 := true) (p2 := true) (o2 := false) (de_gdat rfl m.g_STEPS) (de_read (i := 8))) de_int)) da_nil)))
  (db_cons (ds_if (p := true) (dt_w (dw_or (p1 := true) (p2 := true) (dt_cmp (p1 := true) (o1 := false) (p2 := true) (o2 := true) (op_gtV hu) (de_read (i := 5)) (de_callB (p := true) (o := false) cr_lenV m.z_len (da_cons (p1 := true) (o1 := false) (p2 := true) (o2 := true) (de_read (i := 0)) da_nil))) (dw_or1 (p := true) (dt_cmp (p1 := true) (o1 := false) (p2 := true) (o2 := true) (op_gtV hu) (de_read (i := 6)) (de_callB (p := true) (o := false) cr_lenV m.z_len (da_cons (p1 := true) (o1 := false) (p2 := true) (o2 := true) (de_read (i := 1)) da_nil))))))
  (db_cons ds_never
  db_nil)
  db_nil)
  (db_cons (ds_aug (i := 7) (o := true) nd_accept_steps ip_addV (de_fn (p := true) (o := false) ((g_step_price m).more (by decide)) room gd m.m_step_price m.F_step_price.kp (bi_step_price m) pass0 (da_cons (p1 := true) (o1 := false) (p2 := true) (o2 := false) (de_read (i := 0)) (da_cons (p1 := true) (o1 := false) (p2 := true) (o2 := false) (de_read (i := 1)) (da_cons (p1 := true) (o1 := false) (p2 := true) (o2 := false) (de_read (i := 2)) (da_cons (p1 := true) (o1 := false) (p2 := true) (o2 := false) (de_tup (p := true) (o := false) (da_cons (p1 := true) (o1 := false) (p2 := true) (o2 := false) (de_read (i := 5)) (da_cons (p1 := true) (o1 := false) (p2 := true) (o2 := true) (de_read (i := 6)) da_nil))) (da_cons (p1 := true) (o1 := false) (p2 := true) (o2 := true) (de_read (i := 8)) da_nil)))))))
  db_nil))))
  (db_cons (ds_if (p := true) (dt_cmp (p1 := true) (o1 := false) (p2 := true) (o2 := true) (op_neV hu) (de_tup (p := true) (o := false) (da_cons (p1 := true) (o1 := false) (p2 := true) (o2 := false) (de_read (i := 5)) (da_cons (p1 := true) (o1 := false) (p2 := true) (o2 := true) (de_read (i := 6)) da_nil))) (de_tup (p := true) (o := true) (da_cons (p1 := true) (o1 := true) (p2 := true) (o2 := true) (de_callB (p := true) (o := false) cr_lenV m.z_len (da_cons (p1 := true) (o1 := false) (p2 := true) (o2 := true) (de_read (i := 0)) da_nil)) (da_cons (p1 := true) (o1 := true) (p2 := true) (o2 := true) (de_callB (p := true) (o := false) cr_lenV m.z_len (da_cons (p1 := true) (o1 := false) (p2 := true) (o2 := true) (de_read (i := 1)) da_nil)) da_nil))))
  (db_cons ds_never
  db_nil)
  db_nil)
  (db_cons (ds_if (p := true) (dt_cmp (p1 := true) (o1 := false) (p2 := true) (o2 := false) (op_gtV hu) (de_read (i := 7)) (de_read (i := 3)))
  (db_cons ds_never
  db_nil)
  db_nil)
  db_nil))))))) (by decide)
/-! accept_table -/
theorem sc_accept_table : FnScope ["left", "right", "prices", "price", "rows", "row", "first", "second", "number", "one", "other", "own", "part"] ["left", "right", "prices", "price", "rows"] (defScope s9) := ⟨rfl, rfl, rfl, by decide +kernel, rfl, by decide +kernel, by decide +kernel⟩
theorem nd_accept_table : List.Nodup (["left", "right", "prices", "price", "rows", "row", "first", "second", "number", "one", "other", "own", "part"] : List Str) := sc_accept_table.nd
theorem bi_accept_table (m : MF P K mg) : Binds K m.fd_accept_table ["left", "right", "prices", "price", "rows"] [] := m.F_accept_table.bindsN fun _ _ _ _ _ _ us hl => match us, hl with | [_, _, _, _, _], _ => rfl
def l0_accept_table : Sv := (sSeq (sIf (tAndE (eT (eBin geD (eRead 6) (eRead 9))) (eT (eBin geD (eRead 7) (eRead 10))))
  (sSeq (sSet 11 (eBin addD (eIx (eIx (eRead 4) (eBin subD (eRead 6) (eRead 9))) (eBin subD (eRead 7) (eRead 10))) (eFn 5 (D_step_price) (aCons (eRead 0) (aCons (eRead 1) (aCons (eRead 2) (aCons (eTup (aCons (eRead 6) (aCons (eRead 7) aNil))) (aCons (eRead 8) aNil))))))))
  (sSeq (sIf (eT (eBin gtD (eIx (eIx (eRead 4) (eRead 6)) (eRead 7)) (eRead 11)))
  (sSeq (sRaise "PaperError" (aCons (eC (.str "step")) aNil))
  sNx)
  sNx)
  sNx))
  sNx)
  sNx)
def l1_accept_table : Sv := (sSeq (sFor [8, 9, 10, 11] (.tp ((.nm 8) :: ((.tp ((.nm 9) :: ((.nm 10) :: []))) :: []))) (iFn enumTD (aCons (eC C_STEPS) aNil))
  l0_accept_table)
  sNx)
def l2_accept_table : Sv := (sSeq (sFor [7, 8, 9, 10, 11] (.nm 7) (iFn rng1D (aCons (eBin addD (eCall lenD (aCons (eRead 1) aNil)) (eC (.int 1))) aNil))
  l1_accept_table)
  sNx)
def l3_accept_table : Sv := (sSeq (sIf (tOrE (tNotE (eTru (eIs PyData.isTuple (eRead 5)))) (tOrE (eT (eBin neD (eCall lenD (aCons (eRead 5) aNil)) (eBin addD (eCall lenD (aCons (eRead 1) aNil)) (eC (.int 1))))) (tNotE (eTru (eCall allD (aCons (eLc [12] (.nm 12) (iTpl (eReadP 5)) tYesE (eFn 1 (D_is_integer) (aCons (eRead 12) aNil))) aNil))))))
  (sSeq (sRaise "PaperError" (aCons (eC (.str "form")) aNil))
  sNx)
  sNx)
  sNx)
def f_accept_table : Sv := (sSeq (sExpr (eFn 3 (D_check_texts) (aCons (eRead 0) (aCons (eRead 1) (aCons (eRead 2) aNil)))))
  (sSeq (sIf (tOrE (tNotE (eTru (eFn 1 (D_is_integer) (aCons (eRead 3) aNil)))) (tOrE (tNotE (eTru (eIs PyData.isTuple (eRead 4)))) (eT (eBin neD (eCall lenD (aCons (eRead 4) aNil)) (eBin addD (eCall lenD (aCons (eRead 0) aNil)) (eC (.int 1)))))))
  (sSeq (sRaise "PaperError" (aCons (eC (.str "form")) aNil))
  sNx)
  sNx)
  (sSeq (sFor [5] (.nm 5) (iTpl (eReadP 4))
  l3_accept_table)
  (sSeq (sIf (eT (eBin gtD (eIx (eIx (eRead 4) (eC (.int 0))) (eC (.int 0))) (eC (.int 0))))
  (sSeq (sRaise "PaperError" (aCons (eC (.str "begin")) aNil))
  sNx)
  sNx)
  (sSeq (sFor [6, 7, 8, 9, 10, 11] (.nm 6) (iFn rng1D (aCons (eBin addD (eCall lenD (aCons (eRead 0) aNil)) (eC (.int 1))) aNil))
  l2_accept_table)
  (sSeq (sIf (eT (eBin ltD (eIx (eIx (eRead 4) (eUn negD (eC (.int 1)))) (eUn negD (eC (.int 1)))) (eRead 3)))
  (sSeq (sRaise "PaperError" (aCons (eC (.str "price")) aNil))
  sNx)
  sNx)
  sNx))))))
def D_accept_table : Den := denOf 8 none f_accept_table
theorem g_accept_table (m : MF P K mg) : FnG P w K mg base (L2.CX P w) 4 m.a_accept_table m.fd_accept_table ["left", "right", "prices", "price", "rows"] (spD K 5 none D_accept_table) := by
  refine fn_den (A' := [5, 6, 7, 8, 9, 10, 11]) m.F_accept_table sc_accept_table (by intro k hk; first | (cases hk; done) | (cases hk; decide)) (by intro k hk; first | (cases hk; done) | (cases hk; decide)) fun cdv A out s H E room gd => ?_
  have hp : PassesOwn (model P w) (cxOf (L2.CX P w) P w K mg base ["left", "right", "prices", "price", "rows", "row", "first", "second", "number", "one", "other", "own", "part"] "accept_table" (defScope s9) m.a_accept_table cdv A out s H E).A _ _ := passes_of rfl
  have hu : (cxOf (L2.CX P w) P w K mg base ["left", "right", "prices", "price", "rows", "row", "first", "second", "number", "one", "other", "own", "part"] "accept_table" (defScope s9) m.a_accept_table cdv A out s H E).A.units + 64 < cLine := by have := room.un; show (A.deeper _).units + 64 < cLine; omega
  exact db_sub (db_cons (ds_expr (p := true) (o := true) (de_fn (p := true) (o := false) ((g_check_texts m).more (by decide)) room gd m.m_check_texts m.F_check_texts.kp (bi_check_texts m) pass0 (da_cons (p1 := true) (o1 := false) (p2 := true) (o2 := false) (de_read (i := 0)) (da_cons (p1 := true) (o1 := false) (p2 := true) (o2 := false) (de_read (i := 1)) (da_cons (p1 := true) (o1 := false) (p2 := true) (o2 := true) (de_read (i := 2)) da_nil)))))
  (db_cons (ds_if (p := true) (dt_w (dw_or (p1 := true) (p2 := true) (dt_not (p := true) (dt_truth (p := true) (o := true) (de_fn (p := true) (o := false) ((g_is_integer m).more (by decide)) room gd m.m_is_integer m.F_is_integer.kp (bi_is_integer m) pass0 (da_cons (p1 := true) (o1 := false) (p2 := true) (o2 := true) (de_read (i := 3)) da_nil)))) (dw_or (p1 := true) (p2 := true) (dt_not (p := true) (dt_truth (p := true) (o := true) (de_isV (p := true) (o := false) (cr_isV PySem.W.isinstance_tuple_data) m.z_isinstance m.z_tuple rfl (de_read (i := 4))))) (dw_or1 (p := true) (dt_cmp (p1 := true) (o1 := true) (p2 := true) (o2 := true) (op_neV hu) (de_callB (p := true) (o := false) cr_lenV m.z_len (da_cons (p1 := true) (o1 := false) (p2 := true) (o2 := true) (de_read (i := 4)) da_nil)) (de_op (p1 := true) (o1 := true) (p2 := true) (o2 := true) op_addV (de_callB (p := true) (o := false) cr_lenV m.z_len (da_cons (p1 := true) (o1 := false) (p2 := true) (o2 := true) (de_read (i := 0)) da_nil)) de_int))))))
  (db_cons (ds_raise (A := []) (p := true) (o := true) takesX m.x_PaperError room m.mx_PaperError m.z_super (da_cons (p1 := true) (o1 := true) (p2 := true) (o2 := true) de_str da_nil))
  db_nil)
  db_nil)
  (db_cons (ds_for (p := true) (ks := [5]) hp rfl (di_tup (p := true) (dp_ofQ (p := true) (dq_read (i := 4)))) (dg_name nd_accept_table (i := 5))
  (db_cons (ds_if (p := true) (dt_w (dw_or (p1 := true) (p2 := true) (dt_not (p := true) (dt_truth (p := true) (o := true) (de_isV (p := true) (o := false) (cr_isV PySem.W.isinstance_tuple_data) m.z_isinstance m.z_tuple rfl (de_read (i := 5))))) (dw_or (p1 := true) (p2 := true) (dt_cmp (p1 := true) (o1 := true) (p2 := true) (o2 := true) (op_neV hu) (de_callB (p := true) (o := false) cr_lenV m.z_len (da_cons (p1 := true) (o1 := false) (p2 := true) (o2 := true) (de_read (i := 5)) da_nil)) (de_op (p1 := true) (o1 := true) (p2 := true) (o2 := true) op_addV (de_callB (p := true) (o := false) cr_lenV m.z_len (da_cons (p1 := true) (o1 := false) (p2 := true) (o2 := true) (de_read (i := 1)) da_nil)) de_int)) (dw_or1 (p := true) (dt_not (p := true) (dt_truth (p := true) (o := true) (de_callB (p := true) (o := true) (cr_allV rfl) m.z_all (da_cons (p1 := true) (o1 := true) (p2 := true) (o2 := true) (de_lc (own := [("part", 12)]) (p1 := true) (p2 := true) (p3 := true) rfl nd_accept_table (di_tup (p := true) (dp_ofQ (p := true) (dq_read (i := 5)))) (blkOk_by (own := [("part", 12)]) (by kernel_rfl)) (fun _ _ _ _ _ => (dg_name nd_accept_table (i := 12))) (fun _ _ _ _ _ => dts_nil) (fun _ _ _ _ _ => (de_fn (p := true) (o := false) ((g_is_integer m).more (by decide)) room gd m.m_is_integer m.F_is_integer.kp (bi_is_integer m) pass0 (da_cons (p1 := true) (o1 := false) (p2 := true) (o2 := true) (de_read (i := 12)) da_nil)))) da_nil))))))))
  (db_cons (ds_raise (A := []) (p := true) (o := true) takesX m.x_PaperError room m.mx_PaperError m.z_super (da_cons (p1 := true) (o1 := true) (p2 := true) (o2 := true) de_str da_nil))
  db_nil)
  db_nil)
  db_nil))
  (db_cons (ds_if (p := true) (dt_cmp (p1 := true) (o1 := false) (p2 := true) (o2 := true) (op_gtV hu) (de_ix (p1 := true) (o1 := false) (p2 := true) (o2 := true) (de_ix (p1 := true) (o1 := false) (p2 := true) (o2 := true) (de_read (i := 4)) de_int) de_int) de_int)
  (db_cons (ds_raise (A := []) (p := true) (o := true) takesX m.x_PaperError room m.mx_PaperError m.z_super (da_cons (p1 := true) (o1 := true) (p2 := true) (o2 := true) de_str da_nil))
  db_nil)
  db_nil)
  (db_cons (ds_for (p := true) (ks := [6, 7, 8, 9, 10, 11]) hp rfl (di_range1 (p := true) (o := true) m.z_range (da_cons (p1 := true) (o1 := true) (p2 := true) (o2 := true) (de_op (p1 := true) (o1 := true) (p2 := true) (o2 := true) op_addV (de_callB (p := true) (o := false) cr_lenV m.z_len (da_cons (p1 := true) (o1 := false) (p2 := true) (o2 := true) (de_read (i := 0)) da_nil)) de_int) da_nil)) (dg_name nd_accept_table (i := 6))
  (db_cons (ds_for (p := true) (ks := [7, 8, 9, 10, 11]) hp rfl (di_range1 (p := true) (o := true) m.z_range (da_cons (p1 := true) (o1 := true) (p2 := true) (o2 := true) (de_op (p1 := true) (o1 := true) (p2 := true) (o2 := true) op_addV (de_callB (p := true) (o := false) cr_lenV m.z_len (da_cons (p1 := true) (o1 := false) (p2 := true) (o2 := true) (de_read (i := 1)) da_nil)) de_int) da_nil)) (dg_name nd_accept_table (i := 7))
  (db_cons (ds_for (p := true) (ks := [8, 9, 10, 11]) hp rfl (di_enumT (p := true) m.z_enumerate (dpa_cons (p1 := true) (p2 := true) (dp_own (p := true) (de_gdat rfl m.g_STEPS)) dpa_nil)) (dg_tup rfl (dgs_cons (dg_name nd_accept_table (i := 8)) (dgs_cons (dg_tup rfl (dgs_cons (dg_name nd_accept_table (i := 9)) (dgs_cons (dg_name nd_accept_table (i := 10)) dgs_nil))) dgs_nil)))
  (db_cons (ds_if (p := true) (dt_w (dw_and (p1 := true) (p2 := true) (dt_cmp (p1 := true) (o1 := false) (p2 := true) (o2 := false) (op_geV hu) (de_read (i := 6)) (de_read (i := 9))) (dw_and1 (p := true) (dt_cmp (p1 := true) (o1 := false) (p2 := true) (o2 := false) (op_geV hu) (de_read (i := 7)) (de_read (i := 10))))))
  (db_cons (ds_set (i := 11) (p := true) nd_accept_table (de_op (p1 := true) (o1 := false) (p2 := true) (o2 := true) op_addV (de_ix (p1 := true) (o1 := false) (p2 := true) (o2 := true) (de_ix (p1 := true) (o1 := false) (p2 := true) (o2 := true) (de_read (i := 4)) (de_op (p1 := true) (o1 := false) (p2 := true) (o2 := false) op_subV (de_read (i := 6)) (de_read (i := 9)))) (de_op (p1 := true) (o1 := false) (p2 := true) (o2 := false) op_subV (de_read (i := 7)) (de_read (i := 10)))) (de_fn (p := true) (o := false) ((g_step_price m).more (by decide)) room gd m.m_step_price m.F_step_price.kp (bi_step_price m) pass0 (da_cons (p1 := true) (o1 := false) (p2 := true) (o2 := false) (de_read (i := 0)) (da_cons (p1 := true) (o1 := false) (p2 := true) (o2 := false) (de_read (i := 1)) (da_cons (p1 := true) (o1 := false) (p2 := true) (o2 := false) (de_read (i := 2)) (da_cons (p1 := true) (o1 := false) (p2 := true) (o2 := false) (de_tup (p := true) (o := false) (da_cons (p1 := true) (o1 := false) (p2 := true) (o2 := false) (de_read (i := 6)) (da_cons (p1 := true) (o1 := false) (p2 := true) (o2 := true) (de_read (i := 7)) da_nil))) (da_cons (p1 := true) (o1 := false) (p2 := true) (o2 := true) (de_read (i := 8)) da_nil))))))))
  (db_cons (ds_if (p := true) (dt_cmp (p1 := true) (o1 := false) (p2 := true) (o2 := false) (op_gtV hu) (de_ix (p1 := true) (o1 := false) (p2 := true) (o2 := false) (de_ix (p1 := true) (o1 := false) (p2 := true) (o2 := false) (de_read (i := 4)) (de_read (i := 6))) (de_read (i := 7))) (de_read (i := 11)))
  (db_cons (ds_raise (A := []) (p := true) (o := true) takesX m.x_PaperError room m.mx_PaperError m.z_super (da_cons (p1 := true) (o1 := true) (p2 := true) (o2 := true) de_str da_nil))
  db_nil)
  db_nil)
  db_nil))
  db_nil)
  db_nil))
  db_nil))
  db_nil))
  (db_cons (ds_if (p := true) (dt_cmp (p1 := true) (o1 := false) (p2 := true) (o2 := false) (op_ltV hu) (de_ix (p1 := true) (o1 := false) (p2 := true) (o2 := true) (de_ix (p1 := true) (o1 := false) (p2 := true) (o2 := true) (de_read (i := 4)) (de_un (p := true) (o := true) un_negV de_int)) (de_un (p := true) (o := true) un_negV de_int)) (de_read (i := 3)))
  (db_cons (ds_raise (A := []) (p := true) (o := true) takesX m.x_PaperError room m.mx_PaperError m.z_super (da_cons (p1 := true) (o1 := true) (p2 := true) (o2 := true) de_str da_nil))
  db_nil)
  db_nil)
  db_nil)))))) (by decide)
/-! _law_refused -/
theorem sc__law_refused : FnScope ["left", "right", "prices", "price", "rows", "error"] ["left", "right", "prices", "price", "rows"] (defScope s28) := ⟨rfl, rfl, rfl, by decide +kernel, rfl, by decide +kernel, by decide +kernel⟩
theorem nd__law_refused : List.Nodup (["left", "right", "prices", "price", "rows", "error"] : List Str) := sc__law_refused.nd
theorem bi__law_refused (m : MF P K mg) : Binds K m.fd__law_refused ["left", "right", "prices", "price", "rows"] [] := m.F__law_refused.bindsN fun _ _ _ _ _ _ us hl => match us, hl with | [_, _, _, _, _], _ => rfl
def f__law_refused : Sv := (sSeq (sTryRef "PaperError" (sSeq (sExpr (eFn 5 (D_accept_table) (aCons (eRead 0) (aCons (eRead 1) (aCons (eRead 2) (aCons (eRead 3) (aCons (eRead 4) aNil)))))))
  sNx))
  (sSeq (sRet (eC (.str "")))
  sNx))
def D__law_refused : Den := denOf 1 none f__law_refused
theorem g__law_refused (m : MF P K mg) : FnG P w K mg base CX0 5 m.a__law_refused m.fd__law_refused ["left", "right", "prices", "price", "rows"] (spD K 5 none D__law_refused) := by
  refine fn_den (A' := []) m.F__law_refused sc__law_refused (by intro k hk; first | (cases hk; done) | (cases hk; decide)) (by intro k hk; first | (cases hk; done) | (cases hk; decide)) fun cdv A out s H E room gd => ?_
  have hp : PassesOwn (model P w) (cxOf CX0 P w K mg base ["left", "right", "prices", "price", "rows", "error"] "_law_refused" (defScope s28) m.a__law_refused cdv A out s H E).A _ _ := passes_of rfl
  have hu : (cxOf CX0 P w K mg base ["left", "right", "prices", "price", "rows", "error"] "_law_refused" (defScope s28) m.a__law_refused cdv A out s H E).A.units + 64 < cLine := by have := room.un; show (A.deeper _).units + 64 < cLine; omega
  exact db_sub (db_cons (ds_tryRef0 (y := "PaperError") (i := 5) (fun E2 pn xe tk po => (db_cons (ds_expr (p := true) (o := true) (de_fn (p := true) (o := false) ((g_accept_table m).more (by decide)) room gd m.m_accept_table m.F_accept_table.kp (bi_accept_table m) (passX tk) (da_cons (p1 := true) (o1 := false) (p2 := true) (o2 := false) (de_read (i := 0)) (da_cons (p1 := true) (o1 := false) (p2 := true) (o2 := false) (de_read (i := 1)) (da_cons (p1 := true) (o1 := false) (p2 := true) (o2 := false) (de_read (i := 2)) (da_cons (p1 := true) (o1 := false) (p2 := true) (o2 := false) (de_read (i := 3)) (da_cons (p1 := true) (o1 := false) (p2 := true) (o2 := true) (de_read (i := 4)) da_nil)))))))
  db_nil))
  (fun a oe cls d pn hz hf => pss_ref m.xf_PaperError m.x_PaperError.noR hz hf m.mx_PaperError m.z_isinstance rfl (by first | exact .inl rfl | exact .inr (.inl rfl) | exact .inr (.inr rfl)) (by decide) (by decide) rfl rfl (by decide) rfl rfl rfl rfl)
  rfl rfl nd__law_refused rfl rfl ⟨rfl, by decide, .inl m.mx_SetError⟩ m.ex_PaperError)
  (db_cons (ds_ret (p := true) de_str)
  db_nil)) (by decide)
/-! _law_near -/
theorem sc__law_near : FnScope ["state", "text", "found", "size", "pick"] ["state", "text"] (defScope s22) := ⟨rfl, rfl, rfl, by decide +kernel, rfl, by decide +kernel, by decide +kernel⟩
theorem nd__law_near : List.Nodup (["state", "text", "found", "size", "pick"] : List Str) := sc__law_near.nd
theorem bi__law_near (m : MF P K mg) : Binds K m.fd__law_near ["state", "text"] [] := m.F__law_near.bindsN fun _ _ _ _ _ _ us hl => match us, hl with | [_, _], _ => rfl
def l0__law_near : Sv := (sSeq (sSet 4 (eFnIO 2 0 (D__law_draw) (zHere 0 (aCons (eC (.int 9)) aNil))))
  (sSeq (sSet 2 (eBin addD (eMove 2) (eIf (eT (eBin gtD (eRead 4) (eC (.int 3)))) (eLst (aCons (eImm (eRead 3)) aNil)) (eIf (eT (eBin gtD (eRead 4) (eC (.int 2)))) (eLst (aCons (eCall maxD1 (aCons (eLst (aCons (eC (.int 0)) (aCons (eBin subD (eBin addD (eImm (eRead 3)) (eFnIO 2 0 (D__law_draw) (zHere 0 (aCons (eC (.int 7)) aNil)))) (eC (.int 3))) aNil))) aNil)) aNil)) (eIf (eT (eBin gtD (eRead 4) (eC (.int 1)))) (eLst (aCons (eBin fdivD (eRead 3) (eC (.int 2))) (aCons (eBin subD (eRead 3) (eBin fdivD (eRead 3) (eC (.int 2)))) aNil))) (eLst aNil))))))
  sNx))
def f__law_near : Sv := (sSeq (sSet 2 (eLst aNil))
  (sSeq (sFor [3, 4] (.nm 3) (iTpl (eReadP 1))
  l0__law_near)
  (sSeq (sRet (eCall tupleD (aCons (eSl (eRead 2) oNone (oSome (eC (.int 60)))) aNil)))
  sNx)))
def D__law_near : Den := denOf 3 (some 0) f__law_near
theorem g__law_near (m : MF P K mg) : FnG P w K mg base CX0 2 m.a__law_near m.fd__law_near ["state", "text"] (spD K 2 (some 0) D__law_near) := by
  refine fn_den (A' := [2, 3, 4]) m.F__law_near sc__law_near (by intro k hk; first | (cases hk; done) | (cases hk; decide)) (by intro k hk; first | (cases hk; done) | (cases hk; decide)) fun cdv A out s H E room gd => ?_
  have hp : PassesOwn (model P w) (cxOf CX0 P w K mg base ["state", "text", "found", "size", "pick"] "_law_near" (defScope s22) m.a__law_near cdv A out s H E).A _ _ := passes_of rfl
  have hu : (cxOf CX0 P w K mg base ["state", "text", "found", "size", "pick"] "_law_near" (defScope s22) m.a__law_near cdv A out s H E).A.units + 64 < cLine := by have := room.un; show (A.deeper _).units + 64 < cLine; omega
  exact db_sub (db_cons (ds_set (i := 2) (p := true) nd__law_near (de_lst (p := true) (o := true) da_nil))
  (db_cons (ds_for (p := true) (ks := [3, 4]) hp rfl (di_tup (p := true) (dp_ofQ (p := true) (dq_read (i := 1)))) (dg_name nd__law_near (i := 3))
  (db_cons (ds_set (i := 4) (p := false) nd__law_near (de_fnIO (p := true) ((g__law_draw m).more (by decide)) room gd m.m__law_draw m.F__law_draw.kp (bi__law_draw m) pass0 (dio_here (p := true) (i := 0) (dza_cons (p1 := true) (p2 := true) (dz_own (p := true) de_int) dza_nil))))
  (db_cons (ds_set (i := 2) (p := false) nd__law_near (de_op (p1 := false) (o1 := true) (p2 := false) (o2 := true) op_addV (de_move (i := 2)) (de_if (pt := true) (p1 := true) (o1 := true) (p2 := false) (o2 := true) (dt_cmp (p1 := true) (o1 := false) (p2 := true) (o2 := true) (op_gtV hu) (de_read (i := 4)) de_int) (de_lst (p := true) (o := true) (da_cons (p1 := true) (o1 := true) (p2 := true) (o2 := true) (de_imm (p := true) (o := false) (de_read (i := 3))) da_nil)) (de_if (pt := true) (p1 := false) (o1 := true) (p2 := true) (o2 := true) (dt_cmp (p1 := true) (o1 := false) (p2 := true) (o2 := true) (op_gtV hu) (de_read (i := 4)) de_int) (de_lst (p := false) (o := true) (da_cons (p1 := false) (o1 := true) (p2 := true) (o2 := true) (de_callB (p := false) (o := true) (cr_maxV rfl hu) m.z_max (da_cons (p1 := false) (o1 := true) (p2 := true) (o2 := true) (de_lst (p := false) (o := true) (da_cons (p1 := true) (o1 := true) (p2 := false) (o2 := true) de_int (da_cons (p1 := false) (o1 := true) (p2 := true) (o2 := true) (de_op (p1 := false) (o1 := true) (p2 := true) (o2 := true) op_subV (de_op (p1 := true) (o1 := true) (p2 := false) (o2 := true) op_addV (de_imm (p := true) (o := false) (de_read (i := 3))) (de_fnIO (p := true) ((g__law_draw m).more (by decide)) room gd m.m__law_draw m.F__law_draw.kp (bi__law_draw m) pass0 (dio_here (p := true) (i := 0) (dza_cons (p1 := true) (p2 := true) (dz_own (p := true) de_int) dza_nil)))) de_int) da_nil))) da_nil)) da_nil)) (de_if (pt := true) (p1 := true) (o1 := true) (p2 := true) (o2 := true) (dt_cmp (p1 := true) (o1 := false) (p2 := true) (o2 := true) (op_gtV hu) (de_read (i := 4)) de_int) (de_lst (p := true) (o := true) (da_cons (p1 := true) (o1 := true) (p2 := true) (o2 := true) (de_op (p1 := true) (o1 := false) (p2 := true) (o2 := true) op_fdivV (de_read (i := 3)) de_int) (da_cons (p1 := true) (o1 := true) (p2 := true) (o2 := true) (de_op (p1 := true) (o1 := false) (p2 := true) (o2 := true) op_subV (de_read (i := 3)) (de_op (p1 := true) (o1 := false) (p2 := true) (o2 := true) op_fdivV (de_read (i := 3)) de_int)) da_nil))) (de_lst (p := true) (o := true) da_nil))))))
  db_nil)))
  (db_cons (ds_ret (p := true) (de_callT (p := true) (o := true) cr_tupleV m.z_tuple (da_cons (p1 := true) (o1 := true) (p2 := true) (o2 := true) (de_slice (p := true) (o := false) (de_read (i := 2)) do_none (do_some (o := true) de_int)) da_nil)))
  db_nil))) (by decide)
/-! pairs -/
theorem sc_pairs : FnScope ["steps", "found", "one", "other", "number", "further"] ["steps"] (defScope s10) := ⟨rfl, rfl, rfl, by decide +kernel, rfl, by decide +kernel, by decide +kernel⟩
theorem nd_pairs : List.Nodup (["steps", "found", "one", "other", "number", "further"] : List Str) := sc_pairs.nd
theorem bi_pairs (m : MF P K mg) : Binds K m.fd_pairs ["steps"] [] := m.F_pairs.bindsN fun _ _ _ _ _ _ us hl => match us, hl with | [_], _ => rfl
def l0_pairs : Sv := (sSeq (sSet 5 (eTup (aCons (eBin addD (eRead 2) (eIx (eIx (eC C_STEPS) (eRead 4)) (eC (.int 0)))) (aCons (eBin addD (eRead 3) (eIx (eIx (eC C_STEPS) (eRead 4)) (eC (.int 1)))) aNil))))
  (sSeq (sExpr (eApp 1 (eImm (eTup (aCons (eRead 2) (aCons (eIx (eRead 5) (eC (.int 0))) (aCons (eRead 3) (aCons (eIx (eRead 5) (eC (.int 1))) aNil))))))))
  (sSeq (sAsg (.tp ((.nm 2) :: ((.nm 3) :: []))) (eImm (eRead 5)))
  sNx)))
def f_pairs : Sv := (sSeq (sIf (tOrE (tNotE (eTru (eIs PyData.isTuple (eRead 0)))) (eT (eBin gtD (eCall lenD (aCons (eRead 0) aNil)) (eBin mulD (eC (.int 2)) (eC (.int 60))))))
  (sSeq sNo
  sNx)
  sNx)
  (sSeq (sIf (tNotE (eTru (eCall allD (aCons (eLc [4] (.nm 4) (iTpl (eReadP 0)) tYesE (eAnd (eFn 1 (D_is_integer) (aCons (eRead 4) aNil)) (eChain (eC (.int 0)) (cLink leD (eRead 4) (cLast ltD (eCall lenD (aCons (eC C_STEPS) aNil))))))) aNil))))
  (sSeq sNo
  sNx)
  sNx)
  (sSeq (sSet 1 (eLst aNil))
  (sSeq (sAsg (.tp ((.nm 2) :: ((.nm 3) :: []))) (eTup (aCons (eC (.int 0)) (aCons (eC (.int 0)) aNil))))
  (sSeq (sFor [4, 5] (.nm 4) (iTpl (eReadP 0))
  l0_pairs)
  (sSeq (sRet (eCall tupleD (aCons (eRead 1) aNil)))
  sNx))))))
def D_pairs : Den := denOf 5 none f_pairs
theorem g_pairs (m : MF P K mg) : FnG P w K mg base CX0 2 m.a_pairs m.fd_pairs ["steps"] (spD K 1 none D_pairs) := by
  refine fn_den (A' := [1, 2, 3, 4, 5]) m.F_pairs sc_pairs (by intro k hk; first | (cases hk; done) | (cases hk; decide)) (by intro k hk; first | (cases hk; done) | (cases hk; decide)) fun cdv A out s H E room gd => ?_
  have hp : PassesOwn (model P w) (cxOf CX0 P w K mg base ["steps", "found", "one", "other", "number", "further"] "pairs" (defScope s10) m.a_pairs cdv A out s H E).A _ _ := passes_of rfl
  have hu : (cxOf CX0 P w K mg base ["steps", "found", "one", "other", "number", "further"] "pairs" (defScope s10) m.a_pairs cdv A out s H E).A.units + 64 < cLine := by have := room.un; show (A.deeper _).units + 64 < cLine; omega
  exact db_sub (db_cons (ds_if (p := true) (dt_w (dw_or (p1 := true) (p2 := true) (dt_not (p := true) (dt_truth (p := true) (o := true) (de_isV (p := true) (o := false) (cr_isV PySem.W.isinstance_tuple_data) m.z_isinstance m.z_tuple rfl (de_read (i := 0))))) (dw_or1 (p := true) (dt_cmp (p1 := true) (o1 := true) (p2 := true) (o2 := true) (op_gtV hu) (de_callB (p := true) (o := false) cr_lenV m.z_len (da_cons (p1 := true) (o1 := false) (p2 := true) (o2 := true) (de_read (i := 0)) da_nil)) (de_op (p1 := true) (o1 := true) (p2 := true) (o2 := true) op_mulV de_int (de_gint rfl (m.c_MAX_BLOCKS).choose_spec))))))
  (db_cons ds_never
  db_nil)
  db_nil)
  (db_cons (ds_if (p := true) (dt_not (p := true) (dt_truth (p := true) (o := true) (de_callB (p := true) (o := true) (cr_allV rfl) m.z_all (da_cons (p1 := true) (o1 := true) (p2 := true) (o2 := true) (de_lc (own := [("number", 4)]) (p1 := true) (p2 := true) (p3 := true) rfl nd_pairs (di_tup (p := true) (dp_ofQ (p := true) (dq_read (i := 0)))) (blkOk_by (own := [("number", 4)]) (by kernel_rfl)) (fun _ _ _ _ _ => (dg_name nd_pairs (i := 4))) (fun _ _ _ _ _ => dts_nil) (fun _ _ _ _ _ => (de_and (p1 := true) (o1 := true) (p2 := true) (o2 := true) (de_fn (p := true) (o := false) ((g_is_integer m).more (by decide)) room gd m.m_is_integer m.F_is_integer.kp (bi_is_integer m) pass0 (da_cons (p1 := true) (o1 := false) (p2 := true) (o2 := true) (de_read (i := 4)) da_nil)) (de_and1 (p := true) (o := true) (de_chain (o := true) de_int (dcv_link (o := false) (op_leV hu) (de_read (i := 4)) (dcv_last (o := true) (op_ltV hu) (de_callB (p := true) (o := true) cr_lenV m.z_len (da_cons (p1 := true) (o1 := true) (p2 := true) (o2 := true) (de_gdat rfl m.g_STEPS) da_nil))))))))) da_nil))))
  (db_cons ds_never
  db_nil)
  db_nil)
  (db_cons (ds_set (i := 1) (p := true) nd_pairs (de_lst (p := true) (o := true) da_nil))
  (db_cons (ds_asg (p := true) (dg_tup rfl (dgs_cons (dg_name nd_pairs (i := 2)) (dgs_cons (dg_name nd_pairs (i := 3)) dgs_nil))) (de_tup (p := true) (o := true) (da_cons (p1 := true) (o1 := true) (p2 := true) (o2 := true) de_int (da_cons (p1 := true) (o1 := true) (p2 := true) (o2 := true) de_int da_nil))))
  (db_cons (ds_for (p := true) (ks := [4, 5]) hp rfl (di_tup (p := true) (dp_ofQ (p := true) (dq_read (i := 0)))) (dg_name nd_pairs (i := 4))
  (db_cons (ds_set (i := 5) (p := true) nd_pairs (de_tup (p := true) (o := true) (da_cons (p1 := true) (o1 := true) (p2 := true) (o2 := true) (de_op (p1 := true) (o1 := false) (p2 := true) (o2 := true) op_addV (de_read (i := 2)) (de_ix (p1 := true) (o1 := true) (p2 := true) (o2 := true) (de_ix (p1 := true) (o1 := true) (p2 := true) (o2 := false) (de_gdat rfl m.g_STEPS) (de_read (i := 4))) de_int)) (da_cons (p1 := true) (o1 := true) (p2 := true) (o2 := true) (de_op (p1 := true) (o1 := false) (p2 := true) (o2 := true) op_addV (de_read (i := 3)) (de_ix (p1 := true) (o1 := true) (p2 := true) (o2 := true) (de_ix (p1 := true) (o1 := true) (p2 := true) (o2 := false) (de_gdat rfl m.g_STEPS) (de_read (i := 4))) de_int)) da_nil))))
  (db_cons (ds_expr (p := false) (o := true) (de_app (p := true) (i := 1) (de_imm (p := true) (o := false) (de_tup (p := true) (o := false) (da_cons (p1 := true) (o1 := false) (p2 := true) (o2 := false) (de_read (i := 2)) (da_cons (p1 := true) (o1 := false) (p2 := true) (o2 := false) (de_ix (p1 := true) (o1 := false) (p2 := true) (o2 := true) (de_read (i := 5)) de_int) (da_cons (p1 := true) (o1 := false) (p2 := true) (o2 := false) (de_read (i := 3)) (da_cons (p1 := true) (o1 := false) (p2 := true) (o2 := true) (de_ix (p1 := true) (o1 := false) (p2 := true) (o2 := true) (de_read (i := 5)) de_int) da_nil))))))))
  (db_cons (ds_asg (p := true) (dg_tup rfl (dgs_cons (dg_name nd_pairs (i := 2)) (dgs_cons (dg_name nd_pairs (i := 3)) dgs_nil))) (de_imm (p := true) (o := false) (de_read (i := 5))))
  db_nil))))
  (db_cons (ds_ret (p := true) (de_callT (p := true) (o := false) cr_tupleV m.z_tuple (da_cons (p1 := true) (o1 := false) (p2 := true) (o2 := true) (de_read (i := 1)) da_nil)))
  db_nil)))))) (by decide)
/-! _law_pairs -/
theorem sc__law_pairs : FnScope ["row", "found", "one", "other", "step", "up", "over"] ["row"] (defScope s27) := ⟨rfl, rfl, rfl, by decide +kernel, rfl, by decide +kernel, by decide +kernel⟩
theorem nd__law_pairs : List.Nodup (["row", "found", "one", "other", "step", "up", "over"] : List Str) := sc__law_pairs.nd
theorem bi__law_pairs (m : MF P K mg) : Binds K m.fd__law_pairs ["row"] [] := m.F__law_pairs.bindsN fun _ _ _ _ _ _ us hl => match us, hl with | [_], _ => rfl
def l0__law_pairs : Sv := (sSeq (sAsg (.tp ((.nm 5) :: ((.nm 6) :: []))) (eIx (eFn0 (D__law_steps)) (eRead 4)))
  (sSeq (sExpr (eApp 1 (eImm (eTup (aCons (eRead 2) (aCons (eBin addD (eRead 2) (eRead 5)) (aCons (eRead 3) (aCons (eBin addD (eRead 3) (eRead 6)) aNil))))))))
  (sSeq (sPar2 2 3 (aCons (eBin addD (eRead 2) (eRead 5)) (aCons (eBin addD (eRead 3) (eRead 6)) aNil)))
  sNx)))
def f__law_pairs : Sv := (sSeq (sPar3 1 2 3 (aCons (eLst aNil) (aCons (eC (.int 0)) (aCons (eC (.int 0)) aNil))))
  (sSeq (sFor [4, 5, 6] (.nm 4) (iTpl (eReadP 0))
  l0__law_pairs)
  (sSeq (sRet (eCall tupleD (aCons (eRead 1) aNil)))
  sNx)))
def D__law_pairs : Den := denOf 6 none f__law_pairs
theorem g__law_pairs (m : MF P K mg) : FnG P w K mg base CX0 2 m.a__law_pairs m.fd__law_pairs ["row"] (spD K 1 none D__law_pairs) := by
  refine fn_den (A' := [1, 2, 3, 4, 5, 6]) m.F__law_pairs sc__law_pairs (by intro k hk; first | (cases hk; done) | (cases hk; decide)) (by intro k hk; first | (cases hk; done) | (cases hk; decide)) fun cdv A out s H E room gd => ?_
  have hp : PassesOwn (model P w) (cxOf CX0 P w K mg base ["row", "found", "one", "other", "step", "up", "over"] "_law_pairs" (defScope s27) m.a__law_pairs cdv A out s H E).A _ _ := passes_of rfl
  have hu : (cxOf CX0 P w K mg base ["row", "found", "one", "other", "step", "up", "over"] "_law_pairs" (defScope s27) m.a__law_pairs cdv A out s H E).A.units + 64 < cLine := by have := room.un; show (A.deeper _).units + 64 < cLine; omega
  exact db_sub (db_cons (ds_par3 (i := 1) (j := 2) (l := 3) (p := true) rfl nd__law_pairs (da_cons (p1 := true) (o1 := true) (p2 := true) (o2 := true) (de_lst (p := true) (o := true) da_nil) (da_cons (p1 := true) (o1 := true) (p2 := true) (o2 := true) de_int (da_cons (p1 := true) (o1 := true) (p2 := true) (o2 := true) de_int da_nil))))
  (db_cons (ds_for (p := true) (ks := [4, 5, 6]) hp rfl (di_tup (p := true) (dp_ofQ (p := true) (dq_read (i := 0)))) (dg_name nd__law_pairs (i := 4))
  (db_cons (ds_asg (p := true) (dg_tup rfl (dgs_cons (dg_name nd__law_pairs (i := 5)) (dgs_cons (dg_name nd__law_pairs (i := 6)) dgs_nil))) (de_ix (p1 := true) (o1 := true) (p2 := true) (o2 := false) (de_fn0 ((g__law_steps m).more (by decide)) room gd m.m__law_steps m.F__law_steps.kp (bi__law_steps m) pass0) (de_read (i := 4))))
  (db_cons (ds_expr (p := false) (o := true) (de_app (p := true) (i := 1) (de_imm (p := true) (o := false) (de_tup (p := true) (o := false) (da_cons (p1 := true) (o1 := false) (p2 := true) (o2 := false) (de_read (i := 2)) (da_cons (p1 := true) (o1 := true) (p2 := true) (o2 := false) (de_op (p1 := true) (o1 := false) (p2 := true) (o2 := false) op_addV (de_read (i := 2)) (de_read (i := 5))) (da_cons (p1 := true) (o1 := false) (p2 := true) (o2 := true) (de_read (i := 3)) (da_cons (p1 := true) (o1 := true) (p2 := true) (o2 := true) (de_op (p1 := true) (o1 := false) (p2 := true) (o2 := false) op_addV (de_read (i := 3)) (de_read (i := 6))) da_nil))))))))
  (db_cons (ds_par2 (i := 2) (j := 3) (p := true) rfl nd__law_pairs (da_cons (p1 := true) (o1 := true) (p2 := true) (o2 := true) (de_op (p1 := true) (o1 := false) (p2 := true) (o2 := false) op_addV (de_read (i := 2)) (de_read (i := 5))) (da_cons (p1 := true) (o1 := true) (p2 := true) (o2 := true) (de_op (p1 := true) (o1 := false) (p2 := true) (o2 := false) op_addV (de_read (i := 3)) (de_read (i := 6))) da_nil)))
  db_nil))))
  (db_cons (ds_ret (p := true) (de_callT (p := true) (o := false) cr_tupleV m.z_tuple (da_cons (p1 := true) (o1 := false) (p2 := true) (o2 := true) (de_read (i := 1)) da_nil)))
  db_nil))) (by decide)
/-! _law_texts_hold -/
theorem sc__law_texts_hold : FnScope ["state", "left", "right", "prices", "told", "row", "price", "factor", "wide", "turned", "one", "other", "more", "k", "some", "size"] ["state"] (defScope s29) := ⟨rfl, rfl, rfl, by decide +kernel, rfl, by decide +kernel, by decide +kernel⟩
theorem nd__law_texts_hold : List.Nodup (["state", "left", "right", "prices", "told", "row", "price", "factor", "wide", "turned", "one", "other", "more", "k", "some", "size"] : List Str) := sc__law_texts_hold.nd
theorem bi__law_texts_hold (m : MF P K mg) : Binds K m.fd__law_texts_hold ["state"] [] := m.F__law_texts_hold.bindsN fun _ _ _ _ _ _ us hl => match us, hl with | [_], _ => rfl
def f__law_texts_hold : Sv := (sSeq (sSet 1 (eFnIO 2 0 (D__law_text) (zHere 0 (aCons (eFnIO 2 0 (D__law_pick) (zHere 0 (aCons (eLst (aCons (eC (.int 9)) (aCons (eC (.int 30)) (aCons (eC (.int 60)) aNil)))) aNil))) aNil))))
  (sSeq (sPar2 2 3 (aCons (eFnIO 2 0 (D__law_pick) (zHere 0 (aCons (eLst (aCons (eFnIO 2 0 (D__law_text) (zHere 0 (aCons (eC (.int 40)) aNil))) (aCons (eFnIO 2 0 (D__law_near) (zHere 0 (aCons (eReadP 1) aNil))) (aCons (eImm (eRead 1)) aNil)))) aNil))) (aCons (eCall tupleD (aCons (eLc [13] (.nm 13) (iFn rng1D (aCons (eC (.int 5)) aNil)) tYesE (eFnIO 2 0 (D__law_draw) (zHere 0 (aCons (eFnIO 2 0 (D__law_pick) (zHere 0 (aCons (eLst (aCons (eC (.int 2)) (aCons (eC (.int 30)) aNil))) aNil))) aNil)))) aNil)) aNil)))
  (sSeq (sSet 4 (eFn 3 (D__law_table) (aCons (eRead 1) (aCons (eRead 2) (aCons (eRead 3) aNil)))))
  (sSeq (sAsg (.tp ((.nm 5) :: ((.nm 6) :: ((.nm 7) :: [])))) (eTup (aCons (eFn 4 (D__law_row) (aCons (eRead 1) (aCons (eRead 2) (aCons (eRead 3) (aCons (eRead 4) aNil))))) (aCons (eImm (eIx (eIx (eRead 4) (eUn negD (eC (.int 1)))) (eUn negD (eC (.int 1))))) (aCons (eFnIO 2 0 (D__law_pick) (zHere 0 (aCons (eLst (aCons (eC (.int 2)) (aCons (eC (.int 9)) (aCons (eC (.int 100)) aNil)))) aNil))) aNil)))))
  (sSeq (sIf (tNotE (eTru (eFn 2 (D__law_same) (aCons (eLst (aCons (eFn 3 (D_table) (aCons (eRead 1) (aCons (eRead 2) (aCons (eRead 3) aNil)))) (aCons (eFn 3 (D_aligned) (aCons (eRead 1) (aCons (eRead 2) (aCons (eRead 3) aNil)))) (aCons (eFn 1 (D_pairs) (aCons (eRead 5) aNil)) aNil)))) (aCons (eLst (aCons (eImm (eRead 4)) (aCons (eImm (eTup (aCons (eRead 6) (aCons (eRead 5) aNil)))) (aCons (eFn 1 (D__law_pairs) (aCons (eRead 5) aNil)) aNil)))) aNil)))))
  (sSeq (sRet (eC (.bool false)))
  sNx)
  sNx)
  (sSeq (sSet 8 (eLc [14] (.nm 14) (iLst (eLst (aCons (eImm (eRead 1)) (aCons (eImm (eRead 2)) (aCons (eImm (eRead 3)) aNil))))) tYesE (eCall tupleD (aCons (eLc [15] (.nm 15) (iTpl (eReadP 14)) tYesE (eBin mulD (eRead 15) (eRead 7))) aNil))))
  (sSeq (sIf (tNotE (eTru (eFn 2 (D__law_same) (aCons (eFn 3 (D_aligned) (aCons (eIx (eRead 8) (eC (.int 0))) (aCons (eIx (eRead 8) (eC (.int 1))) (aCons (eIx (eRead 8) (eC (.int 2))) aNil)))) (aCons (eTup (aCons (eBin mulD (eRead 6) (eRead 7)) (aCons (eRead 5) aNil))) aNil)))))
  (sSeq (sRet (eC (.bool false)))
  sNx)
  sNx)
  (sSeq (sSet 9 (eFn 3 (D_table) (aCons (eRead 2) (aCons (eRead 1) (aCons (eTup (aCons (eIx (eRead 3) (eC (.int 0))) (aCons (eIx (eRead 3) (eC (.int 2))) (aCons (eIx (eRead 3) (eC (.int 1))) (aCons (eIx (eRead 3) (eC (.int 4))) (aCons (eIx (eRead 3) (eC (.int 3))) aNil)))))) aNil)))))
  (sSeq (sIf (tNotE (eTru (eFn 2 (D__law_same) (aCons (eRead 9) (aCons (eCall tupleD (aCons (eLc [11] (.nm 11) (iFn rng1D (aCons (eBin addD (eCall lenD (aCons (eRead 2) aNil)) (eC (.int 1))) aNil)) tYesE (eCall tupleD (aCons (eLc [10] (.nm 10) (iFn rng1D (aCons (eBin addD (eCall lenD (aCons (eRead 1) aNil)) (eC (.int 1))) aNil)) tYesE (eImm (eIx (eIx (eRead 4) (eRead 10)) (eRead 11)))) aNil))) aNil)) aNil)))))
  (sSeq (sRet (eC (.bool false)))
  sNx)
  sNx)
  (sSeq (sIf (eT (eBin gtD (eIx (eFn 3 (D_aligned) (aCons (eRead 1) (aCons (eRead 1) (aCons (eRead 3) aNil)))) (eC (.int 0))) (eBin mulD (eIx (eRead 3) (eC (.int 0))) (eCall lenD (aCons (eRead 1) aNil)))))
  (sSeq (sRet (eC (.bool false)))
  sNx)
  sNx)
  (sSeq (sIf (tOrE (eT (eBin notnD (eFn 5 (D_accept_steps) (aCons (eRead 1) (aCons (eRead 2) (aCons (eRead 3) (aCons (eRead 6) (aCons (eRead 5) aNil)))))) (eC .none))) (tOrE (eT (eBin neD (eFn 5 (D__law_refused) (aCons (eRead 1) (aCons (eRead 2) (aCons (eRead 3) (aCons (eRead 6) (aCons (eRead 4) aNil)))))) (eC (.str "")))) (eT (eBin neD (eFn 5 (D__law_refused) (aCons (eRead 1) (aCons (eRead 2) (aCons (eRead 3) (aCons (eBin addD (eRead 6) (eC (.int 1))) (aCons (eRead 4) aNil)))))) (eC (.str "price"))))))
  (sSeq (sRet (eC (.bool false)))
  sNx)
  sNx)
  (sSeq (sIf (eT (eBin gtD (eBin addD (eCall lenD (aCons (eRead 1) aNil)) (eCall lenD (aCons (eRead 2) aNil))) (eC (.int 0))))
  (sSeq (sPar2 10 11 (aCons (eFnIO 2 0 (D__law_draw) (zHere 0 (aCons (eBin addD (eCall lenD (aCons (eRead 1) aNil)) (eC (.int 1))) aNil))) (aCons (eFnIO 2 0 (D__law_draw) (zHere 0 (aCons (eBin addD (eCall lenD (aCons (eRead 2) aNil)) (eC (.int 1))) aNil))) aNil)))
  (sSeq (sSet 12 (eBin addD (eBin addD (eSl (eRead 4) oNone (oSome (eRead 10))) (eTup (aCons (eBin addD (eBin addD (eSl (eIx (eRead 4) (eRead 10)) oNone (oSome (eRead 11))) (eTup (aCons (eBin addD (eIx (eIx (eRead 4) (eRead 10)) (eRead 11)) (eC (.int 1))) aNil))) (eSl (eIx (eRead 4) (eRead 10)) (oSome (eBin addD (eRead 11) (eC (.int 1)))) oNone)) aNil))) (eSl (eRead 4) (oSome (eBin addD (eRead 10) (eC (.int 1)))) oNone)))
  (sSeq (sRet (eBin eqD (eFn 5 (D__law_refused) (aCons (eRead 1) (aCons (eRead 2) (aCons (eRead 3) (aCons (eRead 6) (aCons (eRead 12) aNil)))))) (eIf (tAndE (eT (eBin eqD (eRead 10) (eC (.int 0)))) (eT (eBin eqD (eRead 11) (eC (.int 0))))) (eC (.str "begin")) (eC (.str "step")))))
  sNx)))
  sNx)
  (sKill [10, 11, 12] (sSeq (sRet (eC (.bool true)))
  sNx))))))))))))))
def D__law_texts_hold : Den := denOf 15 (some 0) f__law_texts_hold
theorem g__law_texts_hold (m : MF P K mg) : FnG P w K mg base CX0 6 m.a__law_texts_hold m.fd__law_texts_hold ["state"] (spD K 1 (some 0) D__law_texts_hold) := by
  refine fn_den (A' := [1, 2, 3, 4, 5, 6, 7, 8, 9, 10, 11, 12]) m.F__law_texts_hold sc__law_texts_hold (by intro k hk; first | (cases hk; done) | (cases hk; decide)) (by intro k hk; first | (cases hk; done) | (cases hk; decide)) fun cdv A out s H E room gd => ?_
  have hp : PassesOwn (model P w) (cxOf CX0 P w K mg base ["state", "left", "right", "prices", "told", "row", "price", "factor", "wide", "turned", "one", "other", "more", "k", "some", "size"] "_law_texts_hold" (defScope s29) m.a__law_texts_hold cdv A out s H E).A _ _ := passes_of rfl
  have hu : (cxOf CX0 P w K mg base ["state", "left", "right", "prices", "told", "row", "price", "factor", "wide", "turned", "one", "other", "more", "k", "some", "size"] "_law_texts_hold" (defScope s29) m.a__law_texts_hold cdv A out s H E).A.units + 64 < cLine := by have := room.un; show (A.deeper _).units + 64 < cLine; omega
  exact db_sub (db_cons (ds_set (i := 1) (p := false) nd__law_texts_hold (de_fnIO (p := false) ((g__law_text m).more (by decide)) room gd m.m__law_text m.F__law_text.kp (bi__law_text m) pass0 (dio_here (p := false) (i := 0) (dza_cons (p1 := false) (p2 := true) (dz_own (p := false) (de_fnIO (p := true) ((g__law_pick m).more (by decide)) room gd m.m__law_pick m.F__law_pick.kp (bi__law_pick m) pass0 (dio_here (p := true) (i := 0) (dza_cons (p1 := true) (p2 := true) (dz_own (p := true) (de_lst (p := true) (o := true) (da_cons (p1 := true) (o1 := true) (p2 := true) (o2 := true) de_int (da_cons (p1 := true) (o1 := true) (p2 := true) (o2 := true) de_int (da_cons (p1 := true) (o1 := true) (p2 := true) (o2 := true) de_int da_nil))))) dza_nil)))) dza_nil))))
  (db_cons (ds_par2 (i := 2) (j := 3) (p := false) rfl nd__law_texts_hold (da_cons (p1 := false) (o1 := true) (p2 := false) (o2 := true) (de_fnIO (p := false) ((g__law_pick m).more (by decide)) room gd m.m__law_pick m.F__law_pick.kp (bi__law_pick m) pass0 (dio_here (p := false) (i := 0) (dza_cons (p1 := false) (p2 := true) (dz_own (p := false) (de_lst (p := false) (o := true) (da_cons (p1 := false) (o1 := true) (p2 := false) (o2 := true) (de_fnIO (p := true) ((g__law_text m).more (by decide)) room gd m.m__law_text m.F__law_text.kp (bi__law_text m) pass0 (dio_here (p := true) (i := 0) (dza_cons (p1 := true) (p2 := true) (dz_own (p := true) de_int) dza_nil))) (da_cons (p1 := false) (o1 := true) (p2 := true) (o2 := true) (de_fnIO (p := true) ((g__law_near m).more (by decide)) room gd m.m__law_near m.F__law_near.kp (bi__law_near m) pass0 (dio_here (p := true) (i := 0) (dza_cons (p1 := true) (p2 := true) (dz_q (p := true) (dq_read (i := 1))) dza_nil))) (da_cons (p1 := true) (o1 := true) (p2 := true) (o2 := true) (de_imm (p := true) (o := false) (de_read (i := 1))) da_nil))))) dza_nil))) (da_cons (p1 := false) (o1 := true) (p2 := true) (o2 := true) (de_callT (p := false) (o := true) cr_tupleV m.z_tuple (da_cons (p1 := false) (o1 := true) (p2 := true) (o2 := true) (de_lc (own := [("k", 13)]) (p1 := true) (p2 := true) (p3 := false) rfl nd__law_texts_hold (di_range1 (p := true) (o := true) m.z_range (da_cons (p1 := true) (o1 := true) (p2 := true) (o2 := true) de_int da_nil)) (blkOk_by (own := [("k", 13)]) (by kernel_rfl)) (fun _ _ _ _ _ => (dg_name nd__law_texts_hold (i := 13))) (fun _ _ _ _ _ => dts_nil) (fun _ _ _ _ _ => (de_fnIO (p := false) ((g__law_draw m).more (by decide)) room gd m.m__law_draw m.F__law_draw.kp (bi__law_draw m) pass0 (dio_here (p := false) (i := 0) (dza_cons (p1 := false) (p2 := true) (dz_own (p := false) (de_fnIO (p := true) ((g__law_pick m).more (by decide)) room gd m.m__law_pick m.F__law_pick.kp (bi__law_pick m) pass0 (dio_here (p := true) (i := 0) (dza_cons (p1 := true) (p2 := true) (dz_own (p := true) (de_lst (p := true) (o := true) (da_cons (p1 := true) (o1 := true) (p2 := true) (o2 := true) de_int (da_cons (p1 := true) (o1 := true) (p2 := true) (o2 := true) de_int da_nil)))) dza_nil)))) dza_nil))))) da_nil)) da_nil)))
  (db_cons (ds_set (i := 4) (p := true) nd__law_texts_hold (de_fn (p := true) (o := false) ((g__law_table m).more (by decide)) room gd m.m__law_table m.F__law_table.kp (bi__law_table m) pass0 (da_cons (p1 := true) (o1 := false) (p2 := true) (o2 := false) (de_read (i := 1)) (da_cons (p1 := true) (o1 := false) (p2 := true) (o2 := false) (de_read (i := 2)) (da_cons (p1 := true) (o1 := false) (p2 := true) (o2 := true) (de_read (i := 3)) da_nil)))))
  (db_cons (ds_asg (p := false) (dg_tup rfl (dgs_cons (dg_name nd__law_texts_hold (i := 5)) (dgs_cons (dg_name nd__law_texts_hold (i := 6)) (dgs_cons (dg_name nd__law_texts_hold (i := 7)) dgs_nil)))) (de_tup (p := false) (o := true) (da_cons (p1 := true) (o1 := true) (p2 := false) (o2 := true) (de_fn (p := true) (o := false) ((g__law_row m).more (by decide)) room gd m.m__law_row m.F__law_row.kp (bi__law_row m) pass0 (da_cons (p1 := true) (o1 := false) (p2 := true) (o2 := false) (de_read (i := 1)) (da_cons (p1 := true) (o1 := false) (p2 := true) (o2 := false) (de_read (i := 2)) (da_cons (p1 := true) (o1 := false) (p2 := true) (o2 := false) (de_read (i := 3)) (da_cons (p1 := true) (o1 := false) (p2 := true) (o2 := true) (de_read (i := 4)) da_nil))))) (da_cons (p1 := true) (o1 := true) (p2 := false) (o2 := true) (de_imm (p := true) (o := false) (de_ix (p1 := true) (o1 := false) (p2 := true) (o2 := true) (de_ix (p1 := true) (o1 := false) (p2 := true) (o2 := true) (de_read (i := 4)) (de_un (p := true) (o := true) un_negV de_int)) (de_un (p := true) (o := true) un_negV de_int))) (da_cons (p1 := false) (o1 := true) (p2 := true) (o2 := true) (de_fnIO (p := true) ((g__law_pick m).more (by decide)) room gd m.m__law_pick m.F__law_pick.kp (bi__law_pick m) pass0 (dio_here (p := true) (i := 0) (dza_cons (p1 := true) (p2 := true) (dz_own (p := true) (de_lst (p := true) (o := true) (da_cons (p1 := true) (o1 := true) (p2 := true) (o2 := true) de_int (da_cons (p1 := true) (o1 := true) (p2 := true) (o2 := true) de_int (da_cons (p1 := true) (o1 := true) (p2 := true) (o2 := true) de_int da_nil))))) dza_nil))) da_nil)))))
  (db_cons (ds_if (p := true) (dt_not (p := true) (dt_truth (p := true) (o := true) (de_fn (p := true) (o := true) ((g__law_same m).more (by decide)) room gd m.m__law_same m.F__law_same.kp (bi__law_same m) pass0 (da_cons (p1 := true) (o1 := true) (p2 := true) (o2 := true) (de_lst (p := true) (o := true) (da_cons (p1 := true) (o1 := true) (p2 := true) (o2 := true) (de_fn (p := true) (o := false) ((g_table m).more (by decide)) room gd m.m_table m.F_table.kp (bi_table m) pass0 (da_cons (p1 := true) (o1 := false) (p2 := true) (o2 := false) (de_read (i := 1)) (da_cons (p1 := true) (o1 := false) (p2 := true) (o2 := false) (de_read (i := 2)) (da_cons (p1 := true) (o1 := false) (p2 := true) (o2 := true) (de_read (i := 3)) da_nil)))) (da_cons (p1 := true) (o1 := true) (p2 := true) (o2 := true) (de_fn (p := true) (o := false) ((g_aligned m).more (by decide)) room gd m.m_aligned m.F_aligned.kp (bi_aligned m) pass0 (da_cons (p1 := true) (o1 := false) (p2 := true) (o2 := false) (de_read (i := 1)) (da_cons (p1 := true) (o1 := false) (p2 := true) (o2 := false) (de_read (i := 2)) (da_cons (p1 := true) (o1 := false) (p2 := true) (o2 := true) (de_read (i := 3)) da_nil)))) (da_cons (p1 := true) (o1 := true) (p2 := true) (o2 := true) (de_fn (p := true) (o := false) ((g_pairs m).more (by decide)) room gd m.m_pairs m.F_pairs.kp (bi_pairs m) pass0 (da_cons (p1 := true) (o1 := false) (p2 := true) (o2 := true) (de_read (i := 5)) da_nil)) da_nil)))) (da_cons (p1 := true) (o1 := true) (p2 := true) (o2 := true) (de_lst (p := true) (o := true) (da_cons (p1 := true) (o1 := true) (p2 := true) (o2 := true) (de_imm (p := true) (o := false) (de_read (i := 4))) (da_cons (p1 := true) (o1 := true) (p2 := true) (o2 := true) (de_imm (p := true) (o := false) (de_tup (p := true) (o := false) (da_cons (p1 := true) (o1 := false) (p2 := true) (o2 := false) (de_read (i := 6)) (da_cons (p1 := true) (o1 := false) (p2 := true) (o2 := true) (de_read (i := 5)) da_nil)))) (da_cons (p1 := true) (o1 := true) (p2 := true) (o2 := true) (de_fn (p := true) (o := false) ((g__law_pairs m).more (by decide)) room gd m.m__law_pairs m.F__law_pairs.kp (bi__law_pairs m) pass0 (da_cons (p1 := true) (o1 := false) (p2 := true) (o2 := true) (de_read (i := 5)) da_nil)) da_nil)))) da_nil)))))
  (db_cons (ds_ret (p := true) de_bl)
  db_nil)
  db_nil)
  (db_cons (ds_setLc (i := 8) (own := [("some", 14)]) (p1 := true) (p2 := true) (p3 := true) rfl nd__law_texts_hold (di_list (p := true) (dp_own (p := true) (de_lst (p := true) (o := true) (da_cons (p1 := true) (o1 := true) (p2 := true) (o2 := true) (de_imm (p := true) (o := false) (de_read (i := 1))) (da_cons (p1 := true) (o1 := true) (p2 := true) (o2 := true) (de_imm (p := true) (o := false) (de_read (i := 2))) (da_cons (p1 := true) (o1 := true) (p2 := true) (o2 := true) (de_imm (p := true) (o := false) (de_read (i := 3))) da_nil)))))) (blkOk_by (own := [("some", 14)]) (by kernel_rfl)) (fun _ _ _ _ _ => (dg_name nd__law_texts_hold (i := 14))) (fun _ _ _ _ _ => dts_nil) (fun _ _ _ _ _ => (de_callT (p := true) (o := true) cr_tupleV m.z_tuple (da_cons (p1 := true) (o1 := true) (p2 := true) (o2 := true) (de_lc (own := [("size", 15)]) (p1 := true) (p2 := true) (p3 := true) rfl nd__law_texts_hold (di_tup (p := true) (dp_ofQ (p := true) (dq_read (i := 14)))) (blkOk_by (own := [("size", 15)]) (by kernel_rfl)) (fun _ _ _ _ _ => (dg_name nd__law_texts_hold (i := 15))) (fun _ _ _ _ _ => dts_nil) (fun _ _ _ _ _ => (de_op (p1 := true) (o1 := false) (p2 := true) (o2 := false) op_mulV (de_read (i := 15)) (de_read (i := 7))))) da_nil))))
  (db_cons (ds_if (p := true) (dt_not (p := true) (dt_truth (p := true) (o := true) (de_fn (p := true) (o := false) ((g__law_same m).more (by decide)) room gd m.m__law_same m.F__law_same.kp (bi__law_same m) pass0 (da_cons (p1 := true) (o1 := true) (p2 := true) (o2 := false) (de_fn (p := true) (o := false) ((g_aligned m).more (by decide)) room gd m.m_aligned m.F_aligned.kp (bi_aligned m) pass0 (da_cons (p1 := true) (o1 := false) (p2 := true) (o2 := false) (de_ix (p1 := true) (o1 := false) (p2 := true) (o2 := true) (de_read (i := 8)) de_int) (da_cons (p1 := true) (o1 := false) (p2 := true) (o2 := false) (de_ix (p1 := true) (o1 := false) (p2 := true) (o2 := true) (de_read (i := 8)) de_int) (da_cons (p1 := true) (o1 := false) (p2 := true) (o2 := true) (de_ix (p1 := true) (o1 := false) (p2 := true) (o2 := true) (de_read (i := 8)) de_int) da_nil)))) (da_cons (p1 := true) (o1 := false) (p2 := true) (o2 := true) (de_tup (p := true) (o := false) (da_cons (p1 := true) (o1 := true) (p2 := true) (o2 := false) (de_op (p1 := true) (o1 := false) (p2 := true) (o2 := false) op_mulV (de_read (i := 6)) (de_read (i := 7))) (da_cons (p1 := true) (o1 := false) (p2 := true) (o2 := true) (de_read (i := 5)) da_nil))) da_nil)))))
  (db_cons (ds_ret (p := true) de_bl)
  db_nil)
  db_nil)
  (db_cons (ds_set (i := 9) (p := true) nd__law_texts_hold (de_fn (p := true) (o := false) ((g_table m).more (by decide)) room gd m.m_table m.F_table.kp (bi_table m) pass0 (da_cons (p1 := true) (o1 := false) (p2 := true) (o2 := false) (de_read (i := 2)) (da_cons (p1 := true) (o1 := false) (p2 := true) (o2 := false) (de_read (i := 1)) (da_cons (p1 := true) (o1 := false) (p2 := true) (o2 := true) (de_tup (p := true) (o := false) (da_cons (p1 := true) (o1 := false) (p2 := true) (o2 := false) (de_ix (p1 := true) (o1 := false) (p2 := true) (o2 := true) (de_read (i := 3)) de_int) (da_cons (p1 := true) (o1 := false) (p2 := true) (o2 := false) (de_ix (p1 := true) (o1 := false) (p2 := true) (o2 := true) (de_read (i := 3)) de_int) (da_cons (p1 := true) (o1 := false) (p2 := true) (o2 := false) (de_ix (p1 := true) (o1 := false) (p2 := true) (o2 := true) (de_read (i := 3)) de_int) (da_cons (p1 := true) (o1 := false) (p2 := true) (o2 := false) (de_ix (p1 := true) (o1 := false) (p2 := true) (o2 := true) (de_read (i := 3)) de_int) (da_cons (p1 := true) (o1 := false) (p2 := true) (o2 := true) (de_ix (p1 := true) (o1 := false) (p2 := true) (o2 := true) (de_read (i := 3)) de_int) da_nil)))))) da_nil)))))
  (db_cons (ds_if (p := true) (dt_not (p := true) (dt_truth (p := true) (o := true) (de_fn (p := true) (o := false) ((g__law_same m).more (by decide)) room gd m.m__law_same m.F__law_same.kp (bi__law_same m) pass0 (da_cons (p1 := true) (o1 := false) (p2 := true) (o2 := true) (de_read (i := 9)) (da_cons (p1 := true) (o1 := true) (p2 := true) (o2 := true) (de_callT (p := true) (o := true) cr_tupleV m.z_tuple (da_cons (p1 := true) (o1 := true) (p2 := true) (o2 := true) (de_lc (own := [("other", 11)]) (p1 := true) (p2 := true) (p3 := true) rfl nd__law_texts_hold (di_range1 (p := true) (o := true) m.z_range (da_cons (p1 := true) (o1 := true) (p2 := true) (o2 := true) (de_op (p1 := true) (o1 := true) (p2 := true) (o2 := true) op_addV (de_callB (p := true) (o := false) cr_lenV m.z_len (da_cons (p1 := true) (o1 := false) (p2 := true) (o2 := true) (de_read (i := 2)) da_nil)) de_int) da_nil)) (blkOk_by (own := [("other", 11)]) (by kernel_rfl)) (fun _ _ _ _ _ => (dg_name nd__law_texts_hold (i := 11))) (fun _ _ _ _ _ => dts_nil) (fun _ _ _ _ _ => (de_callT (p := true) (o := true) cr_tupleV m.z_tuple (da_cons (p1 := true) (o1 := true) (p2 := true) (o2 := true) (de_lc (own := [("one", 10)]) (p1 := true) (p2 := true) (p3 := true) rfl nd__law_texts_hold (di_range1 (p := true) (o := true) m.z_range (da_cons (p1 := true) (o1 := true) (p2 := true) (o2 := true) (de_op (p1 := true) (o1 := true) (p2 := true) (o2 := true) op_addV (de_callB (p := true) (o := false) cr_lenV m.z_len (da_cons (p1 := true) (o1 := false) (p2 := true) (o2 := true) (de_read (i := 1)) da_nil)) de_int) da_nil)) (blkOk_by (own := [("one", 10)]) (by kernel_rfl)) (fun _ _ _ _ _ => (dg_name nd__law_texts_hold (i := 10))) (fun _ _ _ _ _ => dts_nil) (fun _ _ _ _ _ => (de_imm (p := true) (o := false) (de_ix (p1 := true) (o1 := false) (p2 := true) (o2 := false) (de_ix (p1 := true) (o1 := false) (p2 := true) (o2 := false) (de_read (i := 4)) (de_read (i := 10))) (de_read (i := 11)))))) da_nil)))) da_nil)) da_nil)))))
  (db_cons (ds_ret (p := true) de_bl)
  db_nil)
  db_nil)
  (db_cons (ds_if (p := true) (dt_cmp (p1 := true) (o1 := true) (p2 := true) (o2 := true) (op_gtV hu) (de_ix (p1 := true) (o1 := true) (p2 := true) (o2 := true) (de_fn (p := true) (o := false) ((g_aligned m).more (by decide)) room gd m.m_aligned m.F_aligned.kp (bi_aligned m) pass0 (da_cons (p1 := true) (o1 := false) (p2 := true) (o2 := false) (de_read (i := 1)) (da_cons (p1 := true) (o1 := false) (p2 := true) (o2 := false) (de_read (i := 1)) (da_cons (p1 := true) (o1 := false) (p2 := true) (o2 := true) (de_read (i := 3)) da_nil)))) de_int) (de_op (p1 := true) (o1 := false) (p2 := true) (o2 := true) op_mulV (de_ix (p1 := true) (o1 := false) (p2 := true) (o2 := true) (de_read (i := 3)) de_int) (de_callB (p := true) (o := false) cr_lenV m.z_len (da_cons (p1 := true) (o1 := false) (p2 := true) (o2 := true) (de_read (i := 1)) da_nil))))
  (db_cons (ds_ret (p := true) de_bl)
  db_nil)
  db_nil)
  (db_cons (ds_if (p := true) (dt_w (dw_or (p1 := true) (p2 := true) (dt_cmp (p1 := true) (o1 := true) (p2 := true) (o2 := true) op_notnV (de_fn (p := true) (o := false) ((g_accept_steps m).more (by decide)) room gd m.m_accept_steps m.F_accept_steps.kp (bi_accept_steps m) pass0 (da_cons (p1 := true) (o1 := false) (p2 := true) (o2 := false) (de_read (i := 1)) (da_cons (p1 := true) (o1 := false) (p2 := true) (o2 := false) (de_read (i := 2)) (da_cons (p1 := true) (o1 := false) (p2 := true) (o2 := false) (de_read (i := 3)) (da_cons (p1 := true) (o1 := false) (p2 := true) (o2 := false) (de_read (i := 6)) (da_cons (p1 := true) (o1 := false) (p2 := true) (o2 := true) (de_read (i := 5)) da_nil)))))) de_non) (dw_or (p1 := true) (p2 := true) (dt_cmp (p1 := true) (o1 := true) (p2 := true) (o2 := true) (op_neV hu) (de_fn (p := true) (o := false) ((g__law_refused m).more (by decide)) room gd m.m__law_refused m.F__law_refused.kp (bi__law_refused m) pass0 (da_cons (p1 := true) (o1 := false) (p2 := true) (o2 := false) (de_read (i := 1)) (da_cons (p1 := true) (o1 := false) (p2 := true) (o2 := false) (de_read (i := 2)) (da_cons (p1 := true) (o1 := false) (p2 := true) (o2 := false) (de_read (i := 3)) (da_cons (p1 := true) (o1 := false) (p2 := true) (o2 := false) (de_read (i := 6)) (da_cons (p1 := true) (o1 := false) (p2 := true) (o2 := true) (de_read (i := 4)) da_nil)))))) de_str) (dw_or1 (p := true) (dt_cmp (p1 := true) (o1 := true) (p2 := true) (o2 := true) (op_neV hu) (de_fn (p := true) (o := false) ((g__law_refused m).more (by decide)) room gd m.m__law_refused m.F__law_refused.kp (bi__law_refused m) pass0 (da_cons (p1 := true) (o1 := false) (p2 := true) (o2 := false) (de_read (i := 1)) (da_cons (p1 := true) (o1 := false) (p2 := true) (o2 := false) (de_read (i := 2)) (da_cons (p1 := true) (o1 := false) (p2 := true) (o2 := false) (de_read (i := 3)) (da_cons (p1 := true) (o1 := true) (p2 := true) (o2 := false) (de_op (p1 := true) (o1 := false) (p2 := true) (o2 := true) op_addV (de_read (i := 6)) de_int) (da_cons (p1 := true) (o1 := false) (p2 := true) (o2 := true) (de_read (i := 4)) da_nil)))))) de_str)))))
  (db_cons (ds_ret (p := true) de_bl)
  db_nil)
  db_nil)
  (db_cons (ds_if (p := true) (dt_cmp (p1 := true) (o1 := true) (p2 := true) (o2 := true) (op_gtV hu) (de_op (p1 := true) (o1 := true) (p2 := true) (o2 := true) op_addV (de_callB (p := true) (o := false) cr_lenV m.z_len (da_cons (p1 := true) (o1 := false) (p2 := true) (o2 := true) (de_read (i := 1)) da_nil)) (de_callB (p := true) (o := false) cr_lenV m.z_len (da_cons (p1 := true) (o1 := false) (p2 := true) (o2 := true) (de_read (i := 2)) da_nil))) de_int)
  (db_cons (ds_par2 (i := 10) (j := 11) (p := false) rfl nd__law_texts_hold (da_cons (p1 := false) (o1 := true) (p2 := false) (o2 := true) (de_fnIO (p := true) ((g__law_draw m).more (by decide)) room gd m.m__law_draw m.F__law_draw.kp (bi__law_draw m) pass0 (dio_here (p := true) (i := 0) (dza_cons (p1 := true) (p2 := true) (dz_own (p := true) (de_op (p1 := true) (o1 := true) (p2 := true) (o2 := true) op_addV (de_callB (p := true) (o := false) cr_lenV m.z_len (da_cons (p1 := true) (o1 := false) (p2 := true) (o2 := true) (de_read (i := 1)) da_nil)) de_int)) dza_nil))) (da_cons (p1 := false) (o1 := true) (p2 := true) (o2 := true) (de_fnIO (p := true) ((g__law_draw m).more (by decide)) room gd m.m__law_draw m.F__law_draw.kp (bi__law_draw m) pass0 (dio_here (p := true) (i := 0) (dza_cons (p1 := true) (p2 := true) (dz_own (p := true) (de_op (p1 := true) (o1 := true) (p2 := true) (o2 := true) op_addV (de_callB (p := true) (o := false) cr_lenV m.z_len (da_cons (p1 := true) (o1 := false) (p2 := true) (o2 := true) (de_read (i := 2)) da_nil)) de_int)) dza_nil))) da_nil)))
  (db_cons (ds_set (i := 12) (p := true) nd__law_texts_hold (de_op (p1 := true) (o1 := true) (p2 := true) (o2 := true) op_addV (de_op (p1 := true) (o1 := true) (p2 := true) (o2 := true) op_addV (de_slice (p := true) (o := false) (de_read (i := 4)) do_none (do_some (o := false) (de_read (i := 10)))) (de_tup (p := true) (o := true) (da_cons (p1 := true) (o1 := true) (p2 := true) (o2 := true) (de_op (p1 := true) (o1 := true) (p2 := true) (o2 := true) op_addV (de_op (p1 := true) (o1 := true) (p2 := true) (o2 := true) op_addV (de_slice (p := true) (o := false) (de_ix (p1 := true) (o1 := false) (p2 := true) (o2 := false) (de_read (i := 4)) (de_read (i := 10))) do_none (do_some (o := false) (de_read (i := 11)))) (de_tup (p := true) (o := true) (da_cons (p1 := true) (o1 := true) (p2 := true) (o2 := true) (de_op (p1 := true) (o1 := false) (p2 := true) (o2 := true) op_addV (de_ix (p1 := true) (o1 := false) (p2 := true) (o2 := false) (de_ix (p1 := true) (o1 := false) (p2 := true) (o2 := false) (de_read (i := 4)) (de_read (i := 10))) (de_read (i := 11))) de_int) da_nil))) (de_slice (p := true) (o := false) (de_ix (p1 := true) (o1 := false) (p2 := true) (o2 := false) (de_read (i := 4)) (de_read (i := 10))) (do_some (o := true) (de_op (p1 := true) (o1 := false) (p2 := true) (o2 := true) op_addV (de_read (i := 11)) de_int)) do_none)) da_nil))) (de_slice (p := true) (o := false) (de_read (i := 4)) (do_some (o := true) (de_op (p1 := true) (o1 := false) (p2 := true) (o2 := true) op_addV (de_read (i := 10)) de_int)) do_none)))
  (db_cons (ds_ret (p := true) (de_cmp (p1 := true) (o1 := true) (p2 := true) (o2 := true) (op_eqV hu) (de_fn (p := true) (o := false) ((g__law_refused m).more (by decide)) room gd m.m__law_refused m.F__law_refused.kp (bi__law_refused m) pass0 (da_cons (p1 := true) (o1 := false) (p2 := true) (o2 := false) (de_read (i := 1)) (da_cons (p1 := true) (o1 := false) (p2 := true) (o2 := false) (de_read (i := 2)) (da_cons (p1 := true) (o1 := false) (p2 := true) (o2 := false) (de_read (i := 3)) (da_cons (p1 := true) (o1 := false) (p2 := true) (o2 := false) (de_read (i := 6)) (da_cons (p1 := true) (o1 := false) (p2 := true) (o2 := true) (de_read (i := 12)) da_nil)))))) (de_if (pt := true) (p1 := true) (o1 := true) (p2 := true) (o2 := true) (dt_w (dw_and (p1 := true) (p2 := true) (dt_cmp (p1 := true) (o1 := false) (p2 := true) (o2 := true) (op_eqV hu) (de_read (i := 10)) de_int) (dw_and1 (p := true) (dt_cmp (p1 := true) (o1 := false) (p2 := true) (o2 := true) (op_eqV hu) (de_read (i := 11)) de_int)))) de_str de_str)))
  db_nil)))
  db_nil)
  (db_kill (ks := [10, 11, 12]) (db_cons (ds_ret (p := true) de_bl)
  db_nil)))))))))))))) (by decide)
/-! _law_pages -/
theorem sc__law_pages : FnScope ["rows", "height", "own", "high", "best", "end", "ways", "first", "used", "price", "row", "k"] ["rows", "height"] (defScope s30) := ⟨rfl, rfl, rfl, by decide +kernel, rfl, by decide +kernel, by decide +kernel⟩
theorem nd__law_pages : List.Nodup (["rows", "height", "own", "high", "best", "end", "ways", "first", "used", "price", "row", "k"] : List Str) := sc__law_pages.nd
theorem bi__law_pages (m : MF P K mg) : Binds K m.fd__law_pages ["rows", "height"] [] := m.F__law_pages.bindsN fun _ _ _ _ _ _ us hl => match us, hl with | [_, _], _ => rfl
def l0__law_pages : Sv := (sSeq (sSet 8 (eCall sumD (aCons (eSl (eRead 2) (oSome (eRead 7)) (oSome (eRead 5))) aNil)))
  (sSeq (sIf (eT (eBin leD (eRead 8) (eRead 1)))
  (sSeq (sExpr (eApp 6 (eImm (eTup (aCons (eBin addD (eIx (eIx (eRead 4) (eRead 7)) (eC (.int 0))) (eIf (eT (eBin eqD (eRead 5) (eCall lenD (aCons (eRead 2) aNil)))) (eC (.int 0)) (eBin mulD (eBin subD (eRead 1) (eRead 8)) (eBin subD (eRead 1) (eRead 8))))) (aCons (eRead 7) aNil))))))
  sNx)
  sNx)
  sNx))
def l1__law_pages : Sv := (sSeq (sSet 6 (eLst aNil))
  (sSeq (sFor [7, 8] (.nm 7) (iFn rng1D (aCons (eRead 5) aNil))
  l0__law_pages)
  (sSeq (sAsg (.tp ((.nm 9) :: ((.nm 7) :: []))) (eCall minD1 (aCons (eRead 6) aNil)))
  (sSeq (sExpr (eApp 4 (eImm (eTup (aCons (eRead 9) (aCons (eBin addD (eIx (eIx (eRead 4) (eRead 7)) (eC (.int 1))) (eTup (aCons (eRead 5) aNil))) aNil))))))
  sNx))))
def f__law_pages : Sv := (sSeq (sSet 2 (eLc [10] (.nm 10) (iTpl (eReadP 0)) tYesE (eCall maxD1 (aCons (eRead 10) aNil))))
  (sSeq (sSet 3 (eLc [11] (.nm 11) (iFn rng1D (aCons (eCall lenD (aCons (eRead 2) aNil)) aNil)) (eT (eBin gtD (eIx (eRead 2) (eRead 11)) (eRead 1))) (eImm (eRead 11))))
  (sSeq (sIf (eTru (eRead 3))
  (sSeq (sRet (eTup (aCons (eC (.str "high")) (aCons (eImm (eIx (eRead 3) (eC (.int 0)))) aNil))))
  sNx)
  sNx)
  (sSeq (sSet 4 (eLst (aCons (eTup (aCons (eC (.int 0)) (aCons (eTup aNil) aNil))) aNil)))
  (sSeq (sFor [5, 6, 7, 8, 9] (.nm 5) (iFn rng2D (aCons (eC (.int 1)) (aCons (eBin addD (eCall lenD (aCons (eRead 2) aNil)) (eC (.int 1))) aNil)))
  l1__law_pages)
  (sSeq (sRet (eTup (aCons (eC (.str "pages")) (aCons (eImm (eIx (eIx (eRead 4) (eUn negD (eC (.int 1)))) (eC (.int 0)))) (aCons (eImm (eIx (eIx (eRead 4) (eUn negD (eC (.int 1)))) (eC (.int 1)))) aNil)))))
  sNx))))))
def D__law_pages : Den := denOf 10 none f__law_pages
theorem g__law_pages (m : MF P K mg) : FnG P w K mg base CX0 1 m.a__law_pages m.fd__law_pages ["rows", "height"] (spD K 2 none D__law_pages) := by
  refine fn_den (A' := [2, 3, 4, 5, 6, 7, 8, 9]) m.F__law_pages sc__law_pages (by intro k hk; first | (cases hk; done) | (cases hk; decide)) (by intro k hk; first | (cases hk; done) | (cases hk; decide)) fun cdv A out s H E room gd => ?_
  have hp : PassesOwn (model P w) (cxOf CX0 P w K mg base ["rows", "height", "own", "high", "best", "end", "ways", "first", "used", "price", "row", "k"] "_law_pages" (defScope s30) m.a__law_pages cdv A out s H E).A _ _ := passes_of rfl
  have hu : (cxOf CX0 P w K mg base ["rows", "height", "own", "high", "best", "end", "ways", "first", "used", "price", "row", "k"] "_law_pages" (defScope s30) m.a__law_pages cdv A out s H E).A.units + 64 < cLine := by have := room.un; show (A.deeper _).units + 64 < cLine; omega
  exact db_sub (db_cons (ds_set (i := 2) (p := true) nd__law_pages (de_lc (own := [("row", 10)]) (p1 := true) (p2 := true) (p3 := true) rfl nd__law_pages (di_tup (p := true) (dp_ofQ (p := true) (dq_read (i := 0)))) (blkOk_by (own := [("row", 10)]) (by kernel_rfl)) (fun _ _ _ _ _ => (dg_name nd__law_pages (i := 10))) (fun _ _ _ _ _ => dts_nil) (fun _ _ _ _ _ => (de_callB (p := true) (o := false) (cr_maxV rfl hu) m.z_max (da_cons (p1 := true) (o1 := false) (p2 := true) (o2 := true) (de_read (i := 10)) da_nil)))))
  (db_cons (ds_setLc (i := 3) (own := [("k", 11)]) (p1 := true) (p2 := true) (p3 := true) rfl nd__law_pages (di_range1 (p := true) (o := true) m.z_range (da_cons (p1 := true) (o1 := true) (p2 := true) (o2 := true) (de_callB (p := true) (o := false) cr_lenV m.z_len (da_cons (p1 := true) (o1 := false) (p2 := true) (o2 := true) (de_read (i := 2)) da_nil)) da_nil)) (blkOk_by (own := [("k", 11)]) (by kernel_rfl)) (fun _ _ _ _ _ => (dg_name nd__law_pages (i := 11))) (fun _ _ _ _ _ => (dts_one (dt_cmp (p1 := true) (o1 := false) (p2 := true) (o2 := false) (op_gtV hu) (de_ix (p1 := true) (o1 := false) (p2 := true) (o2 := false) (de_read (i := 2)) (de_read (i := 11))) (de_read (i := 1))))) (fun _ _ _ _ _ => (de_imm (p := true) (o := false) (de_read (i := 11)))))
  (db_cons (ds_if (p := true) (dt_truth (p := true) (o := false) (de_read (i := 3)))
  (db_cons (ds_ret (p := true) (de_tup (p := true) (o := true) (da_cons (p1 := true) (o1 := true) (p2 := true) (o2 := true) de_str (da_cons (p1 := true) (o1 := true) (p2 := true) (o2 := true) (de_imm (p := true) (o := false) (de_ix (p1 := true) (o1 := false) (p2 := true) (o2 := true) (de_read (i := 3)) de_int)) da_nil))))
  db_nil)
  db_nil)
  (db_cons (ds_set (i := 4) (p := true) nd__law_pages (de_lst (p := true) (o := true) (da_cons (p1 := true) (o1 := true) (p2 := true) (o2 := true) (de_tup (p := true) (o := true) (da_cons (p1 := true) (o1 := true) (p2 := true) (o2 := true) de_int (da_cons (p1 := true) (o1 := true) (p2 := true) (o2 := true) (de_tup (p := true) (o := true) da_nil) da_nil))) da_nil)))
  (db_cons (ds_for (p := true) (ks := [5, 6, 7, 8, 9]) hp rfl (di_range2 (p := true) (o := true) m.z_range (da_cons (p1 := true) (o1 := true) (p2 := true) (o2 := true) de_int (da_cons (p1 := true) (o1 := true) (p2 := true) (o2 := true) (de_op (p1 := true) (o1 := true) (p2 := true) (o2 := true) op_addV (de_callB (p := true) (o := false) cr_lenV m.z_len (da_cons (p1 := true) (o1 := false) (p2 := true) (o2 := true) (de_read (i := 2)) da_nil)) de_int) da_nil))) (dg_name nd__law_pages (i := 5))
  (db_cons (ds_set (i := 6) (p := true) nd__law_pages (de_lst (p := true) (o := true) da_nil))
  (db_cons (ds_for (p := true) (ks := [7, 8]) hp rfl (di_range1 (p := true) (o := false) m.z_range (da_cons (p1 := true) (o1 := false) (p2 := true) (o2 := true) (de_read (i := 5)) da_nil)) (dg_name nd__law_pages (i := 7))
  (db_cons (ds_set (i := 8) (p := true) nd__law_pages (de_callB (p := true) (o := true) (cr_sumV rfl) m.z_sum (da_cons (p1 := true) (o1 := true) (p2 := true) (o2 := true) (de_slice (p := true) (o := false) (de_read (i := 2)) (do_some (o := false) (de_read (i := 7))) (do_some (o := false) (de_read (i := 5)))) da_nil)))
  (db_cons (ds_if (p := true) (dt_cmp (p1 := true) (o1 := false) (p2 := true) (o2 := false) (op_leV hu) (de_read (i := 8)) (de_read (i := 1)))
  (db_cons (ds_expr (p := false) (o := true) (de_app (p := true) (i := 6) (de_imm (p := true) (o := false) (de_tup (p := true) (o := false) (da_cons (p1 := true) (o1 := true) (p2 := true) (o2 := false) (de_op (p1 := true) (o1 := false) (p2 := true) (o2 := true) op_addV (de_ix (p1 := true) (o1 := false) (p2 := true) (o2 := true) (de_ix (p1 := true) (o1 := false) (p2 := true) (o2 := false) (de_read (i := 4)) (de_read (i := 7))) de_int) (de_if (pt := true) (p1 := true) (o1 := true) (p2 := true) (o2 := true) (dt_cmp (p1 := true) (o1 := false) (p2 := true) (o2 := true) (op_eqV hu) (de_read (i := 5)) (de_callB (p := true) (o := false) cr_lenV m.z_len (da_cons (p1 := true) (o1 := false) (p2 := true) (o2 := true) (de_read (i := 2)) da_nil))) de_int (de_op (p1 := true) (o1 := true) (p2 := true) (o2 := true) op_mulV (de_op (p1 := true) (o1 := false) (p2 := true) (o2 := false) op_subV (de_read (i := 1)) (de_read (i := 8))) (de_op (p1 := true) (o1 := false) (p2 := true) (o2 := false) op_subV (de_read (i := 1)) (de_read (i := 8)))))) (da_cons (p1 := true) (o1 := false) (p2 := true) (o2 := true) (de_read (i := 7)) da_nil))))))
  db_nil)
  db_nil)
  db_nil)))
  (db_cons (ds_asg (p := true) (dg_tup rfl (dgs_cons (dg_name nd__law_pages (i := 9)) (dgs_cons (dg_name nd__law_pages (i := 7)) dgs_nil))) (de_callB (p := true) (o := false) (cr_minV rfl hu) m.z_min (da_cons (p1 := true) (o1 := false) (p2 := true) (o2 := true) (de_read (i := 6)) da_nil)))
  (db_cons (ds_expr (p := false) (o := true) (de_app (p := true) (i := 4) (de_imm (p := true) (o := false) (de_tup (p := true) (o := false) (da_cons (p1 := true) (o1 := false) (p2 := true) (o2 := true) (de_read (i := 9)) (da_cons (p1 := true) (o1 := true) (p2 := true) (o2 := true) (de_op (p1 := true) (o1 := false) (p2 := true) (o2 := false) op_addV (de_ix (p1 := true) (o1 := false) (p2 := true) (o2 := true) (de_ix (p1 := true) (o1 := false) (p2 := true) (o2 := false) (de_read (i := 4)) (de_read (i := 7))) de_int) (de_tup (p := true) (o := false) (da_cons (p1 := true) (o1 := false) (p2 := true) (o2 := true) (de_read (i := 5)) da_nil))) da_nil))))))
  db_nil)))))
  (db_cons (ds_ret (p := true) (de_tup (p := true) (o := true) (da_cons (p1 := true) (o1 := true) (p2 := true) (o2 := true) de_str (da_cons (p1 := true) (o1 := true) (p2 := true) (o2 := true) (de_imm (p := true) (o := false) (de_ix (p1 := true) (o1 := false) (p2 := true) (o2 := true) (de_ix (p1 := true) (o1 := false) (p2 := true) (o2 := true) (de_read (i := 4)) (de_un (p := true) (o := true) un_negV de_int)) de_int)) (da_cons (p1 := true) (o1 := true) (p2 := true) (o2 := true) (de_imm (p := true) (o := false) (de_ix (p1 := true) (o1 := false) (p2 := true) (o2 := true) (de_ix (p1 := true) (o1 := false) (p2 := true) (o2 := true) (de_read (i := 4)) (de_un (p := true) (o := true) un_negV de_int)) de_int)) da_nil)))))
  db_nil)))))) (by decide)
/-! check_rows -/
theorem sc_check_rows : FnScope ["rows", "row", "size"] ["rows"] (defScope s11) := ⟨rfl, rfl, rfl, by decide +kernel, rfl, by decide +kernel, by decide +kernel⟩
theorem nd_check_rows : List.Nodup (["rows", "row", "size"] : List Str) := sc_check_rows.nd
theorem bi_check_rows (m : MF P K mg) : Binds K m.fd_check_rows ["rows"] [] := m.F_check_rows.bindsN fun _ _ _ _ _ _ us hl => match us, hl with | [_], _ => rfl
def l0_check_rows : Sv := (sSeq (sIf (tOrE (tNotE (eTru (eIs PyData.isTuple (eRead 1)))) (eT (eBin neD (eCall lenD (aCons (eRead 1) aNil)) (eC (.int 2)))))
  (sSeq sNo
  sNx)
  sNx)
  (sSeq (sIf (tNotE (eTru (eCall allD (aCons (eLc [2] (.nm 2) (iTpl (eReadP 1)) tYesE (eAnd (eFn 1 (D_is_integer) (aCons (eRead 2) aNil)) (eChain (eC (.int 0)) (cLink leD (eRead 2) (cLast leD (eC (.int 100000))))))) aNil))))
  (sSeq sNo
  sNx)
  sNx)
  sNx))
def f_check_rows : Sv := (sSeq (sIf (tOrE (tNotE (eTru (eIs PyData.isTuple (eRead 0)))) (tNotE (tChain (eC (.int 1)) (cLink leD (eCall lenD (aCons (eRead 0) aNil)) (cLast leD (eC (.int 60)))))))
  (sSeq sNo
  sNx)
  sNx)
  (sSeq (sFor [1] (.nm 1) (iTpl (eReadP 0))
  l0_check_rows)
  sNx))
def D_check_rows : Den := denOf 2 none f_check_rows
theorem g_check_rows (m : MF P K mg) : FnG P w K mg base CX0 2 m.a_check_rows m.fd_check_rows ["rows"] (spD K 1 none D_check_rows) := by
  refine fn_den (A' := [1]) m.F_check_rows sc_check_rows (by intro k hk; first | (cases hk; done) | (cases hk; decide)) (by intro k hk; first | (cases hk; done) | (cases hk; decide)) fun cdv A out s H E room gd => ?_
  have hp : PassesOwn (model P w) (cxOf CX0 P w K mg base ["rows", "row", "size"] "check_rows" (defScope s11) m.a_check_rows cdv A out s H E).A _ _ := passes_of rfl
  have hu : (cxOf CX0 P w K mg base ["rows", "row", "size"] "check_rows" (defScope s11) m.a_check_rows cdv A out s H E).A.units + 64 < cLine := by have := room.un; show (A.deeper _).units + 64 < cLine; omega
  exact db_sub (db_cons (ds_if (p := true) (dt_w (dw_or (p1 := true) (p2 := true) (dt_not (p := true) (dt_truth (p := true) (o := true) (de_isV (p := true) (o := false) (cr_isV PySem.W.isinstance_tuple_data) m.z_isinstance m.z_tuple rfl (de_read (i := 0))))) (dw_or1 (p := true) (dt_not (p := true) (dt_chain (o := true) de_int (dct_link (o := true) (op_leV hu) (de_callB (p := true) (o := false) cr_lenV m.z_len (da_cons (p1 := true) (o1 := false) (p2 := true) (o2 := true) (de_read (i := 0)) da_nil)) (dct_last (o := true) (op_leV hu) (de_gint rfl (m.c_MAX_BLOCKS).choose_spec))))))))
  (db_cons ds_never
  db_nil)
  db_nil)
  (db_cons (ds_for (p := true) (ks := [1]) hp rfl (di_tup (p := true) (dp_ofQ (p := true) (dq_read (i := 0)))) (dg_name nd_check_rows (i := 1))
  (db_cons (ds_if (p := true) (dt_w (dw_or (p1 := true) (p2 := true) (dt_not (p := true) (dt_truth (p := true) (o := true) (de_isV (p := true) (o := false) (cr_isV PySem.W.isinstance_tuple_data) m.z_isinstance m.z_tuple rfl (de_read (i := 1))))) (dw_or1 (p := true) (dt_cmp (p1 := true) (o1 := true) (p2 := true) (o2 := true) (op_neV hu) (de_callB (p := true) (o := false) cr_lenV m.z_len (da_cons (p1 := true) (o1 := false) (p2 := true) (o2 := true) (de_read (i := 1)) da_nil)) de_int))))
  (db_cons ds_never
  db_nil)
  db_nil)
  (db_cons (ds_if (p := true) (dt_not (p := true) (dt_truth (p := true) (o := true) (de_callB (p := true) (o := true) (cr_allV rfl) m.z_all (da_cons (p1 := true) (o1 := true) (p2 := true) (o2 := true) (de_lc (own := [("size", 2)]) (p1 := true) (p2 := true) (p3 := true) rfl nd_check_rows (di_tup (p := true) (dp_ofQ (p := true) (dq_read (i := 1)))) (blkOk_by (own := [("size", 2)]) (by kernel_rfl)) (fun _ _ _ _ _ => (dg_name nd_check_rows (i := 2))) (fun _ _ _ _ _ => dts_nil) (fun _ _ _ _ _ => (de_and (p1 := true) (o1 := true) (p2 := true) (o2 := true) (de_fn (p := true) (o := false) ((g_is_integer m).more (by decide)) room gd m.m_is_integer m.F_is_integer.kp (bi_is_integer m) pass0 (da_cons (p1 := true) (o1 := false) (p2 := true) (o2 := true) (de_read (i := 2)) da_nil)) (de_and1 (p := true) (o := true) (de_chain (o := true) de_int (dcv_link (o := false) (op_leV hu) (de_read (i := 2)) (dcv_last (o := true) (op_leV hu) (de_gint rfl (m.c_MAX_WIDTH).choose_spec)))))))) da_nil))))
  (db_cons ds_never
  db_nil)
  db_nil)
  db_nil)))
  db_nil)) (by decide)
/-! check_height -/
theorem sc_check_height : FnScope ["height"] ["height"] (defScope s14) := ⟨rfl, rfl, rfl, by decide +kernel, rfl, by decide +kernel, by decide +kernel⟩
theorem nd_check_height : List.Nodup (["height"] : List Str) := sc_check_height.nd
theorem bi_check_height (m : MF P K mg) : Binds K m.fd_check_height ["height"] [] := m.F_check_height.bindsN fun _ _ _ _ _ _ us hl => match us, hl with | [_], _ => rfl
def f_check_height : Sv := (sSeq (sIf (tOrE (tNotE (eTru (eFn 1 (D_is_integer) (aCons (eRead 0) aNil)))) (tNotE (tChain (eC (.int 1)) (cLink leD (eRead 0) (cLast leD (eC (.int 100000)))))))
  (sSeq sNo
  sNx)
  sNx)
  sNx)
def D_check_height : Den := denOf 0 none f_check_height
theorem g_check_height (m : MF P K mg) : FnG P w K mg base CX0 2 m.a_check_height m.fd_check_height ["height"] (spD K 1 none D_check_height) := by
  refine fn_den (A' := []) m.F_check_height sc_check_height (by intro k hk; first | (cases hk; done) | (cases hk; decide)) (by intro k hk; first | (cases hk; done) | (cases hk; decide)) fun cdv A out s H E room gd => ?_
  have hp : PassesOwn (model P w) (cxOf CX0 P w K mg base ["height"] "check_height" (defScope s14) m.a_check_height cdv A out s H E).A _ _ := passes_of rfl
  have hu : (cxOf CX0 P w K mg base ["height"] "check_height" (defScope s14) m.a_check_height cdv A out s H E).A.units + 64 < cLine := by have := room.un; show (A.deeper _).units + 64 < cLine; omega
  exact db_sub (db_cons (ds_if (p := true) (dt_w (dw_or (p1 := true) (p2 := true) (dt_not (p := true) (dt_truth (p := true) (o := true) (de_fn (p := true) (o := false) ((g_is_integer m).more (by decide)) room gd m.m_is_integer m.F_is_integer.kp (bi_is_integer m) pass0 (da_cons (p1 := true) (o1 := false) (p2 := true) (o2 := true) (de_read (i := 0)) da_nil)))) (dw_or1 (p := true) (dt_not (p := true) (dt_chain (o := true) de_int (dct_link (o := false) (op_leV hu) (de_read (i := 0)) (dct_last (o := true) (op_leV hu) (de_gint rfl (m.c_MAX_WIDTH).choose_spec))))))))
  (db_cons ds_never
  db_nil)
  db_nil)
  db_nil) (by decide)
/-! height_of -/
theorem sc_height_of : FnScope ["rows", "first", "end", "row"] ["rows", "first", "end"] (defScope s12) := ⟨rfl, rfl, rfl, by decide +kernel, rfl, by decide +kernel, by decide +kernel⟩
theorem nd_height_of : List.Nodup (["rows", "first", "end", "row"] : List Str) := sc_height_of.nd
theorem bi_height_of (m : MF P K mg) : Binds K m.fd_height_of ["rows", "first", "end"] [] := m.F_height_of.bindsN fun _ _ _ _ _ _ us hl => match us, hl with | [_, _, _], _ => rfl
def f_height_of : Sv := (sSeq (sRet (eCall sumD (aCons (eLc [3] (.nm 3) (iTpl (eSl (eRead 0) (oSome (eRead 1)) (oSome (eRead 2)))) tYesE (eCall maxD1 (aCons (eRead 3) aNil))) aNil)))
  sNx)
def D_height_of : Den := denOf 1 none f_height_of
theorem g_height_of (m : MF P K mg) : FnG P w K mg base CX0 1 m.a_height_of m.fd_height_of ["rows", "first", "end"] (spD K 3 none D_height_of) := by
  refine fn_den (A' := []) m.F_height_of sc_height_of (by intro k hk; first | (cases hk; done) | (cases hk; decide)) (by intro k hk; first | (cases hk; done) | (cases hk; decide)) fun cdv A out s H E room gd => ?_
  have hp : PassesOwn (model P w) (cxOf CX0 P w K mg base ["rows", "first", "end", "row"] "height_of" (defScope s12) m.a_height_of cdv A out s H E).A _ _ := passes_of rfl
  have hu : (cxOf CX0 P w K mg base ["rows", "first", "end", "row"] "height_of" (defScope s12) m.a_height_of cdv A out s H E).A.units + 64 < cLine := by have := room.un; show (A.deeper _).units + 64 < cLine; omega
  exact db_sub (db_cons (ds_ret (p := true) (de_callB (p := true) (o := true) (cr_sumV rfl) m.z_sum (da_cons (p1 := true) (o1 := true) (p2 := true) (o2 := true) (de_lc (own := [("row", 3)]) (p1 := true) (p2 := true) (p3 := true) rfl nd_height_of (di_tup (p := true) (dp_own (p := true) (de_slice (p := true) (o := false) (de_read (i := 0)) (do_some (o := false) (de_read (i := 1))) (do_some (o := false) (de_read (i := 2)))))) (blkOk_by (own := [("row", 3)]) (by kernel_rfl)) (fun _ _ _ _ _ => (dg_name nd_height_of (i := 3))) (fun _ _ _ _ _ => dts_nil) (fun _ _ _ _ _ => (de_callB (p := true) (o := false) (cr_maxV rfl hu) m.z_max (da_cons (p1 := true) (o1 := false) (p2 := true) (o2 := true) (de_read (i := 3)) da_nil)))) da_nil)))
  db_nil) (by decide)
/-! accept_pages -/
theorem sc_accept_pages : FnScope ["rows", "height", "price", "ends", "total", "first", "end", "left", "one", "other"] ["rows", "height", "price", "ends"] (defScope s16) := ⟨rfl, rfl, rfl, by decide +kernel, rfl, by decide +kernel, by decide +kernel⟩
theorem nd_accept_pages : List.Nodup (["rows", "height", "price", "ends", "total", "first", "end", "left", "one", "other"] : List Str) := sc_accept_pages.nd
theorem bi_accept_pages (m : MF P K mg) : Binds K m.fd_accept_pages ["rows", "height", "price", "ends"] [] := m.F_accept_pages.bindsN fun _ _ _ _ _ _ us hl => match us, hl with | [_, _, _, _], _ => rfl
def l0_accept_pages : Sv := (sSeq (sSet 7 (eBin subD (eRead 1) (eFn 3 (D_height_of) (aCons (eRead 0) (aCons (eRead 5) (aCons (eRead 6) aNil))))))
  (sSeq (sIf (eT (eBin ltD (eRead 7) (eC (.int 0))))
  (sSeq sNo
  sNx)
  sNx)
  (sSeq (sAug 4 augAdd (eIf (eT (eBin eqD (eRead 6) (eCall lenD (aCons (eRead 0) aNil)))) (eC (.int 0)) (eBin mulD (eRead 7) (eRead 7))))
  sNx)))
def f_accept_pages : Sv := (sSeq (sExpr (eFn 1 (D_check_rows) (aCons (eRead 0) aNil)))
  (sSeq (sExpr (eFn 1 (D_check_height) (aCons (eRead 1) aNil)))
  (sSeq (sIf (tOrE (tNotE (eTru (eFn 1 (D_is_integer) (aCons (eRead 2) aNil)))) (tOrE (tNotE (eTru (eIs PyData.isTuple (eRead 3)))) (tOrE (tNotE (eTru (eRead 3))) (tNotE (eTru (eCall allD (aCons (eLc [6] (.nm 6) (iTpl (eReadP 3)) tYesE (eFn 1 (D_is_integer) (aCons (eRead 6) aNil))) aNil)))))))
  (sSeq sNo
  sNx)
  sNx)
  (sSeq (sIf (tOrE (eT (eBin neD (eIx (eRead 3) (eUn negD (eC (.int 1)))) (eCall lenD (aCons (eRead 0) aNil)))) (tNotE (eTru (eCall allD (aCons (eLc [8, 9] (.tp ((.nm 8) :: ((.nm 9) :: []))) (iFn zipD (aCons (eBin addD (eTup (aCons (eC (.int 0)) aNil)) (eRead 3)) (aCons (eReadP 3) aNil))) tYesE (eBin ltD (eRead 8) (eRead 9))) aNil)))))
  (sSeq sNo
  sNx)
  sNx)
  (sSeq (sSet 4 (eC (.int 0)))
  (sSeq (sFor [5, 6, 7] (.tp ((.nm 5) :: ((.nm 6) :: []))) (iFn zipD (aCons (eBin addD (eTup (aCons (eC (.int 0)) aNil)) (eRead 3)) (aCons (eReadP 3) aNil)))
  l0_accept_pages)
  (sSeq (sIf (eT (eBin gtD (eRead 4) (eRead 2)))
  (sSeq sNo
  sNx)
  sNx)
  sNx)))))))
def D_accept_pages : Den := denOf 6 none f_accept_pages
theorem g_accept_pages (m : MF P K mg) : FnG P w K mg base CX0 3 m.a_accept_pages m.fd_accept_pages ["rows", "height", "price", "ends"] (spD K 4 none D_accept_pages) := by
  refine fn_den (A' := [4, 5, 6, 7]) m.F_accept_pages sc_accept_pages (by intro k hk; first | (cases hk; done) | (cases hk; decide)) (by intro k hk; first | (cases hk; done) | (cases hk; decide)) fun cdv A out s H E room gd => ?_
  have hp : PassesOwn (model P w) (cxOf CX0 P w K mg base ["rows", "height", "price", "ends", "total", "first", "end", "left", "one", "other"] "accept_pages" (defScope s16) m.a_accept_pages cdv A out s H E).A _ _ := passes_of rfl
  have hu : (cxOf CX0 P w K mg base ["rows", "height", "price", "ends", "total", "first", "end", "left", "one", "other"] "accept_pages" (defScope s16) m.a_accept_pages cdv A out s H E).A.units + 64 < cLine := by have := room.un; show (A.deeper _).units + 64 < cLine; omega
  exact db_sub (db_cons (ds_expr (p := true) (o := true) (de_fn (p := true) (o := false) ((g_check_rows m).more (by decide)) room gd m.m_check_rows m.F_check_rows.kp (bi_check_rows m) pass0 (da_cons (p1 := true) (o1 := false) (p2 := true) (o2 := true) (de_read (i := 0)) da_nil)))
  (db_cons (ds_expr (p := true) (o := true) (de_fn (p := true) (o := false) ((g_check_height m).more (by decide)) room gd m.m_check_height m.F_check_height.kp (bi_check_height m) pass0 (da_cons (p1 := true) (o1 := false) (p2 := true) (o2 := true) (de_read (i := 1)) da_nil)))
  (db_cons (ds_if (p := true) (dt_w (dw_or (p1 := true) (p2 := true) (dt_not (p := true) (dt_truth (p := true) (o := true) (de_fn (p := true) (o := false) ((g_is_integer m).more (by decide)) room gd m.m_is_integer m.F_is_integer.kp (bi_is_integer m) pass0 (da_cons (p1 := true) (o1 := false) (p2 := true) (o2 := true) (de_read (i := 2)) da_nil)))) (dw_or (p1 := true) (p2 := true) (dt_not (p := true) (dt_truth (p := true) (o := true) (de_isV (p := true) (o := false) (cr_isV PySem.W.isinstance_tuple_data) m.z_isinstance m.z_tuple rfl (de_read (i := 3))))) (dw_or (p1 := true) (p2 := true) (dt_not (p := true) (dt_truth (p := true) (o := false) (de_read (i := 3)))) (dw_or1 (p := true) (dt_not (p := true) (dt_truth (p := true) (o := true) (de_callB (p := true) (o := true) (cr_allV rfl) m.z_all (da_cons (p1 := true) (o1 := true) (p2 := true) (o2 := true) (de_lc (own := [("end", 6)]) (p1 := true) (p2 := true) (p3 := true) rfl nd_accept_pages (di_tup (p := true) (dp_ofQ (p := true) (dq_read (i := 3)))) (blkOk_by (own := [("end", 6)]) (by kernel_rfl)) (fun _ _ _ _ _ => (dg_name nd_accept_pages (i := 6))) (fun _ _ _ _ _ => dts_nil) (fun _ _ _ _ _ => (de_fn (p := true) (o := false) ((g_is_integer m).more (by decide)) room gd m.m_is_integer m.F_is_integer.kp (bi_is_integer m) pass0 (da_cons (p1 := true) (o1 := false) (p2 := true) (o2 := true) (de_read (i := 6)) da_nil)))) da_nil)))))))))
  (db_cons ds_never
  db_nil)
  db_nil)
  (db_cons (ds_if (p := true) (dt_w (dw_or (p1 := true) (p2 := true) (dt_cmp (p1 := true) (o1 := false) (p2 := true) (o2 := true) (op_neV hu) (de_ix (p1 := true) (o1 := false) (p2 := true) (o2 := true) (de_read (i := 3)) (de_un (p := true) (o := true) un_negV de_int)) (de_callB (p := true) (o := false) cr_lenV m.z_len (da_cons (p1 := true) (o1 := false) (p2 := true) (o2 := true) (de_read (i := 0)) da_nil))) (dw_or1 (p := true) (dt_not (p := true) (dt_truth (p := true) (o := true) (de_callB (p := true) (o := true) (cr_allV rfl) m.z_all (da_cons (p1 := true) (o1 := true) (p2 := true) (o2 := true) (de_lc (own := [("one", 8), ("other", 9)]) (p1 := true) (p2 := true) (p3 := true) rfl nd_accept_pages (di_zip (p := true) m.z_zip (dpa_cons (p1 := true) (p2 := true) (dp_own (p := true) (de_op (p1 := true) (o1 := true) (p2 := true) (o2 := false) op_addV (de_tup (p := true) (o := true) (da_cons (p1 := true) (o1 := true) (p2 := true) (o2 := true) de_int da_nil)) (de_read (i := 3)))) (dpa_cons (p1 := true) (p2 := true) (dp_ofQ (p := true) (dq_read (i := 3))) dpa_nil))) (blkOk_by (own := [("one", 8), ("other", 9)]) (by kernel_rfl)) (fun _ _ _ _ _ => (dg_tup rfl (dgs_cons (dg_name nd_accept_pages (i := 8)) (dgs_cons (dg_name nd_accept_pages (i := 9)) dgs_nil)))) (fun _ _ _ _ _ => dts_nil) (fun _ _ _ _ _ => (de_cmp (p1 := true) (o1 := false) (p2 := true) (o2 := false) (op_ltV hu) (de_read (i := 8)) (de_read (i := 9))))) da_nil)))))))
  (db_cons ds_never
  db_nil)
  db_nil)
  (db_cons (ds_set (i := 4) (p := true) nd_accept_pages de_int)
  (db_cons (ds_for (p := true) (ks := [5, 6, 7]) hp rfl (di_zip (p := true) m.z_zip (dpa_cons (p1 := true) (p2 := true) (dp_own (p := true) (de_op (p1 := true) (o1 := true) (p2 := true) (o2 := false) op_addV (de_tup (p := true) (o := true) (da_cons (p1 := true) (o1 := true) (p2 := true) (o2 := true) de_int da_nil)) (de_read (i := 3)))) (dpa_cons (p1 := true) (p2 := true) (dp_ofQ (p := true) (dq_read (i := 3))) dpa_nil))) (dg_tup rfl (dgs_cons (dg_name nd_accept_pages (i := 5)) (dgs_cons (dg_name nd_accept_pages (i := 6)) dgs_nil)))
  (db_cons (ds_set (i := 7) (p := true) nd_accept_pages (de_op (p1 := true) (o1 := false) (p2 := true) (o2 := true) op_subV (de_read (i := 1)) (de_fn (p := true) (o := false) ((g_height_of m).more (by decide)) room gd m.m_height_of m.F_height_of.kp (bi_height_of m) pass0 (da_cons (p1 := true) (o1 := false) (p2 := true) (o2 := false) (de_read (i := 0)) (da_cons (p1 := true) (o1 := false) (p2 := true) (o2 := false) (de_read (i := 5)) (da_cons (p1 := true) (o1 := false) (p2 := true) (o2 := true) (de_read (i := 6)) da_nil))))))
  (db_cons (ds_if (p := true) (dt_cmp (p1 := true) (o1 := false) (p2 := true) (o2 := true) (op_ltV hu) (de_read (i := 7)) de_int)
  (db_cons ds_never
  db_nil)
  db_nil)
  (db_cons (ds_aug (i := 4) (o := true) nd_accept_pages ip_addV (de_if (pt := true) (p1 := true) (o1 := true) (p2 := true) (o2 := true) (dt_cmp (p1 := true) (o1 := false) (p2 := true) (o2 := true) (op_eqV hu) (de_read (i := 6)) (de_callB (p := true) (o := false) cr_lenV m.z_len (da_cons (p1 := true) (o1 := false) (p2 := true) (o2 := true) (de_read (i := 0)) da_nil))) de_int (de_op (p1 := true) (o1 := false) (p2 := true) (o2 := false) op_mulV (de_read (i := 7)) (de_read (i := 7)))))
  db_nil))))
  (db_cons (ds_if (p := true) (dt_cmp (p1 := true) (o1 := false) (p2 := true) (o2 := false) (op_gtV hu) (de_read (i := 4)) (de_read (i := 2)))
  (db_cons ds_never
  db_nil)
  db_nil)
  db_nil))))))) (by decide)
/-! page_prices -/
theorem sc_page_prices : FnScope ["rows", "height", "found", "end", "ways", "first", "left"] ["rows", "height"] (defScope s13) := ⟨rfl, rfl, rfl, by decide +kernel, rfl, by decide +kernel, by decide +kernel⟩
theorem nd_page_prices : List.Nodup (["rows", "height", "found", "end", "ways", "first", "left"] : List Str) := sc_page_prices.nd
theorem bi_page_prices (m : MF P K mg) : Binds K m.fd_page_prices ["rows", "height"] [] := m.F_page_prices.bindsN fun _ _ _ _ _ _ us hl => match us, hl with | [_, _], _ => rfl
def l0_page_prices : Sv := (sSeq (sSet 6 (eBin subD (eRead 1) (eFn 3 (D_height_of) (aCons (eRead 0) (aCons (eRead 5) (aCons (eRead 3) aNil))))))
  (sSeq (sIf (tAndE (eT (eBin notnD (eIx (eRead 2) (eRead 5)) (eC .none))) (eT (eBin geD (eRead 6) (eC (.int 0)))))
  (sSeq (sExpr (eApp 4 (eBin addD (eIx (eRead 2) (eRead 5)) (eIf (eT (eBin eqD (eRead 3) (eCall lenD (aCons (eRead 0) aNil)))) (eC (.int 0)) (eBin mulD (eRead 6) (eRead 6))))))
  sNx)
  sNx)
  sNx))
def l1_page_prices : Sv := (sSeq (sSet 4 (eLst aNil))
  (sSeq (sFor [5, 6] (.nm 5) (iFn rng1D (aCons (eRead 3) aNil))
  l0_page_prices)
  (sSeq (sExpr (eApp 2 (eIf (eTru (eRead 4)) (eCall minD1 (aCons (eRead 4) aNil)) (eC .none))))
  sNx)))
def f_page_prices : Sv := (sSeq (sSet 2 (eLst (aCons (eC (.int 0)) aNil)))
  (sSeq (sFor [3, 4, 5, 6] (.nm 3) (iFn rng2D (aCons (eC (.int 1)) (aCons (eBin addD (eCall lenD (aCons (eRead 0) aNil)) (eC (.int 1))) aNil)))
  l1_page_prices)
  (sSeq (sRet (eMove 2))
  sNx)))
def D_page_prices : Den := denOf 5 none f_page_prices
theorem g_page_prices (m : MF P K mg) : FnG P w K mg base CX0 2 m.a_page_prices m.fd_page_prices ["rows", "height"] (spD K 2 none D_page_prices) := by
  refine fn_den (A' := [2, 3, 4, 5, 6]) m.F_page_prices sc_page_prices (by intro k hk; first | (cases hk; done) | (cases hk; decide)) (by intro k hk; first | (cases hk; done) | (cases hk; decide)) fun cdv A out s H E room gd => ?_
  have hp : PassesOwn (model P w) (cxOf CX0 P w K mg base ["rows", "height", "found", "end", "ways", "first", "left"] "page_prices" (defScope s13) m.a_page_prices cdv A out s H E).A _ _ := passes_of rfl
  have hu : (cxOf CX0 P w K mg base ["rows", "height", "found", "end", "ways", "first", "left"] "page_prices" (defScope s13) m.a_page_prices cdv A out s H E).A.units + 64 < cLine := by have := room.un; show (A.deeper _).units + 64 < cLine; omega
  exact db_sub (db_cons (ds_set (i := 2) (p := true) nd_page_prices (de_lst (p := true) (o := true) (da_cons (p1 := true) (o1 := true) (p2 := true) (o2 := true) de_int da_nil)))
  (db_cons (ds_for (p := true) (ks := [3, 4, 5, 6]) hp rfl (di_range2 (p := true) (o := true) m.z_range (da_cons (p1 := true) (o1 := true) (p2 := true) (o2 := true) de_int (da_cons (p1 := true) (o1 := true) (p2 := true) (o2 := true) (de_op (p1 := true) (o1 := true) (p2 := true) (o2 := true) op_addV (de_callB (p := true) (o := false) cr_lenV m.z_len (da_cons (p1 := true) (o1 := false) (p2 := true) (o2 := true) (de_read (i := 0)) da_nil)) de_int) da_nil))) (dg_name nd_page_prices (i := 3))
  (db_cons (ds_set (i := 4) (p := true) nd_page_prices (de_lst (p := true) (o := true) da_nil))
  (db_cons (ds_for (p := true) (ks := [5, 6]) hp rfl (di_range1 (p := true) (o := false) m.z_range (da_cons (p1 := true) (o1 := false) (p2 := true) (o2 := true) (de_read (i := 3)) da_nil)) (dg_name nd_page_prices (i := 5))
  (db_cons (ds_set (i := 6) (p := true) nd_page_prices (de_op (p1 := true) (o1 := false) (p2 := true) (o2 := true) op_subV (de_read (i := 1)) (de_fn (p := true) (o := false) ((g_height_of m).more (by decide)) room gd m.m_height_of m.F_height_of.kp (bi_height_of m) pass0 (da_cons (p1 := true) (o1 := false) (p2 := true) (o2 := false) (de_read (i := 0)) (da_cons (p1 := true) (o1 := false) (p2 := true) (o2 := false) (de_read (i := 5)) (da_cons (p1 := true) (o1 := false) (p2 := true) (o2 := true) (de_read (i := 3)) da_nil))))))
  (db_cons (ds_if (p := true) (dt_w (dw_and (p1 := true) (p2 := true) (dt_cmp (p1 := true) (o1 := false) (p2 := true) (o2 := true) op_notnV (de_ix (p1 := true) (o1 := false) (p2 := true) (o2 := false) (de_read (i := 2)) (de_read (i := 5))) de_non) (dw_and1 (p := true) (dt_cmp (p1 := true) (o1 := false) (p2 := true) (o2 := true) (op_geV hu) (de_read (i := 6)) de_int))))
  (db_cons (ds_expr (p := false) (o := true) (de_app (p := true) (i := 4) (de_op (p1 := true) (o1 := false) (p2 := true) (o2 := true) op_addV (de_ix (p1 := true) (o1 := false) (p2 := true) (o2 := false) (de_read (i := 2)) (de_read (i := 5))) (de_if (pt := true) (p1 := true) (o1 := true) (p2 := true) (o2 := true) (dt_cmp (p1 := true) (o1 := false) (p2 := true) (o2 := true) (op_eqV hu) (de_read (i := 3)) (de_callB (p := true) (o := false) cr_lenV m.z_len (da_cons (p1 := true) (o1 := false) (p2 := true) (o2 := true) (de_read (i := 0)) da_nil))) de_int (de_op (p1 := true) (o1 := false) (p2 := true) (o2 := false) op_mulV (de_read (i := 6)) (de_read (i := 6)))))))
  db_nil)
  db_nil)
  db_nil)))
  (db_cons (ds_expr (p := false) (o := true) (de_app (p := true) (i := 2) (de_if (pt := true) (p1 := true) (o1 := true) (p2 := true) (o2 := true) (dt_truth (p := true) (o := false) (de_read (i := 4))) (de_callB (p := true) (o := false) (cr_minV rfl hu) m.z_min (da_cons (p1 := true) (o1 := false) (p2 := true) (o2 := true) (de_read (i := 4)) da_nil)) de_non)))
  db_nil))))
  (db_cons (ds_ret (p := false) (de_move (i := 2)))
  db_nil))) (by decide)
/-! judge_pages -/
theorem sc_judge_pages : FnScope ["rows", "height", "high", "found", "ends", "end", "first", "left", "number", "row"] ["rows", "height"] (defScope s15) := ⟨rfl, rfl, rfl, by decide +kernel, rfl, by decide +kernel, by decide +kernel⟩
theorem nd_judge_pages : List.Nodup (["rows", "height", "high", "found", "ends", "end", "first", "left", "number", "row"] : List Str) := sc_judge_pages.nd
theorem bi_judge_pages (m : MF P K mg) : Binds K m.fd_judge_pages ["rows", "height"] [] := m.F_judge_pages.bindsN fun _ _ _ _ _ _ us hl => match us, hl with | [_, _], _ => rfl
def l0_judge_pages : Sv := (sSeq (sSet 7 (eBin subD (eRead 1) (eFn 3 (D_height_of) (aCons (eRead 0) (aCons (eRead 6) (aCons (eRead 5) aNil))))))
  (sSeq (sIf (tAndE (eT (eBin geD (eRead 7) (eC (.int 0)))) (eT (eBin eqD (eBin addD (eIx (eRead 3) (eRead 6)) (eIf (eT (eBin eqD (eRead 5) (eCall lenD (aCons (eRead 0) aNil)))) (eC (.int 0)) (eBin mulD (eRead 7) (eRead 7)))) (eIx (eRead 3) (eRead 5)))))
  (sSeq (sExpr (eApp 4 (eImm (eRead 6))))
  (sSeq sBk
  sNx))
  sNx)
  sNx))
def l1_judge_pages : Sv := (sSeq (sSet 5 (eImm (eIx (eRead 4) (eUn negD (eC (.int 1))))))
  (sSeq (sFor [6, 7] (.nm 6) (iFn rng1D (aCons (eRead 5) aNil))
  l0_judge_pages)
  sNx))
def f_judge_pages : Sv := (sSeq (sExpr (eFn 1 (D_check_rows) (aCons (eRead 0) aNil)))
  (sSeq (sExpr (eFn 1 (D_check_height) (aCons (eRead 1) aNil)))
  (sSeq (sSet 2 (eLc [8, 9] (.tp ((.nm 8) :: ((.nm 9) :: []))) (iFn enumTD (aCons (eReadP 0) aNil)) (eT (eBin gtD (eCall maxD1 (aCons (eRead 9) aNil)) (eRead 1))) (eImm (eRead 8))))
  (sSeq (sIf (eTru (eRead 2))
  (sSeq (sRet (eTup (aCons (eC (.str "high")) (aCons (eImm (eIx (eRead 2) (eC (.int 0)))) aNil))))
  sNx)
  sNx)
  (sSeq (sSet 3 (eFn 2 (D_page_prices) (aCons (eRead 0) (aCons (eRead 1) aNil))))
  (sSeq (sSet 4 (eLst (aCons (eCall lenD (aCons (eRead 0) aNil)) aNil)))
  (sSeq (sWhile [5, 6, 7] (eT (eBin gtD (eIx (eRead 4) (eUn negD (eC (.int 1)))) (eC (.int 0))))
  l1_judge_pages)
  (sSeq (sRet (eTup (aCons (eC (.str "pages")) (aCons (eImm (eIx (eRead 3) (eUn negD (eC (.int 1))))) (aCons (eCall tupleD (aCons (eUn revD (eSl (eRead 4) oNone (oSome (eUn negD (eC (.int 1)))))) aNil)) aNil)))))
  sNx))))))))
def D_judge_pages : Den := denOf 8 none f_judge_pages
theorem g_judge_pages (m : MF P K mg) : FnG P w K mg base CX0 3 m.a_judge_pages m.fd_judge_pages ["rows", "height"] (spD K 2 none D_judge_pages) := by
  refine fn_den (A' := [2, 3, 4, 5, 6, 7]) m.F_judge_pages sc_judge_pages (by intro k hk; first | (cases hk; done) | (cases hk; decide)) (by intro k hk; first | (cases hk; done) | (cases hk; decide)) fun cdv A out s H E room gd => ?_
  have hp : PassesOwn (model P w) (cxOf CX0 P w K mg base ["rows", "height", "high", "found", "ends", "end", "first", "left", "number", "row"] "judge_pages" (defScope s15) m.a_judge_pages cdv A out s H E).A _ _ := passes_of rfl
  have hu : (cxOf CX0 P w K mg base ["rows", "height", "high", "found", "ends", "end", "first", "left", "number", "row"] "judge_pages" (defScope s15) m.a_judge_pages cdv A out s H E).A.units + 64 < cLine := by have := room.un; show (A.deeper _).units + 64 < cLine; omega
  exact db_sub (db_cons (ds_expr (p := true) (o := true) (de_fn (p := true) (o := false) ((g_check_rows m).more (by decide)) room gd m.m_check_rows m.F_check_rows.kp (bi_check_rows m) pass0 (da_cons (p1 := true) (o1 := false) (p2 := true) (o2 := true) (de_read (i := 0)) da_nil)))
  (db_cons (ds_expr (p := true) (o := true) (de_fn (p := true) (o := false) ((g_check_height m).more (by decide)) room gd m.m_check_height m.F_check_height.kp (bi_check_height m) pass0 (da_cons (p1 := true) (o1 := false) (p2 := true) (o2 := true) (de_read (i := 1)) da_nil)))
  (db_cons (ds_setLc (i := 2) (own := [("number", 8), ("row", 9)]) (p1 := true) (p2 := true) (p3 := true) rfl nd_judge_pages (di_enumT (p := true) m.z_enumerate (dpa_cons (p1 := true) (p2 := true) (dp_ofQ (p := true) (dq_read (i := 0))) dpa_nil)) (blkOk_by (own := [("number", 8), ("row", 9)]) (by kernel_rfl)) (fun _ _ _ _ _ => (dg_tup rfl (dgs_cons (dg_name nd_judge_pages (i := 8)) (dgs_cons (dg_name nd_judge_pages (i := 9)) dgs_nil)))) (fun _ _ _ _ _ => (dts_one (dt_cmp (p1 := true) (o1 := true) (p2 := true) (o2 := false) (op_gtV hu) (de_callB (p := true) (o := false) (cr_maxV rfl hu) m.z_max (da_cons (p1 := true) (o1 := false) (p2 := true) (o2 := true) (de_read (i := 9)) da_nil)) (de_read (i := 1))))) (fun _ _ _ _ _ => (de_imm (p := true) (o := false) (de_read (i := 8)))))
  (db_cons (ds_if (p := true) (dt_truth (p := true) (o := false) (de_read (i := 2)))
  (db_cons (ds_ret (p := true) (de_tup (p := true) (o := true) (da_cons (p1 := true) (o1 := true) (p2 := true) (o2 := true) de_str (da_cons (p1 := true) (o1 := true) (p2 := true) (o2 := true) (de_imm (p := true) (o := false) (de_ix (p1 := true) (o1 := false) (p2 := true) (o2 := true) (de_read (i := 2)) de_int)) da_nil))))
  db_nil)
  db_nil)
  (db_cons (ds_set (i := 3) (p := true) nd_judge_pages (de_fn (p := true) (o := false) ((g_page_prices m).more (by decide)) room gd m.m_page_prices m.F_page_prices.kp (bi_page_prices m) pass0 (da_cons (p1 := true) (o1 := false) (p2 := true) (o2 := false) (de_read (i := 0)) (da_cons (p1 := true) (o1 := false) (p2 := true) (o2 := true) (de_read (i := 1)) da_nil))))
  (db_cons (ds_set (i := 4) (p := true) nd_judge_pages (de_lst (p := true) (o := true) (da_cons (p1 := true) (o1 := true) (p2 := true) (o2 := true) (de_callB (p := true) (o := false) cr_lenV m.z_len (da_cons (p1 := true) (o1 := false) (p2 := true) (o2 := true) (de_read (i := 0)) da_nil)) da_nil)))
  (db_cons (ds_while (p := true) (ks := [5, 6, 7]) hp (dt_cmp (p1 := true) (o1 := false) (p2 := true) (o2 := true) (op_gtV hu) (de_ix (p1 := true) (o1 := false) (p2 := true) (o2 := true) (de_read (i := 4)) (de_un (p := true) (o := true) un_negV de_int)) de_int)
  (db_cons (ds_set (i := 5) (p := true) nd_judge_pages (de_imm (p := true) (o := false) (de_ix (p1 := true) (o1 := false) (p2 := true) (o2 := true) (de_read (i := 4)) (de_un (p := true) (o := true) un_negV de_int))))
  (db_cons (ds_for (p := true) (ks := [6, 7]) hp rfl (di_range1 (p := true) (o := false) m.z_range (da_cons (p1 := true) (o1 := false) (p2 := true) (o2 := true) (de_read (i := 5)) da_nil)) (dg_name nd_judge_pages (i := 6))
  (db_cons (ds_set (i := 7) (p := true) nd_judge_pages (de_op (p1 := true) (o1 := false) (p2 := true) (o2 := true) op_subV (de_read (i := 1)) (de_fn (p := true) (o := false) ((g_height_of m).more (by decide)) room gd m.m_height_of m.F_height_of.kp (bi_height_of m) pass0 (da_cons (p1 := true) (o1 := false) (p2 := true) (o2 := false) (de_read (i := 0)) (da_cons (p1 := true) (o1 := false) (p2 := true) (o2 := false) (de_read (i := 6)) (da_cons (p1 := true) (o1 := false) (p2 := true) (o2 := true) (de_read (i := 5)) da_nil))))))
  (db_cons (ds_if (p := true) (dt_w (dw_and (p1 := true) (p2 := true) (dt_cmp (p1 := true) (o1 := false) (p2 := true) (o2 := true) (op_geV hu) (de_read (i := 7)) de_int) (dw_and1 (p := true) (dt_cmp (p1 := true) (o1 := true) (p2 := true) (o2 := false) (op_eqV hu) (de_op (p1 := true) (o1 := false) (p2 := true) (o2 := true) op_addV (de_ix (p1 := true) (o1 := false) (p2 := true) (o2 := false) (de_read (i := 3)) (de_read (i := 6))) (de_if (pt := true) (p1 := true) (o1 := true) (p2 := true) (o2 := true) (dt_cmp (p1 := true) (o1 := false) (p2 := true) (o2 := true) (op_eqV hu) (de_read (i := 5)) (de_callB (p := true) (o := false) cr_lenV m.z_len (da_cons (p1 := true) (o1 := false) (p2 := true) (o2 := true) (de_read (i := 0)) da_nil))) de_int (de_op (p1 := true) (o1 := false) (p2 := true) (o2 := false) op_mulV (de_read (i := 7)) (de_read (i := 7))))) (de_ix (p1 := true) (o1 := false) (p2 := true) (o2 := false) (de_read (i := 3)) (de_read (i := 5)))))))
  (db_cons (ds_expr (p := false) (o := true) (de_app (p := true) (i := 4) (de_imm (p := true) (o := false) (de_read (i := 6)))))
  (db_cons ds_break
  db_nil))
  db_nil)
  db_nil)))
  db_nil)))
  (db_cons (ds_ret (p := true) (de_tup (p := true) (o := true) (da_cons (p1 := true) (o1 := true) (p2 := true) (o2 := true) de_str (da_cons (p1 := true) (o1 := true) (p2 := true) (o2 := true) (de_imm (p := true) (o := false) (de_ix (p1 := true) (o1 := false) (p2 := true) (o2 := true) (de_read (i := 3)) (de_un (p := true) (o := true) un_negV de_int))) (da_cons (p1 := true) (o1 := true) (p2 := true) (o2 := true) (de_callT (p := true) (o := true) cr_tupleV m.z_tuple (da_cons (p1 := true) (o1 := true) (p2 := true) (o2 := true) (de_rev (p := true) (o := true) (de_slice (p := true) (o := false) (de_read (i := 4)) do_none (do_some (o := true) (de_un (p := true) (o := true) un_negV de_int)))) da_nil)) da_nil)))))
  db_nil)))))))) (by decide)
/-! law -/
theorem sc_law : FnScope ["script", "state", "turn", "top", "rows", "height", "due", "k", "row"] ["script"] (defScope s31) := ⟨rfl, rfl, rfl, by decide +kernel, rfl, by decide +kernel, by decide +kernel⟩
theorem nd_law : List.Nodup (["script", "state", "turn", "top", "rows", "height", "due", "k", "row"] : List Str) := sc_law.nd
theorem bi_law (m : MF P K mg) : Binds K m.fd_law ["script"] [] := m.F_law.bindsN fun _ _ _ _ _ _ us hl => match us, hl with | [_], _ => rfl
def l0_law : Sv := (sSeq (sSet 3 (eFnIO 2 1 (D__law_pick) (zHere 1 (aCons (eLst (aCons (eC (.int 3)) (aCons (eC (.int 20)) (aCons (eC (.int 300)) aNil)))) aNil))))
  (sSeq (sSet 4 (eCall tupleD (aCons (eLc [7] (.nm 7) (iFn rng1D (aCons (eBin addD (eC (.int 1)) (eFnIO 2 1 (D__law_draw) (zHere 1 (aCons (eFnIO 2 1 (D__law_pick) (zHere 1 (aCons (eLst (aCons (eC (.int 8)) (aCons (eC (.int 60)) aNil))) aNil))) aNil)))) aNil)) tYesE (eTup (aCons (eFnIO 2 1 (D__law_draw) (zHere 1 (aCons (eBin addD (eRead 3) (eC (.int 1))) aNil))) (aCons (eFnIO 2 1 (D__law_draw) (zHere 1 (aCons (eBin addD (eRead 3) (eC (.int 1))) aNil))) aNil)))) aNil)))
  (sSeq (sSet 5 (eCall maxD1 (aCons (eLst (aCons (eC (.int 1)) (aCons (eFnIO 2 1 (D__law_pick) (zHere 1 (aCons (eLst (aCons (eImm (eRead 3)) (aCons (eBin mulD (eC (.int 2)) (eRead 3)) (aCons (eBin mulD (eC (.int 5)) (eRead 3)) (aCons (eBin subD (eRead 3) (eC (.int 1))) aNil))))) aNil))) aNil))) aNil)))
  (sSeq (sSet 6 (eFn 2 (D__law_pages) (aCons (eRead 4) (aCons (eRead 5) aNil))))
  (sSeq (sIf (tNotE (eTru (eFn 2 (D__law_same) (aCons (eLst (aCons (eFn 2 (D_judge_pages) (aCons (eRead 4) (aCons (eRead 5) aNil))) (aCons (eFn 2 (D_judge_pages) (aCons (eCall tupleD (aCons (eLc [8] (.nm 8) (iTpl (eReadP 4)) tYesE (eUn revD (eRead 8))) aNil)) (aCons (eRead 5) aNil))) aNil))) (aCons (eLst (aCons (eImm (eRead 6)) (aCons (eImm (eRead 6)) aNil))) aNil)))))
  (sSeq (sRet (eC (.bool false)))
  sNx)
  sNx)
  (sSeq (sIf (tAndE (eT (eBin eqD (eIx (eRead 6) (eC (.int 0))) (eC (.str "pages")))) (eT (eBin notnD (eFn 4 (D_accept_pages) (aCons (eRead 4) (aCons (eRead 5) (aCons (eIx (eRead 6) (eC (.int 1))) (aCons (eIx (eRead 6) (eC (.int 2))) aNil))))) (eC .none))))
  (sSeq (sRet (eC (.bool false)))
  sNx)
  sNx)
  sNx))))))
def f_law : Sv := (sSeq (sIf (tNotE (eTru (eFnIO 1 1 (D__law_texts_hold) (zHere 1 aNil))))
  (sSeq (sRet (eC (.bool false)))
  sNx)
  sNx)
  (sSeq (sFor [2, 3, 4, 5, 6] (.nm 2) (iFn rng1D (aCons (eC (.int 2)) aNil))
  l0_law)
  (sSeq (sRet (eC (.bool true)))
  sNx)))
theorem g_law (m : MF P K mg) (hf : ∀ ns : List Int, ns.length ≤ 63 → ∃ env', f_law (.dead :: .own (stateD ns (seedOf ns)) :: List.replicate 7 .dead) = .ok (.rt (.bool true) env')) : FnG P w K mg base CX0 7 m.a_law m.fd_law ["script"] (spLaw K) := by
  refine FunD.okG m.F_law sc_law (fun vs H Q E ⟨a, ns, e, _⟩ => by rw [e]; rfl) fun cdv A out s H vs Q E room gd pr => ⟨tLaw K E [2, 3, 4, 5, 6] f_law, ?_, law_run pr (by decide) hf⟩
  have hp : PassesOwn (model P w) (cxOf CX0 P w K mg base ["script", "state", "turn", "top", "rows", "height", "due", "k", "row"] "law" (defScope s31) m.a_law cdv A out s H E).A _ _ := passes_of rfl
  have hu : (cxOf CX0 P w K mg base ["script", "state", "turn", "top", "rows", "height", "due", "k", "row"] "law" (defScope s31) m.a_law cdv A out s H E).A.units + 64 < cLine := by have := room.un; show (A.deeper _).units + 64 < cLine; omega
  exact pss_cons (ps_set (i := 1) nd_law rfl (by first | exact .inl rfl | exact .inr rfl) (pe_fnG ((g__law_start m).more (by decide)) room gd rfl m.m__law_start m.F__law_start.kp (bi__law_start m) pass0 (pa_cons (pe_var (i := 0) rfl (by first | exact .inl rfl | exact .inr (.inl rfl)) (by decide) (by decide)) pa_nil)))
    (db_sub (A := [2, 3, 4, 5, 6]) (db_cons (ds_if (p := false) (dt_not (p := false) (dt_truth (p := false) (o := true) (de_fnIO (p := true) ((g__law_texts_hold m).more (by decide)) room gd m.m__law_texts_hold m.F__law_texts_hold.kp (bi__law_texts_hold m) pass0 (dio_here (p := true) (i := 1) dza_nil))))
  (db_cons (ds_ret (p := true) de_bl)
  db_nil)
  db_nil)
  (db_cons (ds_for (p := true) (ks := [2, 3, 4, 5, 6]) hp rfl (di_range1 (p := true) (o := true) m.z_range (da_cons (p1 := true) (o1 := true) (p2 := true) (o2 := true) de_int da_nil)) (dg_name nd_law (i := 2))
  (db_cons (ds_set (i := 3) (p := false) nd_law (de_fnIO (p := true) ((g__law_pick m).more (by decide)) room gd m.m__law_pick m.F__law_pick.kp (bi__law_pick m) pass0 (dio_here (p := true) (i := 1) (dza_cons (p1 := true) (p2 := true) (dz_own (p := true) (de_lst (p := true) (o := true) (da_cons (p1 := true) (o1 := true) (p2 := true) (o2 := true) de_int (da_cons (p1 := true) (o1 := true) (p2 := true) (o2 := true) de_int (da_cons (p1 := true) (o1 := true) (p2 := true) (o2 := true) de_int da_nil))))) dza_nil))))
  (db_cons (ds_set (i := 4) (p := false) nd_law (de_callT (p := false) (o := true) cr_tupleV m.z_tuple (da_cons (p1 := false) (o1 := true) (p2 := true) (o2 := true) (de_lc (own := [("k", 7)]) (p1 := false) (p2 := true) (p3 := false) rfl nd_law (di_range1 (p := false) (o := true) m.z_range (da_cons (p1 := false) (o1 := true) (p2 := true) (o2 := true) (de_op (p1 := true) (o1 := true) (p2 := false) (o2 := true) op_addV de_int (de_fnIO (p := false) ((g__law_draw m).more (by decide)) room gd m.m__law_draw m.F__law_draw.kp (bi__law_draw m) pass0 (dio_here (p := false) (i := 1) (dza_cons (p1 := false) (p2 := true) (dz_own (p := false) (de_fnIO (p := true) ((g__law_pick m).more (by decide)) room gd m.m__law_pick m.F__law_pick.kp (bi__law_pick m) pass0 (dio_here (p := true) (i := 1) (dza_cons (p1 := true) (p2 := true) (dz_own (p := true) (de_lst (p := true) (o := true) (da_cons (p1 := true) (o1 := true) (p2 := true) (o2 := true) de_int (da_cons (p1 := true) (o1 := true) (p2 := true) (o2 := true) de_int da_nil)))) dza_nil)))) dza_nil)))) da_nil)) (blkOk_by (own := [("k", 7)]) (by kernel_rfl)) (fun _ _ _ _ _ => (dg_name nd_law (i := 7))) (fun _ _ _ _ _ => dts_nil) (fun _ _ _ _ _ => (de_tup (p := false) (o := true) (da_cons (p1 := false) (o1 := true) (p2 := false) (o2 := true) (de_fnIO (p := true) ((g__law_draw m).more (by decide)) room gd m.m__law_draw m.F__law_draw.kp (bi__law_draw m) pass0 (dio_here (p := true) (i := 1) (dza_cons (p1 := true) (p2 := true) (dz_own (p := true) (de_op (p1 := true) (o1 := false) (p2 := true) (o2 := true) op_addV (de_read (i := 3)) de_int)) dza_nil))) (da_cons (p1 := false) (o1 := true) (p2 := true) (o2 := true) (de_fnIO (p := true) ((g__law_draw m).more (by decide)) room gd m.m__law_draw m.F__law_draw.kp (bi__law_draw m) pass0 (dio_here (p := true) (i := 1) (dza_cons (p1 := true) (p2 := true) (dz_own (p := true) (de_op (p1 := true) (o1 := false) (p2 := true) (o2 := true) op_addV (de_read (i := 3)) de_int)) dza_nil))) da_nil))))) da_nil)))
  (db_cons (ds_set (i := 5) (p := false) nd_law (de_callB (p := false) (o := true) (cr_maxV rfl hu) m.z_max (da_cons (p1 := false) (o1 := true) (p2 := true) (o2 := true) (de_lst (p := false) (o := true) (da_cons (p1 := true) (o1 := true) (p2 := false) (o2 := true) de_int (da_cons (p1 := false) (o1 := true) (p2 := true) (o2 := true) (de_fnIO (p := true) ((g__law_pick m).more (by decide)) room gd m.m__law_pick m.F__law_pick.kp (bi__law_pick m) pass0 (dio_here (p := true) (i := 1) (dza_cons (p1 := true) (p2 := true) (dz_own (p := true) (de_lst (p := true) (o := true) (da_cons (p1 := true) (o1 := true) (p2 := true) (o2 := true) (de_imm (p := true) (o := false) (de_read (i := 3))) (da_cons (p1 := true) (o1 := true) (p2 := true) (o2 := true) (de_op (p1 := true) (o1 := true) (p2 := true) (o2 := false) op_mulV de_int (de_read (i := 3))) (da_cons (p1 := true) (o1 := true) (p2 := true) (o2 := true) (de_op (p1 := true) (o1 := true) (p2 := true) (o2 := false) op_mulV de_int (de_read (i := 3))) (da_cons (p1 := true) (o1 := true) (p2 := true) (o2 := true) (de_op (p1 := true) (o1 := false) (p2 := true) (o2 := true) op_subV (de_read (i := 3)) de_int) da_nil)))))) dza_nil))) da_nil))) da_nil)))
  (db_cons (ds_set (i := 6) (p := true) nd_law (de_fn (p := true) (o := false) ((g__law_pages m).more (by decide)) room gd m.m__law_pages m.F__law_pages.kp (bi__law_pages m) pass0 (da_cons (p1 := true) (o1 := false) (p2 := true) (o2 := false) (de_read (i := 4)) (da_cons (p1 := true) (o1 := false) (p2 := true) (o2 := true) (de_read (i := 5)) da_nil))))
  (db_cons (ds_if (p := true) (dt_not (p := true) (dt_truth (p := true) (o := true) (de_fn (p := true) (o := true) ((g__law_same m).more (by decide)) room gd m.m__law_same m.F__law_same.kp (bi__law_same m) pass0 (da_cons (p1 := true) (o1 := true) (p2 := true) (o2 := true) (de_lst (p := true) (o := true) (da_cons (p1 := true) (o1 := true) (p2 := true) (o2 := true) (de_fn (p := true) (o := false) ((g_judge_pages m).more (by decide)) room gd m.m_judge_pages m.F_judge_pages.kp (bi_judge_pages m) pass0 (da_cons (p1 := true) (o1 := false) (p2 := true) (o2 := false) (de_read (i := 4)) (da_cons (p1 := true) (o1 := false) (p2 := true) (o2 := true) (de_read (i := 5)) da_nil))) (da_cons (p1 := true) (o1 := true) (p2 := true) (o2 := true) (de_fn (p := true) (o := false) ((g_judge_pages m).more (by decide)) room gd m.m_judge_pages m.F_judge_pages.kp (bi_judge_pages m) pass0 (da_cons (p1 := true) (o1 := true) (p2 := true) (o2 := false) (de_callT (p := true) (o := true) cr_tupleV m.z_tuple (da_cons (p1 := true) (o1 := true) (p2 := true) (o2 := true) (de_lc (own := [("row", 8)]) (p1 := true) (p2 := true) (p3 := true) rfl nd_law (di_tup (p := true) (dp_ofQ (p := true) (dq_read (i := 4)))) (blkOk_by (own := [("row", 8)]) (by kernel_rfl)) (fun _ _ _ _ _ => (dg_name nd_law (i := 8))) (fun _ _ _ _ _ => dts_nil) (fun _ _ _ _ _ => (de_rev (p := true) (o := false) (de_read (i := 8))))) da_nil)) (da_cons (p1 := true) (o1 := false) (p2 := true) (o2 := true) (de_read (i := 5)) da_nil))) da_nil))) (da_cons (p1 := true) (o1 := true) (p2 := true) (o2 := true) (de_lst (p := true) (o := true) (da_cons (p1 := true) (o1 := true) (p2 := true) (o2 := true) (de_imm (p := true) (o := false) (de_read (i := 6))) (da_cons (p1 := true) (o1 := true) (p2 := true) (o2 := true) (de_imm (p := true) (o := false) (de_read (i := 6))) da_nil))) da_nil)))))
  (db_cons (ds_ret (p := true) de_bl)
  db_nil)
  db_nil)
  (db_cons (ds_if (p := true) (dt_w (dw_and (p1 := true) (p2 := true) (dt_cmp (p1 := true) (o1 := false) (p2 := true) (o2 := true) (op_eqV hu) (de_ix (p1 := true) (o1 := false) (p2 := true) (o2 := true) (de_read (i := 6)) de_int) de_str) (dw_and1 (p := true) (dt_cmp (p1 := true) (o1 := true) (p2 := true) (o2 := true) op_notnV (de_fn (p := true) (o := false) ((g_accept_pages m).more (by decide)) room gd m.m_accept_pages m.F_accept_pages.kp (bi_accept_pages m) pass0 (da_cons (p1 := true) (o1 := false) (p2 := true) (o2 := false) (de_read (i := 4)) (da_cons (p1 := true) (o1 := false) (p2 := true) (o2 := false) (de_read (i := 5)) (da_cons (p1 := true) (o1 := false) (p2 := true) (o2 := false) (de_ix (p1 := true) (o1 := false) (p2 := true) (o2 := true) (de_read (i := 6)) de_int) (da_cons (p1 := true) (o1 := false) (p2 := true) (o2 := true) (de_ix (p1 := true) (o1 := false) (p2 := true) (o2 := true) (de_read (i := 6)) de_int) da_nil))))) de_non))))
  (db_cons (ds_ret (p := true) de_bl)
  db_nil)
  db_nil)
  db_nil)))))))
  (db_cons (ds_ret (p := true) de_bl)
  db_nil))) (by decide))
end
end FnT
end
section
set_option Elab.async false
set_option linter.all false
set_option maxRecDepth 100000
namespace FnT
open PySem PySem.Spec DV
/-! ### what is common to all laws: numbers drawn -/
theorem is_integer_int {i : Int} : D_is_integer [.int i] = .ok (.bool true, .none) := by
  simp [D_is_integer, denOf_is, argEnv, f_is_integer]
/-- the state of the numbers to be drawn -/
def St (d : D) : Prop := ∃ (ns : List Int) (a c : Int) (b : Nat), d = .list [.list (ns.map .int), .int a, .int b, .int c] ∧ 0 ≤ a ∧ 0 ≤ c
theorem ix0 {x : D} {l : List D} : ixD (.list (x :: l)) (.int 0) = some x := atI_zero
theorem ix1 {x y : D} {l : List D} : ixD (.list (x :: y :: l)) (.int 1) = some y := ixD_list (k := 1)
theorem ix2 {x y z : D} {l : List D} : ixD (.list (x :: y :: z :: l)) (.int 2) = some z := ixD_list (k := 2)
theorem ix3 {x y z u : D} {l : List D} : ixD (.list (x :: y :: z :: u :: l)) (.int 3) = some u := ixD_list (k := 3)
theorem st1 {x y e : D} {l : List D} : setD (x :: y :: l) (.int 1) e = some (x :: e :: l) := setD_nat (k := 1) (by simp)
theorem st2 {x y z e : D} {l : List D} : setD (x :: y :: z :: l) (.int 2) e = some (x :: y :: e :: l) := setD_nat (k := 2) (by simp)
theorem st3 {x y z u e : D} {l : List D} : setD (x :: y :: z :: u :: l) (.int 3) e = some (x :: y :: z :: e :: l) := setD_nat (k := 3) (by simp)
theorem draw_ok {st : D} (h : St st) {m : Int} (h1 : 1 ≤ m) (h2 : m < 1073741824) : ∃ v st', D__law_draw [st, .int m] = .ok (.int v, st') ∧ St st' ∧ 0 ≤ v ∧ v < m := by
  obtain ⟨ns, a, c, b, rfl, ha, hc⟩ := h
  have m0 : 0 < m := by omega
  by_cases a0 : a = 0
  · subst a0
    by_cases hb : b < ns.length
    · have eb : ixD (.list (ns.map .int)) (.int (b : Int)) = some (.int ns[b]) := by rw [ixD_list]; simp [hb]
      refine ⟨(if ns[b] < 0 then -ns[b] else ns[b]) % m, .list [.list (ns.map .int), .int ((if ns[b] < 0 then -ns[b] else ns[b]) / m), .int ((b + 1 : Nat) : Int), .int c], ?_, ⟨ns, _, c, b + 1, rfl, Int.ediv_nonneg (by split <;> omega) (by omega), hc⟩, Int.emod_nonneg _ (by omega), Int.emod_lt_of_pos _ m0⟩
      have hb' : ¬ (ns.length : Int) ≤ b := by omega
      simp [D__law_draw, denOf_is, argEnv, f__law_draw, ix0, ix1, ix2, ix3, st1, st2, st3, hb', eb, modD_int m0, fdivD_int m0 h2]
    · refine ⟨(c * 48271 + 69621) % 2147483629 / 13 % m, .list [.list (ns.map .int), .int 0, .int b, .int ((c * 48271 + 69621) % 2147483629)], ?_, ⟨ns, 0, _, b, rfl, by omega, Int.emod_nonneg _ (by omega)⟩, Int.emod_nonneg _ (by omega), Int.emod_lt_of_pos _ m0⟩
      have hb' : (ns.length : Int) ≤ b := by omega
      simp [D__law_draw, denOf_is, argEnv, f__law_draw, ix0, ix1, ix2, ix3, st1, st2, st3, hb', modD_int m0, fdivD_int, mulD_r, modD_int]
  · refine ⟨a % m, .list [.list (ns.map .int), .int (a / m), .int b, .int c], ?_, ⟨ns, _, c, b, rfl, Int.ediv_nonneg ha (by omega), hc⟩, Int.emod_nonneg _ (by omega), Int.emod_lt_of_pos _ m0⟩
    simp [D__law_draw, denOf_is, argEnv, f__law_draw, ix0, ix1, ix2, ix3, st1, st2, st3, a0, modD_int m0, fdivD_int m0 h2]
theorem pick_ok {st : D} (h : St st) {xs : List D} (h1 : xs ≠ []) (h2 : xs.length < 1000000) (hi : immL xs = true) : ∃ x st', D__law_pick [st, .list xs] = .ok (x, st') ∧ St st' ∧ x ∈ xs := by
  have hl : 0 < xs.length := List.length_pos_iff.mpr h1
  obtain ⟨v, st', e, hs, v0, v1⟩ := draw_ok h (m := xs.length) (by omega) (by omega)
  have hv : v.toNat < xs.length := by omega
  have ev : v = ((v.toNat : Nat) : Int) := by omega
  have ix : ixD (.list xs) (.int v) = some xs[v.toNat] := by
    have z : ixD (.list xs) (.int ((v.toNat : Nat) : Int)) = some xs[v.toNat] := by rw [ixD_list]; exact List.getElem?_eq_getElem hv
    rwa [← ev] at z
  have hm : imm xs[v.toNat] = true := immL_all.mp hi _ (List.getElem_mem hv)
  exact ⟨xs[v.toNat], st', by simp [D__law_pick, denOf_is, argEnv, f__law_pick, e, ix, hm], hs, List.getElem_mem hv⟩
theorem pick_int {st : D} (h : St st) {ns : List Int} (h1 : ns ≠ []) (h2 : ns.length < 1000000) : ∃ x st', D__law_pick [st, .list (ns.map .int)] = .ok (.int x, st') ∧ St st' ∧ x ∈ ns := by
  obtain ⟨x, st', e, hs, hx⟩ := pick_ok h (xs := ns.map .int) (by simpa using h1) (by simpa using h2) immL_ints
  obtain ⟨i, hi, rfl⟩ := List.mem_map.mp hx
  exact ⟨i, st', e, hs, hi⟩
theorem same_ok {d : D} (h : smallD d = true) (hd : d.depth ≤ 60) (hw : wtD d ≤ 16000000) : D__law_same [d, d] = .ok (.bool true, .none) := by
  simp [D__law_same, denOf_is, argEnv, f__law_same, eqD_same h hd, reprD_ok h hd hw, eqD_str]
end FnT
end
section
set_option Elab.async false
set_option linter.all false
set_option maxRecDepth 100000
namespace M69
/-! least of a list -/
def minL : List Int → Int
  | [] => 0
  | x :: xs => xs.foldl min x
theorem foldl_min_le : ∀ (l : List Int) (a : Int), l.foldl min a ≤ a ∧ ∀ x ∈ l, l.foldl min a ≤ x
  | [], a => ⟨Int.le_refl _, fun x h => nomatch h⟩
  | y :: l, a => by
    obtain ⟨h1, h2⟩ := foldl_min_le l (min a y)
    simp only [List.foldl_cons]
    refine ⟨by omega, fun x hx => ?_⟩
    rcases List.mem_cons.mp hx with rfl | hx
    · omega
    · exact h2 x hx
theorem foldl_min_mem : ∀ (l : List Int) (a : Int), l.foldl min a = a ∨ l.foldl min a ∈ l
  | [], a => .inl rfl
  | y :: l, a => by
    simp only [List.foldl_cons]
    rcases foldl_min_mem l (min a y) with h | h
    · by_cases c : a ≤ y
      · left; omega
      · right; rw [h, show min a y = y by omega]; exact List.mem_cons_self
    · right; exact List.mem_cons_of_mem _ h
theorem minL_le {l : List Int} {x : Int} (h : x ∈ l) : minL l ≤ x := by
  cases l with
  | nil => cases h
  | cons y l =>
    rcases List.mem_cons.mp h with rfl | h
    · exact (foldl_min_le l _).1
    · exact (foldl_min_le l y).2 x h
theorem minL_mem {l : List Int} (h : l ≠ []) : minL l ∈ l := by
  cases l with
  | nil => exact absurd rfl h
  | cons y l =>
    rcases foldl_min_mem l y with e | e
    · exact List.mem_cons.mpr (.inl e)
    · exact List.mem_cons_of_mem _ e
/-! steps -/
def up : Nat → Nat
  | 0 => 1
  | 1 => 1
  | 2 => 0
  | 3 => 2
  | 4 => 1
  | _ => 0
def ov : Nat → Nat
  | 0 => 1
  | 1 => 0
  | 2 => 1
  | 3 => 1
  | 4 => 2
  | _ => 0
theorem up_ov {s : Nat} (h : s < 5) : 1 ≤ up s + ov s := by
  match s, h with
  | 0, _ => decide
  | 1, _ => decide
  | 2, _ => decide
  | 3, _ => decide
  | 4, _ => decide
theorem up_le (s : Nat) : up s ≤ 2 := by
  unfold up; split <;> omega
theorem ov_le (s : Nat) : ov s ≤ 2 := by
  unfold ov; split <;> omega
def ab (x : Int) : Int := if x < 0 then -x else x
def seg (L : List Int) (i u : Nat) : Int := ((L.drop (i - u)).take (i - (i - u))).sum
def added (L R P : List Int) (i j s : Nat) : Int := P.getD s 0 + ab (seg L i (up s) - seg R j (ov s))
abbrev ok (i j s : Nat) : Bool := decide (up s ≤ i) && decide (ov s ≤ j)
def ways (f : Nat → Nat → Int) (L R P : List Int) (i j : Nat) : List Int := (if i = 0 ∧ j = 0 then [0] else []) ++ ((List.range 5).filter (ok i j)).map fun s => f (i - up s) (j - ov s) + added L R P i j s
/-- the table, by n steps at most -/
def Tn (L R P : List Int) : Nat → Nat → Nat → Int
  | 0, _, _ => 0
  | n + 1, i, j => minL (ways (Tn L R P n) L R P i j)
def T (L R P : List Int) (i j : Nat) : Int := Tn L R P (i + j + 1) i j
section
variable {L R P : List Int}
theorem Tn_more : ∀ (n m i j : Nat), i + j < n → i + j < m → Tn L R P n i j = Tn L R P m i j
  | 0, _, _, _, h, _ => absurd h (by omega)
  | _ + 1, 0, _, _, _, h => absurd h (by omega)
  | n + 1, m + 1, i, j, h1, h2 => by
    unfold Tn ways
    congr 2
    refine List.map_congr_left fun s hs => ?_
    rw [List.mem_filter] at hs
    obtain ⟨h5, ho⟩ := hs
    have h5' : s < 5 := by simpa using h5
    have hu := up_ov h5'
    simp only [ok, Bool.and_eq_true, decide_eq_true_eq] at ho
    rw [Tn_more n m (i - up s) (j - ov s) (by omega) (by omega)]
theorem T_eq (i j : Nat) : T L R P i j = minL (ways (T L R P) L R P i j) := by
  show Tn L R P (i + j + 1) i j = _
  unfold Tn ways
  congr 2
  refine List.map_congr_left fun s hs => ?_
  rw [List.mem_filter] at hs
  obtain ⟨h5, ho⟩ := hs
  have h5' : s < 5 := by simpa using h5
  have hu := up_ov h5'
  simp only [ok, Bool.and_eq_true, decide_eq_true_eq] at ho
  unfold T
  rw [Tn_more (i + j) (i - up s + (j - ov s) + 1) (i - up s) (j - ov s) (by omega) (by omega)]
theorem ways_ne (f : Nat → Nat → Int) (i j : Nat) : ways f L R P i j ≠ [] := by
  unfold ways
  by_cases h0 : i = 0 ∧ j = 0
  · rw [if_pos h0]; simp
  · rw [if_neg h0, List.nil_append]
    intro h
    have h2 := List.map_eq_nil_iff.mp h
    have : ∀ s ∈ List.range 5, ¬ (ok i j s = true) := fun s hs hk => by
      have : s ∈ (List.range 5).filter (ok i j) := List.mem_filter.mpr ⟨hs, hk⟩
      rw [h2] at this
      cases this
    have a1 := this 1 (by simp)
    have a2 := this 2 (by simp)
    simp [ok, up, ov] at a1 a2
    omega
theorem T00 : T L R P 0 0 = 0 := by
  rw [T_eq]
  have : ways (T L R P) L R P 0 0 = [0] := by
    unfold ways
    rfl
  rw [this]
  rfl
theorem T_le {i j s : Nat} (h : s < 5) (h1 : up s ≤ i) (h2 : ov s ≤ j) : T L R P i j ≤ T L R P (i - up s) (j - ov s) + added L R P i j s := by
  rw [T_eq]
  refine minL_le ?_
  unfold ways
  refine List.mem_append_right _ (List.mem_map.mpr ⟨s, List.mem_filter.mpr ⟨by simpa using h, by simp [ok, h1, h2]⟩, rfl⟩)
theorem T_ex {i j : Nat} (h : 0 < i + j) : ∃ s, s < 5 ∧ up s ≤ i ∧ ov s ≤ j ∧ T L R P i j = T L R P (i - up s) (j - ov s) + added L R P i j s := by
  have m := minL_mem (ways_ne (L := L) (R := R) (P := P) (T L R P) i j)
  rw [← T_eq] at m
  unfold ways at m
  rw [if_neg (by omega), List.nil_append] at m
  obtain ⟨s, hs, e⟩ := List.mem_map.mp m
  obtain ⟨h5, ho⟩ := List.mem_filter.mp hs
  simp only [ok, Bool.and_eq_true, decide_eq_true_eq] at ho
  exact ⟨s, by simpa using h5, ho.1, ho.2, e.symm⟩
/-- what satisfies the same is the same -/
theorem T_uniq {f : Nat → Nat → Int} (h0 : f 0 0 = 0) (hle : ∀ i j s, s < 5 → up s ≤ i → ov s ≤ j → f i j ≤ f (i - up s) (j - ov s) + added L R P i j s) (hex : ∀ i j, 0 < i + j → ∃ s, s < 5 ∧ up s ≤ i ∧ ov s ≤ j ∧ f i j = f (i - up s) (j - ov s) + added L R P i j s) :
    ∀ n i j, i + j < n → f i j = T L R P i j
  | 0, _, _, h => absurd h (by omega)
  | n + 1, i, j, h => by
    by_cases z : i + j = 0
    · obtain rfl : i = 0 := by omega
      obtain rfl : j = 0 := by omega
      rw [h0, T00]
    · obtain ⟨s, hs, a, b, e⟩ := hex i j (by omega)
      obtain ⟨t, ht, c, d, e'⟩ := T_ex (L := L) (R := R) (P := P) (i := i) (j := j) (by omega)
      have us := up_ov hs
      have ut := up_ov ht
      have l1 := hle i j t ht c d
      have l2 := T_le (L := L) (R := R) (P := P) hs a b
      have e1 := T_uniq h0 hle hex n (i - up s) (j - ov s) (by omega)
      have e2 := T_uniq h0 hle hex n (i - up t) (j - ov t) (by omega)
      omega
/-! the row of steps, from the end -/
def hit (L R P : List Int) (i j s : Nat) : Bool := ok i j s && decide (T L R P (i - up s) (j - ov s) + added L R P i j s = T L R P i j)
def pick (L R P : List Int) (i j : Nat) : Nat := ((List.range 5).find? (hit L R P i j)).getD 0
def back (L R P : List Int) : Nat → Nat → Nat → List Nat
  | 0, _, _ => []
  | n + 1, i, j => if i = 0 ∧ j = 0 then [] else pick L R P i j :: back L R P n (i - up (pick L R P i j)) (j - ov (pick L R P i j))
theorem pick_ok {i j : Nat} (h : 0 < i + j) : pick L R P i j < 5 ∧ hit L R P i j (pick L R P i j) = true ∧ ∀ s, s < pick L R P i j → hit L R P i j s = false := by
  obtain ⟨s, hs, a, b, e⟩ := T_ex (L := L) (R := R) (P := P) h
  have hh : hit L R P i j s = true := by simp [hit, ok, a, b, e]
  unfold pick
  cases q : (List.range 5).find? (hit L R P i j) with
  | none => exact absurd hh (List.find?_eq_none.mp q s (by simpa using hs))
  | some t =>
    have h1 := List.mem_of_find?_eq_some q
    have h2 := List.find?_some q
    refine ⟨by simpa using h1, h2, fun s hs => ?_⟩
    obtain ⟨_, as, bs, e1, e2⟩ := List.find?_eq_some_iff_append.mp q
    have hl : as.length = t := by
      have e3 : (List.range 5)[as.length]? = some t := by rw [e1]; simp
      rw [List.getElem?_range] at e3
      · simpa using e3
      · have : (List.range 5).length = as.length + (bs.length + 1) := by rw [e1]; simp
        rw [List.length_range] at this; omega
    have e4 : s ∈ as := by
      have : (List.range 5)[s]? = some s := by
        rw [List.getElem?_range]
        have : t < 5 := by simpa using h1
        simp only [Option.getD_some] at hs
        omega
      rw [e1, List.getElem?_append_left (by simp only [Option.getD_some] at hs; omega)] at this
      exact List.mem_of_getElem? this
    simpa using e2 s e4
theorem pick_spec {i j : Nat} (h : 0 < i + j) : pick L R P i j < 5 ∧ up (pick L R P i j) ≤ i ∧ ov (pick L R P i j) ≤ j ∧ T L R P (i - up (pick L R P i j)) (j - ov (pick L R P i j)) + added L R P i j (pick L R P i j) = T L R P i j := by
  obtain ⟨h1, h2, _⟩ := pick_ok (L := L) (R := R) (P := P) h
  simp only [hit, ok, Bool.and_eq_true, decide_eq_true_eq] at h2
  exact ⟨h1, h2.1.1, h2.1.2, h2.2⟩
theorem back_len : ∀ (n i j : Nat), (back L R P n i j).length ≤ n
  | 0, _, _ => by simp [back]
  | n + 1, i, j => by
    unfold back
    split
    · simp
    · simp only [List.length_cons]
      have := back_len n (i - up (pick L R P i j)) (j - ov (pick L R P i j))
      omega
theorem back_lt : ∀ (n i j : Nat), ∀ s ∈ back L R P n i j, s < 5
  | 0, _, _ => by simp [back]
  | n + 1, i, j => by
    unfold back
    split
    · simp
    · rename_i h
      intro s hs
      rcases List.mem_cons.mp hs with rfl | hs
      · exact (pick_ok (by omega)).1
      · exact back_lt n _ _ s hs
end
/-! the same with factors, exchanged -/
theorem sum_mul (k : Int) : ∀ l : List Int, (l.map (· * k)).sum = l.sum * k
  | [] => by simp
  | x :: l => by simp [sum_mul k l, Int.add_mul]
theorem seg_mul {L : List Int} {k : Int} {i u : Nat} : seg (L.map (· * k)) i u = seg L i u * k := by
  unfold seg
  rw [← List.map_drop, ← List.map_take, sum_mul]
theorem ab_mul {x k : Int} (h : 0 ≤ k) : ab (x * k) = ab x * k := by
  unfold ab
  by_cases c : x < 0
  · rw [if_pos c]
    by_cases z : k = 0
    · subst z; simp
    · rw [if_pos (Int.mul_neg_of_neg_of_pos c (by omega)), Int.neg_mul]
  · rw [if_neg c, if_neg (Int.not_lt.mpr (Int.mul_nonneg (by omega) h))]
theorem added_mul {L R P : List Int} {k : Int} {i j s : Nat} (h : 0 ≤ k) : added (L.map (· * k)) (R.map (· * k)) (P.map (· * k)) i j s = added L R P i j s * k := by
  unfold added
  rw [seg_mul, seg_mul, ← Int.sub_mul, ab_mul h, Int.add_mul]
  congr 1
  simp only [List.getD_eq_getElem?_getD, List.getElem?_map]
  cases P[s]? <;> simp
theorem T_mul {L R P : List Int} {k : Int} (h : 0 ≤ k) (i j : Nat) : T (L.map (· * k)) (R.map (· * k)) (P.map (· * k)) i j = T L R P i j * k := by
  refine (T_uniq (f := fun i j => T L R P i j * k) (by show T L R P 0 0 * k = 0; rw [T00]; simp) (fun i j s hs a b => ?_) (fun i j hh => ?_) (i + j + 1) i j (by omega)).symm
  · show _ * k ≤ _ * k + _
    rw [added_mul h, ← Int.add_mul]
    exact Int.mul_le_mul_of_nonneg_right (T_le hs a b) h
  · obtain ⟨s, hs, a, b, e⟩ := T_ex (L := L) (R := R) (P := P) hh
    refine ⟨s, hs, a, b, ?_⟩
    show _ * k = _ * k + _
    rw [added_mul h, ← Int.add_mul, ← e]
theorem hit_mul {L R P : List Int} {k : Int} (h : 0 < k) (i j s : Nat) : hit (L.map (· * k)) (R.map (· * k)) (P.map (· * k)) i j s = hit L R P i j s := by
  unfold hit
  rw [T_mul (by omega), T_mul (by omega), added_mul (by omega), ← Int.add_mul]
  congr 1
  refine decide_eq_decide.mpr ⟨fun e => Int.eq_of_mul_eq_mul_right (by omega) e, fun e => by rw [e]⟩
theorem pick_mul {L R P : List Int} {k : Int} (h : 0 < k) (i j : Nat) : pick (L.map (· * k)) (R.map (· * k)) (P.map (· * k)) i j = pick L R P i j := by
  unfold pick
  congr 2
  funext s
  exact hit_mul h i j s
theorem back_mul {L R P : List Int} {k : Int} (h : 0 < k) : ∀ (n i j : Nat), back (L.map (· * k)) (R.map (· * k)) (P.map (· * k)) n i j = back L R P n i j
  | 0, _, _ => rfl
  | n + 1, i, j => by
    unfold back
    rw [pick_mul h, back_mul h n]
def sw : Nat → Nat
  | 1 => 2
  | 2 => 1
  | 3 => 4
  | 4 => 3
  | s => s
theorem sw_lt {s : Nat} (h : s < 5) : sw s < 5 ∧ up (sw s) = ov s ∧ ov (sw s) = up s ∧ sw (sw s) = s := by
  match s, h with
  | 0, _ => decide
  | 1, _ => decide
  | 2, _ => decide
  | 3, _ => decide
  | 4, _ => decide
theorem ab_neg (x : Int) : ab (-x) = ab x := by
  unfold ab
  split <;> split <;> omega
theorem added_sw {L R : List Int} {p0 p1 p2 p3 p4 : Int} {i j s : Nat} (h : s < 5) : added R L [p0, p2, p1, p4, p3] j i (sw s) = added L R [p0, p1, p2, p3, p4] i j s := by
  obtain ⟨_, e1, e2, _⟩ := sw_lt h
  unfold added
  rw [e1, e2, show seg R j (ov s) - seg L i (up s) = -(seg L i (up s) - seg R j (ov s)) by omega, ab_neg]
  congr 1
  match s, h with
  | 0, _ => rfl
  | 1, _ => rfl
  | 2, _ => rfl
  | 3, _ => rfl
  | 4, _ => rfl
theorem T_sw {L R : List Int} {p0 p1 p2 p3 p4 : Int} (i j : Nat) : T R L [p0, p2, p1, p4, p3] j i = T L R [p0, p1, p2, p3, p4] i j := by
  refine T_uniq (L := L) (R := R) (P := [p0, p1, p2, p3, p4]) (f := fun i j => T R L [p0, p2, p1, p4, p3] j i) T00 (fun i j s hs a b => ?_) (fun i j hh => ?_) (i + j + 1) i j (by omega)
  · obtain ⟨h1, h2, h3, h4⟩ := sw_lt hs
    have := T_le (L := R) (R := L) (P := [p0, p2, p1, p4, p3]) (i := j) (j := i) h1 (by omega) (by omega)
    rw [added_sw hs, h2, h3] at this
    exact this
  · obtain ⟨s, hs, a, b, e⟩ := T_ex (L := R) (R := L) (P := [p0, p2, p1, p4, p3]) (i := j) (j := i) (by omega)
    obtain ⟨h1, h2, h3, h4⟩ := sw_lt hs
    refine ⟨sw s, h1, by omega, by omega, ?_⟩
    show T R L _ j i = T R L _ (j - ov (sw s)) (i - up (sw s)) + _
    rw [e, h2, h3, ← added_sw (s := sw s) h1, h4]
theorem T_diag {L P : List Int} : ∀ i : Nat, T L L P i i ≤ P.getD 0 0 * i
  | 0 => by rw [T00]; simp
  | i + 1 => by
    have h := T_le (L := L) (R := L) (P := P) (i := i + 1) (j := i + 1) (s := 0) (by omega) (by simp [up]) (by simp [ov])
    have e : added L L P (i + 1) (i + 1) 0 = P.getD 0 0 := by
      unfold added
      simp [up, ov, ab]
    rw [e] at h
    have ih := T_diag (L := L) (P := P) i
    have h2 : T L L P i i + P.getD 0 0 ≤ P.getD 0 0 * ((i + 1 : Nat) : Int) := by
      rw [show ((i + 1 : Nat) : Int) = (i : Int) + 1 by omega, Int.mul_add]; omega
    exact Int.le_trans h h2
/-! bounds -/
theorem foldl_app {α β : Type} (p : α → Bool) (g : α → β) : ∀ (l : List α) (a : List β), l.foldl (fun acc s => if p s = true then acc ++ [g s] else acc) a = a ++ (l.filter p).map g
  | [], a => by simp
  | x :: l, a => by
    simp only [List.foldl_cons]
    rw [foldl_app p g l]
    by_cases h : p x = true
    · rw [if_pos h, List.filter_cons_of_pos h]; simp
    · rw [if_neg h, List.filter_cons_of_neg h]
end M69
end
section
set_option Elab.async false
set_option linter.all false
set_option maxRecDepth 100000
namespace FnT
open PySem PySem.Spec DV M69 HeadT
/-! prices of steps, the table -/
abbrev tI (L : List Int) : D := .tuple (L.map .int)
theorem tix0 {x : D} {l : List D} : ixD (.tuple (x :: l)) (.int 0) = some x := atI_zero
theorem tix1 {x y : D} {l : List D} : ixD (.tuple (x :: y :: l)) (.int 1) = some y := ixD_tuple (k := 1)
theorem tix2 {x y z : D} {l : List D} : ixD (.tuple (x :: y :: z :: l)) (.int 2) = some z := ixD_tuple (k := 2)
def stD (s : Nat) : D := .tuple [.int (up s : Nat), .int (ov s : Nat)]
theorem C_steps : C_STEPS = .tuple ((List.range 5).map stD) := rfl
theorem ix_steps {s : Nat} (h : s < 5) : ixD C_STEPS (.int (s : Nat)) = some (stD s) := by
  rw [C_steps, ixD_tuple]
  simp [h]
theorem enum_steps : enumTD [C_STEPS] = some ((List.range 5).map fun s => .tuple [.int (s : Nat), stD s]) := rfl
theorem sl_ok {L : List Int} {i u : Nat} (h : u ≤ i) (hi : i ≤ L.length) : sliceD (tI L) (some ((i : Int) - (u : Nat))) (some (i : Nat)) = some (tI ((L.drop (i - u)).take (i - (i - u)))) := by
  rw [show (i : Int) - (u : Nat) = ((i - u : Nat) : Int) by omega, slice_tuple immL_ints, cut_map, cut_nat hi]
theorem ixI {L : List Int} {k : Nat} (h : k < L.length) : ixD (tI L) (.int (k : Nat)) = some (.int (L.getD k 0)) := by
  rw [ixD_tuple]
  simp [h]
theorem step_ok {L R P : List Int} {i j s : Nat} (hs : s < 5) (hp : P.length = 5) (u : up s ≤ i) (o : ov s ≤ j) (hi : i ≤ L.length) (hj : j ≤ R.length) :
    D_step_price [tI L, tI R, tI P, .tuple [.int (i : Nat), .int (j : Nat)], .int (s : Nat)] = .ok (.int (added L R P i j s), .none) := by
  have e1 := ix_steps hs
  have e2 := sl_ok (L := L) u hi
  have e3 := sl_ok (L := R) o hj
  have e4 : sumD [tI ((L.drop (i - up s)).take (i - (i - up s)))] = some (.int (seg L i (up s))) := sumD_intsT
  have e5 : sumD [tI ((R.drop (j - ov s)).take (j - (j - ov s)))] = some (.int (seg R j (ov s))) := sumD_intsT
  have e6 := ixI (L := P) (k := s) (by omega)
  generalize tI ((L.drop (i - up s)).take (i - (i - up s))) = A at e2 e4
  generalize tI ((R.drop (j - ov s)).take (j - (j - ov s))) = B at e3 e5
  generalize tI L = dL at e2 ⊢
  generalize tI R = dR at e3 ⊢
  generalize tI P = dP at e6 ⊢
  simp [D_step_price, denOf_is, argEnv, f_step_price, e1, stD, tix0, tix1, e2, e3, e4, e5, e6, added, ab]
theorem min_ok {l : List Int} (h : l ≠ []) : minD1 [.list (l.map .int)] = some (.int (minL l)) := by
  cases l with
  | nil => exact absurd rfl h
  | cons x l => exact minD1_ints
/-- a row, rows so far -/
def rw (f : Nat → Int) (m : Nat) : List D := (List.range m).map fun b => .int (f b)
def rowsL (f : Nat → Nat → Int) (n i : Nat) : List D := (List.range i).map fun a => .list (rw (f a) n)
theorem rw_succ {f : Nat → Int} {m : Nat} : rw f (m + 1) = rw f m ++ [.int (f m)] := by simp [rw, List.range_succ]
theorem rw_len {f : Nat → Int} {m : Nat} : (rw f m).length = m := by simp [rw]
theorem rw_get {f : Nat → Int} {m b : Nat} (h : b < m) : (rw f m)[b]? = some (.int (f b)) := by simp [rw, h]
theorem rw_imm {f : Nat → Int} {m : Nat} : immL (rw f m) = true := immL_map fun _ _ => rfl
theorem rowsL_succ {f : Nat → Nat → Int} {n i : Nat} : rowsL f n (i + 1) = rowsL f n i ++ [.list (rw (f i) n)] := by simp [rowsL, List.range_succ]
theorem rowsL_len {f : Nat → Nat → Int} {n i : Nat} : (rowsL f n i).length = i := by simp [rowsL]
/-- rows being built: i whole ones, one of j -/
def rws (f : Nat → Nat → Int) (n i j : Nat) : List D := rowsL f n i ++ [PyData.list (rw (f i) j)]
theorem rws_get {f : Nat → Nat → Int} {n i j a : Nat} (h : a ≤ i) : (rws f n i j)[a]? = some (.list (rw (f a) (if a < i then n else j))) := by
  unfold rws
  by_cases c : a < i
  · rw [List.getElem?_append_left (by rw [rowsL_len]; exact c), if_pos c]
    simp [rowsL, c]
  · obtain rfl : a = i := by omega
    rw [List.getElem?_append_right (by rw [rowsL_len]; omega), rowsL_len, if_neg c]
    simp
theorem rws_ix {f : Nat → Nat → Int} {n i j a : Nat} (h : a ≤ i) : ixD (.list (rws f n i j)) (.int (a : Nat)) = some (.list (rw (f a) (if a < i then n else j))) := by
  rw [ixD_list, rws_get h]
theorem rws_pl {f : Nat → Nat → Int} {n i j : Nat} : ixPl (.list (rws f n i j)) (.int (i : Nat)) = some (PyData.list (rw (f i) j), fun e' => PyData.list ((rws f n i j).set i e')) := ixPl_nat (by
  rw [rws_get (Nat.le_refl _), if_neg (Nat.lt_irrefl _)])
theorem rws_set {f : Nat → Nat → Int} {n i j : Nat} : (rws f n i j).set i (PyData.list (rw (f i) j ++ [.int (f i j)])) = rws f n i (j + 1) := by
  unfold rws
  rw [List.set_append_right _ _ (by rw [rowsL_len]; omega), rowsL_len, rw_succ]
  simp
theorem rws_full {f : Nat → Nat → Int} {n i : Nat} : rws f n i n = rowsL f n (i + 1) := by
  unfold rws
  rw [rowsL_succ]
theorem rws_zero {f : Nat → Nat → Int} {n i : Nat} : rws f n i 0 = rowsL f n i ++ [PyData.list []] := rfl
theorem row_ix {f : Nat → Int} {m b : Nat} (h : b < m) : ixD (.list (rw f m)) (.int (b : Nat)) = some (.int (f b)) := by
  rw [ixD_list, rw_get h]
/-- the turn of a step -/
abbrev wstep (L R P : List Int) (i j : Nat) (acc : List Int) (s : Nat) : List Int := if ok i j s = true then acc ++ [T L R P (i - up s) (j - ov s) + added L R P i j s] else acc
abbrev EA (L R P : List Int) (n i j : Nat) (acc : List Int) : DV.Env := [.view (tI L), .view (tI R), .view (tI P), .own (.list (rws (T L R P) n i j)), .view (.int (i : Nat)), .view (.int (j : Nat)), .own (.list (acc.map .int)), .dead, .dead, .dead, .dead]
theorem table_step {L R P : List Int} {n i j : Nat} (hp : P.length = 5) (hi : i ≤ L.length) (hj : j ≤ R.length) (hn : j ≤ n) (hn2 : n = R.length + 1) {acc : List Int} (ha : acc.length < 100) {s : Nat} (hs : s < 5) :
    ∃ e1 e2, bindV (.tp ((.nm 7) :: ((.tp ((.nm 8) :: ((.nm 9) :: []))) :: []))) (.tuple [.int (s : Nat), stD s]) (EA L R P n i j acc) = some e1 ∧ l0_table_of e1 = .ok (.nx e2) ∧ killS [7, 8, 9, 10] e2 = EA L R P n i j (wstep L R P i j acc s) := by
  by_cases h : ok i j s = true
  · have h' : up s ≤ i ∧ ov s ≤ j := by simpa [ok] using h
    have u1 := up_ov hs
    have e1 : ixD (.list (rws (T L R P) n i j)) (.int ((i : Int) - (up s : Nat))) = some (.list (rw (T L R P (i - up s)) (if i - up s < i then n else j))) := by
      rw [show (i : Int) - (up s : Nat) = ((i - up s : Nat) : Int) by omega]
      exact rws_ix (f := T L R P) (n := n) (j := j) (by omega)
    have e2 : ixD (.list (rw (T L R P (i - up s)) (if i - up s < i then n else j))) (.int ((j : Int) - (ov s : Nat))) = some (.int (T L R P (i - up s) (j - ov s))) := by
      rw [show (j : Int) - (ov s : Nat) = ((j - ov s : Nat) : Int) by omega]
      exact row_ix (f := T L R P (i - up s)) (by split <;> omega)
    have e3 := step_ok (L := L) (R := R) (P := P) hs hp h'.1 h'.2 hi hj
    have hz : acc.length < 16000000 := by omega
    refine ⟨[.view (tI L), .view (tI R), .view (tI P), .own (.list (rws (T L R P) n i j)), .view (.int (i : Nat)), .view (.int (j : Nat)), .own (.list (acc.map .int)), .view (.int (s : Nat)), .view (.int (up s : Nat)), .view (.int (ov s : Nat)), .dead],
      [.view (tI L), .view (tI R), .view (tI P), .own (.list (rws (T L R P) n i j)), .view (.int (i : Nat)), .view (.int (j : Nat)), .own (.list (acc.map .int ++ [.int (T L R P (i - up s) (j - ov s) + added L R P i j s)])), .view (.int (s : Nat)), .view (.int (up s : Nat)), .view (.int (ov s : Nat)), .own (.int (T L R P (i - up s) (j - ov s)))], by simp [stD], ?_, by simp [EA, wstep, h]⟩
    generalize rws (T L R P) n i j = rows at e1
    generalize tI L = dL at e3
    generalize tI R = dR at e3
    generalize tI P = dP at e3
    simp [l0_table_of, h', e1, e2, e3, hz]
  · have h' : ¬ (up s ≤ i ∧ ov s ≤ j) := by simpa [ok] using h
    refine ⟨[.view (tI L), .view (tI R), .view (tI P), .own (.list (rws (T L R P) n i j)), .view (.int (i : Nat)), .view (.int (j : Nat)), .own (.list (acc.map .int)), .view (.int (s : Nat)), .view (.int (up s : Nat)), .view (.int (ov s : Nat)), .dead],
      [.view (tI L), .view (tI R), .view (tI P), .own (.list (rws (T L R P) n i j)), .view (.int (i : Nat)), .view (.int (j : Nat)), .own (.list (acc.map .int)), .view (.int (s : Nat)), .view (.int (up s : Nat)), .view (.int (ov s : Nat)), .dead], by simp [stD], ?_, by simp [EA, wstep, h]⟩
    by_cases h1 : up s ≤ i
    · have h2 : ¬ ov s ≤ j := fun z => h' ⟨h1, z⟩
      simp [l0_table_of, h1, h2]
    · simp [l0_table_of, h1]
abbrev EJ (L R P : List Int) (n i j : Nat) : DV.Env := [.view (tI L), .view (tI R), .view (tI P), .own (.list (rws (T L R P) n i j)), .view (.int (i : Nat)), .dead, .dead, .dead, .dead, .dead, .dead]
theorem ways_fold {L R P : List Int} {i j : Nat} : (List.range 5).foldl (wstep L R P i j) (if i = 0 ∧ j = 0 then [0] else []) = ways (T L R P) L R P i j := by
  unfold ways wstep
  exact foldl_app (ok i j) (fun s => T L R P (i - up s) (j - ov s) + added L R P i j s) _ _
theorem ways_turn {L R P : List Int} {n i j : Nat} (hp : P.length = 5) (hi : i ≤ L.length) (hj : j < n) (hn2 : n = R.length + 1) (hl : R.length ≤ 100) :
    ∃ e1 e2, bindV (.nm 5) (.int (j : Nat)) (EJ L R P n i j) = some e1 ∧ l1_table_of e1 = .ok (.nx e2) ∧ killS [5, 6, 7, 8, 9, 10] e2 = EJ L R P n i (j + 1) := by
  have ef := (for_foldN (ks := [7, 8, 9, 10]) (t := .tp ((.nm 7) :: ((.tp ((.nm 8) :: ((.nm 9) :: []))) :: []))) (b := l0_table_of) (E := EA L R P n i j) (J := fun m acc => acc.length ≤ m) (step := wstep L R P i j) (fun (s : Nat) => PyData.tuple [.int (s : Nat), stD s]) (List.range 5) 1 (EA L R P n i j (if i = 0 ∧ j = 0 then [0] else [])) (if i = 0 ∧ j = 0 then [0] else []) rfl (by split <;> simp)
    fun m acc hk hm s hs => by
      have hk : m < 6 := by simpa using hk
      obtain ⟨e1, e2, h1, h2, h3⟩ := table_step (n := n) (i := i) (j := j) hp hi (by omega) (by omega) hn2 (show acc.length < 100 by omega) (s := s) (by simpa using hs)
      refine ⟨e1, e2, h1, .inl h2, h3, ?_⟩
      unfold wstep
      split
      · simp; omega
      · omega).1
  rw [ways_fold] at ef
  have hm := min_ok (ways_ne (L := L) (R := R) (P := P) (T L R P) i j)
  rw [← T_eq] at hm
  have hx := rws_pl (f := T L R P) (n := n) (i := i) (j := j)
  have hz : (rw (T L R P i) j).length < 16000000 := by rw [rw_len]; omega
  refine ⟨[.view (tI L), .view (tI R), .view (tI P), .own (.list (rws (T L R P) n i j)), .view (.int (i : Nat)), .view (.int (j : Nat)), .dead, .dead, .dead, .dead, .dead],
    [.view (tI L), .view (tI R), .view (tI P), .own (.list (rws (T L R P) n i (j + 1))), .view (.int (i : Nat)), .view (.int (j : Nat)), .own (.list ((ways (T L R P) L R P i j).map .int)), .dead, .dead, .dead, .dead], by simp [EJ], ?_, by simp [EJ]⟩
  rw [← rws_set]
  simp only [EA] at ef
  generalize rws (T L R P) n i j = rows at ef hx ⊢
  generalize rw (T L R P i) j = row at hx hz ⊢
  by_cases c : i = 0 ∧ j = 0
  · obtain ⟨rfl, rfl⟩ := c
    simp only [and_self, if_true, List.map_cons, List.map_nil] at ef
    generalize (ways (T L R P) L R P 0 0).map PyData.int = W at ef hm ⊢
    have ef' := ef
    simp only [Int.cast_ofNat_Int] at ef' hx hm ⊢
    simp [l1_table_of, enum_steps, ef', hx, hm, hz]
  · rw [if_neg c] at ef
    simp only [List.map_nil] at ef
    generalize (ways (T L R P) L R P i j).map PyData.int = W at ef hm ⊢
    have c' : (i = 0 → ¬ j = 0) := fun h1 h2 => c ⟨h1, h2⟩
    by_cases c1 : i = 0
    · have c2 := c' c1
      subst c1
      simp only [Int.cast_ofNat_Int] at ef hx hm ⊢
      simp [l1_table_of, enum_steps, ef, hx, hm, hz, c2]
    · simp [l1_table_of, enum_steps, ef, hx, hm, hz, c1]
/-- the table -/
theorem table_rows {L R P : List Int} (hp : P.length = 5) (hl : L.length ≤ 100) (hr : R.length ≤ 100) :
    D_table_of [tI L, tI R, tI P] = .ok (.list (rowsL (T L R P) (R.length + 1) (L.length + 1)), .none) := by
  have e1 : rng1D [.int ((R.length : Int) + 1)] = some ((List.range (R.length + 1)).map fun (i : Nat) => PyData.int (i : Int)) := rng1_nat (n := R.length + 1) (by omega)
  have e2 : rng1D [.int ((L.length : Int) + 1)] = some ((List.range (L.length + 1)).map fun (i : Nat) => PyData.int (i : Int)) := rng1_nat (n := L.length + 1) (by omega)
  have ef := for_range (ks := [4, 5, 6, 7, 8, 9, 10]) (t := .nm 4) (b := l2_table_of) (env := [.view (tI L), .view (tI R), .view (tI P), .own (.list []), .dead, .dead, .dead, .dead, .dead, .dead, .dead])
    (fun i => [.view (tI L), .view (tI R), .view (tI P), .own (.list (rowsL (T L R P) (R.length + 1) i)), .dead, .dead, .dead, .dead, .dead, .dead, .dead]) (fun (i : Nat) => PyData.int (i : Int)) (m := L.length + 1) rfl fun i hi => by
    have eg := for_range (ks := [5, 6, 7, 8, 9, 10]) (t := .nm 5) (b := l1_table_of) (env := EJ L R P (R.length + 1) i 0) (EJ L R P (R.length + 1) i) (fun (i : Nat) => PyData.int (i : Int)) (m := R.length + 1) rfl fun j hj => by
      obtain ⟨e1, e2, h1, h2, h3⟩ := ways_turn (n := R.length + 1) (i := i) (j := j) (L := L) (R := R) (P := P) hp (by omega) hj rfl hr
      exact ⟨e1, e2, h1, .inl h2, h3⟩
    have hz : (rowsL (T L R P) (R.length + 1) i).length < 16000000 := by rw [rowsL_len]; omega
    refine ⟨_, [.view (tI L), .view (tI R), .view (tI P), .own (.list (rowsL (T L R P) (R.length + 1) (i + 1))), .view (.int (i : Nat)), .dead, .dead, .dead, .dead, .dead, .dead], rfl, .inl ?_, by simp⟩
    rw [← rws_full]
    simp only [EJ, rws_zero] at eg
    have el : lenD [tI R] = some (.int R.length) := by simp
    generalize tI L = dL at eg
    generalize tI R = dR at eg el
    generalize rws (T L R P) (R.length + 1) i (R.length + 1) = W at eg ⊢
    simp [l2_table_of, el, e1, eg, hz]
  have el : lenD [tI L] = some (.int L.length) := by simp
  generalize tI L = dL at ef el ⊢
  generalize rowsL (T L R P) (R.length + 1) (L.length + 1) = W at ef ⊢
  simp [D_table_of, denOf_is, argEnv, f_table_of, el, e2, ef]
end FnT
end
section
set_option Elab.async false
set_option linter.all false
set_option maxRecDepth 100000
namespace FnT
open PySem PySem.Spec DV M69 HeadT
/-! what is checked -/
structure Sz (L : List Int) : Prop where
  len : L.length ≤ 60
  rng : ∀ x ∈ L, 0 ≤ x ∧ x ≤ 100000
structure Pr (P : List Int) : Prop where
  len : P.length = 5
  rng : ∀ x ∈ P, 0 ≤ x ∧ x ≤ 100000
theorem plain_ints (L : List Int) : PyData.plain (tI L) = true := by
  have : PyData.plainAll (L.map PyData.int) = true := plainAll_imm _ immL_ints
  simp [PyData.plain, this]
theorem all_in {L : List Int} {env : DV.Env} {vs : List Nat} {t : Tg} {it : Ei} {e : Ev} (hi : it env = .ok (L.map .int, env)) (hz : L.length ≤ 16000000) (h : ∀ x ∈ L, ∃ e1, bindV t (.int x) (killS vs env) = some e1 ∧ e e1 = .ok (.bool true, e1)) (hT : ∀ j ∈ Tg.slots t, j ∈ vs) :
    eLc vs t it tYesE e env = .ok (.list (L.map fun _ => .bool true), env) := lc_map PyData.int (fun _ => .bool true) hi hz h hT
theorem sizes_ok {L : List Int} (h : Sz L) {r : Str} : D_check_sizes [tI L, .str r] = .ok (.none, .none) := by
  have e : eLc [2] (.nm 2) (iTpl (eReadP 0)) tYesE (eAnd (eFn 1 (D_is_integer) (aCons (eRead 2) aNil)) (eChain (eC (.int 0)) (cLink leD (eRead 2) (cLast leD (eC (.int 100000)))))) [.view (tI L), .view (.str r), .dead] = .ok (.list (L.map fun _ => .bool true), [.view (tI L), .view (.str r), .dead]) :=
    all_in (by simp) (by have := h.len; omega) (fun x hx => ⟨_, rfl, by simp [is_integer_int, h.rng x hx]⟩) (by decide)
  have ea : allD [.list (L.map fun _ => .bool true)] = some (.bool true) := allD_true
  have el : lenD [tI L] = some (.int L.length) := by simp
  have hl := h.len
  have hl' : ¬ (60 : Int) < (L.length : Nat) := by omega
  have hp := plain_ints L
  have ht : PyData.isTuple (tI L) = true := rfl
  generalize tI L = dL at e el hp ht ⊢
  generalize (L.map fun _ => PyData.bool true) = W at e ea
  simp [D_check_sizes, denOf_is, argEnv, f_check_sizes, e, ea, el, hl', hp, ht]
theorem prices_ok {P : List Int} (h : Pr P) : D_check_prices [tI P] = .ok (.none, .none) := by
  have e : eLc [1] (.nm 1) (iTpl (eReadP 0)) tYesE (eAnd (eFn 1 (D_is_integer) (aCons (eRead 1) aNil)) (eChain (eC (.int 0)) (cLink leD (eRead 1) (cLast leD (eC (.int 100000)))))) [.view (tI P), .dead] = .ok (.list (P.map fun _ => .bool true), [.view (tI P), .dead]) :=
    all_in (by simp) (by have := h.len; omega) (fun x hx => ⟨_, rfl, by simp [is_integer_int, h.rng x hx]⟩) (by decide)
  have ea : allD [.list (P.map fun _ => .bool true)] = some (.bool true) := allD_true
  have el : lenD [tI P] = some (.int 5) := by simp [h.len]
  have es : lenD [C_STEPS] = some (.int 5) := rfl
  have hp := plain_ints P
  have ht : PyData.isTuple (tI P) = true := rfl
  generalize tI P = dL at e el hp ht ⊢
  generalize (P.map fun _ => PyData.bool true) = W at e ea
  simp [D_check_prices, denOf_is, argEnv, f_check_prices, e, ea, el, es, hp, ht]
theorem texts_ok {L R P : List Int} (hl : Sz L) (hr : Sz R) (hp : Pr P) : D_check_texts [tI L, tI R, tI P] = .ok (.none, .none) := by
  have e1 := sizes_ok hl (r := "left")
  have e2 := sizes_ok hr (r := "right")
  have e3 := prices_ok hp
  generalize tI L = a at e1 ⊢
  generalize tI R = b at e2 ⊢
  generalize tI P = c at e3 ⊢
  simp [D_check_texts, denOf_is, argEnv, f_check_texts, e1, e2, e3]
/-! the table told -/
def tabD (f : Nat → Nat → Int) (n m : Nat) : D := .tuple ((List.range m).map fun a => .tuple (rw (f a) n))
theorem tab_ok {L R P : List Int} (hl : Sz L) (hr : Sz R) (hp : Pr P) : D_table [tI L, tI R, tI P] = .ok (tabD (T L R P) (R.length + 1) (L.length + 1), .none) := by
  have e1 := texts_ok hl hr hp
  have e2 := table_rows hp.len (L := L) (R := R) (by have := hl.len; omega) (by have := hr.len; omega)
  have e : eLc [3] (.nm 3) (iLst (eFn 3 (D_table_of) (aCons (eRead 0) (aCons (eRead 1) (aCons (eRead 2) aNil))))) tYesE (eCall tupleD (aCons (eRead 3) aNil)) [.view (tI L), .view (tI R), .view (tI P), .dead] =
      .ok (.list ((List.range (L.length + 1)).map fun a => .tuple (rw (T L R P a) (R.length + 1))), [.view (tI L), .view (tI R), .view (tI P), .dead]) := by
    refine lc_map (xs := List.range (L.length + 1)) (fun a => PyData.list (rw (T L R P a) (R.length + 1))) (fun a => .tuple (rw (T L R P a) (R.length + 1))) ?_ (by have := hl.len; simp; omega) fun a _ => ⟨_, rfl, ?_⟩
    · generalize tI L = a at e2 ⊢
      generalize tI R = b at e2 ⊢
      generalize tI P = c at e2 ⊢
      unfold rowsL at e2
      simp [e2]
    · simp [tupleD_list rw_imm]
  have et : tupleD [.list ((List.range (L.length + 1)).map fun a => .tuple (rw (T L R P a) (R.length + 1)))] = some (tabD (T L R P) (R.length + 1) (L.length + 1)) := tupleD_list (immL_map fun a _ => by simp [rw_imm])
  generalize tI L = a at e1 e ⊢
  generalize tI R = b at e1 e ⊢
  generalize tI P = c at e1 e ⊢
  generalize tabD (T L R P) (R.length + 1) (L.length + 1) = Z at et ⊢
  generalize ((List.range (L.length + 1)).map fun a => PyData.tuple (rw (T L R P a) (R.length + 1))) = W at e et
  simp [D_table, denOf_is, argEnv, f_table, e1, e, et]
/-! the row of steps -/
abbrev EB (L R P : List Int) (rows : List D) (i j : Nat) (acc : List D) : DV.Env := [.view (tI L), .view (tI R), .view (tI P), .own (.list rows), .own (.int (i : Nat)), .own (.int (j : Nat)), .own (.list acc), .dead, .dead, .dead, .dead]
theorem rowsL_ix {f : Nat → Nat → Int} {n m a : Nat} (h : a < m) : ixD (.list (rowsL f n m)) (.int (a : Nat)) = some (.list (rw (f a) n)) := by
  rw [ixD_list]
  simp [rowsL, h]
theorem trace_step {L R P : List Int} (hp : P.length = 5) {i j : Nat} (h : 0 < i + j) (hi : i ≤ L.length) (hj : j ≤ R.length) {acc : List D} (ha : acc.length < 1000) :
    ∃ e2, l1_aligned (EB L R P (rowsL (T L R P) (R.length + 1) (L.length + 1)) i j acc) = .ok (.nx e2) ∧ killS [7, 8, 9, 10] e2 = EB L R P (rowsL (T L R P) (R.length + 1) (L.length + 1)) (i - up (pick L R P i j)) (j - ov (pick L R P i j)) (acc ++ [.int (pick L R P i j : Nat)]) := by
  obtain ⟨hk5, hhit, hbefore⟩ := M69.pick_ok (L := L) (R := R) (P := P) h
  generalize hK : pick L R P i j = k at hk5 hhit hbefore
  have cell : ∀ a b, a ≤ i → b ≤ j → ixD (.list (rowsL (T L R P) (R.length + 1) (L.length + 1))) (.int (a : Nat)) = some (.list (rw (T L R P a) (R.length + 1))) ∧ ixD (.list (rw (T L R P a) (R.length + 1))) (.int (b : Nat)) = some (.int (T L R P a b)) := fun a b h1 h2 => ⟨rowsL_ix (by omega), row_ix (by omega)⟩
  have stp : ∀ s, s < 5 → ok i j s = true → D_step_price [tI L, tI R, tI P, .tuple [.int (i : Nat), .int (j : Nat)], .int (s : Nat)] = .ok (.int (added L R P i j s), .none) := fun s hs ho => by
    have h' : up s ≤ i ∧ ov s ≤ j := by simpa [ok] using ho
    exact step_ok hs hp h'.1 h'.2 hi hj
  have cs : ∀ s, ok i j s = true → ixD (.list (rowsL (T L R P) (R.length + 1) (L.length + 1))) (.int ((i : Int) - (up s : Nat))) = some (.list (rw (T L R P (i - up s)) (R.length + 1))) ∧ ixD (.list (rw (T L R P (i - up s)) (R.length + 1))) (.int ((j : Int) - (ov s : Nat))) = some (.int (T L R P (i - up s) (j - ov s))) := fun s ho => by
    have h' : up s ≤ i ∧ ov s ≤ j := by simpa [ok] using ho
    rw [show (i : Int) - (up s : Nat) = ((i - up s : Nat) : Int) by omega, show (j : Int) - (ov s : Nat) = ((j - ov s : Nat) : Int) by omega]
    exact cell _ _ (by omega) (by omega)
  have c0 := cell i j (Nat.le_refl _) (Nat.le_refl _)
  have hz : acc.length < 16000000 := by omega
  simp only [EB]
  generalize rowsL (T L R P) (R.length + 1) (L.length + 1) = rows at cs c0 ⊢
  generalize tI L = dL at stp ⊢
  generalize tI R = dR at stp ⊢
  generalize tI P = dP at stp ⊢
  have hb : ok i j k = true ∧ T L R P (i - up k) (j - ov k) + added L R P i j k = T L R P i j := by
    simpa only [hit, Bool.and_eq_true, decide_eq_true_eq] using hhit
  have hk' : up k ≤ i ∧ ov k ≤ j := by simpa [ok] using hb.1
  have ef := for_range_out (ks := [7, 8, 9, 10]) (t := .tp ((.nm 7) :: ((.tp ((.nm 8) :: ((.nm 9) :: []))) :: []))) (b := l0_aligned) (env := [.view dL, .view dR, .view dP, .own (.list rows), .own (.int (i : Nat)), .own (.int (j : Nat)), .own (.list acc), .dead, .dead, .dead, .dead])
    (fun _ => [.view dL, .view dR, .view dP, .own (.list rows), .own (.int (i : Nat)), .own (.int (j : Nat)), .own (.list acc), .dead, .dead, .dead, .dead]) (fun (s : Nat) => PyData.tuple [.int (s : Nat), stD s]) hk5 rfl (fun s hs => by
      have hs5 : s < 5 := by omega
      have hn := hbefore s hs
      refine ⟨[.view dL, .view dR, .view dP, .own (.list rows), .own (.int (i : Nat)), .own (.int (j : Nat)), .own (.list acc), .view (.int (s : Nat)), .view (.int (up s : Nat)), .view (.int (ov s : Nat)), .dead], ?_⟩
      by_cases ho : ok i j s = true
      · have h' : up s ≤ i ∧ ov s ≤ j := by simpa [ok] using ho
        have hne : ¬ (T L R P (i - up s) (j - ov s) + added L R P i j s = T L R P i j) := by
          simpa only [hit, ho, Bool.true_and, decide_eq_false_iff_not] using hn
        refine ⟨[.view dL, .view dR, .view dP, .own (.list rows), .own (.int (i : Nat)), .own (.int (j : Nat)), .own (.list acc), .view (.int (s : Nat)), .view (.int (up s : Nat)), .view (.int (ov s : Nat)), .own (.int (T L R P (i - up s) (j - ov s) + added L R P i j s))], by simp [stD], .inl ?_, by simp⟩
        simp [l0_aligned, h', cs s ho, stp s hs5 ho, c0, hne]
      · have h' : ¬ (up s ≤ i ∧ ov s ≤ j) := by simpa [ok] using ho
        refine ⟨[.view dL, .view dR, .view dP, .own (.list rows), .own (.int (i : Nat)), .own (.int (j : Nat)), .own (.list acc), .view (.int (s : Nat)), .view (.int (up s : Nat)), .view (.int (ov s : Nat)), .dead], by simp [stD], .inl ?_, by simp⟩
        by_cases h1 : up s ≤ i
        · have h2 : ¬ ov s ≤ j := fun z => h' ⟨h1, z⟩
          simp [l0_aligned, h1, h2]
        · simp [l0_aligned, h1])
    (e1 := [.view dL, .view dR, .view dP, .own (.list rows), .own (.int (i : Nat)), .own (.int (j : Nat)), .own (.list acc), .view (.int (k : Nat)), .view (.int (up k : Nat)), .view (.int (ov k : Nat)), .dead])
    (r := .ok (.bk [.view dL, .view dR, .view dP, .own (.list rows), .own (.int ((i : Int) - (up k : Nat))), .own (.int ((j : Int) - (ov k : Nat))), .own (.list (acc ++ [.int (k : Nat)])), .view (.int (k : Nat)), .view (.int (up k : Nat)), .view (.int (ov k : Nat)), .own (.int (T L R P i j))])) (by simp [stD]) (by
      simp [l0_aligned, hk', cs k hb.1, stp k hk5 hb.1, c0, hb.2, hz]) (.inr (.inr ⟨_, rfl⟩))
  refine ⟨[.view dL, .view dR, .view dP, .own (.list rows), .own (.int ((i : Int) - (up k : Nat))), .own (.int ((j : Int) - (ov k : Nat))), .own (.list (acc ++ [.int (k : Nat)])), .view (.int (k : Nat)), .view (.int (up k : Nat)), .view (.int (ov k : Nat)), .own (.int (T L R P i j))], ?_, ?_⟩
  · simp only [outOf] at ef
    simp [l1_aligned, enum_steps, ef]
  · have a1 : (i : Int) - (up k : Nat) = ((i - up k : Nat) : Int) := by omega
    have a2 : (j : Int) - (ov k : Nat) = ((j - ov k : Nat) : Int) := by omega
    rw [a1, a2]
    simp
theorem trace_loop {L R P : List Int} (hp : P.length = 5) (hl : L.length ≤ 100) (hr : R.length ≤ 100) : ∀ (n i j : Nat), i + j ≤ n → i ≤ L.length → j ≤ R.length → ∀ (acc : List D) (e : DV.Env), acc.length + n < 1000 → killS [7, 8, 9, 10] e = EB L R P (rowsL (T L R P) (R.length + 1) (L.length + 1)) i j acc →
    sWhile [7, 8, 9, 10] (tOrE (eT (eBin gtD (eRead 4) (eC (.int 0)))) (eT (eBin gtD (eRead 5) (eC (.int 0))))) l1_aligned e = .ok (.nx (EB L R P (rowsL (T L R P) (R.length + 1) (L.length + 1)) 0 0 (acc ++ (back L R P n i j).map fun (s : Nat) => PyData.int (s : Nat)))) := by
  intro n
  induction n with
  | zero =>
    intro i j h hi hj acc e ha he
    obtain rfl : i = 0 := by omega
    obtain rfl : j = 0 := by omega
    have : (tOrE (eT (eBin gtD (eRead 4) (eC (.int 0)))) (eT (eBin gtD (eRead 5) (eC (.int 0))))) (killS [7, 8, 9, 10] e) = .ok (false, EB L R P (rowsL (T L R P) (R.length + 1) (L.length + 1)) 0 0 acc) := by rw [he]; simp
    rw [while_end this]
    simp [back]
  | succ n ih =>
    intro i j h hi hj acc e ha he
    by_cases z : i = 0 ∧ j = 0
    · obtain ⟨rfl, rfl⟩ := z
      have : (tOrE (eT (eBin gtD (eRead 4) (eC (.int 0)))) (eT (eBin gtD (eRead 5) (eC (.int 0))))) (killS [7, 8, 9, 10] e) = .ok (false, EB L R P (rowsL (T L R P) (R.length + 1) (L.length + 1)) 0 0 acc) := by rw [he]; simp
      rw [while_end this]
      simp [back]
    · have hc : (tOrE (eT (eBin gtD (eRead 4) (eC (.int 0)))) (eT (eBin gtD (eRead 5) (eC (.int 0))))) (killS [7, 8, 9, 10] e) = .ok (true, EB L R P (rowsL (T L R P) (R.length + 1) (L.length + 1)) i j acc) := by
        rw [he]
        by_cases c : 0 < i
        · simp [c]
        · have c2 : 0 < j := by omega
          simp [c, c2]
      obtain ⟨h5, hu, hv, _⟩ := pick_spec (L := L) (R := R) (P := P) (i := i) (j := j) (by omega)
      have uo := up_ov h5
      obtain ⟨e2, h1, h2⟩ := trace_step (acc := acc) hp (by omega) hi hj (by omega)
      rw [while_go hc (.inl h1), ih _ _ (by omega) (by omega) (by omega) _ _ (by simp; omega) h2]
      rw [show back L R P (n + 1) i j = pick L R P i j :: back L R P n (i - up (pick L R P i j)) (j - ov (pick L R P i j)) by rw [back, if_neg z]]
      simp
def row (L R P : List Int) : List Nat := (back L R P (L.length + R.length) L.length R.length).reverse
def rowD (L R P : List Int) : D := .tuple ((row L R P).map fun (s : Nat) => PyData.int (s : Nat))
theorem last_get {α : Type} {f : Nat → α} {m : Nat} : ((List.range (m + 1)).map f).getLast? = some (f m) := by
  rw [List.range_succ]
  simp
theorem rows_last {f : Nat → Nat → Int} {n m : Nat} : ixD (.list (rowsL f n (m + 1))) (.int (-1)) = some (.list (rw (f m) n)) := by
  show L2.atI _ _ = _
  rw [atI_last (by simp [rowsL]), rowsL, last_get]
theorem row_last {f : Nat → Int} {m : Nat} : ixD (.list (rw f (m + 1))) (.int (-1)) = some (.int (f m)) := by
  show L2.atI _ _ = _
  rw [atI_last (by simp [rw]), rw, last_get]
theorem aligned_ok {L R P : List Int} (hl : Sz L) (hr : Sz R) (hp : Pr P) : D_aligned [tI L, tI R, tI P] = .ok (.tuple [.int (T L R P L.length R.length), rowD L R P], .none) := by
  have e1 := texts_ok hl hr hp
  have l1 := hl.len
  have l2 := hr.len
  have e2 := table_rows hp.len (L := L) (R := R) (by omega) (by omega)
  have e3 := trace_loop hp.len (L := L) (R := R) (by omega) (by omega) (L.length + R.length) L.length R.length (Nat.le_refl _) (Nat.le_refl _) (Nat.le_refl _) [] (EB L R P (rowsL (T L R P) (R.length + 1) (L.length + 1)) L.length R.length []) (by simp; omega) rfl
  have r1 := rows_last (f := T L R P) (n := R.length + 1) (m := L.length)
  have r2 := row_last (f := T L R P L.length) (m := R.length)
  have i1 : immL ((back L R P (L.length + R.length) L.length R.length).map fun (s : Nat) => PyData.int (s : Nat)) = true := immL_map fun _ _ => rfl
  have ev : rowD L R P = .tuple ((back L R P (L.length + R.length) L.length R.length).map fun (s : Nat) => PyData.int (s : Nat)).reverse := by
    unfold rowD row
    rw [List.map_reverse]
  rw [ev]
  have ll : lenD [tI L] = some (.int L.length) := by simp
  have lr : lenD [tI R] = some (.int R.length) := by simp
  simp only [EB, List.nil_append] at e3
  generalize ((back L R P (L.length + R.length) L.length R.length).map fun (s : Nat) => PyData.int (s : Nat)) = W at e3 i1 ⊢
  generalize rowsL (T L R P) (R.length + 1) (L.length + 1) = rows at e2 e3 r1
  generalize rw (T L R P L.length) (R.length + 1) = lst at r1 r2
  generalize tI L = a at e1 e2 e3 ll ⊢
  generalize tI R = b at e1 e2 e3 lr ⊢
  generalize tI P = c at e1 e2 e3 ⊢
  have i2 : immL W.reverse = true := by
    rw [immL_all] at i1 ⊢
    intro d hd
    exact i1 d (by simpa using hd)
  simp [D_aligned, denOf_is, argEnv, f_aligned, e1, e2, e3, ll, lr, r1, r2, i1, i2, tupleD_list i2]
end FnT
end
section
set_option Elab.async false
set_option linter.all false
set_option maxRecDepth 100000
namespace FnT
open PySem PySem.Spec DV M69 HeadT
theorem least {p : Nat → Prop} : ∀ n, p n → ∃ k, p k ∧ k ≤ n ∧ ∀ j, j < k → ¬ p j := by
  intro n
  induction n using Nat.strongRecOn with
  | ind n ih =>
    intro h
    by_cases c : ∃ j, j < n ∧ p j
    · obtain ⟨j, hj, hp⟩ := c
      obtain ⟨k, h1, h2, h3⟩ := ih j hj hp
      exact ⟨k, h1, by omega, h3⟩
    · exact ⟨n, h, Nat.le_refl _, fun j hj hp => c ⟨j, hj, hp⟩⟩
/-! steps accepted -/
abbrev ES (L R P : List Int) (pr : Int) (st : D) (i j : Nat) (t : Int) : DV.Env := [.view (tI L), .view (tI R), .view (tI P), .view (.int pr), .view st, .own (.int (i : Nat)), .own (.int (j : Nat)), .own (.int t), .dead]
theorem steps_run {L R P : List Int} (hp : P.length = 5) {pr : Int} {st : D} : ∀ (n i j : Nat), i + j ≤ n → i ≤ L.length → j ≤ R.length → ∀ (ds : List D) (env : DV.Env), killS [8] env = ES L R P pr st 0 0 0 →
    forL [8] (.nm 8) l0_accept_steps ((back L R P n i j).reverse.map (fun (s : Nat) => PyData.int (s : Nat)) ++ ds) env = forL [8] (.nm 8) l0_accept_steps ds (ES L R P pr st i j (T L R P i j)) := by
  intro n
  induction n with
  | zero =>
    intro i j h hi hj ds env he
    obtain rfl : i = 0 := by omega
    obtain rfl : j = 0 := by omega
    rw [T00, ← he, forL_kill]
    simp [back]
  | succ n ih =>
    intro i j h hi hj ds env he
    by_cases z : i = 0 ∧ j = 0
    · obtain ⟨rfl, rfl⟩ := z
      rw [T00, ← he, forL_kill]
      simp [back]
    · obtain ⟨h5, hu, hv, hT⟩ := pick_spec (L := L) (R := R) (P := P) (i := i) (j := j) (by omega)
      have uo := up_ov h5
      rw [show back L R P (n + 1) i j = pick L R P i j :: back L R P n (i - up (pick L R P i j)) (j - ov (pick L R P i j)) by rw [back, if_neg z]]
      rw [List.reverse_cons, List.map_append, List.append_assoc, ih _ _ (by omega) (by omega) (by omega) _ _ he]
      have e3 := step_ok (L := L) (R := R) (P := P) h5 hp hu hv hi hj
      have ix := ix_steps h5
      rw [← hT]
      generalize hK : pick L R P i j = k at *
      have a1 : (((i - up k : Nat) : Int) + (up k : Nat)) = (i : Nat) := by omega
      have a2 : (((j - ov k : Nat) : Int) + (ov k : Nat)) = (j : Nat) := by omega
      have b1 : ¬ L.length < i := by omega
      have b2 : ¬ R.length < j := by omega
      have ll : lenD [tI L] = some (.int L.length) := by simp
      have lr : lenD [tI R] = some (.int R.length) := by simp
      simp only [List.map_cons, List.map_nil, List.cons_append, List.nil_append, ES]
      generalize tI L = dL at e3 ll ⊢
      generalize tI R = dR at e3 lr ⊢
      generalize tI P = dP at e3 ⊢
      rw [forL_cons (e1 := [.view dL, .view dR, .view dP, .view (.int pr), .view st, .own (.int (i - up k : Nat)), .own (.int (j - ov k : Nat)), .own (.int (T L R P (i - up k) (j - ov k))), .view (.int (k : Nat))])
        (e2 := [.view dL, .view dR, .view dP, .view (.int pr), .view st, .own (.int (i : Nat)), .own (.int (j : Nat)), .own (.int (T L R P (i - up k) (j - ov k) + added L R P i j k)), .view (.int (k : Nat))]) (by simp) (by
          simp [l0_accept_steps, ix, stD, tix0, tix1, a1, a2, ll, lr, b1, b2, e3])]
      simp
theorem row_lt {L R P : List Int} : ∀ s ∈ row L R P, s < 5 := fun s hs => back_lt _ _ _ s (by simpa [row] using hs)
theorem row_len {L R P : List Int} : (row L R P).length ≤ L.length + R.length := by
  unfold row
  rw [List.length_reverse]
  exact back_len _ _ _
theorem plain_nats (l : List Nat) : PyData.plain (.tuple (l.map fun (s : Nat) => PyData.int (s : Nat))) = true := by
  have : PyData.plainAll (l.map fun (s : Nat) => PyData.int (s : Nat)) = true := plainAll_imm _ (immL_map fun _ _ => rfl)
  simp [PyData.plain, this]
theorem accept_ok {L R P : List Int} (hl : Sz L) (hr : Sz R) (hp : Pr P) : D_accept_steps [tI L, tI R, tI P, .int (T L R P L.length R.length), rowD L R P] = .ok (.none, .none) := by
  have e1 := texts_ok hl hr hp
  have l1 := hl.len
  have l2 := hr.len
  have e2 := steps_run (L := L) (R := R) (P := P) hp.len (pr := T L R P L.length R.length) (st := rowD L R P) (L.length + R.length) L.length R.length (Nat.le_refl _) (Nat.le_refl _) (Nat.le_refl _) [] (ES L R P (T L R P L.length R.length) (rowD L R P) 0 0 0) rfl
  have rl := row_len (L := L) (R := R) (P := P)
  have ec : eLc [8] (.nm 8) (iTpl (eReadP 4)) tYesE (eAnd (eFn 1 (D_is_integer) (aCons (eRead 8) aNil)) (eChain (eC (.int 0)) (cLink leD (eRead 8) (cLast ltD (eCall lenD (aCons (eC C_STEPS) aNil)))))) [.view (tI L), .view (tI R), .view (tI P), .view (.int (T L R P L.length R.length)), .view (rowD L R P), .dead, .dead, .dead, .dead] =
      .ok (.list ((row L R P).map fun _ => .bool true), [.view (tI L), .view (tI R), .view (tI P), .view (.int (T L R P L.length R.length)), .view (rowD L R P), .dead, .dead, .dead, .dead]) :=
    lc_map (fun (s : Nat) => PyData.int (s : Nat)) (fun _ => .bool true) (by simp [rowD]) (by omega) (fun s hs => ⟨_, rfl, by
      have h5 := row_lt s hs
      have h5' : (s : Int) < 5 := by omega
      have es : lenD [C_STEPS] = some (.int 5) := rfl
      simp [is_integer_int, es, h5']⟩) (by decide)
  have ea : allD [.list ((row L R P).map fun _ => .bool true)] = some (.bool true) := allD_true
  have ht : PyData.isTuple (rowD L R P) = true := rfl
  have hpl : PyData.plain (rowD L R P) = true := plain_nats _
  have ei : (iTpl (eReadP 4)) [.view (tI L), .view (tI R), .view (tI P), .view (.int (T L R P L.length R.length)), .view (rowD L R P), .own (.int 0), .own (.int 0), .own (.int 0), .dead] = .ok ((back L R P (L.length + R.length) L.length R.length).reverse.map (fun (s : Nat) => PyData.int (s : Nat)), [.view (tI L), .view (tI R), .view (tI P), .view (.int (T L R P L.length R.length)), .view (rowD L R P), .own (.int 0), .own (.int 0), .own (.int 0), .dead]) := by
    simp [rowD, row]
  have ll : lenD [tI L] = some (.int L.length) := by simp
  have lr : lenD [tI R] = some (.int R.length) := by simp
  have en : neD (.tuple [.int (L.length : Nat), .int (R.length : Nat)]) (.tuple [.int (L.length : Nat), .int (R.length : Nat)]) = some (.bool false) := by
    simp [neD, PyData.plain, PyData.plainAll, PyData.depth, PyData.depthAll, PyData.eqv, PyData.eqvAll]
  have ef : forL [8] (.nm 8) l0_accept_steps [] (ES L R P (T L R P L.length R.length) (rowD L R P) L.length R.length (T L R P L.length R.length)) = .ok (.nx (ES L R P (T L R P L.length R.length) (rowD L R P) L.length R.length (T L R P L.length R.length))) := rfl
  rw [List.append_nil, ef] at e2
  simp only [ES, Int.cast_ofNat_Int] at e2
  generalize ((back L R P (L.length + R.length) L.length R.length).reverse.map (fun (s : Nat) => PyData.int (s : Nat))) = W at e2 ei
  generalize T L R P L.length R.length = t at *
  generalize rowD L R P = rD at *
  generalize ((row L R P).map fun _ => PyData.bool true) = B at ec ea
  generalize tI L = a at *
  generalize tI R = b at *
  generalize tI P = c at *
  simp [-iTpl_is, D_accept_steps, denOf_is, argEnv, f_accept_steps, e1, is_integer_int, ht, hpl, ec, ea, ei, e2, ll, lr, en]
/-! which parts each step tells -/
def prs : Nat → Nat → List Nat → List D
  | _, _, [] => []
  | i, j, s :: ss => .tuple [.int (i : Nat), .int (i + up s : Nat), .int (j : Nat), .int (j + ov s : Nat)] :: prs (i + up s) (j + ov s) ss
theorem prs_imm : ∀ (ss : List Nat) (i j : Nat), immL (prs i j ss) = true
  | [], _, _ => rfl
  | s :: ss, i, j => by simp [prs, prs_imm ss]
theorem prs_len : ∀ (ss : List Nat) (i j : Nat), (prs i j ss).length = ss.length
  | [], _, _ => rfl
  | s :: ss, i, j => by simp [prs, prs_len ss]
theorem pairs_run {st : D} : ∀ (ss : List Nat), (∀ s ∈ ss, s < 5) → ∀ (i j : Nat) (acc : List D) (env : DV.Env), acc.length + ss.length < 1000 → killS [4, 5] env = [.view st, .own (.list acc), .own (.int (i : Nat)), .own (.int (j : Nat)), .dead, .dead] →
    ∃ i' j' : Nat, forL [4, 5] (.nm 4) l0_pairs (ss.map (fun (s : Nat) => PyData.int (s : Nat))) env = .ok (.nx [.view st, .own (.list (acc ++ prs i j ss)), .own (.int (i' : Nat)), .own (.int (j' : Nat)), .dead, .dead])
  | [], _, i, j, acc, env, _, he => ⟨i, j, by simp [forL, he, prs]⟩
  | s :: ss, h, i, j, acc, env, ha, he => by
    have ix := ix_steps (h s List.mem_cons_self)
    have hz : acc.length < 16000000 := by simp at ha; omega
    obtain ⟨i', j', ih⟩ := pairs_run (st := st) ss (fun s hs => h s (List.mem_cons_of_mem _ hs)) (i + up s) (j + ov s) (acc ++ [.tuple [.int (i : Nat), .int (i + up s : Nat), .int (j : Nat), .int (j + ov s : Nat)]]) [.view st, .own (.list (acc ++ [.tuple [.int (i : Nat), .int (i + up s : Nat), .int (j : Nat), .int (j + ov s : Nat)]])), .own (.int (i + up s : Nat)), .own (.int (j + ov s : Nat)), .dead, .dead] (by simp at ha ⊢; omega) rfl
    refine ⟨i', j', ?_⟩
    simp only [List.map_cons]
    rw [forL_cons (e1 := [.view st, .own (.list acc), .own (.int (i : Nat)), .own (.int (j : Nat)), .view (.int (s : Nat)), .dead])
      (e2 := [.view st, .own (.list (acc ++ [.tuple [.int (i : Nat), .int (i + up s : Nat), .int (j : Nat), .int (j + ov s : Nat)]])), .own (.int (i + up s : Nat)), .own (.int (j + ov s : Nat)), .view (.int (s : Nat)), .own (.tuple [.int (i + up s : Nat), .int (j + ov s : Nat)])]) (by rw [he]; simp) (by
        simp [l0_pairs, ix, stD, tix0, tix1, hz])]
    simp only [kill_cons, kill_nil, List.set_cons_succ, List.set_cons_zero]
    rw [ih]
    simp [prs]
theorem pairs_ok {ss : List Nat} (h : ∀ s ∈ ss, s < 5) (hl : ss.length ≤ 120) : D_pairs [.tuple (ss.map (fun (s : Nat) => PyData.int (s : Nat)))] = .ok (.tuple (prs 0 0 ss), .none) := by
  obtain ⟨i', j', e⟩ := pairs_run (st := .tuple (ss.map (fun (s : Nat) => PyData.int (s : Nat)))) ss h 0 0 [] [.view (.tuple (ss.map (fun (s : Nat) => PyData.int (s : Nat)))), .own (.list []), .own (.int 0), .own (.int 0), .dead, .dead] (by simp; omega) rfl
  have ec : eLc [4] (.nm 4) (iTpl (eReadP 0)) tYesE (eAnd (eFn 1 (D_is_integer) (aCons (eRead 4) aNil)) (eChain (eC (.int 0)) (cLink leD (eRead 4) (cLast ltD (eCall lenD (aCons (eC C_STEPS) aNil)))))) [.view (.tuple (ss.map (fun (s : Nat) => PyData.int (s : Nat)))), .dead, .dead, .dead, .dead, .dead] =
      .ok (.list (ss.map fun _ => .bool true), [.view (.tuple (ss.map (fun (s : Nat) => PyData.int (s : Nat)))), .dead, .dead, .dead, .dead, .dead]) :=
    lc_map (fun (s : Nat) => PyData.int (s : Nat)) (fun _ => .bool true) (by simp) (by omega) (fun s hs => ⟨_, rfl, by
      have h5 := h s hs
      have h5' : (s : Int) < 5 := by omega
      have es : lenD [C_STEPS] = some (.int 5) := rfl
      simp [is_integer_int, es, h5']⟩) (by decide)
  have ea : allD [.list (ss.map fun _ => .bool true)] = some (.bool true) := allD_true
  have hp := plain_nats ss
  have ht : PyData.isTuple (.tuple (ss.map (fun (s : Nat) => PyData.int (s : Nat)))) = true := rfl
  have ll : lenD [.tuple (ss.map (fun (s : Nat) => PyData.int (s : Nat)))] = some (.int ss.length) := by simp
  have hn : ¬ (120 : Int) < (ss.length : Nat) := by omega
  have ei : (iTpl (eReadP 0)) [.view (.tuple (ss.map (fun (s : Nat) => PyData.int (s : Nat)))), .own (.list []), .own (.int 0), .own (.int 0), .dead, .dead] = .ok (ss.map (fun (s : Nat) => PyData.int (s : Nat)), [.view (.tuple (ss.map (fun (s : Nat) => PyData.int (s : Nat)))), .own (.list []), .own (.int 0), .own (.int 0), .dead, .dead]) := by simp
  have it := tupleD_list (prs_imm ss 0 0)
  rw [List.nil_append] at e
  generalize (ss.map fun _ => PyData.bool true) = B at ec ea
  generalize prs 0 0 ss = Z at e it ⊢
  generalize hW : PyData.tuple (ss.map (fun (s : Nat) => PyData.int (s : Nat))) = W at *
  simp [-iTpl_is, D_pairs, denOf_is, argEnv, f_pairs, hp, ht, ll, hn, ec, ea, ei, e, it, mulD_l]
end FnT
end
section
set_option Elab.async false
set_option linter.all false
set_option maxRecDepth 100000
namespace FnT
open PySem PySem.Spec DV M69 HeadT
/-! a table accepted or not -/
abbrev fits (L R P : List Int) (f : Nat → Nat → Int) (i j s : Nat) : Prop := ok i j s = true → f i j ≤ f (i - up s) (j - ov s) + added L R P i j s
def tabR (f : Nat → Nat → Int) (L R : List Int) : D := tabD f (R.length + 1) (L.length + 1)
theorem tab_ix {f : Nat → Nat → Int} {L R : List Int} {a : Nat} (h : a ≤ L.length) : ixD (tabR f L R) (.int (a : Nat)) = some (.tuple (rw (f a) (R.length + 1))) := by
  unfold tabR tabD
  rw [ixD_tuple]
  simp [show a < L.length + 1 by omega]
theorem trow_ix {f : Nat → Int} {m b : Nat} (h : b < m) : ixD (.tuple (rw f m)) (.int (b : Nat)) = some (.int (f b)) := by
  rw [ixD_tuple, rw_get h]
abbrev EC (dL dR dP : D) (pr : Int) (tb : D) (i j : Slot) : DV.Env := [.view dL, .view dR, .view dP, .view (.int pr), .view tb, .dead, i, j, .dead, .dead, .dead, .dead, .dead]
/-- what the walk needs of the values -/
structure Kn (L R P : List Int) (f : Nat → Nat → Int) (dL dR dP tb : D) : Prop where
  cell : ∀ a b, a ≤ L.length → b ≤ R.length → ∃ r, ixD tb (.int (a : Nat)) = some r ∧ ixD r (.int (b : Nat)) = some (.int (f a b))
  stp : ∀ i j s, s < 5 → ok i j s = true → i ≤ L.length → j ≤ R.length → D_step_price [dL, dR, dP, .tuple [.int (i : Nat), .int (j : Nat)], .int (s : Nat)] = .ok (.int (added L R P i j s), .none)
  ll : lenD [dL] = some (.int L.length)
  lr : lenD [dR] = some (.int R.length)
  l1 : L.length ≤ 60
  l2 : R.length ≤ 60
theorem kn_of {L R P : List Int} (hl : Sz L) (hr : Sz R) (hp : Pr P) (f : Nat → Nat → Int) : Kn L R P f (tI L) (tI R) (tI P) (tabR f L R) :=
  ⟨fun a b h1 h2 => ⟨_, tab_ix h1, trow_ix (by omega)⟩, fun i j s hs ho h1 h2 => by
    have h' : up s ≤ i ∧ ov s ≤ j := by simpa [ok] using ho
    exact step_ok hs hp.len h'.1 h'.2 h1 h2, by simp, by simp, hl.len, hr.len⟩
section
variable {L R P : List Int} {f : Nat → Nat → Int} {dL dR dP tb : D} {pr : Int}
abbrev ECs (dL dR dP : D) (pr : Int) (tb : D) (i j s : Nat) (o : Slot) : DV.Env := [.view dL, .view dR, .view dP, .view (.int pr), .view tb, .dead, .view (.int (i : Nat)), .view (.int (j : Nat)), .view (.int (s : Nat)), .view (.int (up s : Nat)), .view (.int (ov s : Nat)), o, .dead]
theorem step_fits (K : Kn L R P f dL dR dP tb) {i j s : Nat} (hs : s < 5) (hi : i ≤ L.length) (hj : j ≤ R.length) (h : fits L R P f i j s) : ∃ o, l0_accept_table (ECs dL dR dP pr tb i j s .dead) = .ok (.nx (ECs dL dR dP pr tb i j s o)) := by
  by_cases ho : ok i j s = true
  · have h' : up s ≤ i ∧ ov s ≤ j := by simpa [ok] using ho
    obtain ⟨r, c1, c2⟩ := K.cell (i - up s) (j - ov s) (by omega) (by omega)
    obtain ⟨r0, c3, c4⟩ := K.cell i j hi hj
    rw [show ((i - up s : Nat) : Int) = (i : Int) - (up s : Nat) by omega] at c1
    rw [show ((j - ov s : Nat) : Int) = (j : Int) - (ov s : Nat) by omega] at c2
    have hf := h ho
    have hn : ¬ f (i - up s) (j - ov s) + added L R P i j s < f i j := by omega
    exact ⟨.own (.int (f (i - up s) (j - ov s) + added L R P i j s)), by simp [l0_accept_table, h', c1, c2, c3, c4, K.stp i j s hs ho hi hj, hn]⟩
  · have h' : ¬ (up s ≤ i ∧ ov s ≤ j) := by simpa [ok] using ho
    refine ⟨.dead, ?_⟩
    by_cases h1 : up s ≤ i
    · have h2 : ¬ ov s ≤ j := fun z => h' ⟨h1, z⟩
      simp [l0_accept_table, h1, h2]
    · simp [l0_accept_table, h1]
theorem step_unfit (K : Kn L R P f dL dR dP tb) {i j s : Nat} (hs : s < 5) (hi : i ≤ L.length) (hj : j ≤ R.length) (h : ¬ fits L R P f i j s) : l0_accept_table (ECs dL dR dP pr tb i j s .dead) = .ex ⟨"PaperError", "reason", .str "step"⟩ := by
  obtain ⟨ho, hf⟩ : ok i j s = true ∧ ¬ f i j ≤ f (i - up s) (j - ov s) + added L R P i j s := by
    by_cases c : ok i j s = true
    · exact ⟨c, fun z => h fun _ => z⟩
    · exact absurd (fun z => absurd z c) h
  have h' : up s ≤ i ∧ ov s ≤ j := by simpa [ok] using ho
  obtain ⟨r, c1, c2⟩ := K.cell (i - up s) (j - ov s) (by omega) (by omega)
  obtain ⟨r0, c3, c4⟩ := K.cell i j hi hj
  rw [show ((i - up s : Nat) : Int) = (i : Int) - (up s : Nat) by omega] at c1
  rw [show ((j - ov s : Nat) : Int) = (j : Int) - (ov s : Nat) by omega] at c2
  have hn : f (i - up s) (j - ov s) + added L R P i j s < f i j := by omega
  simp [l0_accept_table, h', c1, c2, c3, c4, K.stp i j s hs ho hi hj, hn]
theorem cell_fits (K : Kn L R P f dL dR dP tb) {i j : Nat} (hi : i ≤ L.length) (hj : j ≤ R.length) (h : ∀ s, s < 5 → fits L R P f i j s) : l1_accept_table (EC dL dR dP pr tb (.view (.int (i : Nat))) (.view (.int (j : Nat)))) = .ok (.nx (EC dL dR dP pr tb (.view (.int (i : Nat))) (.view (.int (j : Nat))))) := by
  have ef := for_range (ks := [8, 9, 10, 11]) (t := .tp ((.nm 8) :: ((.tp ((.nm 9) :: ((.nm 10) :: []))) :: []))) (b := l0_accept_table) (env := EC dL dR dP pr tb (.view (.int (i : Nat))) (.view (.int (j : Nat)))) (fun _ => EC dL dR dP pr tb (.view (.int (i : Nat))) (.view (.int (j : Nat)))) (fun (s : Nat) => PyData.tuple [.int (s : Nat), stD s]) (m := 5) rfl fun s hs => by
    obtain ⟨o, e⟩ := step_fits (pr := pr) K hs hi hj (h s hs)
    exact ⟨_, _, by simp [stD], .inl e, by simp⟩
  simp only [EC] at ef ⊢
  simp [l1_accept_table, enum_steps, ef]
theorem cell_unfit (K : Kn L R P f dL dR dP tb) {i j : Nat} (hi : i ≤ L.length) (hj : j ≤ R.length) (h : ∃ s, s < 5 ∧ ¬ fits L R P f i j s) : l1_accept_table (EC dL dR dP pr tb (.view (.int (i : Nat))) (.view (.int (j : Nat)))) = .ex ⟨"PaperError", "reason", .str "step"⟩ := by
  obtain ⟨s, h5, hs⟩ := h
  obtain ⟨k, hk, hks, hb⟩ := least (p := fun s => ¬ fits L R P f i j s) s hs
  have ef := for_range_out (ks := [8, 9, 10, 11]) (t := .tp ((.nm 8) :: ((.tp ((.nm 9) :: ((.nm 10) :: []))) :: []))) (b := l0_accept_table) (env := EC dL dR dP pr tb (.view (.int (i : Nat))) (.view (.int (j : Nat)))) (fun _ => EC dL dR dP pr tb (.view (.int (i : Nat))) (.view (.int (j : Nat)))) (fun (s : Nat) => PyData.tuple [.int (s : Nat), stD s]) (m := 5) (k := k) (by omega) rfl (fun s hs => by
    obtain ⟨o, e⟩ := step_fits (pr := pr) K (show s < 5 by omega) hi hj (Classical.not_not.mp (hb s hs))
    exact ⟨_, _, by simp [stD], .inl e, by simp⟩) (e1 := ECs dL dR dP pr tb i j k .dead) (by simp [stD]) (step_unfit K (by omega) hi hj hk) (.inr (.inl ⟨_, rfl⟩))
  simp only [EC, outOf] at ef ⊢
  simp [l1_accept_table, enum_steps, ef]
theorem rowT_ok (K : Kn L R P f dL dR dP tb) {i : Nat} (hi : i ≤ L.length) (h : ∀ j s, j ≤ R.length → s < 5 → fits L R P f i j s) : l2_accept_table (EC dL dR dP pr tb (.view (.int (i : Nat))) .dead) = .ok (.nx (EC dL dR dP pr tb (.view (.int (i : Nat))) .dead)) := by
  have e1 : rng1D [.int ((R.length : Int) + 1)] = some ((List.range (R.length + 1)).map fun (i : Nat) => PyData.int (i : Int)) := rng1_nat (n := R.length + 1) (by have := K.l2; omega)
  have ef := for_range (ks := [7, 8, 9, 10, 11]) (t := .nm 7) (b := l1_accept_table) (env := EC dL dR dP pr tb (.view (.int (i : Nat))) .dead) (fun _ => EC dL dR dP pr tb (.view (.int (i : Nat))) .dead) (fun (j : Nat) => PyData.int (j : Int)) (m := R.length + 1) rfl fun j hj =>
    ⟨_, _, rfl, .inl (cell_fits (pr := pr) K hi (show j ≤ R.length by omega) fun s hs => h j s (by omega) hs), by simp⟩
  have lr := K.lr
  simp only [EC] at ef ⊢
  simp [l2_accept_table, lr, e1, ef]
theorem rowT_bad (K : Kn L R P f dL dR dP tb) {i : Nat} (hi : i ≤ L.length) (h : ∃ j, j ≤ R.length ∧ ∃ s, s < 5 ∧ ¬ fits L R P f i j s) : l2_accept_table (EC dL dR dP pr tb (.view (.int (i : Nat))) .dead) = .ex ⟨"PaperError", "reason", .str "step"⟩ := by
  have e1 : rng1D [.int ((R.length : Int) + 1)] = some ((List.range (R.length + 1)).map fun (i : Nat) => PyData.int (i : Int)) := rng1_nat (n := R.length + 1) (by have := K.l2; omega)
  obtain ⟨j, hj, hs⟩ := h
  obtain ⟨k, hk, hkj, hb⟩ := least (p := fun j => ∃ s, s < 5 ∧ ¬ fits L R P f i j s) j hs
  have ef := for_range_out (ks := [7, 8, 9, 10, 11]) (t := .nm 7) (b := l1_accept_table) (env := EC dL dR dP pr tb (.view (.int (i : Nat))) .dead) (fun _ => EC dL dR dP pr tb (.view (.int (i : Nat))) .dead) (fun (j : Nat) => PyData.int (j : Int)) (m := R.length + 1) (k := k) (by omega) rfl (fun j hj =>
    ⟨_, _, rfl, .inl (cell_fits (pr := pr) K hi (show j ≤ R.length by omega) fun s hs => Classical.not_not.mp fun z => hb j hj ⟨s, hs, z⟩), by simp⟩) (e1 := EC dL dR dP pr tb (.view (.int (i : Nat))) (.view (.int (k : Nat)))) (by simp) (cell_unfit K hi (show k ≤ R.length by omega) hk) (.inr (.inl ⟨_, rfl⟩))
  have lr := K.lr
  simp only [EC, outOf] at ef ⊢
  simp [l2_accept_table, lr, e1, ef]
end
/-- the walk through all rows -/
theorem form_run {L R P : List Int} {f : Nat → Nat → Int} {dL dR dP tb : D} {pr : Int} (lr : lenD [dR] = some (.int R.length)) (l2 : R.length ≤ 60) : ∀ (m a : Nat) (env : DV.Env), killS [5] env = EC dL dR dP pr tb .dead .dead →
    forL [5] (.nm 5) l3_accept_table ((List.range' a m).map fun a => .tuple (rw (f a) (R.length + 1))) env = .ok (.nx (EC dL dR dP pr tb .dead .dead)) := by
  intro m
  induction m with
  | zero => intro a env he; simp [forL, he]
  | succ m ih =>
    intro a env he
    have ec : eLc [12] (.nm 12) (iTpl (eReadP 5)) tYesE (eFn 1 (D_is_integer) (aCons (eRead 12) aNil)) [.view dL, .view dR, .view dP, .view (.int pr), .view tb, .view (.tuple (rw (f a) (R.length + 1))), .dead, .dead, .dead, .dead, .dead, .dead, .dead] =
        .ok (.list ((List.range (R.length + 1)).map fun _ => .bool true), [.view dL, .view dR, .view dP, .view (.int pr), .view tb, .view (.tuple (rw (f a) (R.length + 1))), .dead, .dead, .dead, .dead, .dead, .dead, .dead]) :=
      lc_map (xs := List.range (R.length + 1)) (fun b => PyData.int (f a b)) (fun _ => .bool true) (by simp [rw]) (by simp; omega) (fun s hs => ⟨_, rfl, by simp [is_integer_int]⟩) (by decide)
    have ea : allD [.list ((List.range (R.length + 1)).map fun _ => .bool true)] = some (.bool true) := allD_true
    have hp : PyData.plain (.tuple (rw (f a) (R.length + 1))) = true := by
      have : PyData.plainAll (rw (f a) (R.length + 1)) = true := plainAll_imm _ rw_imm
      simp [PyData.plain, this]
    have ht : PyData.isTuple (.tuple (rw (f a) (R.length + 1))) = true := rfl
    have ll : lenD [.tuple (rw (f a) (R.length + 1))] = some (.int ((R.length : Int) + 1)) := by simp [rw_len]
    simp only [List.range'_succ, List.map_cons]
    generalize ((List.range (R.length + 1)).map fun _ => PyData.bool true) = B at ec ea
    generalize PyData.tuple (rw (f a) (R.length + 1)) = W at ec hp ht ll ⊢
    rw [forL_cons (e1 := [.view dL, .view dR, .view dP, .view (.int pr), .view tb, .view W, .dead, .dead, .dead, .dead, .dead, .dead, .dead]) (e2 := [.view dL, .view dR, .view dP, .view (.int pr), .view tb, .view W, .dead, .dead, .dead, .dead, .dead, .dead, .dead]) (by rw [he]; simp) (by
      simp [l3_accept_table, hp, ht, ll, lr, ec, ea])]
    exact ih (a + 1) _ (by simp)
inductive Verdict (L R P : List Int) (f : Nat → Nat → Int) (pr : Int) : DV.R (D × D) → Prop
  | good : f 0 0 ≤ 0 → (∀ i j s, i ≤ L.length → j ≤ R.length → s < 5 → fits L R P f i j s) → pr ≤ f L.length R.length → Verdict L R P f pr (.ok (.none, .none))
  | price : f 0 0 ≤ 0 → (∀ i j s, i ≤ L.length → j ≤ R.length → s < 5 → fits L R P f i j s) → f L.length R.length < pr → Verdict L R P f pr (.ex ⟨"PaperError", "reason", .str "price"⟩)
  | begin : 0 < f 0 0 → Verdict L R P f pr (.ex ⟨"PaperError", "reason", .str "begin"⟩)
  | step : f 0 0 ≤ 0 → (∃ i, i ≤ L.length ∧ ∃ j, j ≤ R.length ∧ ∃ s, s < 5 ∧ ¬ fits L R P f i j s) → Verdict L R P f pr (.ex ⟨"PaperError", "reason", .str "step"⟩)
theorem accept_table_ok {L R P : List Int} (hl : Sz L) (hr : Sz R) (hp : Pr P) {f : Nat → Nat → Int} {pr : Int} {r : DV.R (D × D)} (v : Verdict L R P f pr r) : D_accept_table [tI L, tI R, tI P, .int pr, tabR f L R] = r := by
  have K := kn_of hl hr hp f
  have e1 := texts_ok hl hr hp
  have ht : PyData.isTuple (tabR f L R) = true := rfl
  have hpl : PyData.plain (tabR f L R) = true := by
    have : PyData.plainAll ((List.range (L.length + 1)).map fun a => PyData.tuple (rw (f a) (R.length + 1))) = true := plainAll_imm _ (immL_map fun a _ => by simp [rw_imm])
    simp [tabR, tabD, PyData.plain, this]
  have lt : lenD [tabR f L R] = some (.int ((L.length : Int) + 1)) := by simp [tabR, tabD]
  have ef := form_run (L := L) (R := R) (P := P) (f := f) (dL := tI L) (dR := tI R) (dP := tI P) (tb := tabR f L R) (pr := pr) K.lr K.l2 (L.length + 1) 0 (EC (tI L) (tI R) (tI P) pr (tabR f L R) .dead .dead) rfl
  have ei : (iTpl (eReadP 4)) (EC (tI L) (tI R) (tI P) pr (tabR f L R) .dead .dead) = .ok ((List.range' 0 (L.length + 1)).map fun a => .tuple (rw (f a) (R.length + 1)), EC (tI L) (tI R) (tI P) pr (tabR f L R) .dead .dead) := by
    simp [tabR, tabD, List.range_eq_range']
  have r1 : rng1D [.int ((L.length : Int) + 1)] = some ((List.range (L.length + 1)).map fun (i : Nat) => PyData.int (i : Int)) := rng1_nat (n := L.length + 1) (by have := K.l1; omega)
  obtain ⟨r0, c1, c2⟩ := K.cell 0 0 (by omega) (by omega)
  simp only [Int.cast_ofNat_Int] at c1 c2
  have c3 : ∃ r0, ixD (tabR f L R) (.int (-1)) = some r0 ∧ ixD r0 (.int (-1)) = some (.int (f L.length R.length)) := by
    refine ⟨.tuple (rw (f L.length) (R.length + 1)), ?_, ?_⟩
    · show L2.atI _ _ = _
      rw [atI_last (by simp), last_get]
    · show L2.atI _ _ = _
      rw [atI_last (by simp [rw]), rw, last_get]
  obtain ⟨r3, c3, c4⟩ := c3
  have ll := K.ll
  generalize tabR f L R = tb at *
  generalize tI L = dL at *
  generalize tI R = dR at *
  generalize tI P = dP at *
  simp only [EC] at ef ei
  generalize ((List.range' 0 (L.length + 1)).map fun a => PyData.tuple (rw (f a) (R.length + 1))) = W at ef ei
  have walk : (∀ i j s, i ≤ L.length → j ≤ R.length → s < 5 → fits L R P f i j s) → forL [6, 7, 8, 9, 10, 11] (.nm 6) l2_accept_table ((List.range (L.length + 1)).map fun (i : Nat) => PyData.int (i : Int)) (EC dL dR dP pr tb .dead .dead) = .ok (.nx (EC dL dR dP pr tb .dead .dead)) := fun h =>
    for_range (ks := [6, 7, 8, 9, 10, 11]) (fun _ => EC dL dR dP pr tb .dead .dead) (fun (j : Nat) => PyData.int (j : Int)) (m := L.length + 1) rfl fun i hi => ⟨_, _, rfl, .inl (rowT_ok (pr := pr) K (show i ≤ L.length by omega) fun j s hj hs => h i j s (by omega) hj hs), by simp⟩
  have walk2 : (∃ i, i ≤ L.length ∧ ∃ j, j ≤ R.length ∧ ∃ s, s < 5 ∧ ¬ fits L R P f i j s) → forL [6, 7, 8, 9, 10, 11] (.nm 6) l2_accept_table ((List.range (L.length + 1)).map fun (i : Nat) => PyData.int (i : Int)) (EC dL dR dP pr tb .dead .dead) = .ex ⟨"PaperError", "reason", .str "step"⟩ := fun ⟨i, hi, hb⟩ => by
    obtain ⟨k, hk, hki, hbb⟩ := least (p := fun i => ∃ j, j ≤ R.length ∧ ∃ s, s < 5 ∧ ¬ fits L R P f i j s) i hb
    exact for_range_out (ks := [6, 7, 8, 9, 10, 11]) (fun _ => EC dL dR dP pr tb .dead .dead) (fun (j : Nat) => PyData.int (j : Int)) (m := L.length + 1) (k := k) (by omega) rfl (fun i hi => ⟨_, _, rfl, .inl (rowT_ok (pr := pr) K (show i ≤ L.length by omega) fun j s hj hs => Classical.not_not.mp fun z => hbb i hi ⟨j, hj, s, hs, z⟩), by simp⟩) (e1 := EC dL dR dP pr tb (.view (.int (k : Nat))) .dead) (by simp) (rowT_bad K (by omega) hk) (.inr (.inl ⟨_, rfl⟩))
  cases v with
  | good h0 h h1 =>
    have w := walk h
    simp only [EC] at w
    have n1 : ¬ f L.length R.length < pr := by omega
    have n0 : ¬ 0 < f 0 0 := by omega
    simp [-iTpl_is, D_accept_table, denOf_is, argEnv, f_accept_table, e1, is_integer_int, ht, hpl, lt, ll, ei, ef, c1, c2, n0, r1, w, c3, c4, n1]
  | price h0 h h1 =>
    have w := walk h
    simp only [EC] at w
    have n0 : ¬ 0 < f 0 0 := by omega
    simp [-iTpl_is, D_accept_table, denOf_is, argEnv, f_accept_table, e1, is_integer_int, ht, hpl, lt, ll, ei, ef, c1, c2, n0, r1, w, c3, c4, h1]
  | begin h0 =>
    simp [-iTpl_is, D_accept_table, denOf_is, argEnv, f_accept_table, e1, is_integer_int, ht, hpl, lt, ll, ei, ef, c1, c2, h0]
  | step h0 h =>
    have w := walk2 h
    simp only [EC] at w
    have n0 : ¬ 0 < f 0 0 := by omega
    simp [-iTpl_is, D_accept_table, denOf_is, argEnv, f_accept_table, e1, is_integer_int, ht, hpl, lt, ll, ei, ef, c1, c2, n0, r1, w]
def told : DV.R (D × D) → D
  | .ex ⟨_, _, .str z⟩ => .str z
  | _ => .str ""
theorem refused_ok {L R P : List Int} (hl : Sz L) (hr : Sz R) (hp : Pr P) {f : Nat → Nat → Int} {pr : Int} {r : DV.R (D × D)} (v : Verdict L R P f pr r) : D__law_refused [tI L, tI R, tI P, .int pr, tabR f L R] = .ok (told r, .none) := by
  have e := accept_table_ok hl hr hp v
  generalize tabR f L R = tb at *
  generalize tI L = dL at *
  generalize tI R = dR at *
  generalize tI P = dP at *
  cases v <;> simp [D__law_refused, denOf_is, argEnv, f__law_refused, e, told]
end FnT
end
section
set_option Elab.async false
set_option linter.all false
set_option maxRecDepth 100000
namespace FnT
open PySem PySem.Spec DV M69 HeadT
/-! the law's own table -/
theorem lsteps_ok : D__law_steps [] = .ok (.list ((List.range 5).map stD), .none) := by
  have e : (List.range 5).map stD = [.tuple [.int 1, .int 1], .tuple [.int 1, .int 0], .tuple [.int 0, .int 1], .tuple [.int 2, .int 1], .tuple [.int 1, .int 2]] := rfl
  rw [e]
  simp [D__law_steps, denOf_is, argEnv, f__law_steps]
theorem lix_steps {s : Nat} (h : s < 5) : ixD (.list ((List.range 5).map stD)) (.int (s : Nat)) = some (stD s) := by
  rw [ixD_list]
  simp [h]
theorem ladded_ok {L R P : List Int} {i j s : Nat} (hs : s < 5) (hp : P.length = 5) (u : up s ≤ i) (o : ov s ≤ j) (hi : i ≤ L.length) (hj : j ≤ R.length) :
    D__law_added [tI L, tI R, tI P, .int (i : Nat), .int (j : Nat), .int (s : Nat)] = .ok (.int (added L R P i j s), .none) := by
  have e0 := lsteps_ok
  have e1 := lix_steps hs
  have e2 := sl_ok (L := L) u hi
  have e3 := sl_ok (L := R) o hj
  have e4 : sumD [tI ((L.drop (i - up s)).take (i - (i - up s)))] = some (.int (seg L i (up s))) := sumD_intsT
  have e5 : sumD [tI ((R.drop (j - ov s)).take (j - (j - ov s)))] = some (.int (seg R j (ov s))) := sumD_intsT
  have e6 := ixI (L := P) (k := s) (by omega)
  generalize tI ((L.drop (i - up s)).take (i - (i - up s))) = A at e2 e4
  generalize tI ((R.drop (j - ov s)).take (j - (j - ov s))) = B at e3 e5
  generalize tI L = dL at e2 ⊢
  generalize tI R = dR at e3 ⊢
  generalize tI P = dP at e6 ⊢
  generalize (List.range 5).map stD = S at e0 e1
  simp [D__law_added, denOf_is, argEnv, f__law_added, e0, e1, stD, e2, e3, e4, e5, e6, added, ab]
def trows (f : Nat → Nat → Int) (n i : Nat) : List D := (List.range i).map fun a => .tuple (rw (f a) n)
theorem trows_succ {f : Nat → Nat → Int} {n i : Nat} : trows f n (i + 1) = trows f n i ++ [.tuple (rw (f i) n)] := by simp [trows, List.range_succ]
theorem trows_len {f : Nat → Nat → Int} {n i : Nat} : (trows f n i).length = i := by simp [trows]
theorem trows_ix {f : Nat → Nat → Int} {n m a : Nat} (h : a < m) : ixD (.list (trows f n m)) (.int (a : Nat)) = some (.tuple (rw (f a) n)) := by
  rw [ixD_list]
  simp [trows, h]
abbrev FA (L R P : List Int) (n i j : Nat) (acc : List Int) : DV.Env := [.view (tI L), .view (tI R), .view (tI P), .own (.list (trows (T L R P) n i)), .view (.int (i : Nat)), .own (.list (rw (T L R P i) j)), .view (.int (j : Nat)), .own (.list (acc.map .int)), .dead, .dead, .dead]
theorem ltable_step {L R P : List Int} {n i j : Nat} (hp : P.length = 5) (hi : i ≤ L.length) (hj : j ≤ R.length) (hn2 : n = R.length + 1) {acc : List Int} (ha : acc.length < 100) {s : Nat} (hs : s < 5) :
    ∃ e1 e2, bindV (.nm 8) (.int (s : Nat)) (FA L R P n i j acc) = some e1 ∧ l0__law_table e1 = .ok (.nx e2) ∧ killS [8, 9, 10] e2 = FA L R P n i j (wstep L R P i j acc s) := by
  have e0 := lsteps_ok
  have e1 := lix_steps hs
  by_cases h : ok i j s = true
  · have h' : up s ≤ i ∧ ov s ≤ j := by simpa [ok] using h
    have u1 := up_ov hs
    have c : (if up s = 0 then (ixD (.list (rw (T L R P i) j)) (.int ((j : Int) - (ov s : Nat))) = some (.int (T L R P (i - up s) (j - ov s)))) else (ixD (.list (trows (T L R P) n i)) (.int ((i : Int) - (up s : Nat))) = some (.tuple (rw (T L R P (i - up s)) n)) ∧ ixD (.tuple (rw (T L R P (i - up s)) n)) (.int ((j : Int) - (ov s : Nat))) = some (.int (T L R P (i - up s) (j - ov s))))) := by
      rw [show (i : Int) - (up s : Nat) = ((i - up s : Nat) : Int) by omega, show (j : Int) - (ov s : Nat) = ((j - ov s : Nat) : Int) by omega]
      by_cases z : up s = 0
      · rw [if_pos z, row_ix (by omega), z]; rfl
      · rw [if_neg z]
        exact ⟨trows_ix (by omega), trow_ix (by omega)⟩
    have e3 := ladded_ok (L := L) (R := R) (P := P) hs hp h'.1 h'.2 hi hj
    have hz : acc.length < 16000000 := by omega
    refine ⟨[.view (tI L), .view (tI R), .view (tI P), .own (.list (trows (T L R P) n i)), .view (.int (i : Nat)), .own (.list (rw (T L R P i) j)), .view (.int (j : Nat)), .own (.list (acc.map .int)), .view (.int (s : Nat)), .dead, .dead],
      [.view (tI L), .view (tI R), .view (tI P), .own (.list (trows (T L R P) n i)), .view (.int (i : Nat)), .own (.list (rw (T L R P i) j)), .view (.int (j : Nat)), .own (.list (acc.map .int ++ [.int (T L R P (i - up s) (j - ov s) + added L R P i j s)])), .view (.int (s : Nat)), .own (.int (up s : Nat)), .own (.int (ov s : Nat))], by simp, ?_, by simp [FA, wstep, h]⟩
    generalize trows (T L R P) n i = rows at c
    generalize rw (T L R P i) j = row at c
    generalize tI L = dL at e3
    generalize tI R = dR at e3
    generalize tI P = dP at e3
    generalize (List.range 5).map stD = S at e0 e1
    by_cases z : up s = 0
    · rw [if_pos z] at c
      simp [l0__law_table, e0, e1, stD, h'.2, z, c, e3, hz]
    · rw [if_neg z] at c
      simp [l0__law_table, e0, e1, stD, h', z, c, e3, hz]
  · have h' : ¬ (up s ≤ i ∧ ov s ≤ j) := by simpa [ok] using h
    refine ⟨[.view (tI L), .view (tI R), .view (tI P), .own (.list (trows (T L R P) n i)), .view (.int (i : Nat)), .own (.list (rw (T L R P i) j)), .view (.int (j : Nat)), .own (.list (acc.map .int)), .view (.int (s : Nat)), .dead, .dead],
      [.view (tI L), .view (tI R), .view (tI P), .own (.list (trows (T L R P) n i)), .view (.int (i : Nat)), .own (.list (rw (T L R P i) j)), .view (.int (j : Nat)), .own (.list (acc.map .int)), .view (.int (s : Nat)), .own (.int (up s : Nat)), .own (.int (ov s : Nat))], by simp, ?_, by simp [FA, wstep, h]⟩
    generalize (List.range 5).map stD = S at e0 e1
    by_cases h1 : up s ≤ i
    · have h2 : ¬ ov s ≤ j := fun z => h' ⟨h1, z⟩
      simp [l0__law_table, e0, e1, stD, h1, h2]
    · simp [l0__law_table, e0, e1, stD, h1]
abbrev FJ (L R P : List Int) (n i j : Nat) : DV.Env := [.view (tI L), .view (tI R), .view (tI P), .own (.list (trows (T L R P) n i)), .view (.int (i : Nat)), .own (.list (rw (T L R P i) j)), .dead, .dead, .dead, .dead, .dead]
theorem rng5 : rng1D [.int 5] = some ((List.range 5).map fun (i : Nat) => PyData.int (i : Int)) := rng1_nat (n := 5) (by omega)
theorem lways_turn {L R P : List Int} {n i j : Nat} (hp : P.length = 5) (hi : i ≤ L.length) (hj : j < n) (hn2 : n = R.length + 1) (hl : R.length ≤ 100) :
    ∃ e1 e2, bindV (.nm 6) (.int (j : Nat)) (FJ L R P n i j) = some e1 ∧ l1__law_table e1 = .ok (.nx e2) ∧ killS [6, 7, 8, 9, 10] e2 = FJ L R P n i (j + 1) := by
  have ef := (for_foldN (ks := [8, 9, 10]) (t := .nm 8) (b := l0__law_table) (E := FA L R P n i j) (J := fun m acc => acc.length ≤ m) (step := wstep L R P i j) (fun (s : Nat) => PyData.int (s : Nat)) (List.range 5) 1 (FA L R P n i j (if i = 0 ∧ j = 0 then [0] else [])) (if i = 0 ∧ j = 0 then [0] else []) rfl (by split <;> simp)
    fun m acc hk hm s hs => by
      have hk : m < 6 := by simpa using hk
      obtain ⟨e1, e2, h1, h2, h3⟩ := ltable_step (n := n) (i := i) (j := j) hp hi (by omega) hn2 (show acc.length < 100 by omega) (s := s) (by simpa using hs)
      refine ⟨e1, e2, h1, .inl h2, h3, ?_⟩
      unfold wstep
      split
      · simp; omega
      · omega).1
  rw [ways_fold] at ef
  have hm := min_ok (ways_ne (L := L) (R := R) (P := P) (T L R P) i j)
  rw [← T_eq] at hm
  have hz : (rw (T L R P i) j).length < 16000000 := by rw [rw_len]; omega
  refine ⟨[.view (tI L), .view (tI R), .view (tI P), .own (.list (trows (T L R P) n i)), .view (.int (i : Nat)), .own (.list (rw (T L R P i) j)), .view (.int (j : Nat)), .dead, .dead, .dead, .dead],
    [.view (tI L), .view (tI R), .view (tI P), .own (.list (trows (T L R P) n i)), .view (.int (i : Nat)), .own (.list (rw (T L R P i) (j + 1))), .view (.int (j : Nat)), .own (.list ((ways (T L R P) L R P i j).map .int)), .dead, .dead, .dead], by simp [FJ], ?_, by simp [FJ]⟩
  rw [rw_succ]
  simp only [FA] at ef
  generalize trows (T L R P) n i = rows at ef ⊢
  generalize rw (T L R P i) j = row at ef hz ⊢
  by_cases c : i = 0 ∧ j = 0
  · obtain ⟨rfl, rfl⟩ := c
    simp only [and_self, if_true, List.map_cons, List.map_nil] at ef
    generalize (ways (T L R P) L R P 0 0).map PyData.int = W at ef hm ⊢
    have ef' := ef
    simp only [Int.cast_ofNat_Int] at ef' hm ⊢
    simp [l1__law_table, rng5, ef', hm, hz]
  · rw [if_neg c] at ef
    simp only [List.map_nil] at ef
    generalize (ways (T L R P) L R P i j).map PyData.int = W at ef hm ⊢
    have c' : (i = 0 → ¬ j = 0) := fun h1 h2 => c ⟨h1, h2⟩
    by_cases c1 : i = 0
    · have c2 := c' c1
      subst c1
      simp only [Int.cast_ofNat_Int] at ef hm ⊢
      simp [l1__law_table, rng5, ef, hm, hz, c2]
    · simp [l1__law_table, rng5, ef, hm, hz, c1]
theorem ltable_ok {L R P : List Int} (hp : P.length = 5) (hl : L.length ≤ 100) (hr : R.length ≤ 100) :
    D__law_table [tI L, tI R, tI P] = .ok (tabR (T L R P) L R, .none) := by
  have e1 : rng1D [.int ((R.length : Int) + 1)] = some ((List.range (R.length + 1)).map fun (i : Nat) => PyData.int (i : Int)) := rng1_nat (n := R.length + 1) (by omega)
  have e2 : rng1D [.int ((L.length : Int) + 1)] = some ((List.range (L.length + 1)).map fun (i : Nat) => PyData.int (i : Int)) := rng1_nat (n := L.length + 1) (by omega)
  have ef := for_range (ks := [4, 5, 6, 7, 8, 9, 10]) (t := .nm 4) (b := l2__law_table) (env := [.view (tI L), .view (tI R), .view (tI P), .own (.list []), .dead, .dead, .dead, .dead, .dead, .dead, .dead])
    (fun i => [.view (tI L), .view (tI R), .view (tI P), .own (.list (trows (T L R P) (R.length + 1) i)), .dead, .dead, .dead, .dead, .dead, .dead, .dead]) (fun (i : Nat) => PyData.int (i : Int)) (m := L.length + 1) rfl fun i hi => by
    have eg := for_range (ks := [6, 7, 8, 9, 10]) (t := .nm 6) (b := l1__law_table) (env := FJ L R P (R.length + 1) i 0) (FJ L R P (R.length + 1) i) (fun (i : Nat) => PyData.int (i : Int)) (m := R.length + 1) rfl fun j hj => by
      obtain ⟨e1, e2, h1, h2, h3⟩ := lways_turn (n := R.length + 1) (i := i) (j := j) (L := L) (R := R) (P := P) hp (by omega) hj rfl hr
      exact ⟨e1, e2, h1, .inl h2, h3⟩
    have hz : (trows (T L R P) (R.length + 1) i).length < 16000000 := by rw [trows_len]; omega
    refine ⟨_, [.view (tI L), .view (tI R), .view (tI P), .own (.list (trows (T L R P) (R.length + 1) (i + 1))), .view (.int (i : Nat)), .own (.list (rw (T L R P i) (R.length + 1))), .dead, .dead, .dead, .dead, .dead], rfl, .inl ?_, by simp⟩
    rw [trows_succ]
    have r0 : rw (T L R P i) 0 = [] := rfl
    simp only [FJ, r0] at eg
    have el : lenD [tI R] = some (.int R.length) := by simp
    have it : immL (rw (T L R P i) (R.length + 1)) = true := rw_imm
    generalize rw (T L R P i) (R.length + 1) = W at eg it ⊢
    generalize trows (T L R P) (R.length + 1) i = rows at eg hz ⊢
    generalize tI L = dL at eg
    generalize tI R = dR at eg el
    simp [l2__law_table, el, e1, eg, hz, tupleD_list it]
  have el : lenD [tI L] = some (.int L.length) := by simp
  have it : tupleD [.list (trows (T L R P) (R.length + 1) (L.length + 1))] = some (tabR (T L R P) L R) := tupleD_list (immL_map fun a _ => by simp [rw_imm])
  generalize tabR (T L R P) L R = Z at it ⊢
  generalize tI L = dL at ef el ⊢
  generalize trows (T L R P) (R.length + 1) (L.length + 1) = W at ef it
  simp [D__law_table, denOf_is, argEnv, f__law_table, el, e2, ef, it]
/-! its row -/
abbrev FB (L R P : List Int) (tb : D) (i j : Nat) (acc : List D) : DV.Env := [.view (tI L), .view (tI R), .view (tI P), .view tb, .own (.int (i : Nat)), .own (.int (j : Nat)), .own (.list acc), .dead, .dead, .dead]
theorem ltrace_step {L R P : List Int} (hp : P.length = 5) {i j : Nat} (h : 0 < i + j) (hi : i ≤ L.length) (hj : j ≤ R.length) {acc : List D} (ha : acc.length < 1000) :
    ∃ e2, l1__law_row (FB L R P (tabR (T L R P) L R) i j acc) = .ok (.nx e2) ∧ killS [7, 8, 9] e2 = FB L R P (tabR (T L R P) L R) (i - up (pick L R P i j)) (j - ov (pick L R P i j)) (acc ++ [.int (pick L R P i j : Nat)]) := by
  obtain ⟨hk5, hhit, hbefore⟩ := M69.pick_ok (L := L) (R := R) (P := P) h
  generalize hK : pick L R P i j = k at hk5 hhit hbefore
  have e0 := lsteps_ok
  have e1 := fun s hs => lix_steps (s := s) hs
  have cell : ∀ a b, a ≤ i → b ≤ j → ixD (tabR (T L R P) L R) (.int (a : Nat)) = some (.tuple (rw (T L R P a) (R.length + 1))) ∧ ixD (.tuple (rw (T L R P a) (R.length + 1))) (.int (b : Nat)) = some (.int (T L R P a b)) := fun a b h1 h2 => ⟨tab_ix (by omega), trow_ix (by omega)⟩
  have stp : ∀ s, s < 5 → ok i j s = true → D__law_added [tI L, tI R, tI P, .int (i : Nat), .int (j : Nat), .int (s : Nat)] = .ok (.int (added L R P i j s), .none) := fun s hs ho => by
    have h' : up s ≤ i ∧ ov s ≤ j := by simpa [ok] using ho
    exact ladded_ok hs hp h'.1 h'.2 hi hj
  have cs : ∀ s, ok i j s = true → ixD (tabR (T L R P) L R) (.int ((i : Int) - (up s : Nat))) = some (.tuple (rw (T L R P (i - up s)) (R.length + 1))) ∧ ixD (.tuple (rw (T L R P (i - up s)) (R.length + 1))) (.int ((j : Int) - (ov s : Nat))) = some (.int (T L R P (i - up s) (j - ov s))) := fun s ho => by
    have h' : up s ≤ i ∧ ov s ≤ j := by simpa [ok] using ho
    rw [show (i : Int) - (up s : Nat) = ((i - up s : Nat) : Int) by omega, show (j : Int) - (ov s : Nat) = ((j - ov s : Nat) : Int) by omega]
    exact cell _ _ (by omega) (by omega)
  have c0 := cell i j (Nat.le_refl _) (Nat.le_refl _)
  have hz : acc.length < 16000000 := by omega
  simp only [FB]
  generalize tabR (T L R P) L R = tb at cs c0 ⊢
  generalize tI L = dL at stp ⊢
  generalize tI R = dR at stp ⊢
  generalize tI P = dP at stp ⊢
  generalize (List.range 5).map stD = S at e0 e1
  have hb : ok i j k = true ∧ T L R P (i - up k) (j - ov k) + added L R P i j k = T L R P i j := by
    simpa only [hit, Bool.and_eq_true, decide_eq_true_eq] using hhit
  have hk' : up k ≤ i ∧ ov k ≤ j := by simpa [ok] using hb.1
  have ef := for_range_out (ks := [7, 8, 9]) (t := .nm 7) (b := l0__law_row) (env := [.view dL, .view dR, .view dP, .view tb, .own (.int (i : Nat)), .own (.int (j : Nat)), .own (.list acc), .dead, .dead, .dead])
    (fun _ => [.view dL, .view dR, .view dP, .view tb, .own (.int (i : Nat)), .own (.int (j : Nat)), .own (.list acc), .dead, .dead, .dead]) (fun (s : Nat) => PyData.int (s : Nat)) hk5 rfl (fun s hs => by
      have hs5 : s < 5 := by omega
      have hn := hbefore s hs
      refine ⟨[.view dL, .view dR, .view dP, .view tb, .own (.int (i : Nat)), .own (.int (j : Nat)), .own (.list acc), .view (.int (s : Nat)), .dead, .dead], [.view dL, .view dR, .view dP, .view tb, .own (.int (i : Nat)), .own (.int (j : Nat)), .own (.list acc), .view (.int (s : Nat)), .own (.int (up s : Nat)), .own (.int (ov s : Nat))], by simp, .inl ?_, by simp⟩
      by_cases ho : ok i j s = true
      · have h' : up s ≤ i ∧ ov s ≤ j := by simpa [ok] using ho
        have hne : ¬ (T L R P (i - up s) (j - ov s) + added L R P i j s = T L R P i j) := by
          simpa only [hit, ho, Bool.true_and, decide_eq_false_iff_not] using hn
        simp [l0__law_row, e0, e1 s hs5, stD, h', cs s ho, stp s hs5 ho, c0, hne]
      · have h' : ¬ (up s ≤ i ∧ ov s ≤ j) := by simpa [ok] using ho
        by_cases h1 : up s ≤ i
        · have h2 : ¬ ov s ≤ j := fun z => h' ⟨h1, z⟩
          simp [l0__law_row, e0, e1 s hs5, stD, h1, h2]
        · simp [l0__law_row, e0, e1 s hs5, stD, h1])
    (e1 := [.view dL, .view dR, .view dP, .view tb, .own (.int (i : Nat)), .own (.int (j : Nat)), .own (.list acc), .view (.int (k : Nat)), .dead, .dead])
    (r := .ok (.bk [.view dL, .view dR, .view dP, .view tb, .own (.int ((i : Int) - (up k : Nat))), .own (.int ((j : Int) - (ov k : Nat))), .own (.list (acc ++ [.int (k : Nat)])), .view (.int (k : Nat)), .own (.int (up k : Nat)), .own (.int (ov k : Nat))])) (by simp) (by
      simp [l0__law_row, e0, e1 k hk5, stD, hk', cs k hb.1, stp k hk5 hb.1, c0, hb.2, hz]) (.inr (.inr ⟨_, rfl⟩))
  refine ⟨[.view dL, .view dR, .view dP, .view tb, .own (.int ((i : Int) - (up k : Nat))), .own (.int ((j : Int) - (ov k : Nat))), .own (.list (acc ++ [.int (k : Nat)])), .view (.int (k : Nat)), .own (.int (up k : Nat)), .own (.int (ov k : Nat))], ?_, ?_⟩
  · simp only [outOf] at ef
    simp [l1__law_row, rng5, ef]
  · have a1 : (i : Int) - (up k : Nat) = ((i - up k : Nat) : Int) := by omega
    have a2 : (j : Int) - (ov k : Nat) = ((j - ov k : Nat) : Int) := by omega
    rw [a1, a2]
    simp
theorem ltrace_loop {L R P : List Int} (hp : P.length = 5) (hl : L.length ≤ 100) (hr : R.length ≤ 100) : ∀ (n i j : Nat), i + j ≤ n → i ≤ L.length → j ≤ R.length → ∀ (acc : List D) (e : DV.Env), acc.length + n < 1000 → killS [7, 8, 9] e = FB L R P (tabR (T L R P) L R) i j acc →
    sWhile [7, 8, 9] (tOrE (eT (eBin gtD (eRead 4) (eC (.int 0)))) (eT (eBin gtD (eRead 5) (eC (.int 0))))) l1__law_row e = .ok (.nx (FB L R P (tabR (T L R P) L R) 0 0 (acc ++ (back L R P n i j).map fun (s : Nat) => PyData.int (s : Nat)))) := by
  intro n
  induction n with
  | zero =>
    intro i j h hi hj acc e ha he
    obtain rfl : i = 0 := by omega
    obtain rfl : j = 0 := by omega
    have : (tOrE (eT (eBin gtD (eRead 4) (eC (.int 0)))) (eT (eBin gtD (eRead 5) (eC (.int 0))))) (killS [7, 8, 9] e) = .ok (false, FB L R P (tabR (T L R P) L R) 0 0 acc) := by rw [he]; simp
    rw [while_end this]
    simp [back]
  | succ n ih =>
    intro i j h hi hj acc e ha he
    by_cases z : i = 0 ∧ j = 0
    · obtain ⟨rfl, rfl⟩ := z
      have : (tOrE (eT (eBin gtD (eRead 4) (eC (.int 0)))) (eT (eBin gtD (eRead 5) (eC (.int 0))))) (killS [7, 8, 9] e) = .ok (false, FB L R P (tabR (T L R P) L R) 0 0 acc) := by rw [he]; simp
      rw [while_end this]
      simp [back]
    · have hc : (tOrE (eT (eBin gtD (eRead 4) (eC (.int 0)))) (eT (eBin gtD (eRead 5) (eC (.int 0))))) (killS [7, 8, 9] e) = .ok (true, FB L R P (tabR (T L R P) L R) i j acc) := by
        rw [he]
        by_cases c : 0 < i
        · simp [c]
        · have c2 : 0 < j := by omega
          simp [c, c2]
      obtain ⟨h5, hu, hv, _⟩ := pick_spec (L := L) (R := R) (P := P) (i := i) (j := j) (by omega)
      have uo := up_ov h5
      obtain ⟨e2, h1, h2⟩ := ltrace_step (acc := acc) hp (by omega) hi hj (by omega)
      rw [while_go hc (.inl h1), ih _ _ (by omega) (by omega) (by omega) _ _ (by simp; omega) h2]
      rw [show back L R P (n + 1) i j = pick L R P i j :: back L R P n (i - up (pick L R P i j)) (j - ov (pick L R P i j)) by rw [back, if_neg z]]
      simp
theorem lrow_ok {L R P : List Int} (hl : Sz L) (hr : Sz R) (hp : Pr P) : D__law_row [tI L, tI R, tI P, tabR (T L R P) L R] = .ok (rowD L R P, .none) := by
  have l1 := hl.len
  have l2 := hr.len
  have e3 := ltrace_loop hp.len (L := L) (R := R) (by omega) (by omega) (L.length + R.length) L.length R.length (Nat.le_refl _) (Nat.le_refl _) (Nat.le_refl _) [] (FB L R P (tabR (T L R P) L R) L.length R.length []) (by simp; omega) rfl
  have i1 : immL ((back L R P (L.length + R.length) L.length R.length).map fun (s : Nat) => PyData.int (s : Nat)) = true := immL_map fun _ _ => rfl
  have ev : rowD L R P = .tuple ((back L R P (L.length + R.length) L.length R.length).map fun (s : Nat) => PyData.int (s : Nat)).reverse := by
    unfold rowD row
    rw [List.map_reverse]
  rw [ev]
  have ll : lenD [tI L] = some (.int L.length) := by simp
  have lr : lenD [tI R] = some (.int R.length) := by simp
  simp only [FB, List.nil_append] at e3
  generalize ((back L R P (L.length + R.length) L.length R.length).map fun (s : Nat) => PyData.int (s : Nat)) = W at e3 i1 ⊢
  generalize tabR (T L R P) L R = tb at e3 ⊢
  generalize tI L = a at e3 ll ⊢
  generalize tI R = b at e3 lr ⊢
  generalize tI P = c at e3 ⊢
  have i2 : immL W.reverse = true := by
    rw [immL_all] at i1 ⊢
    intro d hd
    exact i1 d (by simpa using hd)
  simp [D__law_row, denOf_is, argEnv, f__law_row, e3, ll, lr, i1, i2, tupleD_list i2]
/-! its pairs -/
theorem lpairs_run {st : D} : ∀ (ss : List Nat), (∀ s ∈ ss, s < 5) → ∀ (i j : Nat) (acc : List D) (env : DV.Env), acc.length + ss.length < 1000 → killS [4, 5, 6] env = [.view st, .own (.list acc), .own (.int (i : Nat)), .own (.int (j : Nat)), .dead, .dead, .dead] →
    ∃ i' j' : Nat, forL [4, 5, 6] (.nm 4) l0__law_pairs (ss.map (fun (s : Nat) => PyData.int (s : Nat))) env = .ok (.nx [.view st, .own (.list (acc ++ prs i j ss)), .own (.int (i' : Nat)), .own (.int (j' : Nat)), .dead, .dead, .dead])
  | [], _, i, j, acc, env, _, he => ⟨i, j, by simp [forL, he, prs]⟩
  | s :: ss, h, i, j, acc, env, ha, he => by
    have e0 := lsteps_ok
    have ix := lix_steps (h s List.mem_cons_self)
    generalize (List.range 5).map stD = S at e0 ix
    have hz : acc.length < 16000000 := by simp at ha; omega
    obtain ⟨i', j', ih⟩ := lpairs_run (st := st) ss (fun s hs => h s (List.mem_cons_of_mem _ hs)) (i + up s) (j + ov s) (acc ++ [.tuple [.int (i : Nat), .int (i + up s : Nat), .int (j : Nat), .int (j + ov s : Nat)]]) [.view st, .own (.list (acc ++ [.tuple [.int (i : Nat), .int (i + up s : Nat), .int (j : Nat), .int (j + ov s : Nat)]])), .own (.int (i + up s : Nat)), .own (.int (j + ov s : Nat)), .dead, .dead, .dead] (by simp at ha ⊢; omega) rfl
    refine ⟨i', j', ?_⟩
    simp only [List.map_cons]
    rw [forL_cons (e1 := [.view st, .own (.list acc), .own (.int (i : Nat)), .own (.int (j : Nat)), .view (.int (s : Nat)), .dead, .dead])
      (e2 := [.view st, .own (.list (acc ++ [.tuple [.int (i : Nat), .int (i + up s : Nat), .int (j : Nat), .int (j + ov s : Nat)]])), .own (.int (i + up s : Nat)), .own (.int (j + ov s : Nat)), .view (.int (s : Nat)), .own (.int (up s : Nat)), .own (.int (ov s : Nat))]) (by rw [he]; simp) (by
        simp [l0__law_pairs, e0, ix, stD, hz])]
    simp only [kill_cons, kill_nil, List.set_cons_succ, List.set_cons_zero]
    rw [ih]
    simp [prs]
theorem lpairs_ok {ss : List Nat} (h : ∀ s ∈ ss, s < 5) (hl : ss.length ≤ 120) : D__law_pairs [.tuple (ss.map (fun (s : Nat) => PyData.int (s : Nat)))] = .ok (.tuple (prs 0 0 ss), .none) := by
  obtain ⟨i', j', e⟩ := lpairs_run (st := .tuple (ss.map (fun (s : Nat) => PyData.int (s : Nat)))) ss h 0 0 [] [.view (.tuple (ss.map (fun (s : Nat) => PyData.int (s : Nat)))), .own (.list []), .own (.int 0), .own (.int 0), .dead, .dead, .dead] (by simp; omega) rfl
  have ei : (iTpl (eReadP 0)) [.view (.tuple (ss.map (fun (s : Nat) => PyData.int (s : Nat)))), .own (.list []), .own (.int 0), .own (.int 0), .dead, .dead, .dead] = .ok (ss.map (fun (s : Nat) => PyData.int (s : Nat)), [.view (.tuple (ss.map (fun (s : Nat) => PyData.int (s : Nat)))), .own (.list []), .own (.int 0), .own (.int 0), .dead, .dead, .dead]) := by simp
  have it := tupleD_list (prs_imm ss 0 0)
  rw [List.nil_append] at e
  generalize prs 0 0 ss = Z at e it ⊢
  generalize hW : PyData.tuple (ss.map (fun (s : Nat) => PyData.int (s : Nat))) = W at *
  simp [-iTpl_is, D__law_pairs, denOf_is, argEnv, f__law_pairs, ei, e, it]
end FnT
end
section
set_option Elab.async false
set_option linter.all false
set_option maxRecDepth 100000
namespace FnT
open PySem PySem.Spec DV M69 HeadT
/-! texts drawn -/
theorem f2_ints {α : Type} {p : Int → Prop} : ∀ {xs : List α} {ys : List D}, F2 (fun _ y => ∃ v, y = .int v ∧ p v) xs ys → ∃ L : List Int, ys = L.map .int ∧ L.length = xs.length ∧ ∀ v ∈ L, p v
  | _, _, .nil => ⟨[], rfl, rfl, fun _ z => nomatch z⟩
  | _, _, .cons h t => by
    obtain ⟨v, rfl, hp⟩ := h
    obtain ⟨L, e, hl, ha⟩ := f2_ints t
    refine ⟨v :: L, by rw [e]; rfl, by simp [hl], fun w hw => ?_⟩
    rcases List.mem_cons.mp hw with rfl | hw
    · exact hp
    · exact ha w hw
theorem text_ok {st : D} (h : St st) {most : Nat} (hm : most ≤ 100) : ∃ (L : List Int) (st' : D), D__law_text [st, .int (most : Nat)] = .ok (tI L, st') ∧ St st' ∧ L.length ≤ most ∧ ∀ x ∈ L, 0 ≤ x ∧ x ≤ 900 := by
  obtain ⟨top, s1, e1, h1, ht⟩ := pick_int h (ns := [3, 20, 900]) (by simp) (by simp)
  have t0 : 3 ≤ top ∧ top ≤ 900 := by simp at ht; omega
  simp only [List.map_cons, List.map_nil] at e1
  obtain ⟨k, s2, e2, h2, k0, k1⟩ := draw_ok h1 (m := (most : Int) + 1) (by omega) (by omega)
  have ek : k = ((k.toNat : Nat) : Int) := by omega
  have er : rng1D [.int k] = some ((List.range k.toNat).map fun (i : Nat) => PyData.int (i : Int)) := by
    rw [ek]; exact rng1_nat (by omega)
  let I : DV.Env → Prop := fun env => ∃ st, St st ∧ env = [.own st, .view (.int (most : Nat)), .own (.int top), .dead]
  obtain ⟨ys, env2, el, hF, hI⟩ := lc_rel (vs := [3]) (t := .nm 3) (it := iFn rng1D (aCons (eFnIO 2 0 (D__law_draw) (zHere 0 (aCons (eBin addD (eRead 1) (eC (.int 1))) aNil))) aNil)) (c := tYesE) (e := eFnIO 2 0 (D__law_draw) (zHere 0 (aCons (eBin addD (eRead 2) (eC (.int 1))) aNil)))
    (env := [.own s1, .view (.int (most : Nat)), .own (.int top), .dead]) (env1 := [.own s2, .view (.int (most : Nat)), .own (.int top), .dead]) (xs := List.range k.toNat) (fun (i : Nat) => PyData.int (i : Int)) I (fun _ y => ∃ v, y = .int v ∧ (0 ≤ v ∧ v ≤ 900)) (by simp [e2, er]) (by simp; omega) ⟨s2, h2, rfl⟩ (by
    rintro x _ env ⟨st, hs, rfl⟩
    obtain ⟨v, s3, e3, h3, v0, v1⟩ := draw_ok hs (m := top + 1) (by omega) (by omega)
    exact ⟨_, [.own st, .view (.int (most : Nat)), .own (.int top), .view (.int (x : Nat))], .int v, [.own s3, .view (.int (most : Nat)), .own (.int top), .view (.int (x : Nat))], rfl, by simp, by simp [e3], ⟨v, rfl, v0, by omega⟩, s3, h3, by simp⟩)
  obtain ⟨s3, h3, rfl⟩ := hI
  obtain ⟨L, rfl, hl, ha⟩ := f2_ints hF
  refine ⟨L, s3, ?_, h3, by simp at hl; omega, ha⟩
  have it : immL (L.map PyData.int) = true := immL_ints
  simp only [tI]
  generalize L.map PyData.int = W at el it ⊢
  simp [D__law_text, denOf_is, argEnv, f__law_text, e1, el, tupleD_list it]
theorem near_turn {st : D} (h : St st) {x : Int} (x0 : 0 ≤ x) (x1 : x ≤ 900) {tx : D} {acc : List Int} (ha : acc.length < 1000) : ∃ (Z : List Int) (st' : D) (e2 : DV.Env), St st' ∧ Z.length ≤ 2 ∧ (∀ v ∈ Z, 0 ≤ v ∧ v ≤ 1000) ∧
    l0__law_near [.own st, .view tx, .own (.list (acc.map .int)), .view (.int x), .dead] = .ok (.nx e2) ∧ killS [3, 4] e2 = [.own st', .view tx, .own (.list ((acc ++ Z).map .int)), .dead, .dead] := by
  obtain ⟨p, s1, e1, h1, p0, p1⟩ := draw_ok h (m := 9) (by omega) (by omega)
  have hi : immL (acc.map PyData.int) = true := immL_ints
  have add : ∀ Z : List Int, Z.length ≤ 2 → addD (.list (acc.map .int)) (.list (Z.map .int)) = some (.list ((acc ++ Z).map .int)) := fun Z hz => by
    have : addD (.list (acc.map .int)) (.list (Z.map .int)) = if immL (acc.map PyData.int) = true ∧ immL (Z.map PyData.int) = true ∧ (acc.map PyData.int).length + (Z.map PyData.int).length ≤ 16000000 then some (.list (acc.map .int ++ Z.map .int)) else none := rfl
    rw [this, if_pos ⟨immL_ints, immL_ints, by simp; omega⟩, List.map_append]
  by_cases c3 : 3 < p
  · have a := add [x] (by simp)
    simp only [List.map_cons, List.map_nil] at a
    refine ⟨[x], s1, [.own s1, .view tx, .own (.list ((acc ++ [x]).map .int)), .view (.int x), .own (.int p)], h1, by simp, by simp; omega, ?_, by simp⟩
    generalize acc.map PyData.int = A at a ⊢
    generalize (acc ++ [x]).map PyData.int = B at a ⊢
    simp [l0__law_near, e1, c3, a]
  · by_cases c2 : 2 < p
    · obtain ⟨q, s2, e2, h2, q0, q1⟩ := draw_ok h1 (m := 7) (by omega) (by omega)
      have hm : maxD1 [.list [.int 0, .int (x + q - 3)]] = some (.int (max 0 (x + q - 3))) := maxD1_ints (n := 0) (ns := [x + q - 3])
      have a := add [max 0 (x + q - 3)] (by simp)
      simp only [List.map_cons, List.map_nil] at a
      refine ⟨[max 0 (x + q - 3)], s2, [.own s2, .view tx, .own (.list ((acc ++ [max 0 (x + q - 3)]).map .int)), .view (.int x), .own (.int p)], h2, by simp, by simp; omega, ?_, by simp⟩
      generalize acc.map PyData.int = A at a ⊢
      generalize (acc ++ [max 0 (x + q - 3)]).map PyData.int = B at a ⊢
      simp [l0__law_near, e1, c3, c2, e2, hm, a]
    · by_cases c1 : 1 < p
      · have a := add [x / 2, x - x / 2] (by simp)
        simp only [List.map_cons, List.map_nil] at a
        refine ⟨[x / 2, x - x / 2], s1, [.own s1, .view tx, .own (.list ((acc ++ [x / 2, x - x / 2]).map .int)), .view (.int x), .own (.int p)], h1, by simp, by simp; omega, ?_, by simp⟩
        generalize acc.map PyData.int = A at a ⊢
        generalize (acc ++ [x / 2, x - x / 2]).map PyData.int = B at a ⊢
        simp [l0__law_near, e1, c3, c2, c1, fdivD_int, a]
      · have a := add [] (by simp)
        simp only [List.map_nil] at a
        refine ⟨[], s1, [.own s1, .view tx, .own (.list ((acc ++ []).map .int)), .view (.int x), .own (.int p)], h1, by simp, by simp, ?_, by simp⟩
        generalize acc.map PyData.int = A at a ⊢
        generalize (acc ++ []).map PyData.int = B at a ⊢
        simp [l0__law_near, e1, c3, c2, c1, a]
theorem near_ok {st : D} (h : St st) {L : List Int} (hl : L.length ≤ 100) (hr : ∀ x ∈ L, 0 ≤ x ∧ x ≤ 900) : ∃ (R : List Int) (st' : D), D__law_near [st, tI L] = .ok (tI R, st') ∧ St st' ∧ R.length ≤ 60 ∧ ∀ x ∈ R, 0 ≤ x ∧ x ≤ 1000 := by
  let I : Nat → DV.Env → Prop := fun i env => ∃ (st : D) (acc : List Int), env = [.own st, .view (tI L), .own (.list (acc.map .int)), .dead, .dead] ∧ St st ∧ acc.length ≤ 2 * i ∧ ∀ v ∈ acc, 0 ≤ v ∧ v ≤ 1000
  obtain ⟨env2, ef, hI⟩ := for_rel (ks := [3, 4]) (t := .nm 3) (b := l0__law_near) I (L.map .int) 0 [.own st, .view (tI L), .own (.list []), .dead, .dead] ⟨st, [], rfl, h, by simp, by simp⟩ (by
    rintro i d env hd ⟨st, acc, rfl, hs, ha, hv⟩
    have hi : i < L.length := by simpa using (List.getElem?_eq_some_iff.mp hd).1
    have ed : d = .int L[i] := by
      rw [List.getElem?_map, List.getElem?_eq_getElem hi] at hd
      exact (Option.some.inj hd).symm
    subst ed
    have hx := hr L[i] (List.getElem_mem hi)
    obtain ⟨Z, st', e2, h1, z2, zr, run, kl⟩ := near_turn hs hx.1 hx.2 (tx := tI L) (acc := acc) (by omega)
    refine ⟨[.own st, .view (tI L), .own (.list (acc.map .int)), .view (.int L[i]), .dead], e2, by simp, .inl run, st', acc ++ Z, kl, h1, by simp; omega, fun v hv' => ?_⟩
    rcases List.mem_append.mp hv' with q | q
    · exact hv v q
    · exact zr v q)
  obtain ⟨st', acc, rfl, hs, ha, hv⟩ := hI
  refine ⟨acc.take 60, st', ?_, hs, by simp; omega, fun x hx => hv x (List.mem_of_mem_take hx)⟩
  have es : sliceD (.list (acc.map .int)) none (some 60) = some (.list ((acc.take 60).map .int)) := by
    rw [slice_list immL_ints, cut_map]
    have := cut_to (xs := acc) (b := 60)
    simp only [Int.cast_ofNat_Int] at this
    rw [this]
  have it : tupleD [.list ((acc.take 60).map .int)] = some (tI (acc.take 60)) := tupleD_list immL_ints
  have ei : (iTpl (eReadP 1)) [.own st, .view (tI L), .own (.list []), .dead, .dead] = .ok (L.map .int, [.own st, .view (tI L), .own (.list []), .dead, .dead]) := by simp
  generalize tI (acc.take 60) = Z at it ⊢
  generalize ((acc.take 60).map PyData.int) = Y at es it
  generalize acc.map PyData.int = X at ef es
  generalize L.map PyData.int = W at ef ei
  generalize tI L = dL at ef ei ⊢
  simp [-iTpl_is, D__law_near, denOf_is, argEnv, f__law_near, ei, ef, es, it, oNone]
end FnT
end
section
set_option Elab.async false
set_option linter.all false
set_option maxRecDepth 100000
namespace FnT
open PySem PySem.Spec DV M69 HeadT
/-! bounds -/
theorem sum_in {M : Int} : ∀ {l : List Int}, (∀ x ∈ l, 0 ≤ x ∧ x ≤ M) → 0 ≤ l.sum ∧ l.sum ≤ l.length * M
  | [], _ => by simp
  | x :: l, h => by
    have h1 := h x List.mem_cons_self
    have ih := sum_in fun y hy => h y (List.mem_cons_of_mem _ hy)
    simp only [List.sum_cons, List.length_cons]
    rw [show ((l.length + 1 : Nat) : Int) = (l.length : Int) + 1 by omega, Int.add_mul]
    omega
theorem seg_in {L : List Int} (h : Sz L) (i u : Nat) : 0 ≤ seg L i u ∧ seg L i u ≤ 6000000 := by
  have hs : ∀ x ∈ (L.drop (i - u)).take (i - (i - u)), 0 ≤ x ∧ x ≤ 100000 := fun x hx => h.rng x (List.mem_of_mem_drop (List.mem_of_mem_take hx))
  have := sum_in hs
  have hl : ((L.drop (i - u)).take (i - (i - u))).length ≤ 60 := by
    rw [List.length_take, List.length_drop]
    have := h.len
    omega
  unfold seg
  omega
theorem getD_in {P : List Int} (h : ∀ x ∈ P, 0 ≤ x ∧ x ≤ 100000) (k : Nat) : 0 ≤ P.getD k 0 ∧ P.getD k 0 ≤ 100000 := by
  rw [List.getD_eq_getElem?_getD]
  cases e : P[k]? with
  | none => simp
  | some x => exact h x (List.mem_of_getElem? e)
theorem added_in {L R P : List Int} (hl : Sz L) (hr : Sz R) (hp : Pr P) (i j s : Nat) : 0 ≤ added L R P i j s ∧ added L R P i j s ≤ 20000000 := by
  have h1 := seg_in hl i (up s)
  have h2 := seg_in hr j (ov s)
  have h3 := getD_in hp.rng s
  unfold added ab
  split <;> omega
theorem T_in {L R P : List Int} (hl : Sz L) (hr : Sz R) (hp : Pr P) : ∀ (n i j : Nat), i + j ≤ n → 0 ≤ T L R P i j ∧ T L R P i j ≤ n * 20000000 := by
  intro n
  induction n with
  | zero =>
    intro i j h
    obtain rfl : i = 0 := by omega
    obtain rfl : j = 0 := by omega
    rw [T00]; simp
  | succ n ih =>
    intro i j h
    by_cases z : i + j = 0
    · obtain rfl : i = 0 := by omega
      obtain rfl : j = 0 := by omega
      rw [T00]; omega
    · obtain ⟨s, hs, a, b, e⟩ := T_ex (L := L) (R := R) (P := P) (i := i) (j := j) (by omega)
      have uo := up_ov hs
      have h1 := ih (i - up s) (j - ov s) (by omega)
      have h2 := added_in hl hr hp i j s
      omega
theorem T_small {L R P : List Int} (hl : Sz L) (hr : Sz R) (hp : Pr P) {i j : Nat} (hi : i ≤ L.length) (hj : j ≤ R.length) : (T L R P i j).natAbs < 10 ^ 20 := by
  have h1 := T_in hl hr hp (i + j) i j (Nat.le_refl _)
  have := hl.len
  have := hr.len
  omega
theorem tab_small {f : Nat → Nat → Int} {n m : Nat} (h : ∀ a b, a < m → b < n → (f a b).natAbs < 10 ^ 20) : smallD (tabD f n m) = true := by
  unfold tabD
  rw [smallD_tuple]
  refine smallL_map fun a ha => ?_
  rw [smallD_tuple]
  exact smallL_map fun b hb => by
    rw [smallD_int]
    exact decide_eq_true (h a b (by simpa using ha) (by simpa using hb))
theorem depthAll_le {α : Type} {f : α → D} {k : Nat} : ∀ {l : List α}, (∀ x ∈ l, (f x).depth ≤ k) → PyData.depthAll (l.map f) ≤ k
  | [], _ => by simp [PyData.depthAll]
  | x :: l, h => by
    have h1 := h x List.mem_cons_self
    have h2 := depthAll_le fun y hy => h y (List.mem_cons_of_mem _ hy)
    simp only [List.map_cons, PyData.depthAll]
    omega
theorem rw_depth {f : Nat → Int} {m : Nat} : (PyData.tuple (rw f m)).depth ≤ 1 := by
  have : PyData.depthAll (rw f m) ≤ 0 := depthAll_le fun b _ => by simp [PyData.depth]
  simp only [PyData.depth]
  omega
theorem tab_depth {f : Nat → Nat → Int} {n m : Nat} : (tabD f n m).depth ≤ 2 := by
  have : PyData.depthAll ((List.range m).map fun a => PyData.tuple (rw (f a) n)) ≤ 1 := depthAll_le fun a _ => rw_depth
  simp only [tabD, PyData.depth]
  omega
theorem tab_wt {f : Nat → Nat → Int} {n m : Nat} : wtD (tabD f n m) ≤ 3 + m * (3 + n * 23 + 2) := by
  unfold tabD
  rw [wtD_tuple]
  have h := wtL_map (f := fun a => PyData.tuple (rw (f a) n)) (l := List.range m) (k := 3 + n * 23) fun a _ => by
    rw [wtD_tuple]
    have := wtL_map (f := fun b => PyData.int (f a b)) (l := List.range n) (k := 21) fun b _ => by simp
    rw [List.length_range] at this
    unfold rw
    omega
  rw [List.length_range] at h
  omega
theorem prs_small : ∀ (ss : List Nat) (i j : Nat), i + j + ss.length * 4 < 10 ^ 19 → smallL (prs i j ss) = true
  | [], _, _, _ => rfl
  | s :: ss, i, j, h => by
    have h1 := up_le s
    have h2 := ov_le s
    simp only [List.length_cons] at h
    simp only [prs, smallL_cons, smallD_tuple, smallD_int, smallL_nil, Bool.and_true, Bool.and_eq_true, decide_eq_true_eq]
    exact ⟨⟨by omega, by omega, by omega, by omega⟩, prs_small ss _ _ (by omega)⟩
theorem prs_wt : ∀ (ss : List Nat) (i j : Nat), wtL (prs i j ss) ≤ ss.length * 97
  | [], _, _ => by simp [prs]
  | s :: ss, i, j => by
    have := prs_wt ss (i + up s) (j + ov s)
    simp only [prs, wtL_cons, wtD_tuple, wtD_int, wtL_nil, List.length_cons]
    omega
theorem prs_depth : ∀ (ss : List Nat) (i j : Nat), PyData.depthAll (prs i j ss) ≤ 1
  | [], _, _ => by simp [prs, PyData.depthAll]
  | s :: ss, i, j => by
    have := prs_depth ss (i + up s) (j + ov s)
    simp only [prs, PyData.depthAll, PyData.depth]
    omega
theorem nats_small {ss : List Nat} (h : ∀ s ∈ ss, s < 5) : smallL (ss.map fun (s : Nat) => PyData.int (s : Nat)) = true := smallL_map fun s hs => by
  rw [smallD_int]
  have := h s hs
  exact decide_eq_true (by omega)
theorem nats_wt {ss : List Nat} : wtL (ss.map fun (s : Nat) => PyData.int (s : Nat)) ≤ ss.length * 23 := wtL_map (k := 21) fun s _ => by simp
theorem nats_depth {ss : List Nat} : PyData.depthAll (ss.map fun (s : Nat) => PyData.int (s : Nat)) ≤ 0 := depthAll_le fun b _ => by simp [PyData.depth]
/-! one entry more -/
def bump (f : Nat → Nat → Int) (a b : Nat) : Nat → Nat → Int := fun i j => if i = a ∧ j = b then f i j + 1 else f i j
theorem cut_from {α : Type} {xs : List α} {b : Nat} : cut xs (some (b : Nat)) none = xs.drop b := by
  unfold cut
  rw [sIx_nat]
  have e : HT.sIx xs.length xs.length none = xs.length := rfl
  rw [e]
  by_cases h : b ≤ xs.length
  · rw [Nat.min_eq_left h, List.take_of_length_le (by simp)]
  · rw [Nat.min_eq_right (by omega), List.drop_of_length_le (Nat.le_refl _), List.drop_of_length_le (by omega)]
    simp
theorem put_map {α : Type} {g : Nat → α} {m k : Nat} {x : α} (h : k < m) : ((List.range m).map g).take k ++ x :: ((List.range m).map g).drop (k + 1) = (List.range m).map fun a => if a = k then x else g a := by
  have e := List.set_eq_take_append_cons_drop (l := (List.range m).map g) (i := k) (a := x)
  rw [if_pos (by simpa using h)] at e
  rw [← e]
  refine List.ext_getElem (by simp) fun i h1 h2 => ?_
  rw [List.getElem_set]
  simp only [List.getElem_map, List.getElem_range]
  by_cases c : k = i
  · rw [if_pos c, if_pos c.symm]
  · rw [if_neg c, if_neg (Ne.symm c)]
theorem bump_row {f : Nat → Nat → Int} {a b n : Nat} (h : b < n) : (rw (f a) n).take b ++ .int (f a b + 1) :: (rw (f a) n).drop (b + 1) = rw (bump f a b a) n := by
  unfold rw
  rw [put_map h]
  refine List.map_congr_left fun j _ => ?_
  unfold bump
  by_cases c : j = b
  · subst c; simp
  · simp [c]
theorem bump_tab {f : Nat → Nat → Int} {a b n m : Nat} (h : a < m) : ((List.range m).map fun i => PyData.tuple (rw (f i) n)).take a ++ .tuple (rw (bump f a b a) n) :: ((List.range m).map fun i => PyData.tuple (rw (f i) n)).drop (a + 1) = (List.range m).map fun i => PyData.tuple (rw (bump f a b i) n) := by
  rw [put_map h]
  refine List.map_congr_left fun i _ => ?_
  by_cases c : i = a
  · subst c; simp
  · rw [if_neg c]
    congr 1
    unfold rw
    refine List.map_congr_left fun j _ => ?_
    unfold bump
    rw [if_neg (fun z => c z.1)]
theorem more_ok {f : Nat → Nat → Int} {L R : List Int} {a b : Nat} (ha : a ≤ L.length) (hb : b ≤ R.length) (h1 : L.length ≤ 60) (h2 : R.length ≤ 60) : ∃ A1 A2 B1 B2 M1 M2 : D,
    sliceD (tabR f L R) none (some (a : Nat)) = some A1 ∧ sliceD (tabR f L R) (some ((a : Int) + 1)) none = some A2 ∧ ixD (tabR f L R) (.int (a : Nat)) = some (.tuple (rw (f a) (R.length + 1))) ∧
    sliceD (.tuple (rw (f a) (R.length + 1))) none (some (b : Nat)) = some B1 ∧ sliceD (.tuple (rw (f a) (R.length + 1))) (some ((b : Int) + 1)) none = some B2 ∧ ixD (.tuple (rw (f a) (R.length + 1))) (.int (b : Nat)) = some (.int (f a b)) ∧
    (∃ X, addD B1 (.tuple [.int (f a b + 1)]) = some X ∧ addD X B2 = some M1 ∧ imm M1 = true) ∧ ∃ Y, addD A1 (.tuple [M1]) = some Y ∧ addD Y A2 = some (tabR (bump f a b) L R) := by
  let TL : List D := (List.range (L.length + 1)).map fun i => PyData.tuple (rw (f i) (R.length + 1))
  have iT : immL TL = true := immL_map fun i _ => by simp [rw_imm]
  have lT : TL.length = L.length + 1 := by simp [TL]
  have iR : immL (rw (f a) (R.length + 1)) = true := rw_imm
  have lR : (rw (f a) (R.length + 1)).length = R.length + 1 := rw_len
  have sub : ∀ {xs : List D} {k : Nat}, immL xs = true → immL (xs.take k) = true ∧ immL (xs.drop k) = true := fun {xs k} h => by
    rw [immL_all] at h
    exact ⟨immL_all.mpr fun d hd => h d (List.mem_of_mem_take hd), immL_all.mpr fun d hd => h d (List.mem_of_mem_drop hd)⟩
  have iM : immL (rw (bump f a b a) (R.length + 1)) = true := rw_imm
  refine ⟨.tuple (TL.take a), .tuple (TL.drop (a + 1)), .tuple ((rw (f a) (R.length + 1)).take b), .tuple ((rw (f a) (R.length + 1)).drop (b + 1)), .tuple (rw (bump f a b a) (R.length + 1)), .none, ?_, ?_, tab_ix ha, ?_, ?_, trow_ix (by omega), ?_, ?_⟩
  · show sliceD (.tuple TL) _ _ = _
    rw [slice_tuple iT, cut_to]
  · show sliceD (.tuple TL) _ _ = _
    rw [slice_tuple iT, show (a : Int) + 1 = ((a + 1 : Nat) : Int) by omega, cut_from]
  · rw [slice_tuple iR, cut_to]
  · rw [slice_tuple iR, show (b : Int) + 1 = ((b + 1 : Nat) : Int) by omega, cut_from]
  · refine ⟨_, addD_tuple (sub iR).1 (by simp) (by simp; omega), ?_, by simp [iM]⟩
    rw [addD_tuple (by rw [immL_append, (sub iR).1]; simp) (sub iR).2 (by simp [lR]; omega), List.append_assoc]
    rw [show [PyData.int (f a b + 1)] ++ (rw (f a) (R.length + 1)).drop (b + 1) = .int (f a b + 1) :: (rw (f a) (R.length + 1)).drop (b + 1) from rfl, bump_row (by omega)]
  · refine ⟨_, addD_tuple (sub iT).1 (by simp [iM]) (by simp [lT]; omega), ?_⟩
    rw [addD_tuple (by rw [immL_append, (sub iT).1]; simp [iM]) (sub iT).2 (by simp [lT]; omega), List.append_assoc]
    rw [show [PyData.tuple (rw (bump f a b a) (R.length + 1))] ++ TL.drop (a + 1) = .tuple (rw (bump f a b a) (R.length + 1)) :: TL.drop (a + 1) from rfl]
    show some (PyData.tuple (TL.take a ++ _)) = _
    rw [show TL.take a ++ .tuple (rw (bump f a b a) (R.length + 1)) :: TL.drop (a + 1) = _ from bump_tab (by omega)]
    rfl
theorem v_good {L R P : List Int} : Verdict L R P (T L R P) (T L R P L.length R.length) (.ok (.none, .none)) :=
  .good (by rw [T00]; exact Int.le_refl _) (fun i j s _ _ hs ho => by
    have h' : up s ≤ i ∧ ov s ≤ j := by simpa [ok] using ho
    exact T_le hs h'.1 h'.2) (Int.le_refl _)
theorem v_price {L R P : List Int} : Verdict L R P (T L R P) (T L R P L.length R.length + 1) (.ex ⟨"PaperError", "reason", .str "price"⟩) :=
  .price (by rw [T00]; exact Int.le_refl _) (fun i j s _ _ hs ho => by
    have h' : up s ≤ i ∧ ov s ≤ j := by simpa [ok] using ho
    exact T_le hs h'.1 h'.2) (by omega)
theorem v_begin {L R P : List Int} {pr : Int} : Verdict L R P (bump (T L R P) 0 0) pr (.ex ⟨"PaperError", "reason", .str "begin"⟩) :=
  .begin (by simp [bump, T00])
theorem v_step {L R P : List Int} {pr : Int} {a b : Nat} (ha : a ≤ L.length) (hb : b ≤ R.length) (h : 0 < a + b) : Verdict L R P (bump (T L R P) a b) pr (.ex ⟨"PaperError", "reason", .str "step"⟩) := by
  refine .step ?_ ⟨a, ha, b, hb, ?_⟩
  · unfold bump
    rw [if_neg (by omega), T00]; exact Int.le_refl _
  · obtain ⟨s, hs, u, o, e⟩ := T_ex (L := L) (R := R) (P := P) h
    have uo := up_ov hs
    refine ⟨s, hs, fun z => ?_⟩
    have z := z (by simp [ok, u, o])
    unfold bump at z
    rw [if_pos ⟨rfl, rfl⟩, if_neg (by omega)] at z
    omega
end FnT
end
section
set_option Elab.async false
set_option linter.all false
set_option maxRecDepth 100000
set_option maxHeartbeats 4000000
namespace FnT
open PySem PySem.Spec DV M69 HeadT
/-! two texts hold -/
theorem prices_drawn {st : D} (h : St st) (a b c : Slot) : ∃ (P : List Int) (st' : D), Pr P ∧ (∀ x ∈ P, x ≤ 1000) ∧ St st' ∧
    eLc [13] (.nm 13) (iFn rng1D (aCons (eC (.int 5)) aNil)) tYesE (eFnIO 2 0 (D__law_draw) (zHere 0 (aCons (eFnIO 2 0 (D__law_pick) (zHere 0 (aCons (eLst (aCons (eC (.int 2)) (aCons (eC (.int 30)) aNil))) aNil))) aNil)))
      (.own st :: a :: b :: c :: List.replicate 12 .dead) = .ok (.list (P.map .int), .own st' :: a :: b :: c :: List.replicate 12 .dead) := by
  let I : DV.Env → Prop := fun env => ∃ st, St st ∧ env = .own st :: a :: b :: c :: List.replicate 12 .dead
  obtain ⟨ys, env2, el, hF, hI⟩ := lc_rel (vs := [13]) (t := .nm 13) (it := iFn rng1D (aCons (eC (.int 5)) aNil)) (c := tYesE) (e := eFnIO 2 0 (D__law_draw) (zHere 0 (aCons (eFnIO 2 0 (D__law_pick) (zHere 0 (aCons (eLst (aCons (eC (.int 2)) (aCons (eC (.int 30)) aNil))) aNil))) aNil)))
    (env := .own st :: a :: b :: c :: List.replicate 12 .dead) (env1 := .own st :: a :: b :: c :: List.replicate 12 .dead) (xs := List.range 5) (fun (i : Nat) => PyData.int (i : Int)) I (fun _ y => ∃ v, y = .int v ∧ (0 ≤ v ∧ v ≤ 1000)) (by simp [rng5]) (by simp) ⟨st, h, by simp [List.replicate]⟩ (by
    rintro x _ env ⟨st, hs, rfl⟩
    obtain ⟨m, s2, e2, h2, hm⟩ := pick_int hs (ns := [2, 30]) (by simp) (by simp)
    simp only [List.map_cons, List.map_nil] at e2
    have m1 : 2 ≤ m ∧ m ≤ 30 := by simp at hm; omega
    obtain ⟨v, s3, e3, h3, v0, v1⟩ := draw_ok h2 (m := m) (by omega) (by omega)
    exact ⟨_, _, .int v, _, rfl, by simp [List.replicate]; rfl, by simp [List.replicate, e2, e3]; rfl, ⟨v, rfl, v0, by omega⟩, s3, h3, by simp [List.replicate]⟩)
  obtain ⟨s3, h3, rfl⟩ := hI
  obtain ⟨P, rfl, hl, ha⟩ := f2_ints hF
  refine ⟨P, s3, ⟨by simpa using hl, fun x hx => ⟨(ha x hx).1, by have := (ha x hx).2; omega⟩⟩, fun x hx => (ha x hx).2, h3, ?_⟩
  rw [el]
  simp [List.replicate]
theorem sz_mul {L : List Int} {k : Int} (hl : L.length ≤ 60) (h : ∀ x ∈ L, 0 ≤ x ∧ x ≤ 1000) (h0 : 0 ≤ k) (h1 : k ≤ 100) : Sz (L.map (· * k)) ∧ ∀ x ∈ L.map (· * k), 0 ≤ x ∧ x ≤ 100000 := by
  have : ∀ x ∈ L.map (· * k), 0 ≤ x ∧ x ≤ 100000 := fun x hx => by
    obtain ⟨y, hy, rfl⟩ := List.mem_map.mp hx
    have hy' := h y hy
    have a1 : 0 ≤ y * k := Int.mul_nonneg hy'.1 h0
    have a2 : y * k ≤ 1000 * 100 := by
      have b1 : y * k ≤ 1000 * k := Int.mul_le_mul_of_nonneg_right hy'.2 h0
      have b2 : 1000 * k ≤ 1000 * 100 := Int.mul_le_mul_of_nonneg_left h1 (by omega)
      omega
    show 0 ≤ y * k ∧ y * k ≤ 100000
    omega
  exact ⟨⟨by simpa using hl, this⟩, this⟩
theorem wide_ok {L R P : List Int} {k : Int} (k0 : 0 ≤ k) (k1 : k ≤ 100) (l1 : L.length ≤ 60) (l2 : R.length ≤ 60) (l3 : P.length = 5) (s a4 a5 a6 : Slot) : eLc [14] (.nm 14) (iLst (eLst (aCons (eImm (eRead 1)) (aCons (eImm (eRead 2)) (aCons (eImm (eRead 3)) aNil))))) tYesE (eCall tupleD (aCons (eLc [15] (.nm 15) (iTpl (eReadP 14)) tYesE (eBin mulD (eRead 15) (eRead 7))) aNil))
      (s :: .own (tI L) :: .own (tI R) :: .own (tI P) :: a4 :: a5 :: a6 :: .own (.int k) :: List.replicate 8 .dead) = .ok (.list [tI (L.map (· * k)), tI (R.map (· * k)), tI (P.map (· * k))], s :: .own (tI L) :: .own (tI R) :: .own (tI P) :: a4 :: a5 :: a6 :: .own (.int k) :: List.replicate 8 .dead) := by
  have i1 : imm (tI L) = true := by simp
  have i2 : imm (tI R) = true := by simp
  have i3 : imm (tI P) = true := by simp
  have := lc_map (vs := [14]) (t := .nm 14) (it := iLst (eLst (aCons (eImm (eRead 1)) (aCons (eImm (eRead 2)) (aCons (eImm (eRead 3)) aNil))))) (e := eCall tupleD (aCons (eLc [15] (.nm 15) (iTpl (eReadP 14)) tYesE (eBin mulD (eRead 15) (eRead 7))) aNil)) (xs := [L, R, P]) tI (fun X => tI (X.map (· * k))) (env := s :: .own (tI L) :: .own (tI R) :: .own (tI P) :: a4 :: a5 :: a6 :: .own (.int k) :: List.replicate 8 .dead)
    (by
      have e0 : [L, R, P].map tI = [tI L, tI R, tI P] := rfl
      rw [e0]
      generalize tI L = a at *
      generalize tI R = b at *
      generalize tI P = c at *
      simp [List.replicate, i1, i2, i3]) (by simp) (fun X hX => ⟨_, rfl, by
      have hx : X.length ≤ 100 := by simp at hX; rcases hX with rfl | rfl | rfl <;> omega
      have e := lc_map (vs := [15]) (t := .nm 15) (it := iTpl (eReadP 14)) (e := eBin mulD (eRead 15) (eRead 7)) (xs := X) PyData.int (fun x => .int (x * k)) (env := s :: .own (tI L) :: .own (tI R) :: .own (tI P) :: a4 :: a5 :: a6 :: .own (.int k) :: [.dead, .dead, .dead, .dead, .dead, .dead, .view (tI X), .dead])
        (by simp) (by omega) (fun x hx => ⟨_, rfl, by simp [mulD_r (i := x) (j := k) (by omega) (by omega)]⟩) (by decide)
      have ev : X.map (fun x => PyData.int (x * k)) = (X.map (· * k)).map PyData.int := by rw [List.map_map]; rfl
      rw [ev] at e
      have it : tupleD [.list ((X.map (· * k)).map .int)] = some (tI (X.map (· * k))) := tupleD_list immL_ints
      generalize tI (X.map (· * k)) = Z at it ⊢
      generalize (X.map (· * k)).map PyData.int = Y at e it
      generalize tI X = dX at e ⊢
      generalize tI L = a at *
      generalize tI R = b at *
      generalize tI P = c at *
      simp [List.replicate, e, it]⟩) (by decide)
  exact this
theorem list5 {P : List Int} (h : P.length = 5) : ∃ a b c d e, P = [a, b, c, d, e] := by
  match P, h with
  | [a, b, c, d, e], _ => exact ⟨a, b, c, d, e, rfl⟩
theorem turned_ok {f : Nat → Nat → Int} {L R : List Int} (l1 : L.length ≤ 60) (l2 : R.length ≤ 60) (s p5 p6 p7 p8 p9 : Slot) (dP : Slot) : eLc [11] (.nm 11) (iFn rng1D (aCons (eBin addD (eCall lenD (aCons (eRead 2) aNil)) (eC (.int 1))) aNil)) tYesE (eCall tupleD (aCons (eLc [10] (.nm 10) (iFn rng1D (aCons (eBin addD (eCall lenD (aCons (eRead 1) aNil)) (eC (.int 1))) aNil)) tYesE (eImm (eIx (eIx (eRead 4) (eRead 10)) (eRead 11)))) aNil))
      (s :: .own (tI L) :: .own (tI R) :: dP :: .own (tabR f L R) :: p5 :: p6 :: p7 :: p8 :: p9 :: List.replicate 6 .dead) = .ok (.list ((List.range (R.length + 1)).map fun b => .tuple (rw (fun a => f a b) (L.length + 1))), s :: .own (tI L) :: .own (tI R) :: dP :: .own (tabR f L R) :: p5 :: p6 :: p7 :: p8 :: p9 :: List.replicate 6 .dead) := by
  have r1 : rng1D [.int ((R.length : Int) + 1)] = some ((List.range (R.length + 1)).map fun (i : Nat) => PyData.int (i : Int)) := rng1_nat (n := R.length + 1) (by omega)
  have r2 : rng1D [.int ((L.length : Int) + 1)] = some ((List.range (L.length + 1)).map fun (i : Nat) => PyData.int (i : Int)) := rng1_nat (n := L.length + 1) (by omega)
  have ll : lenD [tI L] = some (.int L.length) := by simp
  have lr : lenD [tI R] = some (.int R.length) := by simp
  have cell : ∀ a b, a ≤ L.length → b ≤ R.length → ∃ r, ixD (tabR f L R) (.int (a : Nat)) = some r ∧ ixD r (.int (b : Nat)) = some (.int (f a b)) := fun a b h1 h2 => ⟨_, tab_ix h1, trow_ix (by omega)⟩
  generalize tabR f L R = tb at *
  generalize tI L = dL at *
  generalize tI R = dR at *
  refine lc_map (xs := List.range (R.length + 1)) (fun (i : Nat) => PyData.int (i : Int)) _ (by simp [lr, r1]) (by simp; omega) (fun b hb => ⟨_, rfl, ?_⟩) (by decide)
  have hb' : b < R.length + 1 := by simpa using hb
  have e := lc_map (vs := [10]) (t := .nm 10) (it := iFn rng1D (aCons (eBin addD (eCall lenD (aCons (eRead 1) aNil)) (eC (.int 1))) aNil)) (e := eImm (eIx (eIx (eRead 4) (eRead 10)) (eRead 11))) (xs := List.range (L.length + 1)) (fun (i : Nat) => PyData.int (i : Int)) (fun a => .int (f a b)) (env := s :: .own dL :: .own dR :: dP :: .own tb :: p5 :: p6 :: p7 :: p8 :: p9 :: [.dead, .view (.int (b : Nat)), .dead, .dead, .dead, .dead])
    (by simp [ll, r2]) (by simp; omega) (fun a ha => ⟨_, rfl, by
      obtain ⟨r, c1, c2⟩ := cell a b (by simp at ha; omega) (by omega)
      simp [c1, c2]⟩) (by decide)
  have it : tupleD [.list ((List.range (L.length + 1)).map fun a => PyData.int (f a b))] = some (.tuple (rw (fun a => f a b) (L.length + 1))) := tupleD_list rw_imm
  generalize PyData.tuple (rw (fun a => f a b) (L.length + 1)) = Z at it ⊢
  generalize ((List.range (L.length + 1)).map fun a => PyData.int (f a b)) = Y at e it
  simp [List.replicate, e, it]
theorem ne_str {x : Str} : neD (.str x) (.str x) = some (.bool false) := by
  have := eqD_str (x := x)
  unfold eqD at this
  unfold neD
  by_cases c : (PyData.str x).plain = true ∧ (PyData.str x).plain = true ∧ (PyData.str x).depth ≤ 60
  · rw [if_pos c] at this ⊢
    have e := Option.some.inj this
    injection e with e
    rw [e]; rfl
  · rw [if_neg c] at this; cases this
theorem fin_ok {st : D} (h : St st) {L R P : List Int} (hl : Sz L) (hr : Sz R) (hp : Pr P) : ∃ (x : Bool) (st' : D), St st' ∧ x = true ∧ True := ⟨true, st, h, rfl, trivial⟩
theorem texts_hold_ok {st : D} (h : St st) : ∃ st', D__law_texts_hold [st] = .ok (.bool true, st') ∧ St st' := by
  obtain ⟨m1, s1, f1, h1, hm1⟩ := pick_int h (ns := [9, 30, 60]) (by simp) (by simp)
  have m1' : 9 ≤ m1 ∧ m1 ≤ 60 := by simp at hm1; omega
  have em : m1 = ((m1.toNat : Nat) : Int) := by omega
  obtain ⟨L, s2, f2, h2, lL, rL⟩ := text_ok h1 (most := m1.toNat) (by omega)
  rw [← em] at f2
  obtain ⟨A, s3, f3, h3, lA, rA⟩ := text_ok h2 (most := 40) (by omega)
  simp only [Int.cast_ofNat_Int] at f3
  obtain ⟨B, s4, f4, h4, lB, rB⟩ := near_ok h3 (L := L) (by omega) rL
  obtain ⟨dR, s5, f5, h5, hR⟩ := pick_ok h4 (xs := [tI A, tI B, tI L]) (by simp) (by simp) (by simp)
  have hRR : ∃ R : List Int, dR = tI R ∧ R.length ≤ 60 ∧ ∀ x ∈ R, 0 ≤ x ∧ x ≤ 1000 := by
    simp only [List.mem_cons, List.not_mem_nil, or_false] at hR
    rcases hR with rfl | rfl | rfl
    · exact ⟨A, rfl, by omega, fun x hx => by have := rA x hx; omega⟩
    · exact ⟨B, rfl, lB, rB⟩
    · exact ⟨L, rfl, by omega, fun x hx => by have := rL x hx; omega⟩
  obtain ⟨R, rfl, lR, rR⟩ := hRR
  have rL' : ∀ x ∈ L, 0 ≤ x ∧ x ≤ 1000 := fun x hx => by have := rL x hx; omega
  have lL' : L.length ≤ 60 := by omega
  have hl : Sz L := ⟨lL', fun x hx => by have := rL x hx; omega⟩
  have hr : Sz R := ⟨lR, fun x hx => by have := rR x hx; omega⟩
  obtain ⟨P, s6, hp, pP, h6, f6⟩ := prices_drawn h5 (.own (tI L)) .dead .dead
  obtain ⟨k, s7, f7, h7, hk⟩ := pick_int h6 (ns := [2, 9, 100]) (by simp) (by simp)
  have k' : 2 ≤ k ∧ k ≤ 100 := by simp at hk; omega
  simp only [List.map_cons, List.map_nil] at f1 f7
  have t1 := ltable_ok (L := L) (R := R) hp.len (by omega) (by omega)
  have t2 := lrow_ok hl hr hp
  have t3 := tab_ok hl hr hp
  have t4 := aligned_ok hl hr hp
  have rl := row_len (L := L) (R := R) (P := P)
  have rt := row_lt (L := L) (R := R) (P := P)
  have t5 := pairs_ok rt (by omega)
  have t6 := lpairs_ok rt (by omega)
  have er : rowD L R P = .tuple ((row L R P).map fun (s : Nat) => PyData.int (s : Nat)) := rfl
  rw [← er] at t5 t6
  have et : tabD (T L R P) (R.length + 1) (L.length + 1) = tabR (T L R P) L R := rfl
  rw [et] at t3
  have w1 := wide_ok (L := L) (R := R) (P := P) (k := k) (by omega) (by omega) lL' lR hp.len (.own s7) (.own (tabR (T L R P) L R)) (.own (rowD L R P)) (.own (.int (T L R P L.length R.length)))
  obtain ⟨zl, _⟩ := sz_mul (k := k) lL' rL' (by omega) (by omega)
  obtain ⟨zr, _⟩ := sz_mul (k := k) lR rR (by omega) (by omega)
  obtain ⟨_, zp⟩ := sz_mul (L := P) (k := k) (by have := hp.len; omega) (fun x hx => ⟨(hp.rng x hx).1, pP x hx⟩) (by omega) (by omega)
  have t7 := aligned_ok zl zr (⟨by simpa using hp.len, zp⟩ : Pr (P.map (· * k)))
  have erw : rowD (L.map (· * k)) (R.map (· * k)) (P.map (· * k)) = rowD L R P := by
    unfold rowD row
    rw [back_mul (by omega), List.length_map, List.length_map]
  rw [erw, List.length_map, List.length_map, T_mul (by omega)] at t7
  obtain ⟨p0, p1, p2, p3, p4, eP⟩ := list5 hp.len
  have hp' : Pr [p0, p2, p1, p4, p3] := ⟨rfl, fun x hx => hp.rng x (by rw [eP]; simp at hx ⊢; omega)⟩
  have t8 := tab_ok hr hl hp'
  have t9 := turned_ok (f := T L R P) lL' lR (.own s7) (.own (rowD L R P)) (.own (.int (T L R P L.length R.length))) (.own (.int k)) (.own (.list [tI (L.map (· * k)), tI (R.map (· * k)), tI (P.map (· * k))])) (.own (tabD (T R L [p0, p2, p1, p4, p3]) (L.length + 1) (R.length + 1))) (.own (tI P))
  have t10 : tupleD [.list ((List.range (R.length + 1)).map fun b => .tuple (rw (fun a => T L R P a b) (L.length + 1)))] = some (tabD (T R L [p0, p2, p1, p4, p3]) (L.length + 1) (R.length + 1)) := by
    have : (fun b => fun a => T L R P a b) = T R L [p0, p2, p1, p4, p3] := by
      funext b a
      rw [eP, T_sw]
    rw [tupleD_list (immL_map fun b _ => by simp [rw_imm])]
    unfold tabD
    rw [← this]
  have t11 := aligned_ok hl hl hp
  have td := T_diag (L := L) (P := P) L.length
  have t12 := accept_ok hl hr hp
  have t13 := refused_ok hl hr hp (v_good (L := L) (R := R) (P := P))
  have t14 := refused_ok hl hr hp (v_price (L := L) (R := R) (P := P))
  simp only [told] at t13 t14
  -- what repr tells
  have q1 := same_ok (d := .list [tabR (T L R P) L R, .tuple [.int (T L R P L.length R.length), rowD L R P], .tuple (prs 0 0 (row L R P))]) (by
    have a1 : smallD (tabR (T L R P) L R) = true := tab_small fun a b ha hb => T_small hl hr hp (by omega) (by omega)
    have a2 : smallD (rowD L R P) = true := by rw [er, smallD_tuple]; exact nats_small rt
    have a3 := prs_small (row L R P) 0 0 (by omega)
    have a4 := T_small hl hr hp (Nat.le_refl L.length) (Nat.le_refl R.length)
    simp [a1, a2, a3]
    omega) (by
    have a1 : (tabR (T L R P) L R).depth ≤ 2 := tab_depth
    have a2 : (rowD L R P).depth ≤ 1 := by rw [er]; have := nats_depth (ss := row L R P); simp only [PyData.depth]; omega
    have a3 := prs_depth (row L R P) 0 0
    simp only [PyData.depth, PyData.depthAll]
    omega) (by
    have a1 : wtD (tabR (T L R P) L R) ≤ 3 + (L.length + 1) * (3 + (R.length + 1) * 23 + 2) := tab_wt
    have a2 : wtD (rowD L R P) ≤ 3 + 120 * 23 := by rw [er, wtD_tuple]; have := nats_wt (ss := row L R P); omega
    have a3 := prs_wt (row L R P) 0 0
    have a5 : (L.length + 1) * (3 + (R.length + 1) * 23 + 2) ≤ 61 * (3 + 61 * 23 + 2) := Nat.mul_le_mul (by omega) (by omega)
    simp only [wtD_list, wtL_cons, wtD_tuple, wtD_int, wtL_nil]
    omega)
  have q2 := same_ok (d := .tuple [.int (T L R P L.length R.length * k), rowD L R P]) (by
    have a2 : smallD (rowD L R P) = true := by rw [er, smallD_tuple]; exact nats_small rt
    have a4 := T_in hl hr hp (L.length + R.length) L.length R.length (Nat.le_refl _)
    have b1 : T L R P L.length R.length * k ≤ 2400000000 * 100 := by
      have c1 : T L R P L.length R.length * k ≤ 2400000000 * k := Int.mul_le_mul_of_nonneg_right (by omega) (by omega)
      have c2 : 2400000000 * k ≤ 2400000000 * 100 := Int.mul_le_mul_of_nonneg_left k'.2 (by omega)
      omega
    have b0 : 0 ≤ T L R P L.length R.length * k := Int.mul_nonneg a4.1 (by omega)
    simp only [smallD_tuple, smallL_cons, smallD_int, a2, smallL_nil, Bool.and_true, decide_eq_true_eq]
    omega) (by
    have a2 : (rowD L R P).depth ≤ 1 := by rw [er]; have := nats_depth (ss := row L R P); simp only [PyData.depth]; omega
    simp only [PyData.depth, PyData.depthAll]
    omega) (by
    have a2 : wtD (rowD L R P) ≤ 3 + 120 * 23 := by rw [er, wtD_tuple]; have := nats_wt (ss := row L R P); omega
    simp only [wtL_cons, wtD_tuple, wtD_int, wtL_nil]
    omega)
  have q3 := same_ok (d := tabD (T R L [p0, p2, p1, p4, p3]) (L.length + 1) (R.length + 1)) (tab_small fun a b ha hb => T_small hr hl hp' (by omega) (by omega)) (Nat.le_trans tab_depth (by omega)) (by
    have a1 := tab_wt (f := T R L [p0, p2, p1, p4, p3]) (n := L.length + 1) (m := R.length + 1)
    have a5 : (R.length + 1) * (3 + (L.length + 1) * 23 + 2) ≤ 61 * (3 + 61 * 23 + 2) := Nat.mul_le_mul (by omega) (by omega)
    omega)
  have c3 : ∃ r0, ixD (tabR (T L R P) L R) (.int (-1)) = some r0 ∧ ixD r0 (.int (-1)) = some (.int (T L R P L.length R.length)) := by
    refine ⟨.tuple (rw (T L R P L.length) (R.length + 1)), ?_, ?_⟩
    · show L2.atI _ _ = _
      rw [atI_last (by simp), last_get]
    · show L2.atI _ _ = _
      rw [atI_last (by simp [rw]), rw, last_get]
  obtain ⟨r3, c3, c4⟩ := c3
  have x0 : ixD (tI P) (.int 0) = some (.int p0) := by rw [eP]; exact tix0
  have x1 : ixD (tI P) (.int 1) = some (.int p1) := by rw [eP]; exact tix1
  have x2 : ixD (tI P) (.int 2) = some (.int p2) := by rw [eP]; exact tix2
  have x3 : ixD (tI P) (.int 3) = some (.int p3) := by rw [eP]; exact ixD_tuple (k := 3)
  have x4 : ixD (tI P) (.int 4) = some (.int p4) := by rw [eP]; exact ixD_tuple (k := 4)
  have pb := hp.rng p0 (by rw [eP]; simp)
  have pd : P.getD 0 0 = p0 := by rw [eP]; rfl
  rw [pd] at td
  have td' : ¬ p0 * (L.length : Nat) < T L L P L.length L.length := by omega
  have mu : mulD (.int p0) (.int (L.length : Nat)) = some (.int (p0 * (L.length : Nat))) := mulD_l (by omega) (by omega)
  have mk : mulD (.int (T L R P L.length R.length)) (.int k) = some (.int (T L R P L.length R.length * k)) := mulD_r (by omega) (by omega)
  have iL : imm (tI L) = true := by simp
  have itb : imm (tabR (T L R P) L R) = true := by
    have : immL ((List.range (L.length + 1)).map fun a => PyData.tuple (rw (T L R P a) (R.length + 1))) = true := immL_map fun a _ => by simp [rw_imm]
    simpa [tabR, tabD] using this
  have irD : imm (rowD L R P) = true := by
    have : immL ((row L R P).map fun (s : Nat) => PyData.int (s : Nat)) = true := immL_map fun _ _ => rfl
    simpa [rowD] using this
  have itb2 : imm (tabD (T R L [p0, p2, p1, p4, p3]) (L.length + 1) (R.length + 1)) = true := by
    have : immL ((List.range (R.length + 1)).map fun a => PyData.tuple (rw (T R L [p0, p2, p1, p4, p3] a) (L.length + 1))) = true := immL_map fun a _ => by simp [rw_imm]
    simpa [tabD] using this
  have ll : lenD [tI L] = some (.int L.length) := by simp
  have lr : lenD [tI R] = some (.int R.length) := by simp
  have itP : tupleD [.list (P.map .int)] = some (tI P) := tupleD_list immL_ints
  have n1 := ne_str (x := "")
  have n2 := ne_str (x := "price")
  have ix0 : ∀ a b c : D, ixD (.list [a, b, c]) (.int 0) = some a := fun a b c => ixD_list (k := 0)
  have ix1 : ∀ a b c : D, ixD (.list [a, b, c]) (.int 1) = some b := fun a b c => ixD_list (k := 1)
  have ix2 : ∀ a b c : D, ixD (.list [a, b, c]) (.int 2) = some c := fun a b c => ixD_list (k := 2)
  have t8' : D_table [tI R, tI L, .tuple [.int p0, .int p2, .int p1, .int p4, .int p3]] = .ok (tabD (T R L [p0, p2, p1, p4, p3]) (L.length + 1) (R.length + 1), .none) := t8
  simp only [List.replicate] at f6 w1 t9
  by_cases hz : 0 < L.length + R.length
  · obtain ⟨a, s8, f8, h8, a0, a1⟩ := draw_ok h7 (m := (L.length : Int) + 1) (by omega) (by omega)
    obtain ⟨b, s9, f9, h9, b0, b1⟩ := draw_ok h8 (m := (R.length : Int) + 1) (by omega) (by omega)
    have ea : a = ((a.toNat : Nat) : Int) := by omega
    have eb : b = ((b.toNat : Nat) : Int) := by omega
    obtain ⟨A1, A2, B1, B2, M1, M2, y1, y2, y3, y4, y5, y6, ⟨X, y7, y8, y9⟩, Y, y10, y11⟩ := more_ok (f := T L R P) (L := L) (R := R) (a := a.toNat) (b := b.toNat) (by omega) (by omega) lL' lR
    rw [← ea] at y1 y2 y3
    rw [← eb] at y4 y5 y6
    have fin : D__law_refused [tI L, tI R, tI P, .int (T L R P L.length R.length), tabR (bump (T L R P) a.toNat b.toNat) L R] = .ok (.str (if a = 0 ∧ b = 0 then "begin" else "step"), .none) := by
      by_cases z : a = 0 ∧ b = 0
      · obtain ⟨rfl, rfl⟩ := z
        have := refused_ok hl hr hp (v_begin (L := L) (R := R) (P := P) (pr := T L R P L.length R.length))
        simpa [told] using this
      · rw [if_neg z]
        have := refused_ok hl hr hp (v_step (L := L) (R := R) (P := P) (pr := T L R P L.length R.length) (a := a.toNat) (b := b.toNat) (by omega) (by omega) (by omega))
        simpa [told] using this
    have hz' : (0 : Int) < (L.length : Nat) + (R.length : Nat) := by omega
    refine ⟨s9, ?_, h9⟩
    generalize tabR (bump (T L R P) a.toNat b.toNat) L R = mD at *
    generalize PyData.tuple (rw (T L R P a.toNat) (R.length + 1)) = aD at *
    generalize T L R P a.toNat b.toNat = cell at *
    generalize rowD L L P = rLL at *
    generalize T L L P L.length L.length = tLL at *
    generalize ((List.range (R.length + 1)).map fun b => PyData.tuple (rw (fun a => T L R P a b) (L.length + 1))) = trn at *
    generalize tabD (T R L [p0, p2, p1, p4, p3]) (L.length + 1) (R.length + 1) = tb2 at *
    generalize tabR (T L R P) L R = tb at *
    generalize T L R P L.length R.length = t at *
    generalize PyData.tuple (prs 0 0 (row L R P)) = Z at *
    generalize rowD L R P = rD at *
    generalize tI (L.map (· * k)) = wL at *
    generalize tI (R.map (· * k)) = wR at *
    generalize tI (P.map (· * k)) = wP at *
    generalize P.map PyData.int = Pl at *
    generalize tI A = dA at *
    generalize tI B = dB at *
    generalize tI P = dP at *
    generalize tI R = dR at *
    generalize tI L = dL at *
    have fe : eqD (.str (if a = 0 ∧ b = 0 then "begin" else "step")) (.str (if a = 0 ∧ b = 0 then "begin" else "step")) = some (.bool true) := eqD_str
    by_cases z : a = 0
    · by_cases z2 : b = 0
      · rw [if_pos ⟨z, z2⟩] at fin fe
        subst z z2
        simp only [Int.zero_add] at y2 y5
        simp [D__law_texts_hold, denOf_is, argEnv, f__law_texts_hold, f1, f2, f3, f4, f5, f6, itP, f7, t1, t2, t3, t4, t5, t6, q1, q2, q3, w1, t7, t8', t9, t10, t11, td', t12, t13, t14, c3, c4, x0, x1, x2, x3, x4, mu, mk, iL, itb, irD, itb2, ll, lr, n1, n2, ix0, ix1, ix2, tix0, hz', f8, f9, y1, y2, y3, y4, y5, y6, y7, y8, y9, y10, y11, fin, fe]
      · rw [if_neg (fun q => z2 q.2)] at fin fe
        subst z
        simp only [Int.zero_add] at y2
        simp [D__law_texts_hold, denOf_is, argEnv, f__law_texts_hold, f1, f2, f3, f4, f5, f6, itP, f7, t1, t2, t3, t4, t5, t6, q1, q2, q3, w1, t7, t8', t9, t10, t11, td', t12, t13, t14, c3, c4, x0, x1, x2, x3, x4, mu, mk, iL, itb, irD, itb2, ll, lr, n1, n2, ix0, ix1, ix2, tix0, hz', f8, f9, y1, y2, y3, y4, y5, y6, y7, y8, y9, y10, y11, fin, fe, z2]
    · rw [if_neg (fun q => z q.1)] at fin fe
      simp [D__law_texts_hold, denOf_is, argEnv, f__law_texts_hold, f1, f2, f3, f4, f5, f6, itP, f7, t1, t2, t3, t4, t5, t6, q1, q2, q3, w1, t7, t8', t9, t10, t11, td', t12, t13, t14, c3, c4, x0, x1, x2, x3, x4, mu, mk, iL, itb, irD, itb2, ll, lr, n1, n2, ix0, ix1, ix2, tix0, hz', f8, f9, y1, y2, y3, y4, y5, y6, y7, y8, y9, y10, y11, fin, fe, z]
  · have z1 : L = [] := List.eq_nil_of_length_eq_zero (by omega)
    have hz' : ¬ (0 : Int) < (L.length : Nat) + (R.length : Nat) := by omega
    refine ⟨s7, ?_, h7⟩
    generalize rowD L L P = rLL at *
    generalize T L L P L.length L.length = tLL at *
    generalize ((List.range (R.length + 1)).map fun b => PyData.tuple (rw (fun a => T L R P a b) (L.length + 1))) = trn at *
    generalize tabD (T R L [p0, p2, p1, p4, p3]) (L.length + 1) (R.length + 1) = tb2 at *
    generalize tabR (T L R P) L R = tb at *
    generalize T L R P L.length R.length = t at *
    generalize PyData.tuple (prs 0 0 (row L R P)) = Z at *
    generalize rowD L R P = rD at *
    generalize tI (L.map (· * k)) = wL at *
    generalize tI (R.map (· * k)) = wR at *
    generalize tI (P.map (· * k)) = wP at *
    generalize P.map PyData.int = Pl at *
    generalize tI A = dA at *
    generalize tI B = dB at *
    generalize tI P = dP at *
    generalize tI R = dR at *
    generalize tI L = dL at *
    generalize L.length = nL at *
    simp [D__law_texts_hold, denOf_is, argEnv, f__law_texts_hold, f1, f2, f3, f4, f5, f6, itP, f7, t1, t2, t3, t4, t5, t6, q1, q2, q3, w1, t7, t8', t9, t10, t11, td', t12, t13, t14, c3, c4, x0, x1, x2, x3, x4, mu, mk, iL, itb, irD, itb2, ll, lr, n1, n2, ix0, ix1, ix2, tix0, hz']
end FnT
end
section
set_option Elab.async false
set_option linter.all false
set_option maxRecDepth 100000
namespace P69
open M69
/-! pages -/
def used (W : List Int) (f e : Nat) : Int := ((W.drop f).take (e - f)).sum
def cst (W : List Int) (H : Int) (f e : Nat) : Int := if e = W.length then 0 else (H - used W f e) * (H - used W f e)
abbrev vld (W : List Int) (H : Int) (e f : Nat) : Bool := decide (used W f e ≤ H)
def wy (g : Nat → Int) (W : List Int) (H : Int) (e : Nat) : List Int := ((List.range e).filter (vld W H e)).map fun f => g f + cst W H f e
def Gn (W : List Int) (H : Int) : Nat → Nat → Int
  | 0, _ => 0
  | n + 1, e => if e = 0 then 0 else minL (wy (Gn W H n) W H e)
def G (W : List Int) (H : Int) (e : Nat) : Int := Gn W H (e + 1) e
section
variable {W : List Int} {H : Int}
theorem Gn_more : ∀ (n m e : Nat), e < n → e < m → Gn W H n e = Gn W H m e
  | 0, _, _, h, _ => absurd h (by omega)
  | _ + 1, 0, _, _, h => absurd h (by omega)
  | n + 1, m + 1, e, h1, h2 => by
    unfold Gn wy
    by_cases z : e = 0
    · rw [if_pos z, if_pos z]
    · rw [if_neg z, if_neg z]
      congr 1
      refine List.map_congr_left fun f hf => ?_
      have : f < e := by simpa using (List.mem_filter.mp hf).1
      rw [Gn_more n m f (by omega) (by omega)]
theorem G_zero : G W H 0 = 0 := rfl
theorem G_eq {e : Nat} (h : 0 < e) : G W H e = minL (wy (G W H) W H e) := by
  show Gn W H (e + 1) e = _
  unfold Gn wy
  rw [if_neg (by omega)]
  congr 1
  refine List.map_congr_left fun f hf => ?_
  have : f < e := by simpa using (List.mem_filter.mp hf).1
  unfold G
  rw [Gn_more e (f + 1) f (by omega) (by omega)]
structure Low (W : List Int) (H : Int) : Prop where
  nn : ∀ x ∈ W, 0 ≤ x
  le : ∀ x ∈ W, x ≤ H
theorem used_one {e : Nat} (h : 0 < e) (he : e ≤ W.length) : ∃ x ∈ W, used W (e - 1) e = x := by
  refine ⟨W[e - 1], List.getElem_mem _, ?_⟩
  unfold used
  rw [show e - (e - 1) = 1 by omega]
  have : W.drop (e - 1) = W[e - 1] :: W.drop (e - 1 + 1) := List.drop_eq_getElem_cons (show e - 1 < W.length by omega)
  rw [this, List.take_succ_cons, List.take_zero]
  simp
theorem wy_ne (L : Low W H) {g : Nat → Int} {e : Nat} (h : 0 < e) (he : e ≤ W.length) : wy g W H e ≠ [] := by
  obtain ⟨x, hx, ex⟩ := used_one (W := W) h he
  intro z
  have z2 := List.map_eq_nil_iff.mp z
  have : e - 1 ∈ (List.range e).filter (vld W H e) := List.mem_filter.mpr ⟨by simp; omega, by simp [vld, ex, L.le x hx]⟩
  rw [z2] at this
  cases this
def hitP (W : List Int) (H : Int) (e f : Nat) : Bool := vld W H e f && decide (G W H f + cst W H f e = G W H e)
def pk (W : List Int) (H : Int) (e : Nat) : Nat := ((List.range e).find? (hitP W H e)).getD 0
theorem find_range {p : Nat → Bool} {n : Nat} (h : ∃ k, k < n ∧ p k = true) : ((List.range n).find? p).getD 0 < n ∧ p (((List.range n).find? p).getD 0) = true ∧ ∀ j, j < ((List.range n).find? p).getD 0 → p j = false := by
  obtain ⟨s, hs, hp⟩ := h
  cases q : (List.range n).find? p with
  | none => exact absurd hp (by simpa using List.find?_eq_none.mp q s (by simpa using hs))
  | some t =>
    have h1 := List.mem_of_find?_eq_some q
    have h2 := List.find?_some q
    refine ⟨by simpa using h1, h2, fun s hs => ?_⟩
    obtain ⟨_, as, bs, e1, e2⟩ := List.find?_eq_some_iff_append.mp q
    have hn : n = as.length + (bs.length + 1) := by
      have : (List.range n).length = as.length + (bs.length + 1) := by rw [e1]; simp
      simpa using this
    have hl : as.length = t := by
      have e3 : (List.range n)[as.length]? = some t := by rw [e1]; simp
      rw [List.getElem?_range (by omega)] at e3
      simpa using e3
    have e4 : s ∈ as := by
      simp only [Option.getD_some] at hs
      have : (List.range n)[s]? = some s := List.getElem?_range (by omega)
      rw [e1, List.getElem?_append_left (by omega)] at this
      exact List.mem_of_getElem? this
    simpa using e2 s e4
theorem pk_ok (L : Low W H) {e : Nat} (h : 0 < e) (he : e ≤ W.length) : pk W H e < e ∧ hitP W H e (pk W H e) = true ∧ ∀ f, f < pk W H e → hitP W H e f = false := by
  refine find_range ?_
  have m := minL_mem (wy_ne L (g := G W H) h he)
  rw [← G_eq h] at m
  obtain ⟨f, hf, e1⟩ := List.mem_map.mp m
  obtain ⟨h1, h2⟩ := List.mem_filter.mp hf
  exact ⟨f, by simpa using h1, by simp only [hitP, h2, Bool.true_and, decide_eq_true_eq]; exact e1⟩
def path (W : List Int) (H : Int) : Nat → Nat → List Nat
  | 0, _ => []
  | n + 1, e => if e = 0 then [] else path W H n (pk W H e) ++ [e]
theorem path_more (L : Low W H) : ∀ (n m e : Nat), e ≤ n → e ≤ m → e ≤ W.length → path W H n e = path W H m e
  | 0, 0, _, _, _, _ => rfl
  | 0, m + 1, e, h, _, _ => by
    obtain rfl : e = 0 := by omega
    unfold path
    rw [if_pos rfl]
  | n + 1, 0, e, _, h, _ => by
    obtain rfl : e = 0 := by omega
    unfold path
    rw [if_pos rfl]
  | n + 1, m + 1, e, h1, h2, h3 => by
    unfold path
    by_cases z : e = 0
    · rw [if_pos z, if_pos z]
    · rw [if_neg z, if_neg z]
      have := (pk_ok L (e := e) (by omega) h3).1
      rw [path_more L n m (pk W H e) (by omega) (by omega) (by omega)]
def pth (W : List Int) (H : Int) (e : Nat) : List Nat := path W H e e
theorem pth_zero : pth W H 0 = [] := rfl
theorem pth_succ (L : Low W H) {e : Nat} (h : 0 < e) (he : e ≤ W.length) : pth W H e = pth W H (pk W H e) ++ [e] := by
  have h1 := (pk_ok L h he).1
  unfold pth
  rw [path_more L e (e - 1 + 1) e (by omega) (by omega) he]
  rw [path, if_neg (by omega)]
  rw [path_more L (e - 1) (pk W H e) (pk W H e) (by omega) (by omega) (by omega)]
theorem pth_bd (L : Low W H) : ∀ (n e : Nat), e ≤ n → e ≤ W.length → (pth W H e).length ≤ e ∧ ∀ x ∈ pth W H e, 0 < x ∧ x ≤ e
  | 0, e, h, _ => by
    obtain rfl : e = 0 := by omega
    exact ⟨by simp [pth_zero], fun x hx => by simp [pth_zero] at hx⟩
  | n + 1, e, h, he => by
    by_cases z : e = 0
    · subst z; exact ⟨by simp [pth_zero], fun x hx => by simp [pth_zero] at hx⟩
    · have h1 := (pk_ok L (e := e) (by omega) he).1
      obtain ⟨a, b⟩ := pth_bd L n (pk W H e) (by omega) (by omega)
      rw [pth_succ L (by omega) he]
      refine ⟨by simp; omega, fun x hx => ?_⟩
      rcases List.mem_append.mp hx with q | q
      · have := b x q; omega
      · have : x = e := by simpa using q
        omega
/-- the pages from one end to the next -/
def segs (W : List Int) (H : Int) : Nat → Nat → List (Nat × Nat)
  | 0, _ => []
  | n + 1, e => if e = 0 then [] else segs W H n (pk W H e) ++ [(pk W H e, e)]
theorem zip_snoc : ∀ (Q : List Nat) (h e : Nat), (h :: (Q ++ [e])).zip (Q ++ [e]) = (h :: Q).zip Q ++ [((h :: Q).getLast (List.cons_ne_nil _ _), e)]
  | [], h, e => rfl
  | q :: Q, h, e => by
    have := zip_snoc Q q e
    simp only [List.cons_append, List.zip_cons_cons]
    rw [this]
    simp
theorem last_snoc : ∀ (Q : List Nat) (a e : Nat), (a :: (Q ++ [e])).getLast (List.cons_ne_nil _ _) = e
  | [], a, e => rfl
  | q :: Q, a, e => by
    have := last_snoc Q q e
    simp only [List.cons_append] at this ⊢
    rw [List.getLast_cons (List.cons_ne_nil _ _)]
    exact this
theorem pth_last (L : Low W H) {e : Nat} (he : e ≤ W.length) : (0 :: pth W H e).getLast (List.cons_ne_nil _ _) = e := by
  by_cases z : e = 0
  · subst z; rfl
  · have : 0 :: pth W H e = (0 :: pth W H (pk W H e)) ++ [e] := by rw [pth_succ L (by omega) he]; rfl
    simp only [this, List.cons_append, last_snoc]
theorem zip_pth (L : Low W H) : ∀ (n e : Nat), e ≤ n → e ≤ W.length → (0 :: pth W H e).zip (pth W H e) = segs W H n e
  | 0, e, h, _ => by
    obtain rfl : e = 0 := by omega
    rfl
  | n + 1, e, h, he => by
    unfold segs
    by_cases z : e = 0
    · subst z; rfl
    · have h1 := (pk_ok L (e := e) (by omega) he).1
      rw [if_neg z, pth_succ L (by omega) he, zip_snoc, zip_pth L n _ (by omega) (by omega), pth_last L (by omega)]
/-! the least of pairs -/
def fmin (v : Nat → Int) : Nat → List Nat → Nat
  | c, [] => c
  | c, f :: l => fmin v (if v f < v c then f else c) l
theorem fmin_spec (v : Nat → Int) : ∀ (l : List Nat) (c : Nat), (∀ f ∈ l, c < f) → l.Pairwise (· < ·) → v (fmin v c l) = (l.map v).foldl min (v c) ∧ (fmin v c l = c ∨ fmin v c l ∈ l) ∧ (∀ f, (f = c ∨ f ∈ l) → f < fmin v c l → v (fmin v c l) < v f)
  | [], c, _, _ => ⟨rfl, .inl rfl, fun f hf hl => by
    rcases hf with rfl | hf
    · exact absurd hl (Nat.lt_irrefl _)
    · cases hf⟩
  | g :: l, c, hc, hp => by
    obtain ⟨p1, p2⟩ := List.pairwise_cons.mp hp
    have hcg := hc g List.mem_cons_self
    unfold fmin
    by_cases z : v g < v c
    · rw [if_pos z]
      obtain ⟨a1, a2, a3⟩ := fmin_spec v l g p1 p2
      refine ⟨by rw [a1]; simp only [List.map_cons, List.foldl_cons]; rw [show min (v c) (v g) = v g by omega], .inr ?_, fun f hf hl => ?_⟩
      · rcases a2 with e | e
        · rw [e]; exact List.mem_cons_self
        · exact List.mem_cons_of_mem _ e
      · have le : v (fmin v g l) ≤ v g := by rw [a1]; exact (foldl_min_le _ _).1
        rcases hf with rfl | hf
        · omega
        · rcases List.mem_cons.mp hf with rfl | hf
          · exact a3 f (.inl rfl) hl
          · exact a3 f (.inr hf) hl
    · rw [if_neg z]
      obtain ⟨a1, a2, a3⟩ := fmin_spec v l c (fun f hf => hc f (List.mem_cons_of_mem _ hf)) p2
      refine ⟨by rw [a1]; simp only [List.map_cons, List.foldl_cons]; rw [show min (v c) (v g) = v c by omega], a2.imp id (List.mem_cons_of_mem _), fun f hf hl => ?_⟩
      rcases hf with rfl | hf
      · exact a3 f (.inl rfl) hl
      · rcases List.mem_cons.mp hf with rfl | hf
        · have := a3 c (.inl rfl) (by omega)
          omega
        · exact a3 f (.inr hf) hl
theorem fmin_pk (L : Low W H) {e : Nat} (h : 0 < e) (he : e ≤ W.length) {c : Nat} {l : List Nat} (hl : (List.range e).filter (vld W H e) = c :: l) : fmin (fun f => G W H f + cst W H f e) c l = pk W H e := by
  have pw : (c :: l).Pairwise (· < ·) := by
    rw [← hl]
    exact List.Pairwise.filter _ List.pairwise_lt_range
  obtain ⟨p1, p2⟩ := List.pairwise_cons.mp pw
  obtain ⟨a1, a2, a3⟩ := fmin_spec (fun f => G W H f + cst W H f e) l c p1 p2
  obtain ⟨b1, b2, b3⟩ := pk_ok L h he
  have ge : G W H e = (l.map fun f => G W H f + cst W H f e).foldl min (G W H c + cst W H c e) := by
    rw [G_eq h]
    unfold wy
    rw [hl]
    rfl
  generalize fmin (fun f => G W H f + cst W H f e) c l = k at *
  have km : k ∈ (List.range e).filter (vld W H e) := by
    rw [hl]
    rcases a2 with q | q
    · rw [q]; exact List.mem_cons_self
    · exact List.mem_cons_of_mem _ q
  obtain ⟨k1, k2⟩ := List.mem_filter.mp km
  have kh : hitP W H e k = true := by
    simp only [hitP, k2, Bool.true_and, decide_eq_true_eq]
    rw [ge]; exact a1
  have bm : pk W H e ∈ c :: l := by
    rw [← hl]
    simp only [hitP, Bool.and_eq_true] at b2
    exact List.mem_filter.mpr ⟨by simpa using b1, b2.1⟩
  have be : G W H (pk W H e) + cst W H (pk W H e) e = G W H e := by
    simp only [hitP, Bool.and_eq_true, decide_eq_true_eq] at b2
    exact b2.2
  rcases Nat.lt_trichotomy k (pk W H e) with q | q | q
  · rw [b3 k q] at kh; cases kh
  · exact q
  · have := a3 (pk W H e) (List.mem_cons.mp bm) q
    omega
theorem used_nn (L : Low W H) (f e : Nat) : 0 ≤ used W f e := by
  have : ∀ l : List Int, (∀ x ∈ l, 0 ≤ x) → 0 ≤ l.sum := fun l => by
    induction l with
    | nil => simp
    | cons x l ih =>
      intro h
      have h1 := h x List.mem_cons_self
      have h2 := ih fun y hy => h y (List.mem_cons_of_mem _ hy)
      simp only [List.sum_cons]
      omega
  exact this _ fun x hx => L.nn x (List.mem_of_mem_drop (List.mem_of_mem_take hx))
theorem cst_in (L : Low W H) {e f : Nat} (hv : vld W H e f = true) : 0 ≤ cst W H f e ∧ cst W H f e ≤ H * H := by
  have h1 := used_nn L f e
  have h2 : used W f e ≤ H := by simpa [vld] using hv
  unfold cst
  split
  · exact ⟨Int.le_refl _, Int.mul_nonneg (by omega) (by omega)⟩
  · exact ⟨Int.mul_nonneg (by omega) (by omega), Int.mul_le_mul (by omega) (by omega) (by omega) (by omega)⟩
theorem G_in (L : Low W H) : ∀ (n e : Nat), e ≤ n → e ≤ W.length → 0 ≤ G W H e ∧ G W H e ≤ n * (H * H)
  | 0, e, h, _ => by
    obtain rfl : e = 0 := by omega
    rw [G_zero]; simp
  | n + 1, e, h, he => by
    by_cases z : e = 0
    · subst z
      rw [G_zero]
      by_cases w : W = []
      · refine ⟨Int.le_refl _, Int.mul_nonneg (by omega) ?_⟩
        rcases Int.le_total 0 H with q | q
        · exact Int.mul_nonneg q q
        · exact Int.mul_nonneg_of_nonpos_of_nonpos q q
      · refine ⟨Int.le_refl _, Int.mul_nonneg (by omega) ?_⟩
        rcases Int.le_total 0 H with q | q
        · exact Int.mul_nonneg q q
        · exact Int.mul_nonneg_of_nonpos_of_nonpos q q
    · obtain ⟨b1, b2, _⟩ := pk_ok L (e := e) (by omega) he
      simp only [hitP, Bool.and_eq_true, decide_eq_true_eq] at b2
      have c := cst_in L (e := e) (f := pk W H e) (by simpa [vld] using b2.1)
      have ih := G_in L n (pk W H e) (by omega) (by omega)
      rw [← b2.2, show ((n + 1 : Nat) : Int) = (n : Int) + 1 by omega, Int.add_mul]
      omega
end
end P69
end
section
set_option Elab.async false
set_option linter.all false
set_option maxRecDepth 100000
namespace FnT
open PySem PySem.Spec DV M69 P69 HeadT
/-! rows on pages -/
def pD (p : Int × Int) : D := .tuple [.int p.1, .int p.2]
abbrev rsD (rs : List (Int × Int)) : D := .tuple (rs.map pD)
def hs (rs : List (Int × Int)) : List Int := rs.map fun p => max p.1 p.2
structure Rs (rs : List (Int × Int)) : Prop where
  l0 : 1 ≤ rs.length
  l1 : rs.length ≤ 60
  rng : ∀ p ∈ rs, 0 ≤ p.1 ∧ p.1 ≤ 1000 ∧ 0 ≤ p.2 ∧ p.2 ≤ 1000
theorem maxT {a b : Int} : maxD1 [.tuple [.int a, .int b]] = some (.int (max a b)) := by
  have h : immL ([.int a, .int b] : List D) = true ∧ PySem.W.AlikeAll ([.int a, .int b] : List D) ∧ PyData.depthAll ([.int a, .int b] : List D) ≤ 60 := ⟨by simp, alike_ints [a, b], by have := depthAll_ints [a, b]; simp only [List.map_cons, List.map_nil] at this; omega⟩
  unfold maxD1
  simp only
  rw [if_pos h]
  have := PySem.W.maxD_ints a [b]
  simp only [List.map_cons, List.map_nil, List.foldl_cons, List.foldl_nil] at this
  rw [this]
theorem rows_plain (rs : List (Int × Int)) : PyData.plain (rsD rs) = true := by
  have : PyData.plainAll (rs.map pD) = true := plainAll_imm _ (immL_map fun p _ => by simp [pD])
  simp [PyData.plain, this]
theorem rows_imm (rs : List (Int × Int)) : immL (rs.map pD) = true := immL_map fun p _ => by simp [pD]
theorem check_rows_ok {rs : List (Int × Int)} (h : Rs rs) : D_check_rows [rsD rs] = .ok (.none, .none) := by
  have ef := for_list (ks := [1]) (t := .nm 1) (b := l0_check_rows) (env := [.view (rsD rs), .dead, .dead]) (fun _ => [.view (rsD rs), .dead, .dead]) (rs.map pD) rfl fun i hi => by
    have hi' : i < rs.length := by simpa using hi
    have hp := h.rng rs[i] (List.getElem_mem hi')
    generalize rsD rs = dR
    have ec : eLc [2] (.nm 2) (iTpl (eReadP 1)) tYesE (eAnd (eFn 1 (D_is_integer) (aCons (eRead 2) aNil)) (eChain (eC (.int 0)) (cLink leD (eRead 2) (cLast leD (eC (.int 100000)))))) [.view dR, .view (pD rs[i]), .dead] = .ok (.list ([rs[i].1, rs[i].2].map fun _ => .bool true), [.view dR, .view (pD rs[i]), .dead]) :=
      lc_map (xs := [rs[i].1, rs[i].2]) PyData.int (fun _ => .bool true) (by simp [pD]) (by simp) (fun x hx => ⟨_, rfl, by
        have hx' : 0 ≤ x ∧ x ≤ 100000 := by
          simp at hx
          rcases hx with rfl | rfl <;> omega
        simp [is_integer_int, hx']⟩) (by decide)
    have ea : allD [.list ([rs[i].1, rs[i].2].map fun _ => .bool true)] = some (.bool true) := allD_true
    generalize ([rs[i].1, rs[i].2].map fun _ => PyData.bool true) = B at ec ea
    refine ⟨[.view dR, .view (pD rs[i]), .dead], [.view dR, .view (pD rs[i]), .dead], by simp, .inl ?_, by simp⟩
    have q1 : PyData.isTuple (pD rs[i]) = true := rfl
    have q2 : PyData.plain (pD rs[i]) = true := by simp [pD, PyData.plain, PyData.plainAll]
    have q3 : lenD [pD rs[i]] = some (.int 2) := by simp [pD]
    generalize pD rs[i] = P at *
    simp [l0_check_rows, q1, q2, q3, ec, ea]
  have q1 : PyData.isTuple (rsD rs) = true := rfl
  have q2 := rows_plain rs
  have q3 : lenD [rsD rs] = some (.int rs.length) := by simp
  have q4 : (1 : Int) ≤ (rs.length : Nat) := by have := h.l0; omega
  have q5 : ((rs.length : Nat) : Int) ≤ 60 := by have := h.l1; omega
  have ei : (iTpl (eReadP 0)) [.view (rsD rs), .dead, .dead] = .ok (rs.map pD, [.view (rsD rs), .dead, .dead]) := by simp
  generalize rs.map pD = W at *
  generalize hd : rsD rs = dR at *
  simp [-iTpl_is, D_check_rows, denOf_is, argEnv, f_check_rows, q1, q2, q3, q4, q5, ei, ef]
theorem check_height_ok {H : Int} (h0 : 1 ≤ H) (h1 : H ≤ 100000) : D_check_height [.int H] = .ok (.none, .none) := by
  simp [D_check_height, denOf_is, argEnv, f_check_height, is_integer_int, h0, h1]
theorem height_ok {rs : List (Int × Int)} (h : Rs rs) {f e : Nat} (he : e ≤ rs.length) : D_height_of [rsD rs, .int (f : Nat), .int (e : Nat)] = .ok (.int (used (hs rs) f e), .none) := by
  have es : sliceD (rsD rs) (some (f : Nat)) (some (e : Nat)) = some (.tuple (((rs.drop f).take (e - f)).map pD)) := by
    rw [slice_tuple (rows_imm rs), cut_map, cut_nat he]
  have e2 : eLc [3] (.nm 3) (iTpl (eSl (eRead 0) (oSome (eRead 1)) (oSome (eRead 2)))) tYesE (eCall maxD1 (aCons (eRead 3) aNil)) [.view (rsD rs), .view (.int (f : Nat)), .view (.int (e : Nat)), .dead] = .ok (.list (((rs.drop f).take (e - f)).map fun p => .int (max p.1 p.2)), [.view (rsD rs), .view (.int (f : Nat)), .view (.int (e : Nat)), .dead]) := by
    refine lc_map (xs := (rs.drop f).take (e - f)) pD (fun p => .int (max p.1 p.2)) ?_ ?_ (fun p _ => ⟨_, rfl, ?_⟩) (by decide)
    · generalize ((rs.drop f).take (e - f)).map pD = X at es ⊢
      generalize rsD rs = dR at es ⊢
      simp [es]
    · have := h.l1; simp; omega
    · simp [pD, maxT]
  have e3 : sumD [.list (((rs.drop f).take (e - f)).map fun p => PyData.int (max p.1 p.2))] = some (.int (used (hs rs) f e)) := by
    have : ((rs.drop f).take (e - f)).map (fun p => PyData.int (max p.1 p.2)) = (((hs rs).drop f).take (e - f)).map PyData.int := by
      unfold hs
      rw [← List.map_drop, ← List.map_take, List.map_map]
      rfl
    rw [this, sumD_ints]
    rfl
  generalize ((rs.drop f).take (e - f)).map (fun p => PyData.int (max p.1 p.2)) = X at e2 e3
  generalize rsD rs = dR at *
  simp [D_height_of, denOf_is, argEnv, f_height_of, e2, e3]
theorem hs_len {rs : List (Int × Int)} : (hs rs).length = rs.length := by simp [hs]
/-! prices of pages -/
def gL (W : List Int) (H : Int) (e : Nat) : List D := (List.range e).map fun k => .int (G W H k)
theorem gL_len {W : List Int} {H : Int} {e : Nat} : (gL W H e).length = e := by simp [gL]
theorem gL_ix {W : List Int} {H : Int} {e k : Nat} (h : k < e) : ixD (.list (gL W H e)) (.int (k : Nat)) = some (.int (G W H k)) := by
  rw [ixD_list]
  simp [gL, h]
theorem gL_succ {W : List Int} {H : Int} {e : Nat} : gL W H (e + 1) = gL W H e ++ [.int (G W H e)] := by simp [gL, List.range_succ]
abbrev pstep (W : List Int) (H : Int) (e : Nat) (acc : List Int) (f : Nat) : List Int := if vld W H e f = true then acc ++ [G W H f + cst W H f e] else acc
abbrev GA (dR : D) (H : Int) (found : List D) (e : Nat) (acc : List Int) : DV.Env := [.view dR, .view (.int H), .own (.list found), .view (.int (e : Nat)), .own (.list (acc.map .int)), .dead, .dead]
theorem sq_ok {H : Int} {W : List Int} (L : Low W H) (h1 : H ≤ 100000) {f e : Nat} (hv : vld W H e f = true) : mulD (.int (H - used W f e)) (.int (H - used W f e)) = some (.int ((H - used W f e) * (H - used W f e))) := by
  have a := used_nn L f e
  have b : used W f e ≤ H := by simpa [vld] using hv
  exact mulD_l (by omega) (by omega)
theorem price_step {rs : List (Int × Int)} (h : Rs rs) {H : Int} (h1 : H ≤ 100000) (L : Low (hs rs) H) {e : Nat} (he : e ≤ rs.length) {acc : List Int} (ha : acc.length < 100) {f : Nat} (hf : f < e) :
    ∃ e1 e2, bindV (.nm 5) (.int (f : Nat)) (GA (rsD rs) H (gL (hs rs) H e) e acc) = some e1 ∧ l0_page_prices e1 = .ok (.nx e2) ∧ killS [5, 6] e2 = GA (rsD rs) H (gL (hs rs) H e) e (pstep (hs rs) H e acc f) := by
  have ho := height_ok h (f := f) he
  have ix := gL_ix (W := hs rs) (H := H) hf
  have hz : acc.length < 16000000 := by omega
  have ll : lenD [rsD rs] = some (.int rs.length) := by simp
  generalize gL (hs rs) H e = gl at *
  generalize rsD rs = dR at *
  by_cases hv : vld (hs rs) H e f = true
  · have hv' : 0 ≤ H - used (hs rs) f e := by have : used (hs rs) f e ≤ H := by simpa [vld] using hv
                                              omega
    have sq := sq_ok L h1 hv
    have hu : used (hs rs) f e ≤ H := by omega
    refine ⟨[.view dR, .view (.int H), .own (.list gl), .view (.int (e : Nat)), .own (.list (acc.map .int)), .view (.int (f : Nat)), .dead], [.view dR, .view (.int H), .own (.list gl), .view (.int (e : Nat)), .own (.list (acc.map .int ++ [.int (G (hs rs) H f + cst (hs rs) H f e)])), .view (.int (f : Nat)), .own (.int (H - used (hs rs) f e))], by simp, ?_, by simp only [GA, pstep, hv, if_true]; simp⟩
    by_cases c : e = rs.length
    · have hc : cst (hs rs) H f e = 0 := by unfold cst; rw [hs_len, if_pos c]
      subst c
      simp [l0_page_prices, ho, ix, hu, ll, hz, hc]
    · have hc : cst (hs rs) H f e = (H - used (hs rs) f e) * (H - used (hs rs) f e) := by unfold cst; rw [hs_len, if_neg c]
      have c' : ¬ ((e : Nat) : Int) = (rs.length : Nat) := by omega
      simp [l0_page_prices, ho, ix, hu, ll, hz, hc, c', sq]
  · have hv' : ¬ 0 ≤ H - used (hs rs) f e := by
      have : ¬ used (hs rs) f e ≤ H := by simpa [vld] using hv
      omega
    refine ⟨[.view dR, .view (.int H), .own (.list gl), .view (.int (e : Nat)), .own (.list (acc.map .int)), .view (.int (f : Nat)), .dead], [.view dR, .view (.int H), .own (.list gl), .view (.int (e : Nat)), .own (.list (acc.map .int)), .view (.int (f : Nat)), .own (.int (H - used (hs rs) f e))], by simp, ?_, by simp only [GA, pstep, hv]; simp⟩
    have hu : ¬ used (hs rs) f e ≤ H := by omega
    simp [l0_page_prices, ho, ix, hu]
theorem pfold {W : List Int} {H : Int} {e : Nat} : (List.range e).foldl (pstep W H e) [] = wy (G W H) W H e := by
  unfold wy pstep
  rw [foldl_app (vld W H e) (fun f => G W H f + cst W H f e)]
  rfl
theorem prices_turn {rs : List (Int × Int)} (h : Rs rs) {H : Int} (h1 : H ≤ 100000) (L : Low (hs rs) H) {e : Nat} (e0 : 0 < e) (he : e ≤ rs.length) :
    ∃ e1 e2, bindV (.nm 3) (.int (e : Nat)) [.view (rsD rs), .view (.int H), .own (.list (gL (hs rs) H e)), .dead, .dead, .dead, .dead] = some e1 ∧ l1_page_prices e1 = .ok (.nx e2) ∧ killS [3, 4, 5, 6] e2 = [.view (rsD rs), .view (.int H), .own (.list (gL (hs rs) H (e + 1))), .dead, .dead, .dead, .dead] := by
  have l1 := h.l1
  have ef := (for_foldN (ks := [5, 6]) (t := .nm 5) (b := l0_page_prices) (E := GA (rsD rs) H (gL (hs rs) H e) e) (J := fun m acc => acc.length ≤ m) (step := pstep (hs rs) H e) (fun (f : Nat) => PyData.int (f : Nat)) (List.range e) 0 (GA (rsD rs) H (gL (hs rs) H e) e []) [] rfl (by simp)
    fun m acc hk hm f hf => by
      have hk : m < e := by simpa using hk
      obtain ⟨e1, e2, a1, a2, a3⟩ := price_step h h1 L he (acc := acc) (show acc.length < 100 by omega) (f := f) (by simpa using hf)
      refine ⟨e1, e2, a1, .inl a2, a3, ?_⟩
      unfold pstep
      split
      · simp; omega
      · omega).1
  rw [pfold] at ef
  have ne := wy_ne L (g := G (hs rs) H) e0 (by rw [hs_len]; exact he)
  have hm := min_ok ne
  rw [← G_eq e0] at hm
  have er : rng1D [.int (e : Nat)] = some ((List.range e).map fun (i : Nat) => PyData.int (i : Int)) := rng1_nat (by omega)
  have hz : (gL (hs rs) H e).length < 16000000 := by rw [gL_len]; omega
  have tr : truthD (.list ((wy (G (hs rs) H) (hs rs) H e).map PyData.int)) = some true := by
    simp [ne]
  rw [gL_succ]
  simp only [GA, List.map_nil] at ef
  generalize (wy (G (hs rs) H) (hs rs) H e).map PyData.int = Wy at *
  generalize gL (hs rs) H e = gl at *
  generalize rsD rs = dR at *
  refine ⟨[.view dR, .view (.int H), .own (.list gl), .view (.int (e : Nat)), .dead, .dead, .dead], [.view dR, .view (.int H), .own (.list (gl ++ [.int (G (hs rs) H e)])), .view (.int (e : Nat)), .own (.list Wy), .dead, .dead], by simp, ?_, by simp⟩
  simp [-truth_list, l1_page_prices, er, ef, tr, hm, hz]
theorem prices_pages {rs : List (Int × Int)} (h : Rs rs) {H : Int} (h1 : H ≤ 100000) (L : Low (hs rs) H) : D_page_prices [rsD rs, .int H] = .ok (.list (gL (hs rs) H (rs.length + 1)), .none) := by
  have l0 := h.l0
  have l1 := h.l1
  have er : rng2D [.int 1, .int ((rs.length : Int) + 1)] = some ((List.range rs.length).map fun (i : Nat) => PyData.int ((1 + i : Nat) : Int)) := by
    have := rng2_nat (lo := 1) (n := rs.length) (by omega)
    rwa [show ((1 + rs.length : Nat) : Int) = (rs.length : Int) + 1 by omega] at this
  have ef := for_range (ks := [3, 4, 5, 6]) (t := .nm 3) (b := l1_page_prices) (env := [.view (rsD rs), .view (.int H), .own (.list [.int 0]), .dead, .dead, .dead, .dead])
    (fun i => [.view (rsD rs), .view (.int H), .own (.list (gL (hs rs) H (i + 1))), .dead, .dead, .dead, .dead]) (fun (i : Nat) => PyData.int ((1 + i : Nat) : Int)) (m := rs.length) rfl fun i hi => by
    obtain ⟨e1, e2, a1, a2, a3⟩ := prices_turn h h1 L (e := i + 1) (by omega) (by omega)
    refine ⟨e1, e2, ?_, .inl a2, a3⟩
    rw [show 1 + i = i + 1 by omega]
    exact a1
  have ll : lenD [rsD rs] = some (.int rs.length) := by simp
  simp only [kill_cons, kill_nil, List.set_cons_succ, List.set_cons_zero] at ef
  generalize ((List.range rs.length).map fun (i : Nat) => PyData.int ((1 + i : Nat) : Int)) = RL at er ef
  generalize gL (hs rs) H (rs.length + 1) = gl at *
  generalize rsD rs = dR at *
  simp [D_page_prices, denOf_is, argEnv, f_page_prices, ll, er, ef]
end FnT
end
section
set_option Elab.async false
set_option linter.all false
set_option maxRecDepth 100000
namespace FnT
open PySem PySem.Spec DV M69 P69 HeadT
/-! pages judged -/
def hi (W : List Int) (H : Int) : List Nat := (List.range W.length).filter fun k => decide (H < W.getD k 0)
theorem hs_get {rs : List (Int × Int)} {k : Nat} (h : k < rs.length) : (hs rs).getD k 0 = max (rs.getD k (0, 0)).1 (rs.getD k (0, 0)).2 := by
  simp [hs, h]
theorem low_of {rs : List (Int × Int)} (h : Rs rs) {H : Int} (e : hi (hs rs) H = []) : Low (hs rs) H := by
  refine ⟨fun x hx => ?_, fun x hx => ?_⟩
  · obtain ⟨p, hp, rfl⟩ := List.mem_map.mp hx
    have := h.rng p hp
    omega
  · obtain ⟨k, hk, ek⟩ := List.getElem_of_mem hx
    have h2 := List.filter_eq_nil_iff.mp e k (by simpa using hk)
    simp only [decide_eq_true_eq] at h2
    rw [List.getD_eq_getElem?_getD, List.getElem?_eq_getElem hk, ek] at h2
    simp at h2
    exact h2
theorem high_list {rs : List (Int × Int)} (h : Rs rs) {H : Int} (a b c d e f : Slot) : eLc [8, 9] (.tp ((.nm 8) :: ((.nm 9) :: []))) (iFn enumTD (aCons (eReadP 0) aNil)) (eT (eBin gtD (eCall maxD1 (aCons (eRead 9) aNil)) (eRead 1))) (eImm (eRead 8)) [.view (rsD rs), .view (.int H), a, b, c, d, e, f, .dead, .dead] =
    .ok (.list ((hi (hs rs) H).map fun (k : Nat) => .int (k : Nat)), [.view (rsD rs), .view (.int H), a, b, c, d, e, f, .dead, .dead]) := by
  have ev : (rs.map pD).mapIdx (fun i d => PyData.tuple [.int (i : Nat), d]) = (List.range rs.length).map fun k => .tuple [.int (k : Nat), pD (rs.getD k (0, 0))] := by
    refine List.ext_getElem (by simp) fun i h1 h2 => ?_
    have hi : i < rs.length := by simpa using h2
    simp [hi]
  have ee : enumTD [rsD rs] = some ((List.range rs.length).map fun k => .tuple [.int (k : Nat), pD (rs.getD k (0, 0))]) := by
    rw [enumTD_tuple, ev]
  have := lc_pure (vs := [8, 9]) (t := .tp ((.nm 8) :: ((.nm 9) :: []))) (it := iFn enumTD (aCons (eReadP 0) aNil)) (c := eT (eBin gtD (eCall maxD1 (aCons (eRead 9) aNil)) (eRead 1))) (e := eImm (eRead 8)) (env := [.view (rsD rs), .view (.int H), a, b, c, d, e, f, .dead, .dead]) (xs := List.range rs.length) (fun k => PyData.tuple [.int (k : Nat), pD (rs.getD k (0, 0))]) (fun (k : Nat) => .int (k : Nat)) (fun k => decide (H < (hs rs).getD k 0))
    (by
      generalize rsD rs = dR at *
      simp [ee]) (by have := h.l1; simp; omega) (fun k hk => by
      have hk' : k < rs.length := by simpa using hk
      generalize rsD rs = dR at *
      refine ⟨[.view dR, .view (.int H), a, b, c, d, e, f, .view (.int (k : Nat)), .view (pD (rs.getD k (0, 0)))], by simp, ?_, fun _ => by simp⟩
      rw [hs_get hk']
      simp [pD, maxT]) (by decide)
  rw [this]
  unfold hi
  rw [hs_len]
abbrev JA (dR : D) (H : Int) (hg : D) (gl : List D) (acc : List D) : DV.Env := [.view dR, .view (.int H), .own hg, .own (.list gl), .own (.list acc), .dead, .dead, .dead, .dead, .dead]
theorem last_ix {xs : List D} {x : D} : ixD (.list (xs ++ [x])) (.int (-1)) = some x := by
  show L2.atI _ _ = _
  rw [atI_last (by simp)]
  simp
theorem judge_step {rs : List (Int × Int)} (h : Rs rs) {H : Int} (h1 : H ≤ 100000) (L : Low (hs rs) H) {e : Nat} (e0 : 0 < e) (he : e ≤ rs.length) {hg : D} {acc : List D} (ha : acc.length < 1000) :
    ∃ e2, l1_judge_pages (JA (rsD rs) H hg (gL (hs rs) H (rs.length + 1)) (acc ++ [.int (e : Nat)])) = .ok (.nx e2) ∧ killS [5, 6, 7] e2 = JA (rsD rs) H hg (gL (hs rs) H (rs.length + 1)) (acc ++ [.int (e : Nat)] ++ [.int (pk (hs rs) H e : Nat)]) := by
  obtain ⟨k1, k2, k3⟩ := pk_ok L e0 (by rw [hs_len]; exact he)
  have l1 := h.l1
  have ho := fun f => height_ok h (f := f) he
  have ix := fun f (hf : f < e) => gL_ix (W := hs rs) (H := H) (e := rs.length + 1) (k := f) (by omega)
  have ixe := gL_ix (W := hs rs) (H := H) (e := rs.length + 1) (k := e) (by omega)
  have sq := fun f hv => sq_ok L h1 (e := e) (f := f) hv
  have ll : lenD [rsD rs] = some (.int rs.length) := by simp
  have er : rng1D [.int (e : Nat)] = some ((List.range e).map fun (i : Nat) => PyData.int (i : Int)) := rng1_nat (by omega)
  have li := last_ix (xs := acc) (x := .int (e : Nat))
  have hz : (acc ++ [PyData.int (e : Nat)]).length < 16000000 := by simp; omega
  have hc : ∀ f, cst (hs rs) H f e = if e = rs.length then 0 else (H - used (hs rs) f e) * (H - used (hs rs) f e) := fun f => by unfold cst; rw [hs_len]
  simp only [JA]
  generalize acc ++ [PyData.int (e : Nat)] = A at *
  generalize gL (hs rs) H (rs.length + 1) = gl at *
  generalize rsD rs = dR at *
  generalize hK : pk (hs rs) H e = k at *
  -- one turn
  have turn : ∀ f, f < e → l0_judge_pages [.view dR, .view (.int H), .own hg, .own (.list gl), .own (.list A), .own (.int (e : Nat)), .view (.int (f : Nat)), .dead, .dead, .dead] =
      if hitP (hs rs) H e f = true then .ok (.bk [.view dR, .view (.int H), .own hg, .own (.list gl), .own (.list (A ++ [.int (f : Nat)])), .own (.int (e : Nat)), .view (.int (f : Nat)), .own (.int (H - used (hs rs) f e)), .dead, .dead])
      else .ok (.nx [.view dR, .view (.int H), .own hg, .own (.list gl), .own (.list A), .own (.int (e : Nat)), .view (.int (f : Nat)), .own (.int (H - used (hs rs) f e)), .dead, .dead]) := fun f hf => by
    have o := ho f
    have i1 := ix f hf
    by_cases hv : vld (hs rs) H e f = true
    · have hu : used (hs rs) f e ≤ H := by simpa [vld] using hv
      have s := sq f hv
      have c := hc f
      have hh : hitP (hs rs) H e f = decide (G (hs rs) H f + cst (hs rs) H f e = G (hs rs) H e) := by simp only [hitP, hv, Bool.true_and]
      rw [hh]
      by_cases ce : e = rs.length
      · rw [if_pos ce] at c
        rw [c]
        subst ce
        by_cases q : G (hs rs) H f + 0 = G (hs rs) H rs.length
        · have q' : G (hs rs) H f = G (hs rs) H rs.length := by omega
          simp [l0_judge_pages, o, i1, ixe, hu, ll, hz, q']
        · have q' : ¬ G (hs rs) H f = G (hs rs) H rs.length := by omega
          simp [l0_judge_pages, o, i1, ixe, hu, ll, hz, q']
      · rw [if_neg ce] at c
        rw [c]
        have ce' : ¬ ((e : Nat) : Int) = (rs.length : Nat) := by omega
        by_cases q : G (hs rs) H f + (H - used (hs rs) f e) * (H - used (hs rs) f e) = G (hs rs) H e
        · simp [l0_judge_pages, o, i1, ixe, hu, ll, hz, ce', q, s]
        · simp [l0_judge_pages, o, i1, ixe, hu, ll, hz, ce', q, s]
    · have hu : ¬ used (hs rs) f e ≤ H := by simpa [vld] using hv
      have hh : hitP (hs rs) H e f = false := by simp [hitP, vld, hu]
      rw [hh]
      simp [l0_judge_pages, o, hu]
  have ef := for_range_out (ks := [6, 7]) (t := .nm 6) (b := l0_judge_pages) (env := [.view dR, .view (.int H), .own hg, .own (.list gl), .own (.list A), .own (.int (e : Nat)), .dead, .dead, .dead, .dead]) (fun _ => [.view dR, .view (.int H), .own hg, .own (.list gl), .own (.list A), .own (.int (e : Nat)), .dead, .dead, .dead, .dead]) (fun (i : Nat) => PyData.int (i : Int)) (m := e) (k := k) k1 rfl (fun f hf => by
      exact ⟨_, [.view dR, .view (.int H), .own hg, .own (.list gl), .own (.list A), .own (.int (e : Nat)), .view (.int (f : Nat)), .own (.int (H - used (hs rs) f e)), .dead, .dead], by simp, .inl ((turn f (by omega)).trans (by rw [k3 f hf]; rfl)), by simp⟩)
    (e1 := [.view dR, .view (.int H), .own hg, .own (.list gl), .own (.list A), .own (.int (e : Nat)), .view (.int (k : Nat)), .dead, .dead, .dead]) (by simp) (turn k k1) (by rw [if_pos k2]; exact .inr (.inr ⟨_, rfl⟩))
  rw [if_pos k2] at ef
  simp only [outOf] at ef
  refine ⟨[.view dR, .view (.int H), .own hg, .own (.list gl), .own (.list (A ++ [.int (k : Nat)])), .own (.int (e : Nat)), .view (.int (k : Nat)), .own (.int (H - used (hs rs) k e)), .dead, .dead], ?_, by simp⟩
  simp [l1_judge_pages, li, er, ef]
theorem judge_loop {rs : List (Int × Int)} (h : Rs rs) {H : Int} (h1 : H ≤ 100000) (L : Low (hs rs) H) {hg : D} : ∀ (n e : Nat), e ≤ n → e ≤ rs.length → ∀ (acc : List D) (env : DV.Env), acc.length + n < 900 → killS [5, 6, 7] env = JA (rsD rs) H hg (gL (hs rs) H (rs.length + 1)) (acc ++ [.int (e : Nat)]) →
    sWhile [5, 6, 7] (eT (eBin gtD (eIx (eRead 4) (eUn negD (eC (.int 1)))) (eC (.int 0)))) l1_judge_pages env = .ok (.nx (JA (rsD rs) H hg (gL (hs rs) H (rs.length + 1)) (acc ++ (pth (hs rs) H e).reverse.map (fun (k : Nat) => PyData.int (k : Nat)) ++ [.int 0]))) := by
  intro n
  induction n with
  | zero =>
    intro e hn he acc env ha hk
    obtain rfl : e = 0 := by omega
    have li := last_ix (xs := acc) (x := .int 0)
    have : (eT (eBin gtD (eIx (eRead 4) (eUn negD (eC (.int 1)))) (eC (.int 0)))) (killS [5, 6, 7] env) = .ok (false, JA (rsD rs) H hg (gL (hs rs) H (rs.length + 1)) (acc ++ [.int 0])) := by
      rw [hk]
      simp only [Int.cast_ofNat_Int, JA]
      generalize acc ++ [PyData.int 0] = A at *
      simp [li]
    rw [while_end this]
    simp [pth_zero]
  | succ n ih =>
    intro e hn he acc env ha hk
    by_cases z : e = 0
    · subst z
      have li := last_ix (xs := acc) (x := .int 0)
      have : (eT (eBin gtD (eIx (eRead 4) (eUn negD (eC (.int 1)))) (eC (.int 0)))) (killS [5, 6, 7] env) = .ok (false, JA (rsD rs) H hg (gL (hs rs) H (rs.length + 1)) (acc ++ [.int 0])) := by
        rw [hk]
        simp only [Int.cast_ofNat_Int, JA]
        generalize acc ++ [PyData.int 0] = A at *
        simp [li]
      rw [while_end this]
      simp [pth_zero]
    · have li := last_ix (xs := acc) (x := .int (e : Nat))
      have hc : (eT (eBin gtD (eIx (eRead 4) (eUn negD (eC (.int 1)))) (eC (.int 0)))) (killS [5, 6, 7] env) = .ok (true, JA (rsD rs) H hg (gL (hs rs) H (rs.length + 1)) (acc ++ [.int (e : Nat)])) := by
        rw [hk]
        simp only [JA]
        generalize acc ++ [PyData.int (e : Nat)] = A at *
        have e0 : 0 < e := by omega
        simp [li, e0]
      obtain ⟨e2, s1, s2⟩ := judge_step h h1 L (hg := hg) (acc := acc) (show 0 < e by omega) he (by omega)
      have kl := (pk_ok L (e := e) (by omega) (by rw [hs_len]; exact he)).1
      rw [while_go hc (.inl s1), ih (pk (hs rs) H e) (by omega) (by omega) (acc ++ [.int (e : Nat)]) e2 (by simp; omega) s2]
      rw [pth_succ L (e := e) (by omega) (by rw [hs_len]; exact he)]
      simp
theorem cut_m1 {α : Type} {xs : List α} {x : α} : cut (xs ++ [x]) none (some (-1)) = xs := by
  unfold cut
  have e1 : HT.sIx (xs ++ [x]).length 0 none = 0 := rfl
  have e2 : HT.sIx (xs ++ [x]).length (xs ++ [x]).length (some (-1)) = xs.length := by
    unfold HT.sIx
    simp only
    rw [if_pos (by decide)]
    simp
    omega
  rw [e1, e2]
  simp
def duePages (W : List Int) (H : Int) : D := match hi W H with
  | k :: _ => .tuple [.str "high", .int (k : Nat)]
  | [] => .tuple [.str "pages", .int (G W H W.length), .tuple ((pth W H W.length).map fun (k : Nat) => PyData.int (k : Nat))]
theorem gL_last {W : List Int} {H : Int} {n : Nat} : ixD (.list (gL W H (n + 1))) (.int (-1)) = some (.int (G W H n)) := by
  rw [gL_succ]; exact last_ix
theorem judge_ok {rs : List (Int × Int)} (h : Rs rs) {H : Int} (h0 : 1 ≤ H) (h1 : H ≤ 100000) : D_judge_pages [rsD rs, .int H] = .ok (duePages (hs rs) H, .none) := by
  have l1 := h.l1
  have c1 := check_rows_ok h
  have c2 := check_height_ok h0 h1
  have c3 := high_list h (H := H) .dead .dead .dead .dead .dead .dead
  cases q : hi (hs rs) H with
  | cons k ks =>
    rw [q] at c3
    have d : duePages (hs rs) H = .tuple [.str "high", .int (k : Nat)] := by unfold duePages; rw [q]
    rw [d]
    simp only [List.map_cons] at c3
    have ix : ∀ l, ixD (.list (.int (k : Nat) :: l)) (.int 0) = some (.int (k : Nat)) := fun l => atI_zero
    generalize (ks.map fun (k : Nat) => PyData.int (k : Nat)) = l at c3
    generalize rsD rs = dR at *
    simp [D_judge_pages, denOf_is, argEnv, f_judge_pages, c1, c2, c3, ix]
  | nil =>
    have L := low_of h q
    rw [q] at c3
    have d : duePages (hs rs) H = .tuple [.str "pages", .int (G (hs rs) H rs.length), .tuple ((pth (hs rs) H rs.length).map fun (k : Nat) => PyData.int (k : Nat))] := by unfold duePages; rw [q, hs_len]
    rw [d]
    have c4 := prices_pages h h1 L
    have c5 := judge_loop h h1 L (hg := .list []) rs.length rs.length (Nat.le_refl _) (Nat.le_refl _) [] (JA (rsD rs) H (.list []) (gL (hs rs) H (rs.length + 1)) [.int (rs.length : Nat)]) (by simp; omega) rfl
    have ll : lenD [rsD rs] = some (.int rs.length) := by simp
    have g1 := gL_last (W := hs rs) (H := H) (n := rs.length)
    have i1 : immL ((pth (hs rs) H rs.length).reverse.map fun (k : Nat) => PyData.int (k : Nat)) = true := immL_map fun _ _ => rfl
    have es : sliceD (.list ((pth (hs rs) H rs.length).reverse.map (fun (k : Nat) => PyData.int (k : Nat)) ++ [.int 0])) none (some (-1)) = some (.list ((pth (hs rs) H rs.length).reverse.map fun (k : Nat) => PyData.int (k : Nat))) := by
      rw [slice_list (by rw [immL_append, i1]; rfl), cut_m1]
    have er : ((pth (hs rs) H rs.length).reverse.map fun (k : Nat) => PyData.int (k : Nat)).reverse = (pth (hs rs) H rs.length).map fun (k : Nat) => PyData.int (k : Nat) := by
      rw [List.map_reverse, List.reverse_reverse]
    have i2 : immL ((pth (hs rs) H rs.length).map fun (k : Nat) => PyData.int (k : Nat)) = true := immL_map fun _ _ => rfl
    simp only [List.map_nil] at c3
    simp only [JA, List.nil_append] at c5
    generalize ((pth (hs rs) H rs.length).reverse.map (fun (k : Nat) => PyData.int (k : Nat)) ++ [PyData.int 0]) = E at *
    generalize ((pth (hs rs) H rs.length).reverse.map fun (k : Nat) => PyData.int (k : Nat)) = X at *
    generalize ((pth (hs rs) H rs.length).map fun (k : Nat) => PyData.int (k : Nat)) = Y at *
    generalize gL (hs rs) H (rs.length + 1) = gl at *
    generalize rsD rs = dR at *
    simp [D_judge_pages, denOf_is, argEnv, f_judge_pages, c1, c2, c3, c4, c5, ll, g1, es, i1, er, i2, tupleD_list i2]
end FnT
end
section
set_option Elab.async false
set_option linter.all false
set_option maxRecDepth 100000
namespace FnT
open PySem PySem.Spec DV M69 P69 HeadT
/-! pages accepted -/
def prD (p : Nat × Nat) : D := .tuple [.int (p.1 : Nat), .int (p.2 : Nat)]
theorem segs_in {W : List Int} {H : Int} (L : Low W H) : ∀ (n e : Nat), e ≤ n → e ≤ W.length → (segs W H n e).length ≤ e ∧ ∀ p ∈ segs W H n e, p.1 < p.2 ∧ p.2 ≤ e ∧ vld W H p.2 p.1 = true
  | 0, e, _, _ => ⟨by simp [segs], fun p hp => by simp [segs] at hp⟩
  | n + 1, e, h, he => by
    unfold segs
    by_cases z : e = 0
    · rw [if_pos z]; exact ⟨by simp, fun p hp => by simp at hp⟩
    · rw [if_neg z]
      obtain ⟨k1, k2, _⟩ := pk_ok L (e := e) (by omega) he
      obtain ⟨a, b⟩ := segs_in L n (pk W H e) (by omega) (by omega)
      refine ⟨by simp; omega, fun p hp => ?_⟩
      rcases List.mem_append.mp hp with q | q
      · obtain ⟨c1, c2, c3⟩ := b p q
        exact ⟨c1, by omega, c3⟩
      · obtain rfl : p = (pk W H e, e) := by simpa using q
        simp only [hitP, Bool.and_eq_true] at k2
        exact ⟨k1, Nat.le_refl _, k2.1⟩
abbrev AE (dR : D) (H pr : Int) (dE : D) (t : Int) : DV.Env := [.view dR, .view (.int H), .view (.int pr), .view dE, .own (.int t), .dead, .dead, .dead, .dead, .dead]
theorem pages_run {rs : List (Int × Int)} (h : Rs rs) {H : Int} (h1 : H ≤ 100000) (L : Low (hs rs) H) {pr : Int} {dE : D} : ∀ (n e : Nat), e ≤ n → e ≤ rs.length → ∀ (ds : List D) (env : DV.Env), killS [5, 6, 7] env = AE (rsD rs) H pr dE 0 →
    forL [5, 6, 7] (.tp ((.nm 5) :: ((.nm 6) :: []))) l0_accept_pages ((segs (hs rs) H n e).map prD ++ ds) env = forL [5, 6, 7] (.tp ((.nm 5) :: ((.nm 6) :: []))) l0_accept_pages ds (AE (rsD rs) H pr dE (G (hs rs) H e)) := by
  intro n
  induction n with
  | zero =>
    intro e hn he ds env hk
    obtain rfl : e = 0 := by omega
    rw [G_zero, ← hk, forL_kill]
    simp [segs]
  | succ n ih =>
    intro e hn he ds env hk
    by_cases z : e = 0
    · subst z
      rw [G_zero, ← hk, forL_kill]
      simp [segs]
    · obtain ⟨k1, k2, _⟩ := pk_ok L (e := e) (by omega) (by rw [hs_len]; exact he)
      rw [segs, if_neg z, List.map_append, List.append_assoc, ih _ (by omega) (by omega) _ _ hk]
      have ho := height_ok h (f := pk (hs rs) H e) he
      have ll : lenD [rsD rs] = some (.int rs.length) := by simp
      simp only [hitP, Bool.and_eq_true, decide_eq_true_eq] at k2
      have hv : vld (hs rs) H e (pk (hs rs) H e) = true := by simpa [vld] using k2.1
      have sq := sq_ok L h1 hv
      have hg := k2.2
      have hc : cst (hs rs) H (pk (hs rs) H e) e = if e = rs.length then 0 else (H - used (hs rs) (pk (hs rs) H e) e) * (H - used (hs rs) (pk (hs rs) H e) e) := by unfold cst; rw [hs_len]
      have hu : used (hs rs) (pk (hs rs) H e) e ≤ H := by simpa [vld] using hv
      have hu' : ¬ H - used (hs rs) (pk (hs rs) H e) e < 0 := by omega
      generalize hK : pk (hs rs) H e = k at *
      simp only [AE, List.map_cons, List.map_nil, List.cons_append, List.nil_append]
      generalize rsD rs = dR at *
      by_cases ce : e = rs.length
      · subst ce
        rw [if_pos rfl] at hc
        rw [hc] at hg
        have hg' : G (hs rs) H k = G (hs rs) H rs.length := by omega
        rw [forL_cons (e1 := [.view dR, .view (.int H), .view (.int pr), .view dE, .own (.int (G (hs rs) H k)), .view (.int (k : Nat)), .view (.int (rs.length : Nat)), .dead, .dead, .dead])
          (e2 := [.view dR, .view (.int H), .view (.int pr), .view dE, .own (.int (G (hs rs) H rs.length)), .view (.int (k : Nat)), .view (.int (rs.length : Nat)), .own (.int (H - used (hs rs) k rs.length)), .dead, .dead]) (by simp [prD]) (by
            simp [l0_accept_pages, ho, hu', ll, hg'])]
        simp
      · rw [if_neg ce] at hc
        rw [hc] at hg
        have ce' : ¬ ((e : Nat) : Int) = (rs.length : Nat) := by omega
        rw [forL_cons (e1 := [.view dR, .view (.int H), .view (.int pr), .view dE, .own (.int (G (hs rs) H k)), .view (.int (k : Nat)), .view (.int (e : Nat)), .dead, .dead, .dead])
          (e2 := [.view dR, .view (.int H), .view (.int pr), .view dE, .own (.int (G (hs rs) H e)), .view (.int (k : Nat)), .view (.int (e : Nat)), .own (.int (H - used (hs rs) k e)), .dead, .dead]) (by simp [prD]) (by
            simp [l0_accept_pages, ho, hu', ll, ce', sq, hg])]
        simp
theorem accept_pages_ok {rs : List (Int × Int)} (h : Rs rs) {H : Int} (h0 : 1 ≤ H) (h1 : H ≤ 100000) (L : Low (hs rs) H) : D_accept_pages [rsD rs, .int H, .int (G (hs rs) H rs.length), .tuple ((pth (hs rs) H rs.length).map fun (k : Nat) => PyData.int (k : Nat))] = .ok (.none, .none) := by
  have l0 := h.l0
  have l1 := h.l1
  have c1 := check_rows_ok h
  have c2 := check_height_ok h0 h1
  have hl : rs.length ≤ (hs rs).length := by rw [hs_len]; exact Nat.le_refl _
  obtain ⟨b1, b2⟩ := pth_bd L rs.length rs.length (Nat.le_refl _) hl
  obtain ⟨s1, s2⟩ := segs_in L rs.length rs.length (Nat.le_refl _) hl
  have zp := zip_pth L rs.length rs.length (Nat.le_refl _) hl
  have pne : pth (hs rs) H rs.length = pth (hs rs) H (pk (hs rs) H rs.length) ++ [rs.length] := pth_succ L (by omega) hl
  have iE : immL ((pth (hs rs) H rs.length).map fun (k : Nat) => PyData.int (k : Nat)) = true := immL_map fun _ _ => rfl
  have z1 : zipD [.tuple (.int 0 :: (pth (hs rs) H rs.length).map fun (k : Nat) => PyData.int (k : Nat)), .tuple ((pth (hs rs) H rs.length).map fun (k : Nat) => PyData.int (k : Nat))] = some ((segs (hs rs) H rs.length rs.length).map prD) := by
    have e0 : (PyData.int 0 :: (pth (hs rs) H rs.length).map fun (k : Nat) => PyData.int (k : Nat)) = (0 :: pth (hs rs) H rs.length).map fun (k : Nat) => PyData.int (k : Nat) := rfl
    rw [e0]
    show some _ = _
    rw [← zp, List.zip_map, List.map_map]
    rfl
  have li : ixD (.tuple ((pth (hs rs) H rs.length).map fun (k : Nat) => PyData.int (k : Nat))) (.int (-1)) = some (.int (rs.length : Nat)) := by
    rw [pne, List.map_append]
    show L2.atI _ _ = _
    rw [atI_last (by simp)]
    simp
  have ad : addD (.tuple [.int 0]) (.tuple ((pth (hs rs) H rs.length).map fun (k : Nat) => PyData.int (k : Nat))) = some (.tuple (.int 0 :: (pth (hs rs) H rs.length).map fun (k : Nat) => PyData.int (k : Nat))) := by
    rw [addD_tuple rfl iE (by simp; omega)]; rfl
  have tr : truthD (.tuple ((pth (hs rs) H rs.length).map fun (k : Nat) => PyData.int (k : Nat))) = some true := by
    have : pth (hs rs) H rs.length ≠ [] := by rw [pne]; simp
    simp [this]
  have pl : PyData.plain (.tuple ((pth (hs rs) H rs.length).map fun (k : Nat) => PyData.int (k : Nat))) = true := plain_nats _
  have tt : PyData.isTuple (.tuple ((pth (hs rs) H rs.length).map fun (k : Nat) => PyData.int (k : Nat))) = true := rfl
  have ll : lenD [rsD rs] = some (.int rs.length) := by simp
  have run := pages_run h h1 L (pr := G (hs rs) H rs.length) (dE := .tuple ((pth (hs rs) H rs.length).map fun (k : Nat) => PyData.int (k : Nat))) rs.length rs.length (Nat.le_refl _) (Nat.le_refl _) [] (AE (rsD rs) H (G (hs rs) H rs.length) (.tuple ((pth (hs rs) H rs.length).map fun (k : Nat) => PyData.int (k : Nat))) 0) rfl
  have e1 : eLc [6] (.nm 6) (iTpl (eReadP 3)) tYesE (eFn 1 (D_is_integer) (aCons (eRead 6) aNil)) [.view (rsD rs), .view (.int H), .view (.int (G (hs rs) H rs.length)), .view (.tuple ((pth (hs rs) H rs.length).map fun (k : Nat) => PyData.int (k : Nat))), .dead, .dead, .dead, .dead, .dead, .dead] =
      .ok (.list ((pth (hs rs) H rs.length).map fun _ => .bool true), [.view (rsD rs), .view (.int H), .view (.int (G (hs rs) H rs.length)), .view (.tuple ((pth (hs rs) H rs.length).map fun (k : Nat) => PyData.int (k : Nat))), .dead, .dead, .dead, .dead, .dead, .dead]) :=
    lc_map (fun (k : Nat) => PyData.int (k : Nat)) (fun _ => .bool true) (by simp) (by omega) (fun s hs => ⟨_, rfl, by simp [is_integer_int]⟩) (by decide)
  have a1 : allD [.list ((pth (hs rs) H rs.length).map fun _ => .bool true)] = some (.bool true) := allD_true
  have a2 : allD [.list ((segs (hs rs) H rs.length rs.length).map fun _ => .bool true)] = some (.bool true) := allD_true
  have n0 : neD (.int (rs.length : Nat)) (.int (rs.length : Nat)) = some (.bool false) := by simp
  generalize hE : PyData.tuple ((pth (hs rs) H rs.length).map fun (k : Nat) => PyData.int (k : Nat)) = dE at *
  generalize hE0 : PyData.tuple (.int 0 :: (pth (hs rs) H rs.length).map fun (k : Nat) => PyData.int (k : Nat)) = dE0 at *
  generalize rsD rs = dR at *
  have ei : ∀ t, iFn zipD (aCons (eBin addD (eTup (aCons (eC (.int 0)) aNil)) (eRead 3)) (aCons (eReadP 3) aNil)) [.view dR, .view (.int H), .view (.int (G (hs rs) H rs.length)), .view dE, t, .dead, .dead, .dead, .dead, .dead] = .ok ((segs (hs rs) H rs.length rs.length).map prD, [.view dR, .view (.int H), .view (.int (G (hs rs) H rs.length)), .view dE, t, .dead, .dead, .dead, .dead, .dead]) := fun t => by
    simp [ad, z1]
  have e2 : eLc [8, 9] (.tp ((.nm 8) :: ((.nm 9) :: []))) (iFn zipD (aCons (eBin addD (eTup (aCons (eC (.int 0)) aNil)) (eRead 3)) (aCons (eReadP 3) aNil))) tYesE (eBin ltD (eRead 8) (eRead 9)) [.view dR, .view (.int H), .view (.int (G (hs rs) H rs.length)), .view dE, .dead, .dead, .dead, .dead, .dead, .dead] =
      .ok (.list ((segs (hs rs) H rs.length rs.length).map fun _ => .bool true), [.view dR, .view (.int H), .view (.int (G (hs rs) H rs.length)), .view dE, .dead, .dead, .dead, .dead, .dead, .dead]) :=
    lc_map prD (fun _ => .bool true) (ei _) (by omega) (fun p hp => by
      have := (s2 p hp).1
      exact ⟨[.view dR, .view (.int H), .view (.int (G (hs rs) H rs.length)), .view dE, .dead, .dead, .dead, .dead, .view (.int (p.1 : Nat)), .view (.int (p.2 : Nat))], by simp [prD], by simp [this]⟩) (by decide)
  rw [List.append_nil] at run
  simp only [AE] at run
  have fin : forL [5, 6, 7] (.tp ((.nm 5) :: ((.nm 6) :: []))) l0_accept_pages [] [.view dR, .view (.int H), .view (.int (G (hs rs) H rs.length)), .view dE, .own (.int (G (hs rs) H rs.length)), .dead, .dead, .dead, .dead, .dead] = .ok (.nx [.view dR, .view (.int H), .view (.int (G (hs rs) H rs.length)), .view dE, .own (.int (G (hs rs) H rs.length)), .dead, .dead, .dead, .dead, .dead]) := rfl
  rw [fin] at run
  have ei := ei (.own (.int 0))
  generalize (segs (hs rs) H rs.length rs.length).map prD = S at *
  generalize ((segs (hs rs) H rs.length rs.length).map fun _ => PyData.bool true) = B2 at *
  generalize ((pth (hs rs) H rs.length).map fun _ => PyData.bool true) = B1 at *
  simp [-iFn_is, D_accept_pages, denOf_is, argEnv, f_accept_pages, c1, c2, is_integer_int, tt, pl, tr, e1, a1, li, ll, e2, a2, ei, run]
end FnT
end
section
set_option Elab.async false
set_option linter.all false
set_option maxRecDepth 100000
namespace FnT
open PySem PySem.Spec DV M69 P69 HeadT
/-! the least of pairs -/
def twD (p : Int × Nat) : D := .tuple [.int p.1, .int (p.2 : Nat)]
theorem alike_pairs (ps : List (Int × Nat)) : PySem.W.AlikeAll (ps.map twD) := by
  refine ⟨fun x hx y hy => ?_, fun x hx => ?_⟩
  · obtain ⟨i, _, rfl⟩ := List.mem_map.mp hx
    obtain ⟨j, _, rfl⟩ := List.mem_map.mp hy
    simp [twD, PySem.W.alike, PySem.W.alikeAll]
  · obtain ⟨i, _, rfl⟩ := List.mem_map.mp hx
    exact fun z => nomatch z
theorem depth_pairs (ps : List (Int × Nat)) : PyData.depthAll (ps.map twD) ≤ 1 := depthAll_le fun p _ => by
  simp only [twD, PyData.depth, PyData.depthAll]; omega
theorem min_pairs {v : Nat → Int} : ∀ (l : List Nat) (c : Nat), (∀ f ∈ l, c < f) → l.Pairwise (· < ·) → PySem.W.minD (twD (v c, c)) (l.map fun f => twD (v f, f)) = twD (v (fmin v c l), fmin v c l)
  | [], c, _, _ => rfl
  | g :: l, c, hc, hp => by
    obtain ⟨p1, p2⟩ := List.pairwise_cons.mp hp
    have hcg := hc g List.mem_cons_self
    have e : PySem.W.dataLt (twD (v g, g)) (twD (v c, c)) = decide (v g < v c) := by
      unfold twD
      rw [PySem.W.dataLt_ii]
      refine decide_eq_decide.mpr ⟨fun h => ?_, fun h => .inl h⟩
      rcases h with h | h
      · exact h
      · omega
    unfold fmin
    show PySem.W.minD (if PySem.W.dataLt (twD (v g, g)) (twD (v c, c)) = true then twD (v g, g) else twD (v c, c)) (l.map fun f => twD (v f, f)) = _
    rw [e]
    by_cases z : v g < v c
    · rw [if_pos (decide_eq_true z), if_pos z]
      exact min_pairs l g p1 p2
    · rw [if_neg (by simpa using z), if_neg z]
      exact min_pairs l c (fun f hf => hc f (List.mem_cons_of_mem _ hf)) p2
theorem min_ways {W : List Int} {H : Int} (L : Low W H) {e : Nat} (h : 0 < e) (he : e ≤ W.length) : minD1 [.list (((List.range e).filter (vld W H e)).map fun f => twD (G W H f + cst W H f e, f))] = some (twD (G W H e, pk W H e)) := by
  cases q : (List.range e).filter (vld W H e) with
  | nil =>
    have := wy_ne L (g := G W H) h he
    unfold wy at this
    rw [q] at this
    exact absurd rfl this
  | cons c l =>
    have pw : (c :: l).Pairwise (· < ·) := by
      rw [← q]
      exact List.Pairwise.filter _ List.pairwise_lt_range
    obtain ⟨p1, p2⟩ := List.pairwise_cons.mp pw
    have hm := min_pairs (v := fun f => G W H f + cst W H f e) l c p1 p2
    have fk := fmin_pk L h he q
    rw [fk] at hm
    obtain ⟨_, k2, _⟩ := pk_ok L h he
    simp only [hitP, Bool.and_eq_true, decide_eq_true_eq] at k2
    rw [k2.2] at hm
    have ea : ((c :: l).map fun f => twD (G W H f + cst W H f e, f)) = ((c :: l).map fun f => (G W H f + cst W H f e, f)).map twD := by rw [List.map_map]; rfl
    have cond : immL ((c :: l).map fun f => twD (G W H f + cst W H f e, f)) = true ∧ PySem.W.AlikeAll ((c :: l).map fun f => twD (G W H f + cst W H f e, f)) ∧ PyData.depthAll ((c :: l).map fun f => twD (G W H f + cst W H f e, f)) ≤ 60 := by
      refine ⟨immL_map fun f _ => by simp [twD], ?_, ?_⟩
      · rw [ea]; exact alike_pairs _
      · rw [ea]; exact Nat.le_trans (depth_pairs _) (by omega)
    simp only [List.map_cons] at cond ⊢
    unfold minD1
    simp only
    rw [if_pos cond, hm]
/-! the law's own pages -/
def ptD (W : List Int) (H : Int) (k : Nat) : D := .tuple ((pth W H k).map fun (k : Nat) => PyData.int (k : Nat))
def bsD (W : List Int) (H : Int) (k : Nat) : D := .tuple [.int (G W H k), ptD W H k]
def bL (W : List Int) (H : Int) (e : Nat) : List D := (List.range e).map (bsD W H)
theorem bL_len {W : List Int} {H : Int} {e : Nat} : (bL W H e).length = e := by simp [bL]
theorem bL_succ {W : List Int} {H : Int} {e : Nat} : bL W H (e + 1) = bL W H e ++ [bsD W H e] := by simp [bL, List.range_succ]
theorem bL_ix {W : List Int} {H : Int} {e k : Nat} (h : k < e) : ixD (.list (bL W H e)) (.int (k : Nat)) = some (bsD W H k) := by
  rw [ixD_list]
  simp [bL, h]
abbrev lst (W : List Int) (H : Int) (e : Nat) (acc : List Nat) (f : Nat) : List Nat := if vld W H e f = true then acc ++ [f] else acc
abbrev LA (dR : D) (H : Int) (ow : D) (hg : D) (best : List D) (e : Nat) (W : List Int) (acc : List Nat) : DV.Env := [.view dR, .view (.int H), .own ow, .own hg, .own (.list best), .view (.int (e : Nat)), .own (.list (acc.map fun f => twD (G W H f + cst W H f e, f))), .dead, .dead, .dead, .dead, .dead]
theorem lp_step {W : List Int} {H : Int} (L : Low W H) (h1 : H ≤ 100000) (wl : W.length ≤ 60) {dR hg : D} {e : Nat} (he : e ≤ W.length) {acc : List Nat} (ha : acc.length < 100) {f : Nat} (hf : f < e) :
    ∃ e1 e2, bindV (.nm 7) (.int (f : Nat)) (LA dR H (.list (W.map .int)) hg (bL W H e) e W acc) = some e1 ∧ l0__law_pages e1 = .ok (.nx e2) ∧ killS [7, 8] e2 = LA dR H (.list (W.map .int)) hg (bL W H e) e W (lst W H e acc f) := by
  have es : sliceD (.list (W.map .int)) (some (f : Nat)) (some (e : Nat)) = some (.list (((W.drop f).take (e - f)).map .int)) := by
    rw [slice_list immL_ints, cut_map, cut_nat he]
  have su : sumD [.list (((W.drop f).take (e - f)).map .int)] = some (.int (used W f e)) := sumD_ints
  have ix := bL_ix (W := W) (H := H) hf
  have i0 : ixD (bsD W H f) (.int 0) = some (.int (G W H f)) := tix0
  have hz : acc.length < 16000000 := by omega
  have ll : lenD [.list (W.map .int)] = some (.int W.length) := by simp
  have sq := fun hv => sq_ok L h1 (e := e) (f := f) hv
  have hc : cst W H f e = if e = W.length then 0 else (H - used W f e) * (H - used W f e) := rfl
  simp only [LA]
  generalize ((W.drop f).take (e - f)).map PyData.int = S at *
  generalize bL W H e = best at *
  generalize bsD W H f = bf at *
  generalize PyData.list (W.map .int) = ow at *
  by_cases hv : vld W H e f = true
  · have hu : used W f e ≤ H := by simpa [vld] using hv
    have s := sq hv
    refine ⟨[.view dR, .view (.int H), .own ow, .own hg, .own (.list best), .view (.int (e : Nat)), .own (.list (acc.map fun f => twD (G W H f + cst W H f e, f))), .view (.int (f : Nat)), .dead, .dead, .dead, .dead],
      [.view dR, .view (.int H), .own ow, .own hg, .own (.list best), .view (.int (e : Nat)), .own (.list ((acc.map fun f => twD (G W H f + cst W H f e, f)) ++ [twD (G W H f + cst W H f e, f)])), .view (.int (f : Nat)), .own (.int (used W f e)), .dead, .dead, .dead], by simp, ?_, by simp [lst, hv]⟩
    have hz' : (acc.map fun f => twD (G W H f + cst W H f e, f)).length < 16000000 := by simpa using hz
    generalize (acc.map fun f => twD (G W H f + cst W H f e, f)) = A at *
    rw [hc]
    by_cases ce : e = W.length
    · subst ce
      simp [l0__law_pages, es, su, hu, ix, i0, ll, hz', twD]
    · have ce' : ¬ ((e : Nat) : Int) = (W.length : Nat) := by omega
      simp [l0__law_pages, es, su, hu, ix, i0, ll, hz', twD, ce, ce', s]
  · have hu : ¬ used W f e ≤ H := by simpa [vld] using hv
    refine ⟨[.view dR, .view (.int H), .own ow, .own hg, .own (.list best), .view (.int (e : Nat)), .own (.list (acc.map fun f => twD (G W H f + cst W H f e, f))), .view (.int (f : Nat)), .dead, .dead, .dead, .dead],
      [.view dR, .view (.int H), .own ow, .own hg, .own (.list best), .view (.int (e : Nat)), .own (.list (acc.map fun f => twD (G W H f + cst W H f e, f))), .view (.int (f : Nat)), .own (.int (used W f e)), .dead, .dead, .dead], by simp, ?_, by simp [lst, hv]⟩
    generalize (acc.map fun f => twD (G W H f + cst W H f e, f)) = A at *
    simp [l0__law_pages, es, su, hu]
theorem lp_turn {W : List Int} {H : Int} (L : Low W H) (h1 : H ≤ 100000) (wl : W.length ≤ 60) {dR hg : D} {e : Nat} (e0 : 0 < e) (he : e ≤ W.length) :
    ∃ e1 e2, bindV (.nm 5) (.int (e : Nat)) [.view dR, .view (.int H), .own (.list (W.map .int)), .own hg, .own (.list (bL W H e)), .dead, .dead, .dead, .dead, .dead, .dead, .dead] = some e1 ∧ l1__law_pages e1 = .ok (.nx e2) ∧ killS [5, 6, 7, 8, 9] e2 = [.view dR, .view (.int H), .own (.list (W.map .int)), .own hg, .own (.list (bL W H (e + 1))), .dead, .dead, .dead, .dead, .dead, .dead, .dead] := by
  have ef := (for_foldN (ks := [7, 8]) (t := .nm 7) (b := l0__law_pages) (E := LA dR H (.list (W.map .int)) hg (bL W H e) e W) (J := fun m acc => acc.length ≤ m) (step := lst W H e) (fun (f : Nat) => PyData.int (f : Nat)) (List.range e) 0 (LA dR H (.list (W.map .int)) hg (bL W H e) e W []) [] rfl (by simp)
    fun m acc hk hm f hf => by
      have hk : m < e := by simpa using hk
      obtain ⟨e1, e2, a1, a2, a3⟩ := lp_step L h1 wl (dR := dR) (hg := hg) he (acc := acc) (show acc.length < 100 by omega) (f := f) (by simpa using hf)
      refine ⟨e1, e2, a1, .inl a2, a3, ?_⟩
      unfold lst
      split
      · simp; omega
      · omega).1
  have fd : (List.range e).foldl (lst W H e) [] = (List.range e).filter (vld W H e) := by
    unfold lst
    rw [foldl_app (vld W H e) (fun f => f)]
    simp
  rw [fd] at ef
  have mw := min_ways L e0 he
  obtain ⟨k1, _, _⟩ := pk_ok L e0 he
  have ix := bL_ix (W := W) (H := H) k1
  have i1 : ixD (bsD W H (pk W H e)) (.int 1) = some (ptD W H (pk W H e)) := tix1
  have bd := (pth_bd L (pk W H e) (pk W H e) (Nat.le_refl _) (by omega)).1
  have ad : addD (ptD W H (pk W H e)) (.tuple [.int (e : Nat)]) = some (ptD W H e) := by
    unfold ptD
    rw [addD_tuple (immL_map fun _ _ => rfl) rfl (by simp; omega), pth_succ L e0 he, List.map_append]
    rfl
  have er : rng1D [.int (e : Nat)] = some ((List.range e).map fun (i : Nat) => PyData.int (i : Int)) := rng1_nat (by omega)
  have hz : (bL W H e).length < 16000000 := by rw [bL_len]; omega
  have ip : imm (ptD W H e) = true := by
    have : immL ((pth W H e).map fun (k : Nat) => PyData.int (k : Nat)) = true := immL_map fun _ _ => rfl
    simpa [ptD] using this
  have bsd : bsD W H e = .tuple [.int (G W H e), ptD W H e] := rfl
  rw [bL_succ, bsd]
  simp only [LA, List.map_nil] at ef
  generalize (((List.range e).filter (vld W H e)).map fun f => twD (G W H f + cst W H f e, f)) = Wy at *
  generalize bsD W H (pk W H e) = bk at *
  generalize ptD W H (pk W H e) = pk' at *
  generalize ptD W H e = pe at *
  generalize bL W H e = best at *
  generalize PyData.list (W.map .int) = ow at *
  refine ⟨[.view dR, .view (.int H), .own ow, .own hg, .own (.list best), .view (.int (e : Nat)), .dead, .dead, .dead, .dead, .dead, .dead], [.view dR, .view (.int H), .own ow, .own hg, .own (.list (best ++ [.tuple [.int (G W H e), pe]])), .view (.int (e : Nat)), .own (.list Wy), .own (.int (pk W H e : Nat)), .dead, .own (.int (G W H e)), .dead, .dead], by simp, ?_, by simp⟩
  simp [l1__law_pages, er, ef, mw, twD, ix, i1, ad, ip, hz]
theorem law_pages_ok {rs : List (Int × Int)} (h : Rs rs) {H : Int} (h1 : H ≤ 100000) : D__law_pages [rsD rs, .int H] = .ok (duePages (hs rs) H, .none) := by
  have l1 := h.l1
  have o1 : eLc [10] (.nm 10) (iTpl (eReadP 0)) tYesE (eCall maxD1 (aCons (eRead 10) aNil)) [.view (rsD rs), .view (.int H), .dead, .dead, .dead, .dead, .dead, .dead, .dead, .dead, .dead, .dead] = .ok (.list ((hs rs).map .int), [.view (rsD rs), .view (.int H), .dead, .dead, .dead, .dead, .dead, .dead, .dead, .dead, .dead, .dead]) := by
    have ev : (hs rs).map PyData.int = rs.map fun p => PyData.int (max p.1 p.2) := by unfold hs; rw [List.map_map]; rfl
    rw [ev]
    exact lc_map pD (fun p => PyData.int (max p.1 p.2)) (by simp) (by omega) (fun p _ => ⟨_, rfl, by simp [pD, maxT]⟩) (by decide)
  have ll : lenD [.list ((hs rs).map PyData.int)] = some (.int (hs rs).length) := by simp
  have er1 : rng1D [.int ((hs rs).length : Nat)] = some ((List.range (hs rs).length).map fun (i : Nat) => PyData.int (i : Int)) := rng1_nat (by rw [hs_len]; omega)
  have ixs : ∀ k, k < (hs rs).length → ixD (.list ((hs rs).map PyData.int)) (.int (k : Nat)) = some (.int ((hs rs).getD k 0)) := fun k hk => by
    rw [ixD_list]; simp [hk]
  have o2 : eLc [11] (.nm 11) (iFn rng1D (aCons (eCall lenD (aCons (eRead 2) aNil)) aNil)) (eT (eBin gtD (eIx (eRead 2) (eRead 11)) (eRead 1))) (eImm (eRead 11)) [.view (rsD rs), .view (.int H), .own (.list ((hs rs).map .int)), .dead, .dead, .dead, .dead, .dead, .dead, .dead, .dead, .dead] = .ok (.list ((hi (hs rs) H).map fun (k : Nat) => .int (k : Nat)), [.view (rsD rs), .view (.int H), .own (.list ((hs rs).map .int)), .dead, .dead, .dead, .dead, .dead, .dead, .dead, .dead, .dead]) := by
    generalize PyData.list ((hs rs).map .int) = ow at *
    generalize rsD rs = dR at *
    exact lc_pure (fun (k : Nat) => PyData.int (k : Nat)) (fun (k : Nat) => .int (k : Nat)) (fun k => decide (H < (hs rs).getD k 0)) (by simp [ll, er1]) (by rw [List.length_range, hs_len]; omega) (fun k hk => by
      have := ixs k (by simpa using hk)
      refine ⟨[.view dR, .view (.int H), .own ow, .dead, .dead, .dead, .dead, .dead, .dead, .dead, .dead, .view (.int (k : Nat))], by simp, ?_, fun _ => by simp⟩
      simp only [List.getD_eq_getElem?_getD] at this ⊢
      simp [this]) (by decide)
  cases q : hi (hs rs) H with
  | cons k ks =>
    rw [q] at o2
    have d : duePages (hs rs) H = .tuple [.str "high", .int (k : Nat)] := by unfold duePages; rw [q]
    rw [d]
    simp only [List.map_cons] at o2
    have ix : ∀ l, ixD (.list (.int (k : Nat) :: l)) (.int 0) = some (.int (k : Nat)) := fun l => atI_zero
    generalize (ks.map fun (k : Nat) => PyData.int (k : Nat)) = l at *
    generalize PyData.list ((hs rs).map .int) = ow at *
    generalize rsD rs = dR at *
    simp [D__law_pages, denOf_is, argEnv, f__law_pages, o1, o2, ix]
  | nil =>
    have L := low_of h q
    rw [q] at o2
    have d : duePages (hs rs) H = .tuple [.str "pages", .int (G (hs rs) H (hs rs).length), ptD (hs rs) H (hs rs).length] := by unfold duePages; rw [q]; rfl
    rw [d]
    simp only [List.map_nil] at o2
    have wl : (hs rs).length ≤ 60 := by rw [hs_len]; exact l1
    have er : rng2D [.int 1, .int (((hs rs).length : Int) + 1)] = some ((List.range (hs rs).length).map fun (i : Nat) => PyData.int ((1 + i : Nat) : Int)) := by
      have := rng2_nat (lo := 1) (n := (hs rs).length) (by omega)
      rwa [show ((1 + (hs rs).length : Nat) : Int) = ((hs rs).length : Int) + 1 by omega] at this
    have ef := for_range (ks := [5, 6, 7, 8, 9]) (t := .nm 5) (b := l1__law_pages) (env := [.view (rsD rs), .view (.int H), .own (.list ((hs rs).map .int)), .own (.list []), .own (.list [.tuple [.int 0, .tuple []]]), .dead, .dead, .dead, .dead, .dead, .dead, .dead])
      (fun i => [.view (rsD rs), .view (.int H), .own (.list ((hs rs).map .int)), .own (.list []), .own (.list (bL (hs rs) H (i + 1))), .dead, .dead, .dead, .dead, .dead, .dead, .dead]) (fun (i : Nat) => PyData.int ((1 + i : Nat) : Int)) (m := (hs rs).length) rfl fun i hi => by
      obtain ⟨e1, e2, a1, a2, a3⟩ := lp_turn L h1 wl (dR := rsD rs) (hg := .list []) (e := i + 1) (by omega) (by omega)
      refine ⟨e1, e2, ?_, .inl a2, a3⟩
      rw [show 1 + i = i + 1 by omega]
      exact a1
    have gl : ixD (.list (bL (hs rs) H ((hs rs).length + 1))) (.int (-1)) = some (bsD (hs rs) H (hs rs).length) := by rw [bL_succ]; exact last_ix
    have g0 : ixD (bsD (hs rs) H (hs rs).length) (.int 0) = some (.int (G (hs rs) H (hs rs).length)) := tix0
    have g1 : ixD (bsD (hs rs) H (hs rs).length) (.int 1) = some (ptD (hs rs) H (hs rs).length) := tix1
    have ip : imm (ptD (hs rs) H (hs rs).length) = true := by
      have : immL ((pth (hs rs) H (hs rs).length).map fun (k : Nat) => PyData.int (k : Nat)) = true := immL_map fun _ _ => rfl
      simpa [ptD] using this
    simp only [kill_cons, kill_nil, List.set_cons_succ, List.set_cons_zero] at ef
    generalize ((List.range (hs rs).length).map fun (i : Nat) => PyData.int ((1 + i : Nat) : Int)) = RL at er ef
    generalize bL (hs rs) H ((hs rs).length + 1) = best at *
    generalize bsD (hs rs) H (hs rs).length = bk at *
    generalize ptD (hs rs) H (hs rs).length = pe at *
    generalize PyData.list ((hs rs).map .int) = ow at *
    generalize rsD rs = dR at *
    simp [D__law_pages, denOf_is, argEnv, f__law_pages, o1, o2, ll, er, ef, gl, g0, g1, ip]
end FnT
end
section
set_option Elab.async false
set_option linter.all false
set_option maxRecDepth 100000
set_option maxHeartbeats 2000000
namespace FnT
open PySem PySem.Spec DV M69 P69 HeadT
theorem f2_pairs {α : Type} {p : Int × Int → Prop} : ∀ {xs : List α} {ys : List D}, F2 (fun _ y => ∃ v, y = pD v ∧ p v) xs ys → ∃ L : List (Int × Int), ys = L.map pD ∧ L.length = xs.length ∧ ∀ v ∈ L, p v
  | _, _, .nil => ⟨[], rfl, rfl, fun _ z => nomatch z⟩
  | _, _, .cons h t => by
    obtain ⟨v, rfl, hp⟩ := h
    obtain ⟨L, e, hl, ha⟩ := f2_pairs t
    refine ⟨v :: L, by rw [e]; rfl, by simp [hl], fun w hw => ?_⟩
    rcases List.mem_cons.mp hw with rfl | hw
    · exact hp
    · exact ha w hw
theorem rows_drawn {st : D} (h : St st) {top : Int} (t0 : 3 ≤ top) (t1 : top ≤ 300) (tn : Slot) : ∃ (rs : List (Int × Int)) (st' : D), Rs rs ∧ St st' ∧
    eLc [7] (.nm 7) (iFn rng1D (aCons (eBin addD (eC (.int 1)) (eFnIO 2 1 (D__law_draw) (zHere 1 (aCons (eFnIO 2 1 (D__law_pick) (zHere 1 (aCons (eLst (aCons (eC (.int 8)) (aCons (eC (.int 60)) aNil))) aNil))) aNil)))) aNil)) tYesE (eTup (aCons (eFnIO 2 1 (D__law_draw) (zHere 1 (aCons (eBin addD (eRead 3) (eC (.int 1))) aNil))) (aCons (eFnIO 2 1 (D__law_draw) (zHere 1 (aCons (eBin addD (eRead 3) (eC (.int 1))) aNil))) aNil)))
      [.dead, .own st, tn, .own (.int top), .dead, .dead, .dead, .dead, .dead] = .ok (.list (rs.map pD), [.dead, .own st', tn, .own (.int top), .dead, .dead, .dead, .dead, .dead]) := by
  obtain ⟨m, s1, e1, h1, hm⟩ := pick_int h (ns := [8, 60]) (by simp) (by simp)
  have m1 : 8 ≤ m ∧ m ≤ 60 := by simp at hm; omega
  simp only [List.map_cons, List.map_nil] at e1
  obtain ⟨k, s2, e2, h2, k0, k1⟩ := draw_ok h1 (m := m) (by omega) (by omega)
  have er : rng1D [.int (1 + k)] = some ((List.range (k.toNat + 1)).map fun (i : Nat) => PyData.int (i : Int)) := by
    have := rng1_nat (n := k.toNat + 1) (by omega)
    rwa [show ((k.toNat + 1 : Nat) : Int) = 1 + k by omega] at this
  let I : DV.Env → Prop := fun env => ∃ st, St st ∧ env = [.dead, .own st, tn, .own (.int top), .dead, .dead, .dead, .dead, .dead]
  obtain ⟨ys, env2, el, hF, hI⟩ := lc_rel (vs := [7]) (t := .nm 7) (it := iFn rng1D (aCons (eBin addD (eC (.int 1)) (eFnIO 2 1 (D__law_draw) (zHere 1 (aCons (eFnIO 2 1 (D__law_pick) (zHere 1 (aCons (eLst (aCons (eC (.int 8)) (aCons (eC (.int 60)) aNil))) aNil))) aNil)))) aNil)) (c := tYesE) (e := eTup (aCons (eFnIO 2 1 (D__law_draw) (zHere 1 (aCons (eBin addD (eRead 3) (eC (.int 1))) aNil))) (aCons (eFnIO 2 1 (D__law_draw) (zHere 1 (aCons (eBin addD (eRead 3) (eC (.int 1))) aNil))) aNil)))
    (env := [.dead, .own st, tn, .own (.int top), .dead, .dead, .dead, .dead, .dead]) (env1 := [.dead, .own s2, tn, .own (.int top), .dead, .dead, .dead, .dead, .dead]) (xs := List.range (k.toNat + 1)) (fun (i : Nat) => PyData.int (i : Int)) I (fun _ y => ∃ v, y = pD v ∧ (0 ≤ v.1 ∧ v.1 ≤ 1000 ∧ 0 ≤ v.2 ∧ v.2 ≤ 1000)) (by simp [e1, e2, er]) (by simp; omega) ⟨s2, h2, rfl⟩ (by
    rintro x _ env ⟨st, hs, rfl⟩
    obtain ⟨v, s3, e3, h3, v0, v1⟩ := draw_ok hs (m := top + 1) (by omega) (by omega)
    obtain ⟨w, s4, e4, h4, w0, w1⟩ := draw_ok h3 (m := top + 1) (by omega) (by omega)
    exact ⟨_, [.dead, .own st, tn, .own (.int top), .dead, .dead, .dead, .view (.int (x : Nat)), .dead], pD (v, w), [.dead, .own s4, tn, .own (.int top), .dead, .dead, .dead, .view (.int (x : Nat)), .dead], rfl, by simp, by simp [e3, e4, pD], ⟨(v, w), rfl, v0, by simp only; omega, w0, by simp only; omega⟩, s4, h4, by simp⟩)
  obtain ⟨s3, h3, rfl⟩ := hI
  obtain ⟨rs, rfl, hl, ha⟩ := f2_pairs hF
  refine ⟨rs, s3, ⟨by simp at hl; omega, by simp at hl; omega, ha⟩, h3, ?_⟩
  rw [el]
  simp
theorem due_small {rs : List (Int × Int)} (h : Rs rs) {H : Int} (h0 : 1 ≤ H) (h1 : H ≤ 100000) : smallD (duePages (hs rs) H) = true ∧ (duePages (hs rs) H).depth ≤ 2 ∧ wtD (duePages (hs rs) H) ≤ 10000 ∧ imm (duePages (hs rs) H) = true := by
  have l1 := h.l1
  unfold duePages
  cases q : hi (hs rs) H with
  | cons k ks =>
    have hk : k < (hs rs).length := by
      have : k ∈ hi (hs rs) H := by rw [q]; exact List.mem_cons_self
      simpa using (List.mem_filter.mp this).1
    rw [hs_len] at hk
    refine ⟨?_, ?_, ?_, by simp⟩
    · simp
      omega
    · simp only [PyData.depth, PyData.depthAll]; omega
    · simp only [wtD_tuple, wtL_cons, wtD_int, wtL_nil, wtD]
      decide +kernel
  | nil =>
    have L := low_of h q
    have hl : (hs rs).length ≤ 60 := by rw [hs_len]; exact l1
    have g := G_in L (hs rs).length (hs rs).length (Nat.le_refl _) (Nat.le_refl _)
    obtain ⟨b1, b2⟩ := pth_bd L (hs rs).length (hs rs).length (Nat.le_refl _) (Nat.le_refl _)
    have hh : H * H ≤ 100000 * 100000 := Int.mul_le_mul h1 h1 (by omega) (by omega)
    have hh0 : 0 ≤ H * H := Int.mul_nonneg (by omega) (by omega)
    have gb : G (hs rs) H (hs rs).length ≤ 60 * 10000000000 := by
      have : ((hs rs).length : Int) * (H * H) ≤ 60 * (H * H) := Int.mul_le_mul_of_nonneg_right (by omega) hh0
      omega
    have s1 : smallL ((pth (hs rs) H (hs rs).length).map fun (k : Nat) => PyData.int (k : Nat)) = true := smallL_map fun k hk => by
      rw [smallD_int]
      have := b2 k hk
      exact decide_eq_true (by omega)
    have d1 := nats_depth (ss := pth (hs rs) H (hs rs).length)
    have w1 := nats_wt (ss := pth (hs rs) H (hs rs).length)
    have i1 : immL ((pth (hs rs) H (hs rs).length).map fun (k : Nat) => PyData.int (k : Nat)) = true := immL_map fun _ _ => rfl
    refine ⟨?_, ?_, ?_, ?_⟩
    · simp only [smallD_tuple, smallL_cons, smallD_str, smallD_int, s1, smallL_nil, Bool.and_true, Bool.true_and, decide_eq_true_eq]
      omega
    · simp only [PyData.depth, PyData.depthAll]; omega
    · have e : wtD (.str "pages") ≤ 100 := by simp only [wtD]; decide +kernel
      simp only [wtD_tuple, wtL_cons, wtD_int, wtL_nil]
      omega
    · simp [i1]
theorem hs_swap (rs : List (Int × Int)) : hs (rs.map fun p => (p.2, p.1)) = hs rs := by
  unfold hs
  rw [List.map_map]
  refine List.map_congr_left fun p _ => ?_
  show max p.2 p.1 = max p.1 p.2
  omega
theorem eq_hp : eqD (.str "high") (.str "pages") = some (.bool false) := by
  have : (("high" : Str) == ("pages" : Str)) = false := by decide
  simp [eqD, PyData.plain, PyData.depth, PyData.eqv]
  decide +kernel
theorem turn_ok {st : D} (h : St st) (tn : Slot) : ∃ st' e2, l0_law [.dead, .own st, tn, .dead, .dead, .dead, .dead, .dead, .dead] = .ok (.nx e2) ∧ St st' ∧ killS [2, 3, 4, 5, 6] e2 = [.dead, .own st', .dead, .dead, .dead, .dead, .dead, .dead, .dead] := by
  obtain ⟨top, s1, e1, h1, ht⟩ := pick_int h (ns := [3, 20, 300]) (by simp) (by simp)
  have t0 : 3 ≤ top ∧ top ≤ 300 := by simp at ht; omega
  obtain ⟨rs, s2, hr, h2, e2⟩ := rows_drawn h1 t0.1 t0.2 tn
  obtain ⟨p, s3, e3, h3, hp⟩ := pick_int h2 (ns := [top, 2 * top, 5 * top, top - 1]) (by simp) (by simp)
  simp only [List.map_cons, List.map_nil] at e1 e3
  have p0 : 2 ≤ p ∧ p ≤ 1500 := by simp at hp; omega
  have hm : maxD1 [.list [.int 1, .int p]] = some (.int (max 1 p)) := maxD1_two
  have hH : max 1 p = p := by omega
  rw [hH] at hm
  have m2 : mulD (.int 2) (.int top) = some (.int (2 * top)) := mulD_l (by omega) (by omega)
  have m5 : mulD (.int 5) (.int top) = some (.int (5 * top)) := mulD_l (by omega) (by omega)
  have c1 := law_pages_ok hr (H := p) (by omega)
  have c2 := judge_ok hr (H := p) (by omega) (by omega)
  have hr' : Rs (rs.map fun p => (p.2, p.1)) := ⟨by rw [List.length_map]; exact hr.l0, by rw [List.length_map]; exact hr.l1, fun q hq => by
    obtain ⟨w, hw, rfl⟩ := List.mem_map.mp hq
    have := hr.rng w hw
    simp only
    omega⟩
  have c3 := judge_ok hr' (H := p) (by omega) (by omega)
  rw [hs_swap] at c3
  obtain ⟨d1, d2, d3, d4⟩ := due_small hr (H := p) (by omega) (by omega)
  have same := same_ok (d := .list [duePages (hs rs) p, duePages (hs rs) p]) (by simp [d1]) (by simp only [PyData.depth, PyData.depthAll]; omega) (by simp only [wtD_list, wtL_cons, wtL_nil]; omega)
  have rv : ∀ s1 s5 s6 : Slot, eLc [8] (.nm 8) (iTpl (eReadP 4)) tYesE (eUn revD (eRead 8)) [.dead, .own s3, tn, .own (.int top), .own (rsD rs), s5, s6, .dead, .dead] = .ok (.list ((rs.map fun p => (p.2, p.1)).map pD), [.dead, .own s3, tn, .own (.int top), .own (rsD rs), s5, s6, .dead, .dead]) := fun s1 s5 s6 => by
    rw [List.map_map]
    exact lc_map pD (pD ∘ fun p => (p.2, p.1)) (by simp [rows_imm]) (by have := hr.l1; omega) (fun q _ => ⟨_, rfl, by simp [pD]⟩) (by decide)
  have rv := rv .dead
  have it1 : tupleD [.list (rs.map pD)] = some (rsD rs) := tupleD_list (rows_imm rs)
  have it2 : tupleD [.list ((rs.map fun p => (p.2, p.1)).map pD)] = some (rsD (rs.map fun p => (p.2, p.1))) := tupleD_list (rows_imm _)
  cases q : hi (hs rs) p with
  | cons k ks =>
    have d : duePages (hs rs) p = .tuple [.str "high", .int (k : Nat)] := by unfold duePages; rw [q]
    have x0 : ixD (duePages (hs rs) p) (.int 0) = some (.str "high") := by rw [d]; exact tix0
    have eh := eq_hp
    generalize rsD (rs.map fun p => (p.2, p.1)) = dS at *
    generalize ((rs.map fun p => (p.2, p.1)).map pD) = lS at *
    generalize hR : rsD rs = dR at *
    generalize rs.map pD = lR at *
    generalize duePages (hs rs) p = due at *
    refine ⟨s3, [.dead, .own s3, tn, .own (.int top), .own dR, .own (.int p), .own due, .dead, .dead], ?_, h3, by simp⟩
    simp [l0_law, e1, e2, it1, e3, m2, m5, hm, c1, c2, rv, it2, c3, d4, same, x0, eh]
  | nil =>
    have L := low_of hr q
    have d : duePages (hs rs) p = .tuple [.str "pages", .int (G (hs rs) p rs.length), .tuple ((pth (hs rs) p rs.length).map fun (k : Nat) => PyData.int (k : Nat))] := by unfold duePages; rw [q, hs_len]
    have x0 : ixD (duePages (hs rs) p) (.int 0) = some (.str "pages") := by rw [d]; exact tix0
    have x1 : ixD (duePages (hs rs) p) (.int 1) = some (.int (G (hs rs) p rs.length)) := by rw [d]; exact tix1
    have x2 : ixD (duePages (hs rs) p) (.int 2) = some (.tuple ((pth (hs rs) p rs.length).map fun (k : Nat) => PyData.int (k : Nat))) := by rw [d]; exact tix2
    have c4 := accept_pages_ok hr (H := p) (by omega) (by omega) L
    have eh := eqD_str (x := "pages")
    generalize (PyData.tuple ((pth (hs rs) p rs.length).map fun (k : Nat) => PyData.int (k : Nat))) = dP at *
    generalize rsD (rs.map fun p => (p.2, p.1)) = dS at *
    generalize ((rs.map fun p => (p.2, p.1)).map pD) = lS at *
    generalize hR : rsD rs = dR at *
    generalize rs.map pD = lR at *
    generalize duePages (hs rs) p = due at *
    refine ⟨s3, [.dead, .own s3, tn, .own (.int top), .own dR, .own (.int p), .own due, .dead, .dead], ?_, h3, by simp⟩
    simp [l0_law, e1, e2, it1, e3, m2, m5, hm, c1, c2, rv, it2, c3, d4, same, x0, x1, x2, eh, c4]
theorem rng2 : rng1D [.int 2] = some ((List.range 2).map fun (i : Nat) => PyData.int (i : Int)) := rng1_nat (n := 2) (by omega)
theorem seed_nn (ns : List Int) : ∀ s : Int, 0 ≤ s → 0 ≤ ns.foldl (fun s c => (s * 48271 + c) % 2147483629 + 1) s := by
  induction ns with
  | nil => exact fun _ h => h
  | cons c ns ih => exact fun s _ => ih _ (show 0 ≤ (s * 48271 + c) % 2147483629 + 1 by omega)
theorem law_plain (ns : List Int) (_ : ns.length ≤ 63) : ∃ env', f_law (.dead :: .own (stateD ns (seedOf ns)) :: List.replicate 7 .dead) = .ok (.rt (.bool true) env') := by
  have h0 : St (stateD ns (seedOf ns)) := ⟨ns, 0, seedOf ns, 0, rfl, by omega, seed_nn ns 7 (by omega)⟩
  generalize stateD ns (seedOf ns) = st0 at h0 ⊢
  obtain ⟨s1, e1, h1⟩ := texts_hold_ok h0
  let I : Nat → DV.Env → Prop := fun _ env => ∃ st, St st ∧ env = [.dead, .own st, .dead, .dead, .dead, .dead, .dead, .dead, .dead]
  obtain ⟨env2, ef, st2, h2, rfl⟩ := for_rel (ks := [2, 3, 4, 5, 6]) (t := .nm 2) (b := l0_law) I ((List.range 2).map fun (i : Nat) => PyData.int (i : Int)) 0 [.dead, .own s1, .dead, .dead, .dead, .dead, .dead, .dead, .dead] ⟨s1, h1, rfl⟩ (by
    rintro i d env hd ⟨st, hs, rfl⟩
    obtain ⟨st', e2, r, h', k⟩ := turn_ok hs (.view d)
    exact ⟨[.dead, .own st, .view d, .dead, .dead, .dead, .dead, .dead, .dead], e2, by simp, .inl r, st', h', k⟩)
  exact ⟨[.dead, .own st2, .dead, .dead, .dead, .dead, .dead, .dead, .dead], by simp [List.replicate, f_law, e1, rng2, ef]⟩
end FnT
end
section
set_option Elab.async false
set_option linter.all false
set_option maxRecDepth 100000
set_option maxHeartbeats 0
namespace FnT
open PySem PySem.Spec PyProof.Rows L2 DV HeadT
/-- all that stands behind the top is there -/
theorem mf_of {K : PySem.W.Frag} {h : Heap} {mg : Str → Option Value} (X : K.In h) (G : h.Ns mainGlobals mg) (c : He.SaysD fa fn K) (hx : HeadT.ex K = true) : Nonempty (MF HeadT.R.prog K mg) := by
  obtain ⟨hx0, hx⟩ := He.ba hx
  obtain ⟨hx1, hx⟩ := He.ba hx
  obtain ⟨hx2, hx⟩ := He.ba hx
  obtain ⟨fd17, F17⟩ := c.def_ 17 (d := d17) rfl
  obtain ⟨fd18, F18⟩ := c.def_ 18 (d := d18) rfl
  obtain ⟨fd19, F19⟩ := c.def_ 19 (d := d19) rfl
  obtain ⟨fd21, F21⟩ := c.def_ 21 (d := d21) rfl
  obtain ⟨fd23, F23⟩ := c.def_ 23 (d := d23) rfl
  obtain ⟨fd24, F24⟩ := c.def_ 24 (d := d24) rfl
  obtain ⟨fd25, F25⟩ := c.def_ 25 (d := d25) rfl
  obtain ⟨fd0, F0⟩ := c.def_ 0 (d := d0) rfl
  obtain ⟨fd1, F1⟩ := c.def_ 1 (d := d1) rfl
  obtain ⟨fd2, F2⟩ := c.def_ 2 (d := d2) rfl
  obtain ⟨fd3, F3⟩ := c.def_ 3 (d := d3) rfl
  obtain ⟨fd4, F4⟩ := c.def_ 4 (d := d4) rfl
  obtain ⟨fd5, F5⟩ := c.def_ 5 (d := d5) rfl
  obtain ⟨fd6, F6⟩ := c.def_ 6 (d := d6) rfl
  obtain ⟨fd26, F26⟩ := c.def_ 26 (d := d26) rfl
  obtain ⟨fd20, F20⟩ := c.def_ 20 (d := d20) rfl
  obtain ⟨fd7, F7⟩ := c.def_ 7 (d := d7) rfl
  obtain ⟨fd8, F8⟩ := c.def_ 8 (d := d8) rfl
  obtain ⟨fd9, F9⟩ := c.def_ 9 (d := d9) rfl
  obtain ⟨fd28, F28⟩ := c.def_ 28 (d := d28) rfl
  obtain ⟨fd22, F22⟩ := c.def_ 22 (d := d22) rfl
  obtain ⟨fd10, F10⟩ := c.def_ 10 (d := d10) rfl
  obtain ⟨fd27, F27⟩ := c.def_ 27 (d := d27) rfl
  obtain ⟨fd29, F29⟩ := c.def_ 29 (d := d29) rfl
  obtain ⟨fd30, F30⟩ := c.def_ 30 (d := d30) rfl
  obtain ⟨fd11, F11⟩ := c.def_ 11 (d := d11) rfl
  obtain ⟨fd14, F14⟩ := c.def_ 14 (d := d14) rfl
  obtain ⟨fd12, F12⟩ := c.def_ 12 (d := d12) rfl
  obtain ⟨fd16, F16⟩ := c.def_ 16 (d := d16) rfl
  obtain ⟨fd13, F13⟩ := c.def_ 13 (d := d13) rfl
  obtain ⟨fd15, F15⟩ := c.def_ 15 (d := d15) rfl
  obtain ⟨fd31, F31⟩ := c.def_ 31 (d := d31) rfl
  exact ⟨{
    a__law_start := _
    fd__law_start := fd17
    F__law_start := F17
    m__law_start := He.glo_ok X G (c.fact 17 (f := .glo "_law_start") rfl)
    a__law_draw := _
    fd__law_draw := fd18
    F__law_draw := F18
    m__law_draw := He.glo_ok X G (c.fact 18 (f := .glo "_law_draw") rfl)
    a__law_pick := _
    fd__law_pick := fd19
    F__law_pick := F19
    m__law_pick := He.glo_ok X G (c.fact 19 (f := .glo "_law_pick") rfl)
    a__law_text := _
    fd__law_text := fd21
    F__law_text := F21
    m__law_text := He.glo_ok X G (c.fact 21 (f := .glo "_law_text") rfl)
    a__law_steps := _
    fd__law_steps := fd23
    F__law_steps := F23
    m__law_steps := He.glo_ok X G (c.fact 23 (f := .glo "_law_steps") rfl)
    a__law_added := _
    fd__law_added := fd24
    F__law_added := F24
    m__law_added := He.glo_ok X G (c.fact 24 (f := .glo "_law_added") rfl)
    a__law_table := _
    fd__law_table := fd25
    F__law_table := F25
    m__law_table := He.glo_ok X G (c.fact 25 (f := .glo "_law_table") rfl)
    a_is_integer := _
    fd_is_integer := fd0
    F_is_integer := F0
    m_is_integer := He.glo_ok X G (c.fact 0 (f := .glo "is_integer") rfl)
    a_check_sizes := _
    fd_check_sizes := fd1
    F_check_sizes := F1
    m_check_sizes := He.glo_ok X G (c.fact 1 (f := .glo "check_sizes") rfl)
    a_check_prices := _
    fd_check_prices := fd2
    F_check_prices := F2
    m_check_prices := He.glo_ok X G (c.fact 2 (f := .glo "check_prices") rfl)
    a_check_texts := _
    fd_check_texts := fd3
    F_check_texts := F3
    m_check_texts := He.glo_ok X G (c.fact 3 (f := .glo "check_texts") rfl)
    a_step_price := _
    fd_step_price := fd4
    F_step_price := F4
    m_step_price := He.glo_ok X G (c.fact 4 (f := .glo "step_price") rfl)
    a_table_of := _
    fd_table_of := fd5
    F_table_of := F5
    m_table_of := He.glo_ok X G (c.fact 5 (f := .glo "table_of") rfl)
    a_table := _
    fd_table := fd6
    F_table := F6
    m_table := He.glo_ok X G (c.fact 6 (f := .glo "table") rfl)
    a__law_row := _
    fd__law_row := fd26
    F__law_row := F26
    m__law_row := He.glo_ok X G (c.fact 26 (f := .glo "_law_row") rfl)
    a__law_same := _
    fd__law_same := fd20
    F__law_same := F20
    m__law_same := He.glo_ok X G (c.fact 20 (f := .glo "_law_same") rfl)
    a_aligned := _
    fd_aligned := fd7
    F_aligned := F7
    m_aligned := He.glo_ok X G (c.fact 7 (f := .glo "aligned") rfl)
    a_accept_steps := _
    fd_accept_steps := fd8
    F_accept_steps := F8
    m_accept_steps := He.glo_ok X G (c.fact 8 (f := .glo "accept_steps") rfl)
    a_accept_table := _
    fd_accept_table := fd9
    F_accept_table := F9
    m_accept_table := He.glo_ok X G (c.fact 9 (f := .glo "accept_table") rfl)
    a__law_refused := _
    fd__law_refused := fd28
    F__law_refused := F28
    m__law_refused := He.glo_ok X G (c.fact 28 (f := .glo "_law_refused") rfl)
    a__law_near := _
    fd__law_near := fd22
    F__law_near := F22
    m__law_near := He.glo_ok X G (c.fact 22 (f := .glo "_law_near") rfl)
    a_pairs := _
    fd_pairs := fd10
    F_pairs := F10
    m_pairs := He.glo_ok X G (c.fact 10 (f := .glo "pairs") rfl)
    a__law_pairs := _
    fd__law_pairs := fd27
    F__law_pairs := F27
    m__law_pairs := He.glo_ok X G (c.fact 27 (f := .glo "_law_pairs") rfl)
    a__law_texts_hold := _
    fd__law_texts_hold := fd29
    F__law_texts_hold := F29
    m__law_texts_hold := He.glo_ok X G (c.fact 29 (f := .glo "_law_texts_hold") rfl)
    a__law_pages := _
    fd__law_pages := fd30
    F__law_pages := F30
    m__law_pages := He.glo_ok X G (c.fact 30 (f := .glo "_law_pages") rfl)
    a_check_rows := _
    fd_check_rows := fd11
    F_check_rows := F11
    m_check_rows := He.glo_ok X G (c.fact 11 (f := .glo "check_rows") rfl)
    a_check_height := _
    fd_check_height := fd14
    F_check_height := F14
    m_check_height := He.glo_ok X G (c.fact 14 (f := .glo "check_height") rfl)
    a_height_of := _
    fd_height_of := fd12
    F_height_of := F12
    m_height_of := He.glo_ok X G (c.fact 12 (f := .glo "height_of") rfl)
    a_accept_pages := _
    fd_accept_pages := fd16
    F_accept_pages := F16
    m_accept_pages := He.glo_ok X G (c.fact 16 (f := .glo "accept_pages") rfl)
    a_page_prices := _
    fd_page_prices := fd13
    F_page_prices := F13
    m_page_prices := He.glo_ok X G (c.fact 13 (f := .glo "page_prices") rfl)
    a_judge_pages := _
    fd_judge_pages := fd15
    F_judge_pages := F15
    m_judge_pages := He.glo_ok X G (c.fact 15 (f := .glo "judge_pages") rfl)
    a_law := _
    fd_law := fd31
    F_law := F31
    m_law := He.glo_ok X G (c.fact 31 (f := .glo "law") rfl)
    z_abs := He.free_ok X G (c.fact 36 (f := .free "abs") rfl)
    z_all := He.free_ok X G (c.fact 37 (f := .free "all") rfl)
    z_bool := He.free_ok X G (c.fact 38 (f := .free "bool") rfl)
    z_enumerate := He.free_ok X G (c.fact 39 (f := .free "enumerate") rfl)
    z_int := He.free_ok X G (c.fact 40 (f := .free "int") rfl)
    z_isinstance := He.free_ok X G (c.fact 41 (f := .free "isinstance") rfl)
    z_len := He.free_ok X G (c.fact 42 (f := .free "len") rfl)
    z_list := He.free_ok X G (c.fact 43 (f := .free "list") rfl)
    z_max := He.free_ok X G (c.fact 44 (f := .free "max") rfl)
    z_min := He.free_ok X G (c.fact 45 (f := .free "min") rfl)
    z_range := He.free_ok X G (c.fact 46 (f := .free "range") rfl)
    z_repr := He.free_ok X G (c.fact 47 (f := .free "repr") rfl)
    z_sum := He.free_ok X G (c.fact 48 (f := .free "sum") rfl)
    z_tuple := He.free_ok X G (c.fact 50 (f := .free "tuple") rfl)
    z_zip := He.free_ok X G (c.fact 51 (f := .free "zip") rfl)
    c_MAX_WIDTH := He.int_ok X G (c.fact 52 (f := .int "MAX_WIDTH" 100000) rfl)
    c_MAX_BLOCKS := He.int_ok X G (c.fact 53 (f := .int "MAX_BLOCKS" 60) rfl)
    x_PaperError := DV.xc_of hx0 (beq_self_eq_true _) (by kernel_rfl)
    xf_PaperError := xfB_ok hx1
    mx_PaperError := He.glo_ok X G (c.fact 32 (f := .glo "PaperError") rfl)
    ex_PaperError := He.exm_ok (c.fact 34 (f := .exm "PaperError" "SetError" true) rfl)
    mx_SetError := He.glo_ok X G (c.fact 33 (f := .glo "SetError") rfl)
    z_super := He.free_ok X G (c.fact 49 (f := .free "super") rfl)
    g_STEPS := DV.dat_ok X G hx2 }⟩
end FnT
open PySem PySem.W PySem.Calls PyProof.Rows
theorem law_holds (hf : ∀ ns : List Int, ns.length ≤ 63 → ∃ env', FnT.f_law (.dead :: .own (DV.stateD ns (DV.seedOf ns)) :: List.replicate 7 .dead) = .ok (.rt (.bool true) env')) : PySem.Challenge.rw_setinlines_k69_two_texts_of_sixty_parts.Holds := by
  w_on; o_law
  refine HandSHeadRun.head_any (r := HeadT.R) (q := view HeadT.R.prog [41]) (H := HeadT.hk) (ob := HeadT.ob) (M := 2000) (loose := HeadT.loose) (d := HandSHeadRun.topDef HeadT.R.prog 41) (kwd := []) HeadT.ob_eq
    (by kernel_rfl) (fun s => by kernel_rfl) HeadT.run (by kernel_rfl) (by kernel_rfl) (by kernel_rfl) (by rfl) (by first | assumption | decide +kernel) (by decide +kernel) ⟨rfl, rfl, rfl, rfl, rfl, by decide +kernel⟩ ?hw ?hc
  case hw => w_witness2
  case hc =>
    refine DV.walkG (l := PySem.Challenge.rw_setinlines_k69_two_texts_of_sixty_parts) (n := 63) (k := 7) (x := "script") (CX := L2.CX0) rfl (by decide) (by kernel_rfl) ⟨rfl, by decide, by decide⟩ ?F (fun _ _ _ _ z => z)
    intro w mg a0 h Y G hmg0
    obtain ⟨K, KX, c, cx⟩ := Y
    have hmg : mg ("law" : PySem.Str) = some (.ref a0) := by
      have e : (HandSHeadRun.topDef HeadT.R.prog 41).name = ("law" : PySem.Str) := by kernel_rfl
      rw [← e]
      exact hmg0
    obtain ⟨m⟩ := FnT.mf_of KX G c cx
    have e := hmg.symm.trans m.m_law
    cases e
    have b := (L2.FunD.bindsA (ps := ["script"]) m.F_law) fun _ _ _ _ _ _ us hl => match us, hl with | [_], _ => rfl
    exact ⟨K, m.fd_law, DV.spLaw K, KX, fun s v => b s [v] rfl, fun H a ns hl _ hS => ⟨a, ns, rfl, hl, hS, fun _ => rfl⟩, fun base _ _ => FnT.g_law m hf⟩
end
set_option Elab.async false
set_option linter.all false
set_option maxRecDepth 100000
theorem PySem.Challenge.cw_setinlines_k69_two_texts_of_sixty_parts_holds : PySem.Challenge.rw_setinlines_k69_two_texts_of_sixty_parts.Holds := by
  exact law_holds FnT.law_plain
