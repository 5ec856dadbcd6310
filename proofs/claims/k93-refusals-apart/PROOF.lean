import PyProof.Rows.All
import Wide.All
import OpenK.AllK
import Wide.FinOn
import HandS.ForMost
import HandS.Evl
import HandS.ExcValue
import HandS.ExcInit
import HandS.ExcIs
import HandS.ExcField
import HandS.IsInst
import HandS.Deep
import HandS.TupLe
import HandS.Style
import HandS.SortInts
import HandS.SetFor
import HandS.TupLen
import HandS.Zip
import HandS.WideBits
import PyProof.StrOps2
import KE.KExcIs
import HandS.EndBits
import PySem.Challenge.RW_twostamps_k93_refusals_apart
set_option Elab.async false
set_option linter.all false
set_option maxRecDepth 100000
/-! VS1: data as values, how they stand in the abstract heap, who owns what. -/
namespace VS
open PySem L2

/-- data, as a value -/
inductive D where
  | non | bl (b : Bool) | int (i : Int) | str (x : Str)
  | tup (xs : List D) | lst (xs : List D) | frz (xs : List D)
  | dK (kvs : List (Key × D)) | dT (kvs : List (List Key × D))
  | obj (C : Addr) (fs : List (Str × D))
  | exc (C : Addr) (f : Option (Str × Int))

/-- a list that nobody writes -/
def SqR (K : PySem.W.Frag) (H : Hp) (a : Addr) (xs : List V) : Prop :=
  (∃ o, H a = some (.frz o (.lst xs))) ∨
    ∃ (o : Obj) (its : Array Value) (n : Nat), K.lookup a = some o ∧ o.cls = .type "list" ∧ o.dict = none ∧ o.data = .seq its n ∧ its.size ≤ sizeLine ∧ Vals xs its.toList
theorem SqR.l {K : PySem.W.Frag} {H : Hp} {a : Addr} {xs : List V} (h : SqR K H a xs) : SqL K H a xs := by
  rcases h with h | h
  · exact .inl (.inr h)
  · exact .inr h

mutual
inductive Rep (K : PySem.W.Frag) (H : Hp) : V → D → List Addr → Prop
  | non : Rep K H .non .non []
  | bl (b : Bool) : Rep K H (.bl b) (.bl b) []
  | int (i : Int) : Rep K H (.int i) (.int i) []
  | str (x : Str) : Rep K H (.str x) (.str x) []
  | tup {a : Addr} {vs : List V} {ds : List D} {F : List Addr} : SqT K H a vs → Reps K H vs ds F → Rep K H (.ref a) (.tup ds) F
  | lst {a : Addr} {vs : List V} {ds : List D} {F : List Addr} : H a = some (.lst vs) → Reps K H vs ds F → Rep K H (.ref a) (.lst ds) (a :: F)
  | lstR {a : Addr} {vs : List V} {ds : List D} {F : List Addr} : SqR K H a vs → Reps K H vs ds F → Rep K H (.ref a) (.frz ds) F
  | dK {a : Addr} {vs : List (Key × V)} {ds : List (Key × D)} {F : List Addr} : H a = some (.dK vs) → RepK K H vs ds F → Rep K H (.ref a) (.dK ds) (a :: F)
  | dT {a : Addr} {vs : List (List Key × V)} {ds : List (List Key × D)} {F : List Addr} : H a = some (.dT vs) → RepT K H vs ds F → Rep K H (.ref a) (.dT ds) (a :: F)
  | obj {a C dx : Addr} {vs : List (Str × V)} {ds : List (Str × D)} {F : List Addr} : H a = some (.ins C dx vs) → RepF K H vs ds F → Rep K H (.ref a) (.obj C ds) (a :: F)
  | exc {a C : Addr} : H a = some (ExO (.ref C) a) → Rep K H (.ref a) (.exc C none) []
  | excF {a C dx : Addr} {f : Str} {i : Int} : H a = some (exo a C (some dx)) → H dx = some (exd dx [(f, .int i)]) → Rep K H (.ref a) (.exc C (some (f, i))) []
inductive Reps (K : PySem.W.Frag) (H : Hp) : List V → List D → List Addr → Prop
  | nil : Reps K H [] [] []
  | cons {v : V} {d : D} {F : List Addr} {vs : List V} {ds : List D} {G : List Addr} : Rep K H v d F → Reps K H vs ds G → Reps K H (v :: vs) (d :: ds) (F ++ G)
inductive RepK (K : PySem.W.Frag) (H : Hp) : List (Key × V) → List (Key × D) → List Addr → Prop
  | nil : RepK K H [] [] []
  | cons {k : Key} {v : V} {d : D} {F : List Addr} {vs : List (Key × V)} {ds : List (Key × D)} {G : List Addr} : Rep K H v d F → RepK K H vs ds G → RepK K H ((k, v) :: vs) ((k, d) :: ds) (F ++ G)
inductive RepT (K : PySem.W.Frag) (H : Hp) : List (List Key × V) → List (List Key × D) → List Addr → Prop
  | nil : RepT K H [] [] []
  | cons {k : List Key} {v : V} {d : D} {F : List Addr} {vs : List (List Key × V)} {ds : List (List Key × D)} {G : List Addr} : Rep K H v d F → RepT K H vs ds G → RepT K H ((k, v) :: vs) ((k, d) :: ds) (F ++ G)
inductive RepF (K : PySem.W.Frag) (H : Hp) : List (Str × V) → List (Str × D) → List Addr → Prop
  | nil : RepF K H [] [] []
  | cons {k : Str} {v : V} {d : D} {F : List Addr} {vs : List (Str × V)} {ds : List (Str × D)} {G : List Addr} : Rep K H v d F → RepF K H vs ds G → RepF K H ((k, v) :: vs) ((k, d) :: ds) (F ++ G)
end

/-- what a store may change -/
def MutO : HO → Prop
  | .lst _ => True
  | .dK _ => True
  | .dT _ => True
  | .ins _ _ _ => True
  | _ => False

/-- from H to H' nothing has changed but what X may: new objects may stand -/
structure Stp (X : Addr → Prop) (H H' : Hp) : Prop where
  keep : ∀ a o, H a = some o → (MutO o → ¬ X a) → H' a = some o
  live : ∀ a, H' a = none → H a = none
theorem Stp.refl (X : Addr → Prop) (H : Hp) : Stp X H H := ⟨fun _ _ e _ => e, fun _ e => e⟩
theorem Stp.mono {X Y : Addr → Prop} {H H' : Hp} (h : Stp X H H') (hs : ∀ a, H a ≠ none → X a → Y a) : Stp Y H H' :=
  ⟨fun a o e n => h.keep a o e fun m x => n m (hs a (by rw [e]; intro z; cases z) x), h.live⟩
theorem Stp.trans {X Y : Addr → Prop} {H H1 H2 : Hp} (a : Stp X H H1) (b : Stp Y H1 H2) (hs : ∀ c, H c ≠ none → Y c → X c) : Stp X H H2 :=
  ⟨fun c o e n => b.keep c o (a.keep c o e n) fun m y => n m (hs c (by rw [e]; intro z; cases z) y), fun c e => a.live c (b.live c e)⟩
theorem Stp.ex {X : Addr → Prop} {H H' : Hp} (e : Evl.Ex H H') : Stp X H H' := ⟨fun a o h _ => e a o h, fun a h => Evl.fresh_back e h⟩
theorem Stp.new {X : Addr → Prop} {H : Hp} {p : Addr} {o : HO} (h : H p = none) : Stp X H (upd H p o) := Stp.ex (Evl.Ex.new h)
theorem Stp.upd {X : Addr → Prop} {H : Hp} {p : Addr} {o : HO} (h : X p) (m : ∀ o, H p = some o → MutO o) : Stp X H (L2.upd H p o) :=
  ⟨fun a u e n => by
    by_cases q : a = p
    · subst q; exact absurd h (n (m u e))
    · rw [upd_ne q]; exact e, fun a e => by
    by_cases q : a = p
    · subst q; rw [upd_same] at e; cases e
    · rw [upd_ne q] at e; exact e⟩

section
variable {K : PySem.W.Frag} {H H' : Hp} {X : Addr → Prop}
theorem SqT.stp {a : Addr} {xs : List V} (h : SqT K H a xs) (s : Stp X H H') : SqT K H' a xs := by
  rcases h with (h | ⟨o, h⟩) | h
  · exact .inl (.inl (s.keep _ _ h fun m => m.elim))
  · exact .inl (.inr ⟨o, s.keep _ _ h fun m => m.elim⟩)
  · exact .inr h
theorem SqR.stp {a : Addr} {xs : List V} (h : SqR K H a xs) (s : Stp X H H') : SqR K H' a xs := by
  rcases h with ⟨o, h⟩ | h
  · exact .inl ⟨o, s.keep _ _ h fun m => m.elim⟩
  · exact .inr h
mutual
theorem Rep.stp (s : Stp X H H') : ∀ {v : V} {d : D} {F : List Addr}, Rep K H v d F → (∀ a ∈ F, ¬ X a) → Rep K H' v d F
  | _, _, _, .non, _ => .non
  | _, _, _, .bl b, _ => .bl b
  | _, _, _, .int b, _ => .int b
  | _, _, _, .str b, _ => .str b
  | _, _, _, .tup h r, n => .tup (SqT.stp h s) (Reps.stp s r n)
  | _, _, _, .lst h r, n => .lst (s.keep _ _ h fun _ => n _ List.mem_cons_self) (Reps.stp s r fun a ha => n a (List.mem_cons_of_mem _ ha))
  | _, _, _, .lstR h r, n => .lstR (SqR.stp h s) (Reps.stp s r n)
  | _, _, _, .dK h r, n => .dK (s.keep _ _ h fun _ => n _ List.mem_cons_self) (RepK.stp s r fun a ha => n a (List.mem_cons_of_mem _ ha))
  | _, _, _, .dT h r, n => .dT (s.keep _ _ h fun _ => n _ List.mem_cons_self) (RepT.stp s r fun a ha => n a (List.mem_cons_of_mem _ ha))
  | _, _, _, .obj h r, n => .obj (s.keep _ _ h fun _ => n _ List.mem_cons_self) (RepF.stp s r fun a ha => n a (List.mem_cons_of_mem _ ha))
  | _, _, _, .exc h, n => .exc (s.keep _ _ h fun m => False.elim m)
  | _, _, _, .excF h g, n => .excF (s.keep _ _ h fun m => False.elim m) (s.keep _ _ g fun m => False.elim m)
theorem Reps.stp (s : Stp X H H') : ∀ {vs : List V} {ds : List D} {F : List Addr}, Reps K H vs ds F → (∀ a ∈ F, ¬ X a) → Reps K H' vs ds F
  | _, _, _, .nil, _ => .nil
  | _, _, _, .cons r t, n => .cons (Rep.stp s r fun a ha => n a (List.mem_append_left _ ha)) (Reps.stp s t fun a ha => n a (List.mem_append_right _ ha))
theorem RepK.stp (s : Stp X H H') : ∀ {vs : List (Key × V)} {ds : List (Key × D)} {F : List Addr}, RepK K H vs ds F → (∀ a ∈ F, ¬ X a) → RepK K H' vs ds F
  | _, _, _, .nil, _ => .nil
  | _, _, _, .cons r t, n => .cons (Rep.stp s r fun a ha => n a (List.mem_append_left _ ha)) (RepK.stp s t fun a ha => n a (List.mem_append_right _ ha))
theorem RepT.stp (s : Stp X H H') : ∀ {vs : List (List Key × V)} {ds : List (List Key × D)} {F : List Addr}, RepT K H vs ds F → (∀ a ∈ F, ¬ X a) → RepT K H' vs ds F
  | _, _, _, .nil, _ => .nil
  | _, _, _, .cons r t, n => .cons (Rep.stp s r fun a ha => n a (List.mem_append_left _ ha)) (RepT.stp s t fun a ha => n a (List.mem_append_right _ ha))
theorem RepF.stp (s : Stp X H H') : ∀ {vs : List (Str × V)} {ds : List (Str × D)} {F : List Addr}, RepF K H vs ds F → (∀ a ∈ F, ¬ X a) → RepF K H' vs ds F
  | _, _, _, .nil, _ => .nil
  | _, _, _, .cons r t, n => .cons (Rep.stp s r fun a ha => n a (List.mem_append_left _ ha)) (RepF.stp s t fun a ha => n a (List.mem_append_right _ ha))
end
/-- what is in a footprint stands -/
def Up (H : Hp) (a : Addr) : Prop := ∃ o, H a = some o ∧ MutO o
theorem up_cons {H : Hp} {b : Addr} {o : HO} {F : List Addr} (e : H b = some o) (m : MutO o) (h : ∀ a ∈ F, Up H a) : ∀ a ∈ b :: F, Up H a := fun a ha => by
  rcases List.mem_cons.mp ha with rfl | ha
  · exact ⟨o, e, m⟩
  · exact h a ha
theorem up_app {H : Hp} {F G : List Addr} (h : ∀ a ∈ F, Up H a) (k : ∀ a ∈ G, Up H a) : ∀ a ∈ F ++ G, Up H a := fun a ha => (List.mem_append.mp ha).elim (h a) (k a)
mutual
theorem Rep.there : ∀ {v : V} {d : D} {F : List Addr}, Rep K H v d F → ∀ a ∈ F, Up H a
  | _, _, _, .non => fun _ h => nomatch h
  | _, _, _, .bl b => fun _ h => nomatch h
  | _, _, _, .int b => fun _ h => nomatch h
  | _, _, _, .str b => fun _ h => nomatch h
  | _, _, _, .tup _ r => Reps.there r
  | _, _, _, .lst e r => up_cons e trivial (Reps.there r)
  | _, _, _, .lstR _ r => Reps.there r
  | _, _, _, .dK e r => up_cons e trivial (RepK.there r)
  | _, _, _, .dT e r => up_cons e trivial (RepT.there r)
  | _, _, _, .obj e r => up_cons e trivial (RepF.there r)
  | _, _, _, .exc _ => fun _ h => nomatch h
  | _, _, _, .excF _ _ => fun _ h => nomatch h
theorem Reps.there : ∀ {vs : List V} {ds : List D} {F : List Addr}, Reps K H vs ds F → ∀ a ∈ F, Up H a
  | _, _, _, .nil => fun _ h => nomatch h
  | _, _, _, .cons r t => up_app (Rep.there r) (Reps.there t)
theorem RepK.there : ∀ {vs : List (Key × V)} {ds : List (Key × D)} {F : List Addr}, RepK K H vs ds F → ∀ a ∈ F, Up H a
  | _, _, _, .nil => fun _ h => nomatch h
  | _, _, _, .cons r t => up_app (Rep.there r) (RepK.there t)
theorem RepT.there : ∀ {vs : List (List Key × V)} {ds : List (List Key × D)} {F : List Addr}, RepT K H vs ds F → ∀ a ∈ F, Up H a
  | _, _, _, .nil => fun _ h => nomatch h
  | _, _, _, .cons r t => up_app (Rep.there r) (RepT.there t)
theorem RepF.there : ∀ {vs : List (Str × V)} {ds : List (Str × D)} {F : List Addr}, RepF K H vs ds F → ∀ a ∈ F, Up H a
  | _, _, _, .nil => fun _ h => nomatch h
  | _, _, _, .cons r t => up_app (Rep.there r) (RepF.there t)
end
theorem Rep.ne {v : V} {d : D} {F : List Addr} (r : Rep K H v d F) {p : Addr} (h : H p = none) : p ∉ F := fun m => by
  obtain ⟨o, e, _⟩ := r.there p m
  rw [h] at e; cases e
end

/-! nothing within that may be written -/
mutual
def immut : D → Bool
  | .tup xs => immuts xs
  | .lst _ => false
  | .frz xs => immuts xs
  | .dK _ => false
  | .dT _ => false
  | .obj _ _ => false
  | _ => true
def immuts : List D → Bool
  | [] => true
  | d :: ds => immut d && immuts ds
end
section
variable {K : PySem.W.Frag} {H : Hp}
mutual
theorem Rep.immut : ∀ {v : V} {d : D} {F : List Addr}, Rep K H v d F → immut d = true → F = []
  | _, _, _, .non, _ => rfl
  | _, _, _, .bl b, _ => rfl
  | _, _, _, .int b, _ => rfl
  | _, _, _, .str b, _ => rfl
  | _, _, _, .tup _ r, h => Reps.immut r h
  | _, _, _, .lst _ _, h => nomatch h
  | _, _, _, .lstR _ r, h => Reps.immut r h
  | _, _, _, .dK _ _, h => nomatch h
  | _, _, _, .dT _ _, h => nomatch h
  | _, _, _, .obj _ _, h => nomatch h
  | _, _, _, .exc _, _ => rfl
  | _, _, _, .excF _ _, _ => rfl
theorem Reps.immut : ∀ {vs : List V} {ds : List D} {F : List Addr}, Reps K H vs ds F → immuts ds = true → F = []
  | _, _, _, .nil, _ => rfl
  | _, _, _, .cons r t, h => by
    have h' := Bool.and_eq_true_iff.mp h
    rw [Rep.immut r h'.1, Reps.immut t h'.2]
    rfl
end
end

/-! ### who owns what -/
inductive Md where
  | own | ro | io
  deriving DecidableEq
abbrev Slot := Option (Md × D)
abbrev Env := List Slot

/-- the slots hold the environment's data; F i: what slot i owns; I: what nobody writes any more -/
structure Ok (K : PySem.W.Frag) (I : Addr → Prop) (F : Nat → List Addr) (σ : St) (Γ : Env) (H : Hp) : Prop where
  len : σ.length = Γ.length
  at' : ∀ i m d, Γ[i]? = some (some (m, d)) → ∃ v G, σ[i]? = some (some v) ∧ Rep K H v d G ∧ if m = .ro then ∀ a ∈ G, I a else F i = G
  nd : ∀ i, (F i).Nodup
  dj : ∀ i j, i ≠ j → ∀ a ∈ F i, a ∉ F j
  nI : ∀ i, ∀ a ∈ F i, ¬ I a
  lv : ∀ i, ∀ a ∈ F i, H a ≠ none
  iv : ∀ a, I a → H a ≠ none

/-- a value: what slots it may share with, whether with what nobody writes; its data -/
structure Val where
  deps : List Nat
  ro : Bool
  d : D
/-- a value without ties -/
def nw (d : D) : Val := ⟨[], false, d⟩

/-- v is that value: reckoned in H, stands in H' -/
structure VOk (K : PySem.W.Frag) (I : Addr → Prop) (F : Nat → List Addr) (H H' : Hp) (v : V) (x : Val) (G : List Addr) : Prop where
  rep : Rep K H' v x.d G
  own : ∀ a ∈ G, (H a = none ∧ ∀ s, a ∉ F s) ∨ (x.ro = true ∧ I a) ∨ ∃ s ∈ x.deps, a ∈ F s
  nd : x.ro = false → G.Nodup

/-- whose slot -/
def md (Γ : Env) (s : Nat) : Option Md := match Γ[s]? with
  | some (some (m, _)) => some m
  | _ => none
/-- from (F, H) to (F', H') only the slots M have been written -/
structure Frm (M : List Nat) (Γ Γ' : Env) (F F' : Nat → List Addr) (H H' : Hp) : Prop where
  stp : Stp (fun a => ∃ s ∈ M, a ∈ F s) H H'
  same : ∀ s, s ∉ M → F' s = F s
  env : ∀ s, s ∉ M → Γ'[s]? = Γ[s]?
  sub : ∀ s, ∀ a ∈ F' s, a ∈ F s ∨ H a = none
  md : ∀ s, md Γ' s = md Γ s
theorem Frm.refl (Γ : Env) (F : Nat → List Addr) (H : Hp) : Frm [] Γ Γ F F H H := ⟨Stp.refl _ _, fun _ _ => rfl, fun _ _ => rfl, fun _ _ h => .inl h, fun _ => rfl⟩
theorem Frm.ex {M : List Nat} {Γ : Env} {F : Nat → List Addr} {H H' : Hp} (e : Evl.Ex H H') : Frm M Γ Γ F F H H' := ⟨Stp.ex e, fun _ _ => rfl, fun _ _ => rfl, fun s a h => .inl h, fun _ => rfl⟩
theorem Frm.trans {M N : List Nat} {Γ Γ1 Γ2 : Env} {F F1 F2 : Nat → List Addr} {H H1 H2 : Hp} (a : Frm M Γ Γ1 F F1 H H1) (b : Frm N Γ1 Γ2 F1 F2 H1 H2) : Frm (M ++ N) Γ Γ2 F F2 H H2 where
  stp := (a.stp.mono fun c _ ⟨s, m, h⟩ => ⟨s, List.mem_append_left _ m, h⟩).trans b.stp fun c e ⟨s, m, h⟩ => by
    rcases a.sub s c h with h' | q
    · exact ⟨s, List.mem_append_right _ m, h'⟩
    · exact absurd q e
  same := fun s h => (b.same s fun z => h (List.mem_append_right _ z)).trans (a.same s fun z => h (List.mem_append_left _ z))
  env := fun s h => (b.env s fun z => h (List.mem_append_right _ z)).trans (a.env s fun z => h (List.mem_append_left _ z))
  sub := fun s c h => by
    rcases b.sub s c h with h' | q
    · exact a.sub s c h'
    · exact .inr (a.stp.live c q)
  md := fun s => (b.md s).trans (a.md s)

/-- an expression: what it gives, what becomes of the environment -/
abbrev EF := Env → Option (Val × Env)
abbrev AF := Env → Option (List Val × Env)
abbrev TF := Env → Option (Bool × Env)

/-- what a reading in the layer's letters must bear, to be of f -/
def tSem (K : PySem.W.Frag) (M : List Nat) (f : EF) : TE := fun σ H Q => ∃ I F Γ x Γ', Ok K I F σ Γ H ∧ f Γ = some (x, Γ') ∧
  ∀ v H' F' G, Ok K I F' σ Γ' H' → Frm M Γ Γ' F F' H H' → VOk K I F' H H' v x G → Q v H'
def tSemT (K : PySem.W.Frag) (M : List Nat) (f : TF) : TT := fun σ H Q => ∃ I F Γ b Γ', Ok K I F σ Γ H ∧ f Γ = some (b, Γ') ∧
  ∀ H' F', Ok K I F' σ Γ' H' → Frm M Γ Γ' F F' H H' → Q b H'
structure SE (X : Cx) (M : List Nat) (e : Expr) (f : EF) : Prop where
  pe : PE X e (tSem X.K M f)
structure ST (X : Cx) (M : List Nat) (e : Expr) (f : TF) : Prop where
  pt : PT X e (tSemT X.K M f)
/-- whatever the 'whole' is -/
structure SW (X : Cx) (M : List Nat) (e : Expr) (f : TF) : Prop where
  pw : PW X e (tSemT X.K M f)
theorem PE.imp {X : Cx} {e : Expr} {t t' : TE} (h : PE X e t) (k : ∀ σ H Q, t' σ H Q → t σ H Q) : PE X e t' := ⟨fun pins s σ H Q I w => h.run pins s σ H Q I (k σ H Q w)⟩
theorem PT.imp {X : Cx} {e : Expr} {t t' : TT} (h : PT X e t) (k : ∀ σ H Q, t' σ H Q → t σ H Q) : PT X e t' := ⟨fun pins s σ H Q I w => h.run pins s σ H Q I (k σ H Q w)⟩
theorem PW.imp {X : Cx} {e : Expr} {t t' : TT} (h : PW X e t) (k : ∀ σ H Q, t' σ H Q → t σ H Q) : PW X e t' := ⟨fun wh pins s σ H Q I w => h.run wh pins s σ H Q I (k σ H Q w)⟩

section
variable {K : PySem.W.Frag} {I : Addr → Prop} {F F' : Nat → List Addr} {σ : St} {Γ Γ' : Env} {H H1 H' : Hp}
theorem Ok.ex (o : Ok K I F σ Γ H) (e : Evl.Ex H H') : Ok K I F σ Γ H' where
  len := o.len
  at' := fun i m d h => by
    obtain ⟨v, G, h1, h2, h3⟩ := o.at' i m d h
    exact ⟨v, G, h1, h2.stp (X := fun _ => False) (Stp.ex e) fun _ _ z => z, h3⟩
  nd := o.nd
  dj := o.dj
  nI := o.nI
  lv := fun i a h z => o.lv i a h (Evl.fresh_back e z)
  iv := fun a h z => o.iv a h (Evl.fresh_back e z)
/-- a value without ties, of no footprint -/
theorem VOk.flat {v : V} {d : D} (r : Rep K H' v d []) : VOk K I F H H' v (nw d) [] := ⟨r, (fun _ h => nomatch h), fun _ => List.nodup_nil⟩
theorem VOk.back {v : V} {x : Val} {G : List Addr} (h : VOk K I F H1 H' v x G) (l : ∀ a, H1 a = none → H a = none) : VOk K I F H H' v x G :=
  ⟨h.rep, fun a ha => Or.imp (fun z => ⟨l a z.1, z.2⟩) id (h.own a ha), h.nd⟩
/-- a value lasts while others are reckoned that write none of the slots it may share with -/
theorem VOk.last {v : V} {x : Val} {G : List Addr} {M : List Nat} (o : Ok K I F σ Γ H1) (h : VOk K I F H H1 v x G) (f : Frm M Γ Γ' F F' H1 H') (o' : Ok K I F' σ Γ' H') (hd : ∀ s ∈ x.deps, s ∉ M) : VOk K I F' H H' v x G where
  rep := h.rep.stp f.stp fun a ha ⟨s, m, hs⟩ => by
    rcases h.own a ha with ⟨_, z⟩ | ⟨_, z⟩ | ⟨s', d, z⟩
    · exact z s hs
    · exact o.nI s a hs z
    · exact o.dj s s' (fun e => hd s' d (e ▸ m)) a hs z
  own := fun a ha => by
    rcases h.own a ha with ⟨z, n⟩ | z | ⟨s, d, z⟩
    · refine .inl ⟨z, fun s hs => ?_⟩
      rcases f.sub s a hs with z' | z'
      · exact n s z'
      · exact h.rep.ne z' ha
    · exact .inr (.inl z)
    · exact .inr (.inr ⟨s, d, by rw [f.same s (hd s d)]; exact z⟩)
  nd := h.nd
end
end VS
/-! VS2: expressions. -/
namespace VS
open PySem L2

section
variable {K : PySem.W.Frag} {I : Addr → Prop} {F F1 F2 F' : Nat → List Addr} {σ : St} {Γ Γ1 Γ2 Γ' : Env} {H H1 H2 H' : Hp}

/-- x lasts while an expression that writes the slots N is reckoned -/
def lastOk (N : List Nat) (x : Val) : Bool := N.isEmpty || immut x.d || x.deps.all fun s => !N.contains s
theorem VOk.lastB {v : V} {x : Val} {G : List Addr} {N : List Nat} (hl : lastOk N x = true) (o : Ok K I F σ Γ H1) (h : VOk K I F H H1 v x G) (f : Frm N Γ Γ' F F' H1 H') (o' : Ok K I F' σ Γ' H') : VOk K I F' H H' v x G := by
  unfold lastOk at hl
  rw [Bool.or_eq_true, Bool.or_eq_true] at hl
  rcases hl with (hl | hl) | hl
  · refine h.last o f o' fun s _ m => ?_
    rw [List.isEmpty_iff.mp hl] at m
    cases m
  · have e := h.rep.immut hl
    subst e
    exact ⟨h.rep.stp f.stp (fun _ z => nomatch z), (fun _ z => nomatch z), fun _ => List.nodup_nil⟩
  · refine h.last o f o' fun s d m => ?_
    have q := List.all_eq_true.mp hl s d
    simp at q
    exact q m

/-- whether two values may share -/
def tied (x y : Val) : Bool := x.deps.any fun s => y.deps.contains s
theorem two_nodup {v : V} {x y : Val} {G1 G2 : List Addr} (o : Ok K I F2 σ Γ2 H2) (l1 : VOk K I F2 H H2 v x G1) (hy : ∀ a ∈ G2, (H1 a = none ∧ ∀ s, a ∉ F2 s) ∨ (y.ro = true ∧ I a) ∨ ∃ s ∈ y.deps, a ∈ F2 s) (hn : y.ro = false → G2.Nodup) (hx : ∀ a ∈ G1, H1 a ≠ none) (h1 : x.ro = false) (h2 : y.ro = false) (h3 : tied x y = false) : (G1 ++ G2).Nodup := by
  refine List.nodup_append.mpr ⟨l1.nd h1, hn h2, fun a m b n e => ?_⟩
  subst e
  rcases hy a n with ⟨z, _⟩ | ⟨z, _⟩ | ⟨s, d, z⟩
  · exact hx a m z
  · rw [h2] at z; cases z
  · rcases l1.own a m with ⟨_, q⟩ | ⟨q, _⟩ | ⟨s', d', q⟩
    · exact q s z
    · rw [h1] at q; cases q
    · by_cases e : s = s'
      · subst e
        have : tied x y = true := List.any_eq_true.mpr ⟨s, d', by simpa using d⟩
        rw [h3] at this; cases this
      · exact o.dj s s' e a z q
/-- two expressions, one behind the other -/
theorem two {M N : List Nat} {fa fb : EF} {x y : Val} (o : Ok K I F σ Γ H) (e1 : fa Γ = some (x, Γ1)) (e2 : fb Γ1 = some (y, Γ2)) (hl : lastOk N x = true) {R : V → V → Hp → Prop}
    (k : ∀ v w H2 F2 G1 G2, Ok K I F2 σ Γ2 H2 → Frm (M ++ N) Γ Γ2 F F2 H H2 → VOk K I F2 H H2 v x G1 → VOk K I F2 H H2 w y G2 → (x.ro = false → y.ro = false → tied x y = false → (G1 ++ G2).Nodup) → R v w H2) :
    tSem K M fa σ H fun v H1 => tSem K N fb σ H1 fun w H2 => R v w H2 := by
  refine ⟨I, F, Γ, x, Γ1, o, e1, fun v H1 F1 G1 o1 f1 hx => ⟨I, F1, Γ1, y, Γ2, o1, e2, fun w H2 F2 G2 o2 f2 hy => ?_⟩⟩
  have l1 := hx.lastB hl o1 f2 o2
  refine k v w H2 F2 G1 G2 o2 (f1.trans f2) l1 (hy.back f1.stp.live) fun h1 h2 h3 => two_nodup o2 l1 hy.own hy.nd (fun a m z => ?_) h1 h2 h3
  obtain ⟨_, e, _⟩ := hx.rep.there a m
  rw [z] at e; cases e
end

section
variable {X : Cx} {a b c : Expr} {M N L : List Nat} {fa fb fc : EF} {pos : Pos}

/-! ### names, constants -/
def varF (i : Nat) : EF := fun Γ => match Γ[i]? with
  | some (some (m, d)) => some (if immut d then nw d else if m = .ro then ⟨[], true, d⟩ else ⟨[i], false, d⟩, Γ)
  | _ => none
theorem se_var {i : Nat} {x : Str} (h : PE X (.Name x pos) (tVar i)) : SE X [] (.Name x pos) (varF i) := ⟨PE.imp h fun σ H Q q => by
  obtain ⟨I, F, Γ, x, Γ', o, e, k⟩ := q
  unfold varF at e
  split at e
  · rename_i m d hd
    obtain ⟨v, G, h1, h2, h3⟩ := o.at' i m d hd
    refine ⟨v, h1, ?_⟩
    injection e with e
    injection e with e e'
    subst e'
    refine k v H F G o (Frm.refl _ _ _) ?_
    by_cases q : immut d = true
    · rw [if_pos q] at e
      subst e
      have z := h2.immut q
      subst z
      exact .flat h2
    · rw [if_neg q] at e
      by_cases q2 : m = .ro
      · rw [if_pos q2] at e h3
        subst e
        exact ⟨h2, fun a ha => .inr (.inl ⟨rfl, h3 a ha⟩), fun z => nomatch z⟩
      · rw [if_neg q2] at e h3
        subst e h3
        exact ⟨h2, fun a ha => .inr (.inr ⟨i, List.mem_cons_self, ha⟩), fun _ => o.nd i⟩
  · cases e⟩
def cF (d : D) : EF := fun Γ => some (nw d, Γ)
theorem se_c {e : Expr} {v : V} {d : D} (h : PE X e (tC v)) (r : ∀ H, Rep X.K H v d []) : SE X [] e (cF d) := ⟨PE.imp h fun σ H Q q => by
  obtain ⟨I, F, Γ, x, Γ', o, e, k⟩ := q
  injection e with e
  injection e with e e'
  subst e e'
  exact k v H F [] o (Frm.refl _ _ _) (.flat (r H))⟩
theorem se_int {i j} : SE X [] (.Constant (.int i) j pos) (cF (.int i)) := se_c pe_int fun _ => .int _
theorem se_bl {i j} : SE X [] (.Constant (.bool i) j pos) (cF (.bl i)) := se_c pe_bl fun _ => .bl _
theorem se_non {j} : SE X [] (.Constant .none j pos) (cF .non) := se_c pe_non fun _ => .non
theorem se_str {i j} : SE X [] (.Constant (.str i) j pos) (cF (.str i)) := se_c pe_str fun _ => .str _
/-- a module's constant -/
theorem se_globI {x : Str} {i : Int} {t : Tok} (hg : Gl X x) (hm : X.mg x = some (.int i t)) (hd : (x == ("__debug__" : Str)) = false := by decide) : SE X [] (.Name x pos) (cF (.int i)) := se_c (v := .int i) (pe_glob hg hm ⟨t, rfl⟩ hd) fun _ => .int _
theorem se_globS {x z : Str} {t : Tok} (hg : Gl X x) (hm : X.mg x = some (.str z t)) (hd : (x == ("__debug__" : Str)) = false := by decide) : SE X [] (.Name x pos) (cF (.str z)) := se_c (v := .str z) (pe_glob hg hm ⟨t, rfl⟩ hd) fun _ => .str _

/-! ### operators on two values, the answer without ties -/
/-- r answers as g -/
def Ans2 (K : PySem.W.Frag) (r : R2) (g : D → D → Option D) : Prop := ∀ (H : Hp) (v w : V) (d e z : D) (G1 G2 : List Addr) (Q : VK), Rep K H v d G1 → Rep K H w e G2 → g d e = some z →
  (∀ u H2, Evl.Ex H H2 → (∃ G, Rep K H2 u z G ∧ (∀ a ∈ G, H a = none) ∧ G.Nodup) → Q u H2) → r v w H Q
def op2F (g : D → D → Option D) (N : List Nat) (fa fb : EF) : EF := fun Γ => match fa Γ with
  | none => none
  | some (x, Γ1) => match fb Γ1 with
    | none => none
    | some (y, Γ2) => if lastOk N x then match g x.d y.d with
      | none => none
      | some z => some (nw z, Γ2) else none
theorem ok_new {K : PySem.W.Frag} {I : Addr → Prop} {F F2 : Nat → List Addr} {σ : St} {Γ Γ2 : Env} {H H2 H3 : Hp} {u : V} {z : D} {G : List Addr} {M : List Nat} {Q : VK} (o : Ok K I F2 σ Γ2 H2) (f : Frm M Γ Γ2 F F2 H H2)
    (k : ∀ v H' F' G, Ok K I F' σ Γ2 H' → Frm M Γ Γ2 F F' H H' → VOk K I F' H H' v (nw z) G → Q v H') (e : Evl.Ex H2 H3) (r : Rep K H3 u z G) (n : ∀ a ∈ G, H2 a = none) (nd : G.Nodup) : Q u H3 := by
  have fr : Frm M Γ Γ2 F F2 H H3 := ⟨⟨fun a o' h hm => e a o' (f.stp.keep a o' h hm), fun a h => f.stp.live a (Evl.fresh_back e h)⟩, f.same, f.env, f.sub, f.md⟩
  exact k u H3 F2 G (o.ex e) fr ⟨r, fun a ha => .inl ⟨f.stp.live a (n a ha), fun s hs => o.lv s a hs (n a ha)⟩, fun _ => nd⟩
theorem sem_op2 {K : PySem.W.Frag} {r : R2} {g : D → D → Option D} (A : Ans2 K r g) {σ : St} {H : Hp} {Q : VK} (q : tSem K (M ++ N) (op2F g N fa fb) σ H Q) : tOp r (tSem K M fa) (tSem K N fb) σ H Q := by
  obtain ⟨I, F, Γ, x, Γ', o, e, k⟩ := q
  unfold op2F at e
  split at e
  · cases e
  · rename_i x1 Γ1 e1
    split at e
    · cases e
    · rename_i y1 Γ2 e2
      split at e
      · rename_i hl
        split at e
        · cases e
        · rename_i z ez
          injection e with e
          injection e with e e'
          subst e e'
          refine two o e1 e2 hl fun v w H2 F2 G1 G2 o2 f2 l1 l2 _ => A H2 v w _ _ z G1 G2 Q l1.rep l2.rep ez fun u H3 ex ⟨G, r3, n3, nd3⟩ => ?_
          exact ok_new o2 f2 k ex r3 n3 nd3
      · cases e
theorem se_op {op : Operator} {r : R2} {g : D → D → Option D} (ho : OpR X (binaryOp op) r) (A : Ans2 X.K r g) (ha : SE X M a fa) (hb : SE X N b fb) : SE X (M ++ N) (.BinOp a op b pos) (op2F g N fa fb) :=
  ⟨PE.imp (pe_op ho ha.pe hb.pe) fun _ _ _ q => sem_op2 A q⟩
def isB : D → Option Bool
  | .bl b => some b
  | _ => none
/-- an expression's value, a truth, as a test -/
def tst (f : EF) : TF := fun Γ => match f Γ with
  | some (⟨_, _, .bl b⟩, Γ') => some (b, Γ')
  | _ => none
theorem sem_tst {K : PySem.W.Frag} {f : EF} {t : TE} (h : ∀ σ H Q, tSem K M f σ H Q → t σ H Q) {σ : St} {H : Hp} {Q : Bool → Hp → Prop} (q : tSemT K M (tst f) σ H Q) : tTest t σ H Q := by
  obtain ⟨I, F, Γ, b, Γ', o, e, k⟩ := q
  unfold tst at e
  split at e
  · rename_i dp ro b1 Γ1 e1
    injection e with e
    injection e with e e'
    subst e e'
    refine h σ H _ ⟨I, F, Γ, _, _, o, e1, fun v H' F' G o' f' x => ?_⟩
    cases x.rep
    exact ⟨_, rfl, k H' F' o' f'⟩
  · cases e
theorem se_cmp {op : CmpOp} {r : R2} {g : D → D → Option D} (ho : OpR X (compareOp op) r) (A : Ans2 X.K r g) (ha : SE X M a fa) (hb : SE X N b fb) (hm : behindInMarks op b = false := by first | exact nomark _ | rfl) : SE X (M ++ N) (.Compare a [op] [b] pos) (op2F g N fa fb) :=
  ⟨PE.imp (pe_cmpR ho ha.pe hb.pe hm) fun _ _ _ q => sem_op2 A q⟩
theorem st_cmp {op : CmpOp} {r : R2} {g : D → D → Option D} (ho : OpR X (compareOp op) r) (A : Ans2 X.K r g) (ha : SE X M a fa) (hb : SE X N b fb) (hm : behindInMarks op b = false := by first | exact nomark _ | rfl) : ST X (M ++ N) (.Compare a [op] [b] pos) (tst (op2F g N fa fb)) :=
  ⟨PT.imp (pt_cmpR ho ha.pe hb.pe hm) fun _ _ _ q => sem_tst (fun _ _ _ q => sem_op2 A q) q⟩
/-- an expression of another form as a test -/
theorem st_val {f : EF} (h : SE X M a f) (he : ∀ whole, isTrue a X.env whole = (do let v ← whole; standAt a.pos; holding [v] (truthy v)) := by intro _; rfl) : ST X M a (tst f) :=
  ⟨PT.imp (pt_val h.pe he) fun _ _ _ q => sem_tst (fun _ _ _ q => q) q⟩

/-! ### the answers -/
def gI (f : Int → Int → Option D) : D → D → Option D
  | .int i, .int j => f i j
  | _, _ => none
theorem ans_I0 {K : PySem.W.Frag} {f : Int → Int → V} {f' : Int → Int → D} (h : ∀ H i j, Rep K H (f i j) (f' i j) []) : Ans2 K (rI0 f) (gI fun i j => some (f' i j)) := by
  intro H v w d e z G1 G2 Q r1 r2 hg k
  cases r1 <;> first | cases hg | (cases r2 <;> first | cases hg | skip)
  exact ⟨_, _, rfl, rfl, k _ H (Evl.Ex.refl H) ⟨[], h H _ _, (fun _ z => nomatch z), List.nodup_nil⟩⟩
theorem ans_I {K : PySem.W.Frag} {C : Int → Int → Prop} [∀ i j, Decidable (C i j)] {f : Int → Int → V} {f' : Int → Int → D} (h : ∀ H i j, Rep K H (f i j) (f' i j) []) : Ans2 K (rI C f) (gI fun i j => if C i j then some (f' i j) else none) := by
  intro H v w d e z G1 G2 Q r1 r2 hg k
  cases r1 <;> first | cases hg | (cases r2 <;> first | cases hg | skip)
  rename_i i j
  have hg' : (if C i j then some (f' i j) else none) = some z := hg
  split at hg'
  · rename_i hc
    injection hg' with hg'
    subst hg'
    exact ⟨_, _, rfl, rfl, hc, k _ H (Evl.Ex.refl H) ⟨[], h H _ _, (fun _ z => nomatch z), List.nodup_nil⟩⟩
  · cases hg'
/-- one rule or another -/
theorem OpR.or {f : Value → Value → Sem Value} {r r' : R2} (h : OpR X f r) (h' : OpR X f r') : OpR X f (fun x y H Q => r x y H Q ∨ r' x y H Q) := by
  intro pins s σ H x y v u Q I rx ry q
  rcases q with q | q
  · exact h pins s σ H x y v u Q I rx ry q
  · exact h' pins s σ H x y v u Q I rx ry q
def orElse (g g' : D → D → Option D) : D → D → Option D := fun x y => match g x y with
  | some z => some z
  | none => g' x y
theorem Ans2.or {K : PySem.W.Frag} {r r' : R2} {g g' : D → D → Option D} (A : Ans2 K r g) (A' : Ans2 K r' g') : Ans2 K (fun x y H Q => r x y H Q ∨ r' x y H Q) (orElse g g') := by
  intro H v w d e z G1 G2 Q r1 r2 hg k
  unfold orElse at hg
  split at hg
  · rename_i z' e'
    injection hg with hg
    subst hg
    exact .inl (A H v w d e _ G1 G2 Q r1 r2 e' k)
  · exact .inr (A' H v w d e z G1 G2 Q r1 r2 hg k)
end
end VS
/-! VS3: displays, data compared, truths. -/
namespace VS
open PySem L2

/-! ### several values -/
structure VL where
  deps : List Nat
  ro : Bool
  ds : List D
abbrev LF := Env → Option (VL × Env)
structure VLOk (K : PySem.W.Frag) (I : Addr → Prop) (F : Nat → List Addr) (H H' : Hp) (vs : List V) (x : VL) (G : List Addr) : Prop where
  rep : Reps K H' vs x.ds G
  own : ∀ a ∈ G, (H a = none ∧ ∀ s, a ∉ F s) ∨ (x.ro = true ∧ I a) ∨ ∃ s ∈ x.deps, a ∈ F s
  nd : x.ro = false → G.Nodup
def tSemL (K : PySem.W.Frag) (M : List Nat) (f : LF) : TA := fun σ H Q => ∃ I F Γ x Γ', Ok K I F σ Γ H ∧ f Γ = some (x, Γ') ∧
  ∀ vs H' F' G, Ok K I F' σ Γ' H' → Frm M Γ Γ' F F' H H' → VLOk K I F' H H' vs x G → Q vs H'
structure SL (X : Cx) (M : List Nat) (es : List Expr) (f : LF) : Prop where
  pa : PA X es (tSemL X.K M f)
theorem PA.imp {X : Cx} {e : List Expr} {t t' : TA} (h : PA X e t) (k : ∀ σ H Q, t' σ H Q → t σ H Q) : PA X e t' := ⟨fun pos pins s σ H Q I w => h.run pos pins s σ H Q I (k σ H Q w)⟩
def tiedL (x : Val) (y : VL) : Bool := x.deps.any fun s => y.deps.contains s
def nilL : LF := fun Γ => some (⟨[], false, []⟩, Γ)
def consL (N : List Nat) (fa : EF) (fs : LF) : LF := fun Γ => match fa Γ with
  | none => none
  | some (x, Γ1) => match fs Γ1 with
    | none => none
    | some (xs, Γ2) => if lastOk N x then some (⟨x.deps ++ xs.deps, x.ro || xs.ro || tiedL x xs, x.d :: xs.ds⟩, Γ2) else none
section
variable {X : Cx} {a b c : Expr} {es : List Expr} {M N L : List Nat} {fa fb fc : EF} {fs : LF} {pos : Pos}
theorem sl_nil : SL X [] [] nilL := ⟨PA.imp pa_nil fun σ H Q q => by
  obtain ⟨I, F, Γ, x, Γ', o, e, k⟩ := q
  injection e with e
  injection e with e e'
  subst e e'
  exact k [] H F [] o (Frm.refl _ _ _) ⟨.nil, (fun _ z => nomatch z), fun _ => List.nodup_nil⟩⟩
theorem sl_cons (ha : SE X M a fa) (hs : SL X N es fs) (hst : starEach (a :: es) X.env = (false, eval a X.env) :: starEach es X.env := by rfl) : SL X (M ++ N) (a :: es) (consL N fa fs) := ⟨PA.imp (pa_cons ha.pe hs.pa hst) fun σ H Q q => by
  obtain ⟨I, F, Γ, x, Γ', o, e, k⟩ := q
  unfold consL at e
  split at e
  · cases e
  · rename_i x1 Γ1 e1
    split at e
    · cases e
    · rename_i xs Γ2 e2
      split at e
      · rename_i hl
        injection e with e
        injection e with e e'
        subst e e'
        refine ⟨I, F, Γ, _, _, o, e1, fun v H1 F1 G1 o1 f1 hx => ⟨I, F1, Γ1, _, _, o1, e2, fun vs H2 F2 G2 o2 f2 hy => ?_⟩⟩
        have l1 := hx.lastB hl o1 f2 o2
        refine k (v :: vs) H2 F2 (G1 ++ G2) o2 (f1.trans f2) ⟨.cons l1.rep hy.rep, fun a ha => ?_, fun h => ?_⟩
        · rcases List.mem_append.mp ha with ha | ha
          · rcases l1.own a ha with z | ⟨z, z'⟩ | ⟨s, d, z⟩
            · exact .inl z
            · exact .inr (.inl ⟨by simp [z], z'⟩)
            · exact .inr (.inr ⟨s, List.mem_append_left _ d, z⟩)
          · rcases hy.own a ha with ⟨z, z'⟩ | ⟨z, z'⟩ | ⟨s, d, z⟩
            · exact .inl ⟨f1.stp.live a z, z'⟩
            · exact .inr (.inl ⟨by simp [z], z'⟩)
            · exact .inr (.inr ⟨s, List.mem_append_right _ d, z⟩)
        · have h' : ((x1.ro || xs.ro) || tiedL x1 xs) = false := h
          rw [Bool.or_eq_false_iff, Bool.or_eq_false_iff] at h'
          exact two_nodup (y := ⟨xs.deps, xs.ro, .non⟩) o2 l1 hy.own hy.nd (fun a m z => by
            obtain ⟨_, e, _⟩ := hx.rep.there a m
            rw [z] at e; cases e) h'.1.1 h'.1.2 h'.2
      · cases e⟩
end
end VS
namespace VS
open PySem L2
def SZ : Nat := 16777216
theorem SZ_le {n : Nat} (h : n ≤ SZ) : n ≤ sizeLine := by rw [sizeLine_eq]; exact h
theorem SZ_lt {n : Nat} (h : n < SZ) : n < sizeLine := by rw [sizeLine_eq]; exact h
/-- what is made of several values -/
def mkV (x : VL) (d : D) : Val := if immuts x.ds then nw d else ⟨x.deps, x.ro, d⟩
section
variable {K : PySem.W.Frag} {H : Hp}
theorem Reps.length : ∀ {vs : List V} {ds : List D} {F : List Addr}, Reps K H vs ds F → vs.length = ds.length
  | _, _, _, .nil => rfl
  | _, _, _, .cons _ t => by rw [List.length_cons, List.length_cons, Reps.length t]
theorem Reps.at : ∀ {vs : List V} {ds : List D} {F : List Addr} {i : Nat} {v : V}, Reps K H vs ds F → vs[i]? = some v → ∃ d A G B, ds[i]? = some d ∧ Rep K H v d G ∧ F = A ++ G ++ B
  | _, _, _, i, _, .nil, e => by simp at e
  | _, _, _, 0, _, .cons (F := F) (G := G) r t, e => by
    simp at e; subst e
    exact ⟨_, [], F, G, rfl, r, rfl⟩
  | _, _, _, i + 1, _, .cons (F := F) (G := G) r t, e => by
    obtain ⟨d, A, G', B, h1, h2, h3⟩ := Reps.at (i := i) t (by simpa using e)
    exact ⟨d, F ++ A, G', B, by simpa using h1, h2, by rw [h3]; simp⟩
theorem Reps.atD {vs : List V} {ds : List D} {F : List Addr} {i : Nat} {d : D} (r : Reps K H vs ds F) (e : ds[i]? = some d) : ∃ v A G B, vs[i]? = some v ∧ Rep K H v d G ∧ F = A ++ G ++ B := by
  have hl := r.length
  have hi : i < vs.length := by rw [hl]; exact (List.getElem?_eq_some_iff.mp e).1
  obtain ⟨d', A, G, B, h1, h2, h3⟩ := r.at (List.getElem?_eq_getElem hi)
  rw [e] at h1; cases h1
  exact ⟨_, A, G, B, List.getElem?_eq_getElem hi, h2, h3⟩
theorem Reps.app : ∀ {vs : List V} {ds : List D} {F : List Addr} {vs' : List V} {ds' : List D} {F' : List Addr}, Reps K H vs ds F → Reps K H vs' ds' F' → Reps K H (vs ++ vs') (ds ++ ds') (F ++ F')
  | _, _, _, _, _, _, .nil, s => s
  | _, _, _, _, _, _, .cons r t, s => by
    rw [List.append_assoc]
    exact .cons r (Reps.app t s)
theorem Reps.flat : ∀ {vs : List V} {ds : List D} {F : List Addr}, Reps K H vs ds F → immuts ds = true → Reps K H vs ds []
  | _, _, _, r, h => by
    have e := r.immut h
    subst e
    exact r
end
def tupF (f : LF) : EF := fun Γ => match f Γ with
  | none => none
  | some (x, Γ1) => if x.ds.length ≤ SZ then some (mkV x (.tup x.ds), Γ1) else none
def lstF (f : LF) : EF := fun Γ => match f Γ with
  | none => none
  | some (x, Γ1) => if x.ds.length ≤ SZ then some (mkV x (.lst x.ds), Γ1) else none
section
variable {X : Cx} {a b c : Expr} {es : List Expr} {M N L : List Nat} {fa fb fc : EF} {fs : LF} {pos : Pos}
theorem se_tup {x1} (h : SL X M es fs) : SE X M (.Tuple es x1 pos) (tupF fs) := ⟨PE.imp (pe_tup h.pa) fun σ H Q q => by
  obtain ⟨I, F, Γ, x, Γ', o, e, k⟩ := q
  unfold tupF at e
  split at e
  · cases e
  · rename_i xs Γ1 e1
    split at e
    · rename_i hz
      injection e with e
      injection e with e e'
      subst e e'
      refine ⟨I, F, Γ, _, _, o, e1, fun vs H1 F1 G o1 f1 l => ⟨SZ_le (by rw [l.rep.length]; exact hz), fun p hp => ?_⟩⟩
      have ex : Evl.Ex H1 (upd H1 p (.tup vs)) := Evl.Ex.new hp
      have rp : Rep X.K (upd H1 p (.tup vs)) (.ref p) (.tup xs.ds) G := .tup (.inl (.inl upd_same)) (Reps.stp (X := fun _ => False) (Stp.ex ex) l.rep fun _ _ z => z)
      have fr : Frm M Γ Γ1 F F1 H (upd H1 p (.tup vs)) := ⟨⟨fun a o' h hm => ex a o' (f1.stp.keep a o' h hm), fun a h => f1.stp.live a (Evl.fresh_back ex h)⟩, f1.same, f1.env, f1.sub, f1.md⟩
      refine k _ _ F1 G (o1.ex ex) fr ?_
      unfold mkV
      split
      · rename_i hi
        have e2 := l.rep.immut hi
        subst e2
        exact .flat rp
      · exact ⟨rp, l.own, l.nd⟩
    · cases e⟩
theorem se_lst (h : SL X M es fs) : SE X M (.List es pos) (lstF fs) := ⟨PE.imp (pe_lst h.pa) fun σ H Q q => by
  obtain ⟨I, F, Γ, x, Γ', o, e, k⟩ := q
  unfold lstF at e
  split at e
  · cases e
  · rename_i xs Γ1 e1
    split at e
    · rename_i hz
      injection e with e
      injection e with e e'
      subst e e'
      refine ⟨I, F, Γ, _, _, o, e1, fun vs H1 F1 G o1 f1 l => ⟨SZ_le (by rw [l.rep.length]; exact hz), fun p hp => ?_⟩⟩
      have ex : Evl.Ex H1 (upd H1 p (.lst vs)) := Evl.Ex.new hp
      have rp : Rep X.K (upd H1 p (.lst vs)) (.ref p) (.lst xs.ds) (p :: G) := .lst upd_same (Reps.stp (X := fun _ => False) (Stp.ex ex) l.rep fun _ _ z => z)
      have fr : Frm M Γ Γ1 F F1 H (upd H1 p (.lst vs)) := ⟨⟨fun a o' h hm => ex a o' (f1.stp.keep a o' h hm), fun a h => f1.stp.live a (Evl.fresh_back ex h)⟩, f1.same, f1.env, f1.sub, f1.md⟩
      have hpn : H p = none ∧ ∀ s, p ∉ F1 s := ⟨f1.stp.live p hp, fun s hs => o1.lv s p hs hp⟩
      have hpg : p ∉ G := fun m => by
        obtain ⟨_, e, _⟩ := l.rep.there p m
        rw [hp] at e; cases e
      refine k _ _ F1 (p :: G) (o1.ex ex) fr ?_
      unfold mkV
      split
      · rename_i hi
        have e2 := l.rep.immut hi
        subst e2
        refine ⟨rp, fun a ha => ?_, fun _ => by simp⟩
        have : a = p := by simpa using ha
        subst this
        exact .inl hpn
      · refine ⟨rp, fun a ha => ?_, fun h => List.nodup_cons.mpr ⟨hpg, l.nd h⟩⟩
        rcases List.mem_cons.mp ha with rfl | ha
        · exact .inl hpn
        · exact l.own a ha
    · cases e⟩

/-! ### data as the library compares it -/
mutual
def toPy : D → PyData
  | .non => .none | .bl b => .bool b | .int i => .int i | .str x => .str x
  | .tup xs => .tuple (toPys xs) | .lst xs => .list (toPys xs) | .frz xs => .list (toPys xs)
  | .dK _ => .dict [] | .dT _ => .dict [] | .obj _ _ => .dict [] | .exc _ _ => .dict []
def toPys : List D → List PyData
  | [] => []
  | d :: ds => toPy d :: toPys ds
end
mutual
def plain : D → Bool
  | .tup xs => plains xs | .lst xs => plains xs | .frz xs => plains xs
  | .dK _ => false | .dT _ => false | .obj _ _ => false | .exc _ _ => false
  | _ => true
def plains : List D → Bool
  | [] => true
  | d :: ds => plain d && plains ds
end
mutual
theorem Rep.dp {K : PySem.W.Frag} {H : Hp} : ∀ {v : V} {d : D} {F : List Addr}, Rep K H v d F → plain d = true → Dp K H v (toPy d)
  | _, _, _, .non, _ => .non
  | _, _, _, .bl b, _ => .bl b
  | _, _, _, .int b, _ => .int b
  | _, _, _, .str b, _ => .str b
  | _, _, _, .tup h r, p => .tup h (Reps.dp r p)
  | _, _, _, .lst h r, p => .lst (.inl (.inl h)) (Reps.dp r p)
  | _, _, _, .lstR h r, p => .lst h.l (Reps.dp r p)
  | _, _, _, .dK _ _, p => nomatch p
  | _, _, _, .dT _ _, p => nomatch p
  | _, _, _, .obj _ _, p => nomatch p
  | _, _, _, .exc _, p => nomatch p
  | _, _, _, .excF _ _, p => nomatch p
theorem Reps.dp {K : PySem.W.Frag} {H : Hp} : ∀ {vs : List V} {ds : List D} {F : List Addr}, Reps K H vs ds F → plains ds = true → DpAll K H vs (toPys ds)
  | _, _, _, .nil, _ => .nil
  | _, _, _, .cons r t, p => .cons (Rep.dp r (Bool.and_eq_true_iff.mp p).1) (Reps.dp t (Bool.and_eq_true_iff.mp p).2)
end
/-- data that == and in compare -/
def cmpb (d : D) : Bool := plain d && SeqAt.shaped (toPy d)
def eqS : D → D → Option D
  | .int i, .int j => some (.bl (decide (i = j)))
  | .str i, .str j => some (.bl (decide (i = j)))
  | .bl i, .bl j => some (.bl (decide (i = j)))
  | .non, .non => some (.bl true)
  | .non, .int _ => some (.bl false)
  | .non, .str _ => some (.bl false)
  | .non, .bl _ => some (.bl false)
  | .int _, .non => some (.bl false)
  | .str _, .non => some (.bl false)
  | .bl _, .non => some (.bl false)
  | _, _ => none
def notD : D → D
  | .bl b => .bl (!b)
  | d => d
def eqD (x y : D) : Option D := if cmpb x && cmpb y then some (.bl (PyData.eqv (toPy x) (toPy y))) else none
def eqG : D → D → Option D := orElse eqS eqD
def neG (x y : D) : Option D := (eqG x y).map notD
theorem ans_eqS {K : PySem.W.Frag} : Ans2 K rEq eqS := by
  intro H v w d e z G1 G2 Q r1 r2 hg k
  cases r1 <;> first | cases hg | (cases r2 <;> first | cases hg | skip)
  all_goals exact ⟨rfl, k _ H (Evl.Ex.refl H) ⟨[], by simp <;> exact .bl _, (fun _ z => nomatch z), List.nodup_nil⟩⟩
theorem ans_neS {K : PySem.W.Frag} : Ans2 K rNe fun x y => (eqS x y).map notD := by
  intro H v w d e z G1 G2 Q r1 r2 hg k
  cases r1 <;> first | cases hg | (cases r2 <;> first | cases hg | skip)
  all_goals exact ⟨rfl, k _ H (Evl.Ex.refl H) ⟨[], by simp <;> exact .bl _, (fun _ z => nomatch z), List.nodup_nil⟩⟩
theorem cmpb_iff {d : D} : cmpb d = true ↔ plain d = true ∧ SeqAt.shaped (toPy d) = true := Bool.and_eq_true_iff
theorem ans_eqD {K : PySem.W.Frag} : Ans2 K (rEqD K) eqD := by
  intro H v w d e z G1 G2 Q r1 r2 hg k
  unfold eqD at hg
  split at hg
  · rename_i h
    rw [Bool.and_eq_true, cmpb_iff, cmpb_iff] at h
    injection hg with hg
    subst hg
    exact ⟨_, _, r1.dp h.1.1, r2.dp h.2.1, h.1.2, h.2.2, k _ H (Evl.Ex.refl H) ⟨[], .bl _, (fun _ z => nomatch z), List.nodup_nil⟩⟩
  · cases hg
theorem ans_neD {K : PySem.W.Frag} : Ans2 K (rNeD K) fun x y => (eqD x y).map notD := by
  intro H v w d e z G1 G2 Q r1 r2 hg k
  obtain ⟨z0, hg0, rfl⟩ := Option.map_eq_some_iff.mp hg
  clear hg
  have hg := hg0
  clear hg0
  unfold eqD at hg
  split at hg
  · rename_i h
    rw [Bool.and_eq_true, cmpb_iff, cmpb_iff] at h
    injection hg with hg
    subst hg
    exact ⟨_, _, r1.dp h.1.1, r2.dp h.2.1, h.1.2, h.2.2, k _ H (Evl.Ex.refl H) ⟨[], .bl _, (fun _ z => nomatch z), List.nodup_nil⟩⟩
  · cases hg
theorem Ans2.cong {K : PySem.W.Frag} {r : R2} {g g' : D → D → Option D} (A : Ans2 K r g) (h : ∀ x y, g' x y = g x y) : Ans2 K r g' := fun H v w d e z G1 G2 Q r1 r2 hg k => A H v w d e z G1 G2 Q r1 r2 (by rw [← h]; exact hg) k
theorem op_eqX (hu : X.A.units + 64 < cLine) : OpR X (compareOp .Eq) (fun x y H Q => rEq x y H Q ∨ rEqD X.K x y H Q) := OpR.or op_eq (op_eqD hu)
theorem op_neX (hu : X.A.units + 64 < cLine) : OpR X (compareOp .NotEq) (fun x y H Q => rNe x y H Q ∨ rNeD X.K x y H Q) := OpR.or op_ne (op_neD hu)
theorem ans_eq {K : PySem.W.Frag} : Ans2 K (fun x y H Q => rEq x y H Q ∨ rEqD K x y H Q) eqG := ans_eqS.or ans_eqD
theorem ans_ne {K : PySem.W.Frag} : Ans2 K (fun x y H Q => rNe x y H Q ∨ rNeD K x y H Q) neG := (ans_neS.or ans_neD).cong fun x y => by
  unfold neG eqG orElse
  show _ = match Option.map notD (eqS x y) with
    | some z => some z
    | none => Option.map notD (eqD x y)
  cases eqS x y <;> rfl

/-! ### in -/
def anyEq (x : D) : List D → Bool
  | [] => false
  | y :: ys => PyData.eqv (toPy y) (toPy x) || anyEq x ys
theorem anyEq_eq (x : D) : ∀ ys : List D, ((toPys ys).any fun z => PyData.eqv z (toPy x)) = anyEq x ys
  | [] => rfl
  | y :: ys => by
    show ((toPy y :: toPys ys).any _) = _
    rw [List.any_cons, anyEq_eq x ys] <;> rfl
def inL (x y : D) : Option D := match y with
  | .lst ys => if cmpb x && cmpb (.lst ys) then some (.bl (anyEq x ys)) else none
  | _ => none
theorem ans_inL {K : PySem.W.Frag} : Ans2 K (rInD K) inL := by
  intro H v w d e z G1 G2 Q r1 r2 hg k
  unfold inL at hg
  split at hg
  · split at hg
    · rename_i ys h
      rw [Bool.and_eq_true, cmpb_iff, cmpb_iff] at h
      injection hg with hg
      subst hg
      refine ⟨_, _, r1.dp h.1.1, r2.dp h.2.1, h.1.2, h.2.2, k _ H (Evl.Ex.refl H) ⟨[], ?_, (fun _ z => nomatch z), List.nodup_nil⟩⟩
      rw [anyEq_eq]
      exact .bl _
    · cases hg
  · cases hg
theorem ans_notInL {K : PySem.W.Frag} : Ans2 K (rNotInD K) fun x y => (inL x y).map notD := by
  intro H v w d e z G1 G2 Q r1 r2 hg k
  obtain ⟨z0, hg0, rfl⟩ := Option.map_eq_some_iff.mp hg
  clear hg
  have hg := hg0
  clear hg0
  unfold inL at hg
  split at hg
  · split at hg
    · rename_i ys h
      rw [Bool.and_eq_true, cmpb_iff, cmpb_iff] at h
      injection hg with hg
      subst hg
      refine ⟨_, _, r1.dp h.1.1, r2.dp h.2.1, h.1.2, h.2.2, k _ H (Evl.Ex.refl H) ⟨[], ?_, (fun _ z => nomatch z), List.nodup_nil⟩⟩
      rw [anyEq_eq]
      exact .bl _
    · cases hg
  · cases hg
/-- a sign in a text -/
def inS (x y : D) : Option D := match x, y with
  | .str c, .str z => if c.cps.size = 1 then some (.bl (decide (c.cps.getD 0 0 ∈ z.cps.toList))) else none
  | _, _ => none
def rInS : R2 := fun x y H Q => ∃ (c : Nat) (z : Str), x = .str ⟨#[c]⟩ ∧ y = .str z ∧ Q (.bl (decide (c ∈ z.cps.toList))) H
def rNotInS : R2 := fun x y H Q => ∃ (c : Nat) (z : Str), x = .str ⟨#[c]⟩ ∧ y = .str z ∧ Q (.bl (!decide (c ∈ z.cps.toList))) H
theorem one_sign {c : Str} (h : c.cps.size = 1) : c = ⟨#[c.cps.getD 0 0]⟩ := by
  obtain ⟨⟨l⟩⟩ := c
  match l, h with
  | [x], _ => rfl
theorem ans_inS {K : PySem.W.Frag} : Ans2 K rInS inS := by
  intro H v w d e z G1 G2 Q r1 r2 hg k
  unfold inS at hg
  split at hg
  · split at hg
    · rename_i h
      injection hg with hg
      subst hg
      cases r1
      cases r2
      exact ⟨_, _, congrArg V.str (one_sign h), rfl, k _ H (Evl.Ex.refl H) ⟨[], .bl _, (fun _ z => nomatch z), List.nodup_nil⟩⟩
    · cases hg
  · cases hg
theorem ans_notInS {K : PySem.W.Frag} : Ans2 K rNotInS fun x y => (inS x y).map notD := by
  intro H v w d e z G1 G2 Q r1 r2 hg k
  obtain ⟨z0, hg0, rfl⟩ := Option.map_eq_some_iff.mp hg
  clear hg
  have hg := hg0
  clear hg0
  unfold inS at hg
  split at hg
  · split at hg
    · rename_i h
      injection hg with hg
      subst hg
      cases r1
      cases r2
      exact ⟨_, _, congrArg V.str (one_sign h), rfl, k _ H (Evl.Ex.refl H) ⟨[], .bl _, (fun _ z => nomatch z), List.nodup_nil⟩⟩
    · cases hg
  · cases hg
end
end VS
/-! VS4: truths, places, parts. -/
namespace VS
open PySem L2
section
variable {X : Cx} {a b c : Expr} {es : List Expr} {M N L : List Nat} {fa fb fc : EF} {ta tb : TF} {fs : LF} {pos : Pos}

/-! ### one value in -/
theorem one {K : PySem.W.Frag} {I : Addr → Prop} {F : Nat → List Addr} {σ : St} {Γ Γ1 : Env} {H : Hp} {x : Val} (o : Ok K I F σ Γ H) (e1 : fa Γ = some (x, Γ1)) {R : V → Hp → Prop}
    (k : ∀ v H1 F1 G1, Ok K I F1 σ Γ1 H1 → Frm M Γ Γ1 F F1 H H1 → VOk K I F1 H H1 v x G1 → R v H1) : tSem K M fa σ H fun v H1 => R v H1 := ⟨I, F, Γ, x, Γ1, o, e1, k⟩
def Ans1 (K : PySem.W.Frag) (r : V → Hp → VK → Prop) (g : D → Option D) : Prop := ∀ (H : Hp) (v : V) (d z : D) (G1 : List Addr) (Q : VK), Rep K H v d G1 → g d = some z →
  (∀ u H2, Evl.Ex H H2 → (∃ G, Rep K H2 u z G ∧ (∀ a ∈ G, H a = none) ∧ G.Nodup) → Q u H2) → r v H Q
def op1F (g : D → Option D) (fa : EF) : EF := fun Γ => match fa Γ with
  | none => none
  | some (x, Γ1) => match g x.d with
    | none => none
    | some z => some (nw z, Γ1)
theorem sem_op1 {K : PySem.W.Frag} {r : V → Hp → VK → Prop} {g : D → Option D} (A : Ans1 K r g) {σ : St} {H : Hp} {Q : VK} (q : tSem K M (op1F g fa) σ H Q) : tUn r (tSem K M fa) σ H Q := by
  obtain ⟨I, F, Γ, x, Γ', o, e, k⟩ := q
  unfold op1F at e
  split at e
  · cases e
  · rename_i x1 Γ1 e1
    split at e
    · cases e
    · rename_i z ez
      injection e with e
      injection e with e e'
      subst e e'
      refine one o e1 fun v H2 F2 G1 o2 f2 l1 => A H2 v _ z G1 Q l1.rep ez fun u H3 ex ⟨G, r3, n3, nd3⟩ => ?_
      exact ok_new o2 f2 k ex r3 n3 nd3
theorem se_un {op : UnaryOp} {r : V → Hp → VK → Prop} {g : D → Option D} (ho : UnR X (unaryOp op) r) (A : Ans1 X.K r g) (ha : SE X M a fa) : SE X M (.UnaryOp op a pos) (op1F g fa) :=
  ⟨PE.imp (pe_un ho ha.pe) fun _ _ _ q => sem_op1 A q⟩
def negG : D → Option D
  | .int i => some (.int (-i))
  | _ => none
theorem ans_neg {K : PySem.W.Frag} : Ans1 K (rU fun i => .int (-i)) negG := by
  intro H v d z G1 Q r1 hg k
  cases r1 <;> first | cases hg | skip
  exact ⟨_, rfl, k _ H (Evl.Ex.refl H) ⟨[], .int _, (fun _ z => nomatch z), List.nodup_nil⟩⟩
theorem se_neg (ha : SE X M a fa) : SE X M (.UnaryOp .USub a pos) (op1F negG fa) := se_un un_neg ans_neg ha

/-! ### is None, is True -/
def isN : D → Bool
  | .non => true
  | _ => false
def isG : D → D → Option D
  | d, .non => some (.bl (isN d))
  | .bl a, .bl b => some (.bl (decide (a = b)))
  | _, _ => none
def rIsX : R2 := fun x y H Q => (y = .non ∧ Q (.bl (decide (x = .non))) H) ∨ ∃ a b, x = .bl a ∧ y = .bl b ∧ Q (.bl (decide (a = b))) H
def rIsNotX : R2 := fun x y H Q => (y = .non ∧ Q (.bl (!decide (x = .non))) H) ∨ ∃ a b, x = .bl a ∧ y = .bl b ∧ Q (.bl (!decide (a = b))) H
theorem rep_non {K : PySem.W.Frag} {H : Hp} {v : V} {d : D} {G : List Addr} (r : Rep K H v d G) : decide (v = .non) = isN d := by
  cases r <;> rfl
theorem ans_is {K : PySem.W.Frag} : Ans2 K rIsX isG := by
  intro H v w d e z G1 G2 Q r1 r2 hg k
  cases r2 with
  | non =>
    have hg' : some (D.bl (isN d)) = some z := by cases d <;> exact hg
    injection hg' with hg'
    subst hg'
    exact .inl ⟨rfl, by rw [rep_non r1]; exact k _ H (Evl.Ex.refl H) ⟨[], .bl _, (fun _ z => nomatch z), List.nodup_nil⟩⟩
  | bl b =>
    cases r1 <;> first | cases hg | skip
    exact .inr ⟨_, _, rfl, rfl, k _ H (Evl.Ex.refl H) ⟨[], .bl _, (fun _ z => nomatch z), List.nodup_nil⟩⟩
  | _ => cases r1 <;> cases hg
theorem ans_isNot {K : PySem.W.Frag} : Ans2 K rIsNotX fun x y => (isG x y).map notD := by
  intro H v w d e z G1 G2 Q r1 r2 hg0 k
  obtain ⟨z0, hg, rfl⟩ := Option.map_eq_some_iff.mp hg0
  clear hg0
  cases r2 with
  | non =>
    have hg' : some (D.bl (isN d)) = some z0 := by cases d <;> exact hg
    injection hg' with hg'
    subst hg'
    exact .inl ⟨rfl, by rw [rep_non r1]; exact k _ H (Evl.Ex.refl H) ⟨[], .bl _, (fun _ z => nomatch z), List.nodup_nil⟩⟩
  | bl b =>
    cases r1 <;> first | cases hg | skip
    exact .inr ⟨_, _, rfl, rfl, k _ H (Evl.Ex.refl H) ⟨[], .bl _, (fun _ z => nomatch z), List.nodup_nil⟩⟩
  | _ => cases r1 <;> cases hg
theorem op_isX : OpR X (compareOp .Is) rIsX := OpR.or op_isN op_is_bl
theorem op_isNotX : OpR X (compareOp .IsNot) rIsNotX := OpR.or op_notN op_isnot_bl

/-! ### not, and, or, if else -/
def notF (t : TF) : TF := fun Γ => match t Γ with
  | none => none
  | some (b, Γ1) => some (!b, Γ1)
theorem st_not (h : ST X M a ta) : ST X M (.UnaryOp .Not a pos) (notF ta) := ⟨PT.imp (pt_not h.pt) fun σ H Q q => by
  obtain ⟨I, F, Γ, x, Γ', o, e, k⟩ := q
  unfold notF at e
  split at e
  · cases e
  · rename_i b Γ1 e1
    injection e with e
    injection e with e e'
    subst e e'
    exact ⟨I, F, Γ, b, Γ1, o, e1, k⟩⟩
/-- a truth as a value -/
def blF (t : TF) : EF := fun Γ => match t Γ with
  | none => none
  | some (b, Γ1) => some (nw (.bl b), Γ1)
def notE (f : EF) : EF := blF (notF (tst f))
theorem se_not (h : SE X M a fa) : SE X M (.UnaryOp .Not a pos) (notE fa) := ⟨PE.imp (pe_not h.pe) fun σ H Q q => by
  obtain ⟨I, F, Γ, x, Γ', o, e, k⟩ := q
  unfold notE blF notF tst at e
  split at e
  · cases e
  · rename_i b Γ1 e1
    injection e with e
    injection e with e e'
    subst e e'
    split at e1
    · cases e1
    · rename_i b2 Γ2 e2
      split at e2
      · rename_i dp ro b3 Γ3 e3
        injection e2 with e2
        injection e2 with e2 e2'
        injection e1 with e1
        injection e1 with e1 e1'
        subst e2 e2' e1 e1'
        refine ⟨I, F, Γ, _, _, o, e3, fun v H' F' G o' f' l => ?_⟩
        cases l.rep
        exact ⟨_, rfl, k _ H' F' [] o' f' (.flat (.bl _))⟩
      · cases e2⟩
def andF (ta tb : TF) : TF := fun Γ => match ta Γ with
  | none => none
  | some (true, Γ1) => tb Γ1
  | some (false, Γ1) => some (false, Γ1)
def orF (ta tb : TF) : TF := fun Γ => match ta Γ with
  | none => none
  | some (true, Γ1) => some (true, Γ1)
  | some (false, Γ1) => tb Γ1
theorem Frm.wide {M N : List Nat} {Γ Γ' : Env} {F F' : Nat → List Addr} {H H' : Hp} (f : Frm M Γ Γ' F F' H H') : Frm (M ++ N) Γ Γ' F F' H H' where
  stp := f.stp.mono fun c _ ⟨s, m, h⟩ => ⟨s, List.mem_append_left _ m, h⟩
  same := fun s h => f.same s fun z => h (List.mem_append_left _ z)
  env := fun s h => f.env s fun z => h (List.mem_append_left _ z)
  sub := f.sub
  md := f.md
theorem sem_and {K : PySem.W.Frag} {σ : St} {H : Hp} {Q : Bool → Hp → Prop} (q : tSemT K (M ++ N) (andF ta tb) σ H Q) : tAnd (tSemT K M ta) (tSemT K N tb) σ H Q := by
  obtain ⟨I, F, Γ, x, Γ', o, e, k⟩ := q
  unfold andF at e
  split at e
  · cases e
  · rename_i Γ1 e1
    refine ⟨I, F, Γ, true, Γ1, o, e1, fun H1 F1 o1 f1 => ?_⟩
    refine iteT ?_
    exact ⟨I, F1, Γ1, x, Γ', o1, e, fun H2 F2 o2 f2 => k H2 F2 o2 (f1.trans f2)⟩
  · rename_i Γ1 e1
    injection e with e
    injection e with e e'
    subst e e'
    refine ⟨I, F, Γ, false, Γ1, o, e1, fun H1 F1 o1 f1 => ?_⟩
    refine iteF ?_
    exact k H1 F1 o1 f1.wide
theorem sem_or {K : PySem.W.Frag} {σ : St} {H : Hp} {Q : Bool → Hp → Prop} (q : tSemT K (M ++ N) (orF ta tb) σ H Q) : tOr (tSemT K M ta) (tSemT K N tb) σ H Q := by
  obtain ⟨I, F, Γ, x, Γ', o, e, k⟩ := q
  unfold orF at e
  split at e
  · cases e
  · rename_i Γ1 e1
    injection e with e
    injection e with e e'
    subst e e'
    refine ⟨I, F, Γ, true, Γ1, o, e1, fun H1 F1 o1 f1 => ?_⟩
    refine iteT ?_
    exact k H1 F1 o1 f1.wide
  · rename_i Γ1 e1
    refine ⟨I, F, Γ, false, Γ1, o, e1, fun H1 F1 o1 f1 => ?_⟩
    refine iteF ?_
    exact ⟨I, F1, Γ1, x, Γ', o1, e, fun H2 F2 o2 f2 => k H2 F2 o2 (f1.trans f2)⟩
theorem sw_and1 (ha : ST X M a ta) : SW X M (.BoolOp .And [a] pos) ta := ⟨pw_and1 ha.pt⟩
theorem sw_or1 (ha : ST X M a ta) : SW X M (.BoolOp .Or [a] pos) ta := ⟨pw_or1 ha.pt⟩
theorem sw_and {rest : List Expr} (ha : ST X M a ta) (hb : SW X N (.BoolOp .And (b :: rest) pos) tb) : SW X (M ++ N) (.BoolOp .And (a :: b :: rest) pos) (andF ta tb) := ⟨PW.imp (pw_and ha.pt hb.pw) fun _ _ _ q => sem_and q⟩
theorem sw_or {rest : List Expr} (ha : ST X M a ta) (hb : SW X N (.BoolOp .Or (b :: rest) pos) tb) : SW X (M ++ N) (.BoolOp .Or (a :: b :: rest) pos) (orF ta tb) := ⟨PW.imp (pw_or ha.pt hb.pw) fun _ _ _ q => sem_or q⟩
theorem SW.st (h : SW X M a ta) : ST X M a ta := ⟨h.pw.pt⟩
/-- as values, truths -/
def andE (fa fb : EF) : EF := blF (andF (tst fa) (tst fb))
def orE (fa fb : EF) : EF := blF (orF (tst fa) (tst fb))
theorem tst_inv {f : EF} {Γ Γ' : Env} {b : Bool} (e : tst f Γ = some (b, Γ')) : ∃ dp ro, f Γ = some (⟨dp, ro, .bl b⟩, Γ') := by
  unfold tst at e
  split at e
  · rename_i dp ro b1 Γ1 e1
    injection e with e
    injection e with e e'
    subst e e'
    exact ⟨dp, ro, e1⟩
  · cases e
theorem blF_inv {t : TF} {Γ Γ' : Env} {x : Val} (e : blF t Γ = some (x, Γ')) : ∃ b, t Γ = some (b, Γ') ∧ x = nw (.bl b) := by
  unfold blF at e
  split at e
  · cases e
  · rename_i b Γ1 e1
    injection e with e
    injection e with e e'
    subst e e'
    exact ⟨b, e1, rfl⟩
theorem VOk.truth {K : PySem.W.Frag} {I : Addr → Prop} {F : Nat → List Addr} {H H' : Hp} {v : V} {dp : List Nat} {ro b : Bool} {G : List Addr} (l : VOk K I F H H' v ⟨dp, ro, .bl b⟩ G) : v = .bl b := by
  cases l.rep
  rfl
theorem se_one {op} (h : SE X M a fa) : SE X M (.BoolOp op [a] pos) fa := ⟨pe_one h.pe⟩
theorem se_and {rest : List Expr} (ha : SE X M a fa) (hb : SE X N (.BoolOp .And (b :: rest) pos) fb) : SE X (M ++ N) (.BoolOp .And (a :: b :: rest) pos) (andE fa fb) := ⟨PE.imp (pe_and ha.pe hb.pe) fun σ H Q q => by
  obtain ⟨I, F, Γ, x, Γ', o, e, k⟩ := q
  obtain ⟨b, e0, rfl⟩ := blF_inv e
  clear e
  have e := e0
  clear e0
  unfold andF at e
  split at e
  · cases e
  · rename_i Γ1 e1
    obtain ⟨dp, ro, e1⟩ := tst_inv e1
    obtain ⟨dp2, ro2, e2⟩ := tst_inv e
    refine ⟨I, F, Γ, _, Γ1, o, e1, fun v H1 F1 G1 o1 f1 l1 => ⟨true, l1.truth, ?_⟩⟩
    refine iteT ?_
    exact ⟨I, F1, Γ1, _, Γ', o1, e2, fun v H2 F2 G2 o2 f2 l2 => by rw [l2.truth]; exact k _ H2 F2 [] o2 (f1.trans f2) (.flat (.bl _))⟩
  · rename_i Γ1 e1
    injection e with e
    injection e with e e'
    subst e e'
    obtain ⟨dp, ro, e1⟩ := tst_inv e1
    refine ⟨I, F, Γ, _, Γ1, o, e1, fun v H1 F1 G1 o1 f1 l1 => ⟨false, l1.truth, ?_⟩⟩
    refine iteF ?_
    exact k _ H1 F1 [] o1 f1.wide (.flat (.bl _))⟩
theorem se_or {rest : List Expr} (ha : SE X M a fa) (hb : SE X N (.BoolOp .Or (b :: rest) pos) fb) : SE X (M ++ N) (.BoolOp .Or (a :: b :: rest) pos) (orE fa fb) := ⟨PE.imp (pe_or ha.pe hb.pe) fun σ H Q q => by
  obtain ⟨I, F, Γ, x, Γ', o, e, k⟩ := q
  obtain ⟨b, e0, rfl⟩ := blF_inv e
  clear e
  have e := e0
  clear e0
  unfold orF at e
  split at e
  · cases e
  · rename_i Γ1 e1
    injection e with e
    injection e with e e'
    subst e e'
    obtain ⟨dp, ro, e1⟩ := tst_inv e1
    refine ⟨I, F, Γ, _, Γ1, o, e1, fun v H1 F1 G1 o1 f1 l1 => ⟨true, l1.truth, ?_⟩⟩
    refine iteT ?_
    exact k _ H1 F1 [] o1 f1.wide (.flat (.bl _))
  · rename_i Γ1 e1
    obtain ⟨dp, ro, e1⟩ := tst_inv e1
    obtain ⟨dp2, ro2, e2⟩ := tst_inv e
    refine ⟨I, F, Γ, _, Γ1, o, e1, fun v H1 F1 G1 o1 f1 l1 => ⟨false, l1.truth, ?_⟩⟩
    refine iteF ?_
    exact ⟨I, F1, Γ1, _, Γ', o1, e2, fun v H2 F2 G2 o2 f2 l2 => by rw [l2.truth]; exact k _ H2 F2 [] o2 (f1.trans f2) (.flat (.bl _))⟩⟩
def ifF (t : TF) (fa fb : EF) : EF := fun Γ => match t Γ with
  | none => none
  | some (true, Γ1) => fa Γ1
  | some (false, Γ1) => fb Γ1
theorem Frm.mono {M N : List Nat} {Γ Γ' : Env} {F F' : Nat → List Addr} {H H' : Hp} (f : Frm M Γ Γ' F F' H H') (h : ∀ s ∈ M, s ∈ N) : Frm N Γ Γ' F F' H H' where
  stp := f.stp.mono fun c _ ⟨s, m, q⟩ => ⟨s, h s m, q⟩
  same := fun s q => f.same s fun z => q (h s z)
  env := fun s q => f.env s fun z => q (h s z)
  sub := f.sub
  md := f.md
theorem se_if {M N L : List Nat} (hc : ST X M c ta) (ha : SE X N a fa) (hb : SE X L b fb) : SE X (M ++ (N ++ L)) (.IfExp c a b pos) (ifF ta fa fb) := ⟨PE.imp (pe_ifExp hc.pt ha.pe hb.pe) fun σ H Q q => by
  obtain ⟨I, F, Γ, x, Γ', o, e, k⟩ := q
  unfold ifF at e
  split at e
  · cases e
  · rename_i Γ1 e1
    refine ⟨I, F, Γ, true, Γ1, o, e1, fun H1 F1 o1 f1 => ?_⟩
    refine iteT ?_
    exact ⟨I, F1, Γ1, x, Γ', o1, e, fun v H2 F2 G2 o2 f2 l2 => k v H2 F2 G2 o2 ((f1.trans f2).mono fun s m => by simp at m ⊢; exact m.imp id Or.inl) (l2.back f1.stp.live)⟩
  · rename_i Γ1 e1
    refine ⟨I, F, Γ, false, Γ1, o, e1, fun H1 F1 o1 f1 => ?_⟩
    refine iteF ?_
    exact ⟨I, F1, Γ1, x, Γ', o1, e, fun v H2 F2 G2 o2 f2 l2 => k v H2 F2 G2 o2 ((f1.trans f2).mono fun s m => by simp at m ⊢; exact m.imp id Or.inr) (l2.back f1.stp.live)⟩⟩

/-! ### a < b < c -/
def chF (g g' : D → D → Option D) (N L : List Nat) (fa fb fc : EF) : TF := fun Γ => match fa Γ with
  | none => none
  | some (x, Γ1) => match fb Γ1 with
    | none => none
    | some (y, Γ2) => if lastOk N x then match g x.d y.d with
      | some (.bl true) => match fc Γ2 with
        | none => none
        | some (z, Γ3) => if lastOk L y then match g' y.d z.d with
          | some (.bl k) => some (k, Γ3)
          | _ => none else none
      | some (.bl false) => some (false, Γ2)
      | _ => none else none
theorem Rep.truth {K : PySem.W.Frag} {H : Hp} {v : V} {b : Bool} {G : List Addr} (r : Rep K H v (.bl b) G) : v = .bl b := by
  cases r
  rfl
theorem Ex.ok {K : PySem.W.Frag} {I : Addr → Prop} {F F' : Nat → List Addr} {M : List Nat} {σ : St} {Γ Γ' : Env} {H H1 H2 : Hp} (f : Frm M Γ Γ' F F' H H1) (e : Evl.Ex H1 H2) : Frm M Γ Γ' F F' H H2 :=
  ⟨⟨fun a o' h hm => e a o' (f.stp.keep a o' h hm), fun a h => f.stp.live a (Evl.fresh_back e h)⟩, f.same, f.env, f.sub, f.md⟩
theorem sem_chain {K : PySem.W.Frag} {r r' : R2} {g g' : D → D → Option D} (A : Ans2 K r g) (A' : Ans2 K r' g') {σ : St} {H : Hp} {Q : VK} (q : tSem K (M ++ N ++ L) (blF (chF g g' N L fa fb fc)) σ H Q) :
    tChain r r' (tSem K M fa) (tSem K N fb) (tSem K L fc) σ H Q := by
  obtain ⟨I, F, Γ, x, Γ', o, e, k⟩ := q
  obtain ⟨b, e0, rfl⟩ := blF_inv e
  clear e
  have e := e0
  clear e0
  unfold chF at e
  split at e
  · cases e
  · rename_i x1 Γ1 e1
    split at e
    · cases e
    · rename_i y1 Γ2 e2
      split at e
      · rename_i hl
        split at e
        · rename_i eg
          split at e
          · cases e
          · rename_i z1 Γ3 e3
            split at e
            · rename_i hl2
              split at e
              · rename_i kk eg'
                injection e with e
                injection e with e e'
                subst e e'
                refine two o e1 e2 hl fun v w H2 F2 G1 G2 o2 f2 l1 l2 _ => A H2 v w _ _ _ G1 G2 _ l1.rep l2.rep eg fun u H3 ex ⟨G, r3, _, _⟩ => ⟨true, r3.truth, ?_⟩
                refine iteT ?_
                have o3 := o2.ex ex
                have l3 : VOk K I F2 H H3 w y1 G2 := ⟨l2.rep.stp (X := fun _ => False) (Stp.ex ex) (fun _ _ z => z), l2.own, l2.nd⟩
                refine ⟨I, F2, Γ2, z1, Γ3, o3, e3, fun w' H4 F4 G4 o4 f4 l4 => ?_⟩
                have l5 := l3.lastB hl2 o3 f4 o4
                refine A' H4 w w' _ _ _ G2 G4 Q l5.rep l4.rep eg' fun u' H5 ex' ⟨G', r5, _, _⟩ => ?_
                rw [r5.truth]
                exact k _ H5 F4 [] (o4.ex ex') (Ex.ok (σ := σ) (K := K) (I := I) ((Ex.ok (σ := σ) (K := K) (I := I) f2 ex).trans f4) ex') (.flat (.bl _))
              · cases e
            · cases e
        · rename_i eg
          injection e with e
          injection e with e e'
          subst e e'
          refine two o e1 e2 hl fun v w H2 F2 G1 G2 o2 f2 l1 l2 _ => A H2 v w _ _ _ G1 G2 _ l1.rep l2.rep eg fun u H3 ex ⟨G, r3, _, _⟩ => ⟨false, r3.truth, ?_⟩
          refine iteF ?_
          exact k _ H3 F2 [] (o2.ex ex) (Ex.ok (σ := σ) (K := K) (I := I) f2 ex).wide (.flat (.bl _))
        · cases e
      · cases e
theorem se_chain {op op' : CmpOp} {r r' : R2} {g g' : D → D → Option D} (ho : OpR X (compareOp op) r) (A : Ans2 X.K r g) (ho' : OpR X (compareOp op') r') (A' : Ans2 X.K r' g') (ha : SE X M a fa) (hb : SE X N b fb) (hc : SE X L c fc)
    (hm : lastMarks [op, op'] [b, c] = false := by with_unfolding_all rfl) : SE X (M ++ N ++ L) (.Compare a [op, op'] [b, c] pos) (blF (chF g g' N L fa fb fc)) :=
  ⟨PE.imp (pe_chain ho ho' ha.pe hb.pe hc.pe hm) fun _ _ _ q => sem_chain A A' q⟩
theorem st_chain {op op' : CmpOp} {r r' : R2} {g g' : D → D → Option D} (ho : OpR X (compareOp op) r) (A : Ans2 X.K r g) (ho' : OpR X (compareOp op') r') (A' : Ans2 X.K r' g') (ha : SE X M a fa) (hb : SE X N b fb) (hc : SE X L c fc)
    (hm : lastMarks [op, op'] [b, c] = false := by with_unfolding_all rfl) : ST X (M ++ N ++ L) (.Compare a [op, op'] [b, c] pos) (tst (blF (chF g g' N L fa fb fc))) :=
  ⟨PT.imp (pt_chain ho ho' ha.pe hb.pe hc.pe hm) fun _ _ _ q => sem_tst (fun _ _ _ q => sem_chain A A' q) q⟩
end
end VS
/-! VS5: operators' answers, subscripts, slices, attributes. -/
namespace VS
open PySem L2
section
variable {K : PySem.W.Frag}
theorem ans0 {H : Hp} {z : D} {Q : VK} {v : V} (r : Rep K H v z []) (k : ∀ u H2, Evl.Ex H H2 → (∃ G, Rep K H2 u z G ∧ (∀ a ∈ G, H a = none) ∧ G.Nodup) → Q u H2) : Q v H := k v H (Evl.Ex.refl H) ⟨[], r, (fun _ z => nomatch z), List.nodup_nil⟩

/-! ### + - * // % ** and the rest -/
instance (i j : Int) : Decidable (CDivN i j) := by unfold CDivN; infer_instance
instance (i j : Int) : Decidable (CPow i j) := by unfold CPow; infer_instance
instance (i j : Int) : Decidable (CMul i j) := by unfold CMul; infer_instance
def addI : D → D → Option D := gI fun i j => some (.int (i + j))
def subI : D → D → Option D := gI fun i j => some (.int (i - j))
def mulI : D → D → Option D := gI fun i j => if CMul i j then some (.int (i * j)) else none
def divI : D → D → Option D := gI fun i j => if CDivN i j then some (.int (i.fdiv j)) else none
def modI : D → D → Option D := gI fun i j => if j ≠ 0 then some (.int (i.fmod j)) else none
def powI : D → D → Option D := gI fun i j => if CPow i j then some (.int (i ^ j.toNat)) else none
def shlI : D → D → Option D := gI fun i j => if CPow i j then some (.int (i * 2 ^ j.toNat)) else none
def shrI : D → D → Option D := gI fun i j => if 0 ≤ j then some (.int (i / 2 ^ j.toNat)) else none
def andI : D → D → Option D := gI fun i j => some (.int (Builtin.bitAnd i j))
def orI : D → D → Option D := gI fun i j => some (.int (Builtin.bitOr i j))
theorem ans_addI : Ans2 K (rI0 fun i j => .int (i + j)) addI := ans_I0 fun _ _ _ => .int _
theorem ans_subI : Ans2 K (rI0 fun i j => .int (i - j)) subI := ans_I0 fun _ _ _ => .int _
theorem ans_mulI : Ans2 K (rI CMul fun i j => .int (i * j)) mulI := ans_I fun _ _ _ => .int _
theorem ans_divI : Ans2 K (rI CDivN fun i j => .int (i.fdiv j)) divI := ans_I fun _ _ _ => .int _
theorem ans_modI : Ans2 K (rI (fun _ j => j ≠ 0) fun i j => .int (i.fmod j)) modI := ans_I fun _ _ _ => .int _
theorem ans_powI : Ans2 K (rI CPow fun i j => .int (i ^ j.toNat)) powI := ans_I fun _ _ _ => .int _
theorem ans_shlI : Ans2 K (rI CPow fun i j => .int (i * 2 ^ j.toNat)) shlI := ans_I fun _ _ _ => .int _
theorem ans_shrI : Ans2 K (rI (fun _ j => 0 ≤ j) fun i j => .int (i / 2 ^ j.toNat)) shrI := ans_I fun _ _ _ => .int _
theorem ans_andI : Ans2 K (rI0 fun i j => .int (Builtin.bitAnd i j)) andI := ans_I0 fun _ _ _ => .int _
theorem ans_orI : Ans2 K (rI0 fun i j => .int (Builtin.bitOr i j)) orI := ans_I0 fun _ _ _ => .int _
/-- texts, lists one behind the other -/
def addS : D → D → Option D
  | .str x, .str y => if x.length + y.length ≤ SZ then some (.str (x ++ y)) else none
  | _, _ => none
def addL : D → D → Option D
  | .lst x, .lst y => if x.length + y.length ≤ SZ ∧ immuts x ∧ immuts y then some (.lst (x ++ y)) else none
  | _, _ => none
def rAddS : R2 := fun x y H Q => ∃ i j, x = .str i ∧ y = .str j ∧ i.length + j.length ≤ sizeLine ∧ Q (.str (i ++ j)) H
theorem ans_addS : Ans2 K rAddS addS := by
  intro H v w d e z G1 G2 Q r1 r2 hg k
  unfold addS at hg
  split at hg
  · split at hg
    · rename_i hz
      injection hg with hg
      subst hg
      cases r1; cases r2
      exact ⟨_, _, rfl, rfl, SZ_le hz, ans0 (.str _) k⟩
    · cases hg
  · cases hg
theorem immuts_app : ∀ {x y : List D}, immuts x = true → immuts y = true → immuts (x ++ y) = true
  | [], _, _, h => h
  | d :: ds, y, h, h' => by
    have q := Bool.and_eq_true_iff.mp h
    exact Bool.and_eq_true_iff.mpr ⟨q.1, immuts_app q.2 h'⟩
theorem ans_new {H : Hp} {vs : List V} {ds : List D} {Q : VK} (r : Reps K H vs ds []) (k : ∀ u H2, Evl.Ex H H2 → (∃ G, Rep K H2 u (.lst ds) G ∧ (∀ a ∈ G, H a = none) ∧ G.Nodup) → Q u H2) : ∀ p, H p = none → Q (.ref p) (upd H p (.lst vs)) := fun p hp => by
  have ex : Evl.Ex H (upd H p (.lst vs)) := Evl.Ex.new hp
  exact k _ _ ex ⟨[p], .lst upd_same (Reps.stp (X := fun _ => False) (Stp.ex ex) r (fun _ z => nomatch z)), (fun a ha => by rw [List.mem_singleton.mp ha]; exact hp), by simp⟩
theorem ans_newT {H : Hp} {vs : List V} {ds : List D} {Q : VK} (r : Reps K H vs ds []) (k : ∀ u H2, Evl.Ex H H2 → (∃ G, Rep K H2 u (.tup ds) G ∧ (∀ a ∈ G, H a = none) ∧ G.Nodup) → Q u H2) : ∀ p, H p = none → Q (.ref p) (upd H p (.tup vs)) := fun p hp => by
  have ex : Evl.Ex H (upd H p (.tup vs)) := Evl.Ex.new hp
  exact k _ _ ex ⟨[], .tup (.inl (.inl upd_same)) (Reps.stp (X := fun _ => False) (Stp.ex ex) r (fun _ z => nomatch z)), (fun _ z => nomatch z), List.nodup_nil⟩
theorem ans_addL : Ans2 K rCat addL := by
  intro H v w d e z G1 G2 Q r1 r2 hg k
  unfold addL at hg
  split at hg
  · split at hg
    · rename_i hz
      injection hg with hg
      subst hg
      cases r1 with
      | lst h1 q1 =>
        cases r2 with
        | lst h2 q2 =>
          exact ⟨_, _, _, _, rfl, rfl, h1, h2, by rw [q1.length, q2.length]; exact SZ_le hz.1, ans_new ((q1.flat hz.2.1).app (q2.flat hz.2.2)) k⟩
    · cases hg
  · cases hg
def rAddX : R2 := fun x y H Q => rI0 (fun i j => .int (i + j)) x y H Q ∨ rAddS x y H Q ∨ rCat x y H Q
def addG : D → D → Option D := orElse addI (orElse addS addL)
theorem op_addX {X : Cx} : OpR X (binaryOp .Add) rAddX := OpR.or op_add (OpR.or op_add_str op_cat)
theorem ans_addG : Ans2 K rAddX addG := ans_addI.or (ans_addS.or ans_addL)
def mulL : D → D → Option D
  | .lst x, .int k => if x.length * k.toNat ≤ SZ ∧ immuts x ∧ -(2 ^ 63) ≤ k ∧ k < 2 ^ 63 then some (.lst (List.replicate k.toNat x).flatten) else none
  | _, _ => none
theorem reps_rep {H : Hp} {vs : List V} {ds : List D} (r : Reps K H vs ds []) : ∀ n, Reps K H (List.replicate n vs).flatten (List.replicate n ds).flatten []
  | 0 => .nil
  | n + 1 => by
    rw [List.replicate_succ, List.replicate_succ, List.flatten_cons, List.flatten_cons]
    exact r.app (reps_rep r n)
theorem ans_mulL : Ans2 K rRep mulL := by
  intro H v w d e z G1 G2 Q r1 r2 hg k
  unfold mulL at hg
  split at hg
  · split at hg
    · rename_i hz
      injection hg with hg
      subst hg
      cases r1 with
      | lst h1 q1 =>
        cases r2
        exact ⟨_, _, _, rfl, rfl, h1, hz.2.2.1, hz.2.2.2, by rw [q1.length]; exact SZ_le hz.1, ans_new (reps_rep (q1.flat hz.2.1) _) k⟩
    · cases hg
  · cases hg
def rMulX : R2 := fun x y H Q => rI CMul (fun i j => .int (i * j)) x y H Q ∨ rRep x y H Q
def mulG : D → D → Option D := orElse mulI mulL
theorem op_mulX {X : Cx} : OpR X (binaryOp .Mult) rMulX := OpR.or op_mul op_rep
theorem ans_mulG : Ans2 K rMulX mulG := ans_mulI.or ans_mulL

/-! ### < <= > >= -/
def ltI : D → D → Option D := gI fun i j => some (.bl (decide (i < j)))
def leI : D → D → Option D := gI fun i j => some (.bl (decide (i ≤ j)))
def gtI : D → D → Option D := gI fun i j => some (.bl (decide (j < i)))
def geI : D → D → Option D := gI fun i j => some (.bl (decide (j ≤ i)))
theorem ans_ltI : Ans2 K (rI0 fun i j => .bl (decide (i < j))) ltI := ans_I0 fun _ _ _ => .bl _
theorem ans_leI : Ans2 K (rI0 fun i j => .bl (decide (i ≤ j))) leI := ans_I0 fun _ _ _ => .bl _
theorem ans_gtI : Ans2 K (rI0 fun i j => .bl (decide (j < i))) gtI := ans_I0 fun _ _ _ => .bl _
theorem ans_geI : Ans2 K (rI0 fun i j => .bl (decide (j ≤ i))) geI := ans_I0 fun _ _ _ => .bl _
def intsOf : List D → Option (List Int)
  | [] => some []
  | .int i :: ds => match intsOf ds with
    | some is => some (i :: is)
    | none => none
  | _ => none
theorem intsOf_rep {H : Hp} : ∀ {vs : List V} {ds : List D} {G : List Addr} {ns : List Int}, Reps K H vs ds G → intsOf ds = some ns → vs = ns.map V.int ∧ ds = ns.map D.int ∧ G = []
  | _, _, _, _, .nil, h => by
    injection h with h
    subst h
    exact ⟨rfl, rfl, rfl⟩
  | _, _, _, ns, .cons (d := d) r t, h => by
    cases r <;> first | (cases h) | skip
    rename_i i
    unfold intsOf at h
    split at h
    · rename_i is e
      injection h with h
      subst h
      obtain ⟨h1, h2, h3⟩ := intsOf_rep t e
      subst h1 h2 h3
      exact ⟨rfl, rfl, rfl⟩
    · cases h
/-- tuples of ints -/
def ltT : D → D → Option D
  | .tup x, .tup y => match intsOf x, intsOf y with
    | some ns, some ms => some (.bl (HT.lexLt ns ms))
    | _, _ => none
  | _, _ => none
theorem ans_ltT : Ans2 K (rLtT K) ltT := by
  intro H v w d e z G1 G2 Q r1 r2 hg k
  unfold ltT at hg
  split at hg
  · split at hg
    · rename_i ns ms e1 e2
      injection hg with hg
      subst hg
      cases r1 with
      | tup h1 q1 =>
        cases r2 with
        | tup h2 q2 =>
          obtain ⟨a1, _, _⟩ := intsOf_rep q1 e1
          obtain ⟨a2, _, _⟩ := intsOf_rep q2 e2
          subst a1 a2
          exact ⟨_, _, _, _, rfl, rfl, h1, h2, ans0 (.bl _) k⟩
    · cases hg
  · cases hg
def rLtX (K : PySem.W.Frag) : R2 := fun x y H Q => rI0 (fun i j => .bl (decide (i < j))) x y H Q ∨ rLtT K x y H Q
def ltG : D → D → Option D := orElse ltI ltT
theorem op_ltX {X : Cx} (hu : X.A.units < cLine) : OpR X (compareOp .Lt) (rLtX X.K) := OpR.or op_lt (op_ltT hu)
theorem ans_ltG : Ans2 K (rLtX K) ltG := ans_ltI.or ans_ltT

/-! ### subscripts -/
def getAt (d i : D) : Option D := match d, i with
  | .lst xs, .int i => atI xs i
  | .frz xs, .int i => atI xs i
  | .tup xs, .int i => atI xs i
  | .str z, .int i => if z.length ≤ SZ then (atI z.cps.toList i).map fun c => .str ⟨#[c]⟩ else none
  | _, _ => none
def subF (N : List Nat) (fa fb : EF) : EF := fun Γ => match fa Γ with
  | none => none
  | some (x, Γ1) => match fb Γ1 with
    | none => none
    | some (y, Γ2) => if lastOk N x then match getAt x.d y.d with
      | none => none
      | some z => some (if immut z then nw z else ⟨x.deps, x.ro, z⟩, Γ2) else none
theorem atI_rep {H : Hp} {vs : List V} {ds : List D} {G : List Addr} {i : Int} {z : D} (r : Reps K H vs ds G) (e : atI ds i = some z) : ∃ v A B C, atI vs i = some v ∧ Rep K H v z B ∧ G = A ++ B ++ C := by
  unfold atI at e ⊢
  rw [r.length]
  cases q : ixN ds.length i with
  | none => rw [q] at e; cases e
  | some j =>
    rw [q] at e
    obtain ⟨v, A, B, C, h1, h2, h3⟩ := r.atD (show ds[j]? = some z from e)
    exact ⟨v, A, B, C, h1, h2, h3⟩
theorem part_ok {I : Addr → Prop} {F : Nat → List Addr} {H H' : Hp} {v u : V} {x : Val} {z : D} {A B C : List Addr} (l : VOk K I F H H' v x (A ++ B ++ C)) (r : Rep K H' u z B) : ∃ G, VOk K I F H H' u (if immut z then nw z else ⟨x.deps, x.ro, z⟩) G := by
  split
  · rename_i h
    have e := r.immut h
    subst e
    exact ⟨[], .flat r⟩
  · refine ⟨B, r, fun a ha => l.own a (List.mem_append_left _ (List.mem_append_right _ ha)), fun h => ?_⟩
    have nd := l.nd h
    rw [List.nodup_append, List.nodup_append] at nd
    exact nd.1.2.1
theorem mid_nodup {A B C : List Addr} (n : (A ++ B ++ C).Nodup) : B.Nodup := (List.nodup_append.mp (List.nodup_append.mp n).1).2.1
theorem ix_ans {H : Hp} {v w : V} {d i z : D} {G1 G2 : List Addr} (r1 : Rep K H v d G1) (r2 : Rep K H w i G2) (e : getAt d i = some z) :
    ∃ u A B C, G1 = A ++ B ++ C ∧ Rep K H u z B ∧ ∀ Q : VK, Q u H → rIx K v w H Q := by
  cases r2 with
  | int i =>
    cases r1 with
    | lst h q =>
      obtain ⟨u, A, B, C, q1, q2, q3⟩ := atI_rep q e
      exact ⟨u, _ :: A, B, C, by rw [q3]; rfl, q2, fun Q hq => .inl ⟨_, _, _, u, rfl, rfl, .inl (.inl h), q1, hq⟩⟩
    | lstR h q =>
      obtain ⟨u, A, B, C, q1, q2, q3⟩ := atI_rep q e
      exact ⟨u, A, B, C, q3, q2, fun Q hq => .inl ⟨_, _, _, u, rfl, rfl, h.l, q1, hq⟩⟩
    | tup h q =>
      obtain ⟨u, A, B, C, q1, q2, q3⟩ := atI_rep q e
      exact ⟨u, A, B, C, q3, q2, fun Q hq => .inr (.inl ⟨_, _, _, u, rfl, rfl, h, q1, hq⟩)⟩
    | str x =>
      have e' : (if x.length ≤ SZ then (atI x.cps.toList i).map fun c => D.str ⟨#[c]⟩ else none) = some z := e
      split at e'
      · rename_i hz
        obtain ⟨c, hc, rfl⟩ := Option.map_eq_some_iff.mp e'
        exact ⟨.str ⟨#[c]⟩, [], [], [], rfl, .str _, fun Q hq => .inr (.inr ⟨_, _, c, rfl, rfl, SZ_le hz, hc, hq⟩)⟩
      · cases e'
    | _ => cases e
  | _ => cases r1 <;> cases e
section
variable {X : Cx} {a b c : Expr} {M N L : List Nat} {fa fb fc : EF} {pos : Pos}
theorem se_sub (ha : SE X M a fa) (hb : SE X N b fb) (hs : PlainIx b := by exact fun _ _ => rfl) : SE X (M ++ N) (.Subscript a b pos) (subF N fa fb) := ⟨PE.imp (pe_ix ix_seq ha.pe hb.pe hs) fun σ H Q q => by
  obtain ⟨I, F, Γ, x, Γ', o, e, k⟩ := q
  unfold subF at e
  split at e
  · cases e
  · rename_i x1 Γ1 e1
    split at e
    · cases e
    · rename_i y1 Γ2 e2
      split at e
      · rename_i hl
        split at e
        · cases e
        · rename_i z ez
          injection e with e
          injection e with e e'
          subst e e'
          refine two o e1 e2 hl fun v w H2 F2 G1 G2 o2 f2 l1 l2 _ => ?_
          obtain ⟨u, A, B, C, q1, q2, q3⟩ := ix_ans l1.rep l2.rep ez
          subst q1
          obtain ⟨G, hG⟩ := part_ok l1 q2
          exact q3 Q (k u H2 F2 G o2 f2 hG)
      · cases e⟩

/-! ### slices -/
def optI : D → Option (Option Int)
  | .int i => some (some i)
  | _ => none
def cutD {α : Type} (xs : List α) (lo hi : Option Int) : List α := (xs.drop (HT.sIx xs.length 0 lo)).take (HT.sIx xs.length xs.length hi - HT.sIx xs.length 0 lo)
/-- a slice's bound -/
abbrev OF := Env → Option (Option Int × Env)
def tSemO (K : PySem.W.Frag) (M : List Nat) (f : OF) : TO := fun σ H Q => ∃ I F Γ x Γ', Ok K I F σ Γ H ∧ f Γ = some (x, Γ') ∧
  ∀ H' F', Ok K I F' σ Γ' H' → Frm M Γ Γ' F F' H H' → Q x H'
structure SO (X : Cx) (M : List Nat) (e : Option Expr) (f : OF) : Prop where
  po : PO X e (tSemO X.K M f)
theorem PO.imp {X : Cx} {e : Option Expr} {t t' : TO} (h : PO X e t) (k : ∀ σ H Q, t' σ H Q → t σ H Q) : PO X e t' := ⟨fun pins s σ H Q I w => h.run pins s σ H Q I (k σ H Q w)⟩
def noO : OF := fun Γ => some (none, Γ)
def someO (f : EF) : OF := fun Γ => match f Γ with
  | some (⟨_, _, .int i⟩, Γ1) => some (some i, Γ1)
  | _ => none
theorem so_none : SO X [] none noO := ⟨PO.imp po_none fun σ H Q q => by
  obtain ⟨I, F, Γ, x, Γ', o, e, k⟩ := q
  injection e with e
  injection e with e e'
  subst e e'
  exact k H F o (Frm.refl _ _ _)⟩
theorem so_some (h : SE X M a fa) : SO X M (some a) (someO fa) := ⟨PO.imp (po_some h.pe) fun σ H Q q => by
  obtain ⟨I, F, Γ, x, Γ', o, e, k⟩ := q
  unfold someO at e
  split at e
  · rename_i dp ro i Γ1 e1
    injection e with e
    injection e with e e'
    subst e e'
    refine ⟨I, F, Γ, _, _, o, e1, fun v H1 F1 G1 o1 f1 l => ?_⟩
    have h1 := l.rep
    cases h1
    exact ⟨i, rfl, k H1 F1 o1 f1⟩
  · cases e⟩
def cutAt (d : D) (lo hi : Option Int) : Option D := match d with
  | .lst xs => some (.lst (cutD xs lo hi))
  | .frz xs => some (.lst (cutD xs lo hi))
  | .str z => if z.length ≤ SZ then some (.str (cutS z lo hi)) else none
  | .tup xs => if HT.sIx xs.length 0 lo = 0 ∧ HT.sIx xs.length xs.length hi = xs.length then none else some (.tup (cutD xs lo hi))
  | _ => none
def itemsOf : D → List D
  | .lst xs => xs
  | .frz xs => xs
  | .tup xs => xs
  | _ => []
/-- the parts are without a writer in between: a written slice's bounds write nothing -/
def sliF (fa : EF) (lo hi : OF) : EF := fun Γ => match fa Γ with
  | none => none
  | some (x, Γ1) => match lo Γ1 with
    | none => none
    | some (l, Γ2) => match hi Γ2 with
      | none => none
      | some (h, Γ3) => match cutAt x.d l h with
        | none => none
        | some z => some (if immuts (itemsOf x.d) then nw z else ⟨x.deps, x.ro, z⟩, Γ3)
theorem Reps.takeR {H : Hp} : ∀ {vs : List V} {ds : List D} {G : List Addr}, Reps K H vs ds G → ∀ m, ∃ B C, Reps K H (vs.take m) (ds.take m) B ∧ G = B ++ C
  | _, _, _, .nil, m => ⟨[], [], by simp; exact .nil, rfl⟩
  | _, _, _, .cons (F := F) (G := G) r t, 0 => ⟨[], F ++ G, .nil, rfl⟩
  | _, _, _, .cons (F := F) (G := G) r t, m + 1 => by
    obtain ⟨B, C, h, e⟩ := Reps.takeR t m
    exact ⟨F ++ B, C, .cons r h, by rw [e]; simp⟩
theorem Reps.dropR {H : Hp} : ∀ {vs : List V} {ds : List D} {G : List Addr}, Reps K H vs ds G → ∀ m, ∃ A B, Reps K H (vs.drop m) (ds.drop m) B ∧ G = A ++ B
  | _, _, _, .nil, m => ⟨[], [], by simp; exact .nil, rfl⟩
  | _, _, _, .cons (F := F) (G := G) r t, 0 => ⟨[], F ++ G, .cons r t, rfl⟩
  | _, _, _, .cons (F := F) (G := G) r t, m + 1 => by
    obtain ⟨A, B, h, e⟩ := Reps.dropR t m
    exact ⟨F ++ A, B, h, by rw [e]; simp⟩
theorem Reps.cut {H : Hp} {vs : List V} {ds : List D} {G : List Addr} (r : Reps K H vs ds G) (lo hi : Option Int) : ∃ A B C, Reps K H (cutV vs lo hi) (cutD ds lo hi) B ∧ G = A ++ B ++ C := by
  obtain ⟨A, B, h, e⟩ := r.dropR (HT.sIx ds.length 0 lo)
  obtain ⟨B', C, h', e'⟩ := h.takeR (HT.sIx ds.length ds.length hi - HT.sIx ds.length 0 lo)
  refine ⟨A, B', C, ?_, by rw [e, e']; simp⟩
  unfold cutV cutD
  rw [r.length]
  exact h'
theorem immuts_take : ∀ {x : List D} (n : Nat), immuts x = true → immuts (x.take n) = true
  | [], 0, h => rfl
  | [], _ + 1, h => rfl
  | d :: ds, 0, h => rfl
  | d :: ds, n + 1, h => by
    have q := Bool.and_eq_true_iff.mp h
    exact Bool.and_eq_true_iff.mpr ⟨q.1, immuts_take n q.2⟩
theorem immuts_drop : ∀ {x : List D} (n : Nat), immuts x = true → immuts (x.drop n) = true
  | [], 0, h => rfl
  | [], _ + 1, h => rfl
  | d :: ds, 0, h => h
  | d :: ds, n + 1, h => immuts_drop n (Bool.and_eq_true_iff.mp h).2
def rSlX (K : PySem.W.Frag) : V → Option Int → Option Int → Hp → VK → Prop := fun x lo hi H Q => rSlL K x lo hi H Q ∨ rSlS x lo hi H Q ∨ rSlT K x lo hi H Q
theorem sl_X : SlR X (rSlX X.K) := SlR.or sl_list (SlR.or sl_str sl_tup)
theorem sl_ans {I : Addr → Prop} {F : Nat → List Addr} {σ : St} {Γ : Env} {H H2 : Hp} {v : V} {x : Val} {z : D} {G : List Addr} {lo hi : Option Int} (o : Ok K I F σ Γ H2) (l : VOk K I F H H2 v x G) (ez : cutAt x.d lo hi = some z) (lv : ∀ a, H2 a = none → H a = none) {Q : VK}
    (k : ∀ u H3 G, Evl.Ex H2 H3 → VOk K I F H H3 u (if immuts (itemsOf x.d) then nw z else ⟨x.deps, x.ro, z⟩) G → Q u H3) : rSlX K v lo hi H2 Q := by
  have new : ∀ {vs : List V} {ds : List D} {G' : List Addr} (B : List Addr), Reps K H2 vs ds G' → immuts (itemsOf x.d) = immuts ds → z = .lst (cutD ds lo hi) → (∀ A' B' C', G' = A' ++ B' ++ C' → (∀ a ∈ B', a ∈ G) ∧ (G.Nodup → B'.Nodup)) → ∀ p, H2 p = none → Q (.ref p) (upd H2 p (.lst (cutV vs lo hi))) := fun {vs ds G'} B q hi' hz hs p hp => by
    obtain ⟨A', B', C', h1, h2⟩ := q.cut lo hi
    obtain ⟨s1, s2⟩ := hs A' B' C' h2
    have ex : Evl.Ex H2 (upd H2 p (.lst (cutV vs lo hi))) := Evl.Ex.new hp
    have rp : Rep K (upd H2 p (.lst (cutV vs lo hi))) (.ref p) z (p :: B') := by
      rw [hz]
      exact .lst upd_same (Reps.stp (X := fun _ => False) (Stp.ex ex) h1 fun _ _ z => z)
    have hpn : H p = none ∧ ∀ s, p ∉ F s := ⟨lv p hp, fun s hs => o.lv s p hs hp⟩
    have hpg : p ∉ B' := fun m => by
      obtain ⟨_, e, _⟩ := h1.there p m
      rw [hp] at e; cases e
    refine k _ _ (p :: B') ex ?_
    rw [hi']
    split
    · rename_i h
      have e2 := h1.immut (immuts_take _ (immuts_drop _ h))
      subst e2
      refine ⟨rp, fun a ha => ?_, fun _ => by simp⟩
      have : a = p := by simpa using ha
      subst this
      exact .inl hpn
    · refine ⟨rp, fun a ha => ?_, fun h => List.nodup_cons.mpr ⟨hpg, s2 (l.nd h)⟩⟩
      rcases List.mem_cons.mp ha with rfl | ha
      · exact .inl hpn
      · exact l.own a (s1 a ha)
  obtain ⟨dp, ro, d⟩ := x
  have h1 := l.rep
  cases h1 with
  | lst h q =>
    injection ez with ez
    exact .inl ⟨_, _, rfl, .inl (.inl h), new [] q rfl ez.symm fun A' B' C' e => by subst e; exact ⟨fun a ha => by simp [ha], fun n => mid_nodup (List.nodup_cons.mp n).2⟩⟩
  | lstR h q =>
    injection ez with ez
    exact .inl ⟨_, _, rfl, h.l, new [] q rfl ez.symm fun A' B' C' e => by subst e; exact ⟨fun a ha => by simp [ha], fun n => mid_nodup n⟩⟩
  | str zz =>
    have e' : (if zz.length ≤ SZ then some (D.str (cutS zz lo hi)) else none) = some z := ez
    split at e'
    · rename_i hz
      injection e' with e'
      subst e'
      exact .inr (.inl ⟨_, rfl, SZ_le hz, k _ H2 [] (Evl.Ex.refl _) (.flat (.str _))⟩)
    · cases e'
  | tup h q =>
    rename_i vs ds
    have e' : (if HT.sIx ds.length 0 lo = 0 ∧ HT.sIx ds.length ds.length hi = ds.length then none else some (D.tup (cutD ds lo hi))) = some z := ez
    split at e'
    · cases e'
    · rename_i hw
      injection e' with e'
      subst e'
      refine .inr (.inr ⟨_, _, rfl, h, by rw [q.length]; exact hw, fun p hp => ?_⟩)
      obtain ⟨A', B', C', h1, h2⟩ := q.cut lo hi
      have ex : Evl.Ex H2 (upd H2 p (.tup (cutV vs lo hi))) := Evl.Ex.new hp
      have rp : Rep K (upd H2 p (.tup (cutV vs lo hi))) (.ref p) (.tup (cutD ds lo hi)) B' := .tup (.inl (.inl upd_same)) (Reps.stp (X := fun _ => False) (Stp.ex ex) h1 fun _ _ z => z)
      refine k _ _ B' ex ?_
      show VOk K I F H _ _ (if immuts ds then _ else _) _
      split
      · rename_i h
        have e2 := h1.immut (immuts_take _ (immuts_drop _ h))
        subst e2
        exact .flat rp
      · subst h2
        exact ⟨rp, fun a ha => l.own a (by simp [ha]), fun h => mid_nodup (l.nd h)⟩
  | _ => cases ez
theorem lasts0 {I : Addr → Prop} {F F' : Nat → List Addr} {σ : St} {Γ Γ' : Env} {H H1 H' : Hp} {v : V} {x : Val} {G : List Addr} (o : Ok K I F σ Γ H1) (h : VOk K I F H H1 v x G) (f : Frm [] Γ Γ' F F' H1 H') (o' : Ok K I F' σ Γ' H') : VOk K I F' H H' v x G := h.last o f o' fun _ _ z => nomatch z
theorem se_slice {lo hi : Option Expr} {fl fh : OF} {p2 : Pos} (ha : SE X M a fa) (hl : SO X [] lo fl) (hh : SO X [] hi fh) : SE X M (.Subscript a (.Slice lo hi none p2) pos) (sliF fa fl fh) := ⟨PE.imp (pe_slice sl_X ha.pe hl.po hh.po) fun σ H Q q => by
  obtain ⟨I, F, Γ, x, Γ', o, e, k⟩ := q
  unfold sliF at e
  split at e
  · cases e
  · rename_i x1 Γ1 e1
    split at e
    · cases e
    · rename_i l1 Γ2 e2
      split at e
      · cases e
      · rename_i h1 Γ3 e3
        split at e
        · cases e
        · rename_i z ez
          injection e with e
          injection e with e e'
          subst e e'
          refine ⟨I, F, Γ, _, Γ1, o, e1, fun v H1 F1 G o1 f1 w1 => ⟨I, F1, Γ1, _, Γ2, o1, e2, fun H2 F2 o2 f2 => ⟨I, F2, Γ2, _, Γ3, o2, e3, fun H3 F3 o3 f3 => ?_⟩⟩⟩
          have w3 := lasts0 o2 (lasts0 o1 w1 f2 o2) f3 o3
          have f13 : Frm M Γ Γ3 F F3 H H3 := ((f1.trans f2).trans f3).mono fun s m => by simpa using m
          exact sl_ans o3 w3 ez f13.stp.live fun u H4 G4 ex w4 => k u H4 F3 G4 (o3.ex ex) (Ex.ok (K := X.K) (σ := σ) (I := I) f13 ex) w4⟩
end
end
end VS
/-! VS6: calls of what is built in. -/
namespace VS
open PySem L2
def AnsC (K : PySem.W.Frag) (r : List V → Hp → VK → Prop) (g : List D → Option D) : Prop := ∀ (H : Hp) (vs : List V) (ds : List D) (z : D) (G : List Addr) (Q : VK), Reps K H vs ds G → g ds = some z →
  (∀ u H2, Evl.Ex H H2 → (∃ G, Rep K H2 u z G ∧ (∀ a ∈ G, H a = none) ∧ G.Nodup) → Q u H2) → r vs H Q
def callF (g : List D → Option D) (fs : LF) : EF := fun Γ => match fs Γ with
  | none => none
  | some (xs, Γ1) => match g xs.ds with
    | none => none
    | some z => some (nw z, Γ1)
section
variable {K : PySem.W.Frag} {M : List Nat} {fs : LF}
theorem sem_call {r : List V → Hp → VK → Prop} {g : List D → Option D} (A : AnsC K r g) {σ : St} {H : Hp} {Q : VK} (q : tSem K M (callF g fs) σ H Q) : tSemL K M fs σ H fun vs H1 => r vs H1 Q := by
  obtain ⟨I, F, Γ, x, Γ', o, e, k⟩ := q
  unfold callF at e
  split at e
  · cases e
  · rename_i xs Γ1 e1
    split at e
    · cases e
    · rename_i z ez
      injection e with e
      injection e with e e'
      subst e e'
      refine ⟨I, F, Γ, _, _, o, e1, fun vs H1 F1 G o1 f1 l => A H1 vs _ z G Q l.rep ez fun u H3 ex ⟨G', r3, n3, nd3⟩ => ?_⟩
      exact ok_new o1 f1 k ex r3 n3 nd3
end
section
variable {X : Cx} {e : Expr} {es : List Expr} {M : List Nat} {fs : LF} {x : Str} {p pos : Pos} {id T : String} {r : List V → Hp → VK → Prop} {g : List D → Option D}
theorem se_callB (hc : CallR X (.builtin id) r) (A : AnsC X.K r g) (hg : Gl X x) (hm : X.mg x = none) (hv : bootBuiltins x = some (.builtin id)) (ha : SL X M (e :: es) fs) (hn : x ≠ "__name__" := by decide) (hdb : (x == ("__debug__" : Str)) = false := by decide)
    (he : starEach (e :: es) X.env = (false, eval e X.env) :: starEach es X.env := by rfl) (hpl : (backTo pos (starEach es X.env)).any (·.1) = false := by rfl) : SE X M (.Call (.Name x p) (e :: es) [] pos) (callF g fs) :=
  ⟨PE.imp (pe_callB hc hg hm hv ha.pa hn hdb he hpl) fun _ _ _ q => sem_call A q⟩
theorem se_callTy (hc : CallR X (.type T) r) (A : AnsC X.K r g) (hg : Gl X x) (hm : X.mg x = none) (hv : bootBuiltins x = some (.type T)) (ha : SL X M (e :: es) fs) (hn : x ≠ "__name__" := by decide) (hdb : (x == ("__debug__" : Str)) = false := by decide)
    (he : starEach (e :: es) X.env = (false, eval e X.env) :: starEach es X.env := by rfl) (hpl : (backTo pos (starEach es X.env)).any (·.1) = false := by rfl) : SE X M (.Call (.Name x p) (e :: es) [] pos) (callF g fs) :=
  ⟨PE.imp (pe_callTy hc hg hm hv ha.pa hn hdb he hpl) fun _ _ _ q => sem_call A q⟩
end
section
variable {K : PySem.W.Frag}
theorem reps1 {H : Hp} {vs : List V} {d : D} {G : List Addr} (r : Reps K H vs [d] G) : ∃ v, vs = [v] ∧ Rep K H v d G := by
  cases r with
  | cons r t =>
    cases t
    exact ⟨_, rfl, by simpa using r⟩
theorem reps2 {H : Hp} {vs : List V} {d e : D} {G : List Addr} (r : Reps K H vs [d, e] G) : ∃ v w A B, vs = [v, w] ∧ Rep K H v d A ∧ Rep K H w e B ∧ G = A ++ B := by
  cases r with
  | cons r t =>
    cases t with
    | cons r2 t2 =>
      cases t2
      exact ⟨_, _, _, _, rfl, r, r2, by simp⟩
def g1 (f : D → Option D) : List D → Option D
  | [d] => f d
  | _ => none
def g12 (f : D → Option D) (f2 : D → D → Option D) : List D → Option D
  | [d] => f d
  | [d, e] => f2 d e
  | _ => none
theorem ansC1 {r : List V → Hp → VK → Prop} {f : D → Option D} (h : ∀ (H : Hp) (v : V) (d z : D) (G : List Addr) (Q : VK), Rep K H v d G → f d = some z → (∀ u H2, Evl.Ex H H2 → (∃ G, Rep K H2 u z G ∧ (∀ a ∈ G, H a = none) ∧ G.Nodup) → Q u H2) → r [v] H Q) : AnsC K r (g1 f) := by
  intro H vs ds z G Q rr hg k
  cases ds with
  | nil => cases hg
  | cons d ds =>
    cases ds with
    | nil =>
      obtain ⟨v, rfl, r1⟩ := reps1 rr
      exact h H v d z G Q r1 hg k
    | cons _ _ => cases hg
theorem ansC12 {r : List V → Hp → VK → Prop} {f : D → Option D} {f2 : D → D → Option D} (h : ∀ (H : Hp) (v : V) (d z : D) (G : List Addr) (Q : VK), Rep K H v d G → f d = some z → (∀ u H2, Evl.Ex H H2 → (∃ G, Rep K H2 u z G ∧ (∀ a ∈ G, H a = none) ∧ G.Nodup) → Q u H2) → r [v] H Q)
    (h2 : ∀ (H : Hp) (v w : V) (d e z : D) (A B : List Addr) (Q : VK), Rep K H v d A → Rep K H w e B → f2 d e = some z → (∀ u H2, Evl.Ex H H2 → (∃ G, Rep K H2 u z G ∧ (∀ a ∈ G, H a = none) ∧ G.Nodup) → Q u H2) → r [v, w] H Q) : AnsC K r (g12 f f2) := by
  intro H vs ds z G Q rr hg k
  cases ds with
  | nil => cases hg
  | cons d ds =>
    cases ds with
    | nil =>
      obtain ⟨v, rfl, r1⟩ := reps1 rr
      exact h H v d z G Q r1 hg k
    | cons e ds =>
      cases ds with
      | nil =>
        obtain ⟨v, w, A, B, rfl, r1, r2, _⟩ := reps2 rr
        exact h2 H v w d e z A B Q r1 r2 hg k
      | cons _ _ => cases hg
def lenD : D → Option D
  | .lst xs => some (.int xs.length)
  | .frz xs => some (.int xs.length)
  | .tup xs => some (.int xs.length)
  | .str z => if z.length ≤ SZ then some (.int z.length) else none
  | .dK xs => some (.int xs.length)
  | .dT xs => some (.int xs.length)
  | _ => none
abbrev lenG := g1 lenD
def rLenX (K : PySem.W.Frag) : List V → Hp → VK → Prop := fun xs H Q => (∃ x n, xs = [x] ∧ LenV K x H n ∧ Q (.int n) H) ∨ (∃ a kvs, xs = [V.ref a] ∧ H a = some (.dK kvs) ∧ Q (.int kvs.length) H) ∨ rLenT xs H Q
theorem RepK.length {H : Hp} : ∀ {vs : List (Key × V)} {ds : List (Key × D)} {G : List Addr}, RepK K H vs ds G → vs.length = ds.length
  | _, _, _, .nil => rfl
  | _, _, _, .cons _ t => by rw [List.length_cons, List.length_cons, RepK.length t]
theorem RepT.length {H : Hp} : ∀ {vs : List (List Key × V)} {ds : List (List Key × D)} {G : List Addr}, RepT K H vs ds G → vs.length = ds.length
  | _, _, _, .nil => rfl
  | _, _, _, .cons _ t => by rw [List.length_cons, List.length_cons, RepT.length t]
theorem cr_lenX {X : Cx} : CallR X (.builtin "len") (rLenX X.K) := CallR.or call_len (CallR.or call_lenD call_len_dT)
theorem ans_len : AnsC K (rLenX K) lenG := ansC1 fun H v d z G Q r hg k => by
  cases r with
  | lst h q =>
    injection hg with hg
    subst hg
    exact .inl ⟨_, _, rfl, .inl ⟨_, .inl (.inl h), rfl⟩, by rw [q.length]; exact ans0 (.int _) k⟩
  | lstR h q =>
    injection hg with hg
    subst hg
    exact .inl ⟨_, _, rfl, .inl ⟨_, h.l, rfl⟩, by rw [q.length]; exact ans0 (.int _) k⟩
  | tup h q =>
    injection hg with hg
    subst hg
    exact .inl ⟨_, _, rfl, .inr ⟨_, h, rfl⟩, by rw [q.length]; exact ans0 (.int _) k⟩
  | str x =>
    have hg' : (if x.length ≤ SZ then some (D.int x.length) else none) = some z := hg
    split at hg'
    · rename_i hz
      injection hg' with hg'
      subst hg'
      exact .inl ⟨_, _, rfl, ⟨SZ_le hz, rfl⟩, ans0 (.int _) k⟩
    · cases hg'
  | dK h q =>
    injection hg with hg
    subst hg
    exact .inr (.inl ⟨_, _, rfl, h, by rw [q.length]; exact ans0 (.int _) k⟩)
  | dT h q =>
    injection hg with hg
    subst hg
    exact .inr (.inr ⟨_, _, rfl, h, by rw [q.length]; exact ans0 (.int _) k⟩)
  | _ => cases hg
def intD : D → Option D
  | .int i => some (.int i)
  | .bl b => some (.int (if b then 1 else 0))
  | _ => none
abbrev intG := g1 intD
theorem ans_int : AnsC K (fun xs H Q => (∃ i, xs = [.int i] ∧ Q (.int i) H) ∨ ∃ k, xs = [.bl k] ∧ Q (.int (if k then 1 else 0)) H) intG := ansC1 fun H v d z G Q r hg k => by
  cases r with
  | int i => injection hg with hg; subst hg; exact .inl ⟨_, rfl, ans0 (.int _) k⟩
  | bl i => injection hg with hg; subst hg; exact .inr ⟨_, rfl, ans0 (.int _) k⟩
  | _ => cases hg
def maxI : List Int → Option Int
  | [] => none
  | x :: xs => some (xs.foldl max x)
def minI : List Int → Option Int
  | [] => none
  | x :: xs => some (xs.foldl min x)
theorem foldl_max_ge : ∀ (xs : List Int) (x : Int), x ≤ xs.foldl max x ∧ ∀ y ∈ xs, y ≤ xs.foldl max x
  | [], x => ⟨Int.le_refl _, fun _ h => nomatch h⟩
  | z :: zs, x => by
    obtain ⟨h1, h2⟩ := foldl_max_ge zs (max x z)
    refine ⟨Int.le_trans (Int.le_max_left _ _) h1, fun y hy => ?_⟩
    rcases List.mem_cons.mp hy with rfl | hy
    · exact Int.le_trans (Int.le_max_right _ _) h1
    · exact h2 y hy
theorem foldl_max_mem : ∀ (xs : List Int) (x : Int), xs.foldl max x = x ∨ xs.foldl max x ∈ xs
  | [], x => .inl rfl
  | z :: zs, x => by
    rcases foldl_max_mem zs (max x z) with h | h
    · by_cases q : x ≤ z
      · right
        show zs.foldl max (max x z) ∈ z :: zs
        rw [h, Int.max_eq_right q]
        exact List.mem_cons_self
      · left
        show zs.foldl max (max x z) = x
        rw [h, Int.max_eq_left (by omega)]
    · exact .inr (List.mem_cons_of_mem _ h)
theorem maxI_is {ns : List Int} {m k : Int} (h : maxI ns = some k) (hm : m ∈ ns) (hx : ∀ y ∈ ns, y ≤ m) : m = k := by
  cases ns with
  | nil => cases h
  | cons x xs =>
    injection h with h
    subst h
    obtain ⟨h1, h2⟩ := foldl_max_ge xs x
    have a : m ≤ xs.foldl max x := by
      rcases List.mem_cons.mp hm with rfl | hm
      · exact h1
      · exact h2 m hm
    have b : xs.foldl max x ≤ m := by
      rcases foldl_max_mem xs x with q | q
      · rw [q]; exact hx x List.mem_cons_self
      · exact hx _ (List.mem_cons_of_mem _ q)
    omega
theorem foldl_min_le : ∀ (xs : List Int) (x : Int), xs.foldl min x ≤ x ∧ ∀ y ∈ xs, xs.foldl min x ≤ y
  | [], x => ⟨Int.le_refl _, fun _ h => nomatch h⟩
  | z :: zs, x => by
    obtain ⟨h1, h2⟩ := foldl_min_le zs (min x z)
    refine ⟨Int.le_trans h1 (Int.min_le_left _ _), fun y hy => ?_⟩
    rcases List.mem_cons.mp hy with rfl | hy
    · exact Int.le_trans h1 (Int.min_le_right _ _)
    · exact h2 y hy
theorem foldl_min_mem : ∀ (xs : List Int) (x : Int), xs.foldl min x = x ∨ xs.foldl min x ∈ xs
  | [], x => .inl rfl
  | z :: zs, x => by
    rcases foldl_min_mem zs (min x z) with h | h
    · by_cases q : x ≤ z
      · left
        show zs.foldl min (min x z) = x
        rw [h, Int.min_eq_left q]
      · right
        show zs.foldl min (min x z) ∈ z :: zs
        rw [h, Int.min_eq_right (by omega)]
        exact List.mem_cons_self
    · exact .inr (List.mem_cons_of_mem _ h)
theorem minI_is {ns : List Int} {m k : Int} (h : minI ns = some k) (hm : m ∈ ns) (hx : ∀ y ∈ ns, m ≤ y) : m = k := by
  cases ns with
  | nil => cases h
  | cons x xs =>
    injection h with h
    subst h
    obtain ⟨h1, h2⟩ := foldl_min_le xs x
    have a : xs.foldl min x ≤ m := by
      rcases List.mem_cons.mp hm with rfl | hm
      · exact h1
      · exact h2 m hm
    have b : m ≤ xs.foldl min x := by
      rcases foldl_min_mem xs x with q | q
      · rw [q]; exact hx x List.mem_cons_self
      · exact hx _ (List.mem_cons_of_mem _ q)
    omega
/-- the ints of a list or a tuple -/
def seqI : D → Option (List Int)
  | .lst xs => intsOf xs
  | .frz xs => intsOf xs
  | _ => none
theorem seqI_rep {H : Hp} {v : V} {d : D} {G : List Addr} {ns : List Int} (r : Rep K H v d G) (h : seqI d = some ns) : ∃ a, v = .ref a ∧ SqL K H a (ns.map V.int) := by
  cases r with
  | lst hh q =>
    obtain ⟨h1, _, _⟩ := intsOf_rep q h
    subst h1
    exact ⟨_, rfl, .inl (.inl hh)⟩
  | lstR hh q =>
    obtain ⟨h1, _, _⟩ := intsOf_rep q h
    subst h1
    exact ⟨_, rfl, hh.l⟩
  | _ => cases h
def maxD (d : D) : Option D := match seqI d with
  | some ns => (maxI ns).map .int
  | none => none
def minD (d : D) : Option D := match seqI d with
  | some ns => (minI ns).map .int
  | none => none
def max2 : D → D → Option D
  | .int i, .int j => some (.int (if j > i then j else i))
  | _, _ => none
def min2 : D → D → Option D
  | .int i, .int j => some (.int (if j < i then j else i))
  | _, _ => none
abbrev maxG := g12 maxD max2
abbrev minG := g12 minD min2
def rMaxX (K : PySem.W.Frag) : List V → Hp → VK → Prop := fun xs H Q => (∃ i j, xs = [.int i, .int j] ∧ Q (.int (if j > i then j else i)) H) ∨ rMax K xs H Q
def rMinX (K : PySem.W.Frag) : List V → Hp → VK → Prop := fun xs H Q => (∃ i j, xs = [.int i, .int j] ∧ Q (.int (if j < i then j else i)) H) ∨ rMin K xs H Q
theorem cr_maxX {X : Cx} (hc : X.calm = true) : CallR X (.builtin "max") (rMaxX X.K) := CallR.or (call_max2 hc) (cr_max hc)
theorem cr_minX {X : Cx} (hc : X.calm = true) : CallR X (.builtin "min") (rMinX X.K) := CallR.or (call_min2 hc) (cr_min hc)
theorem ans_max : AnsC K (rMaxX K) maxG := ansC12 (fun H v d z G Q r hg k => by
    unfold maxD at hg
    split at hg
    · rename_i ns e
      obtain ⟨m, hm, rfl⟩ := Option.map_eq_some_iff.mp hg
      obtain ⟨a, rfl, hs⟩ := seqI_rep r e
      refine .inr ⟨a, ns, rfl, hs, by cases ns with | nil => cases hm | cons _ _ => simp, fun m' h1 h2 => ?_⟩
      rw [maxI_is hm h1 h2]
      exact ans0 (.int _) k
    · cases hg) fun H v w d e z A B Q r1 r2 hg k => by
    cases r1 <;> first | cases hg | (cases r2 <;> first | cases hg | skip)
    exact .inl ⟨_, _, rfl, ans0 (.int _) k⟩
theorem ans_min : AnsC K (rMinX K) minG := ansC12 (fun H v d z G Q r hg k => by
    unfold minD at hg
    split at hg
    · rename_i ns e
      obtain ⟨m, hm, rfl⟩ := Option.map_eq_some_iff.mp hg
      obtain ⟨a, rfl, hs⟩ := seqI_rep r e
      refine .inr ⟨a, ns, rfl, hs, by cases ns with | nil => cases hm | cons _ _ => simp, fun m' h1 h2 => ?_⟩
      rw [minI_is hm h1 h2]
      exact ans0 (.int _) k
    · cases hg) fun H v w d e z A B Q r1 r2 hg k => by
    cases r1 <;> first | cases hg | (cases r2 <;> first | cases hg | skip)
    exact .inl ⟨_, _, rfl, ans0 (.int _) k⟩
def sumD (d : D) : Option D := (seqI d).map fun ns => .int ns.sum
abbrev sumG := g1 sumD
theorem ans_sum : AnsC K (rSum K) sumG := ansC1 fun H v d z G Q r hg k => by
  obtain ⟨ns, e, rfl⟩ := Option.map_eq_some_iff.mp hg
  obtain ⟨a, rfl, hs⟩ := seqI_rep r e
  exact ⟨a, ns, rfl, hs, ans0 (.int _) k⟩
def blsOf : List D → Option (List Bool)
  | [] => some []
  | .bl i :: ds => match blsOf ds with
    | some is => some (i :: is)
    | none => none
  | _ => none
theorem blsOf_rep {H : Hp} : ∀ {vs : List V} {ds : List D} {G : List Addr} {ns : List Bool}, Reps K H vs ds G → blsOf ds = some ns → vs = ns.map V.bl
  | _, _, _, _, .nil, h => by
    injection h with h
    subst h
    rfl
  | _, _, _, ns, .cons (d := d) r t, h => by
    cases r <;> first | (cases h) | skip
    rename_i i
    unfold blsOf at h
    split at h
    · rename_i is e
      injection h with h
      subst h
      rw [blsOf_rep t e]
      rfl
    · cases h
def allD : D → Option D
  | .lst xs => (blsOf xs).map fun bs => .bl (bs.all id)
  | _ => none
def anyD : D → Option D
  | .lst xs => (blsOf xs).map fun bs => .bl (bs.any id)
  | _ => none
abbrev allG := g1 allD
abbrev anyG := g1 anyD
theorem ans_all : AnsC K (rAll K) allG := ansC1 fun H v d z G Q r hg k => by
  cases r with
  | lst h q =>
    obtain ⟨ns, e, rfl⟩ := Option.map_eq_some_iff.mp hg
    have e2 := blsOf_rep q e
    subst e2
    exact ⟨_, _, rfl, .inl (.inl h), ans0 (.bl _) k⟩
  | _ => cases hg
theorem ans_any : AnsC K (rAny K) anyG := ansC1 fun H v d z G Q r hg k => by
  cases r with
  | lst h q =>
    obtain ⟨ns, e, rfl⟩ := Option.map_eq_some_iff.mp hg
    have e2 := blsOf_rep q e
    subst e2
    exact ⟨_, _, rfl, .inl (.inl h), ans0 (.bl _) k⟩
  | _ => cases hg
/-- list(x): a list, a tuple -/
def listD : D → Option D
  | .lst xs => if immuts xs then some (.lst xs) else none
  | .frz xs => if immuts xs then some (.lst xs) else none
  | .tup xs => if immuts xs then some (.lst xs) else none
  | _ => none
abbrev listG := g1 listD
theorem ite_some {c : Prop} [Decidable c] {a z : D} (h : (if c then some a else none) = some z) : c ∧ a = z := by
  split at h
  · injection h with h
    exact ⟨by assumption, h⟩
  · cases h
theorem ans_list : AnsC K (fun xs H Q => ∃ p ys, xs = [.ref p] ∧ (SqL K H p ys ∨ SqT K H p ys) ∧ ∀ l, H l = none → Q (.ref l) (upd H l (.lst ys))) listG := ansC1 fun H v d z G Q r hg k => by
  cases r with
  | lst h q => obtain ⟨hi, rfl⟩ := ite_some hg; exact ⟨_, _, rfl, .inl (.inl (.inl h)), ans_new (q.flat hi) k⟩
  | lstR h q => obtain ⟨hi, rfl⟩ := ite_some hg; exact ⟨_, _, rfl, .inl h.l, ans_new (q.flat hi) k⟩
  | tup h q => obtain ⟨hi, rfl⟩ := ite_some hg; exact ⟨_, _, rfl, .inr h, ans_new (q.flat hi) k⟩
  | _ => cases hg
def tupleD : D → Option D
  | .lst xs => if immuts xs then some (.tup xs) else none
  | .frz xs => if immuts xs then some (.tup xs) else none
  | .tup xs => if immuts xs then some (.tup xs) else none
  | _ => none
abbrev tupleG := g1 tupleD
theorem ans_tuple : AnsC K (fun xs H Q => ∃ a ys, xs = [.ref a] ∧ ((SqL K H a ys ∧ ∀ l, H l = none → Q (.ref l) (upd H l (.tup ys))) ∨ (SqT K H a ys ∧ Q (.ref a) H))) tupleG := ansC1 fun H v d z G Q r hg k => by
  cases r with
  | lst h q => obtain ⟨hi, rfl⟩ := ite_some hg; exact ⟨_, _, rfl, .inl ⟨.inl (.inl h), ans_newT (q.flat hi) k⟩⟩
  | lstR h q => obtain ⟨hi, rfl⟩ := ite_some hg; exact ⟨_, _, rfl, .inl ⟨h.l, ans_newT (q.flat hi) k⟩⟩
  | tup h q => obtain ⟨hi, rfl⟩ := ite_some hg; exact ⟨_, _, rfl, .inr ⟨h, ans0 (.tup h (q.flat hi)) k⟩⟩
  | _ => cases hg
/-- sorted of ints -/
def sortD (d : D) : Option D := (seqI d).map fun ns => .lst ((ns.mergeSort (fun a b => decide (a ≤ b))).map .int)
abbrev sortG := g1 sortD
theorem perm_sorted_eq : ∀ {xs ys : List Int}, xs.Perm ys → xs.Pairwise (· ≤ ·) → ys.Pairwise (· ≤ ·) → xs = ys
  | [], ys, p, _, _ => (List.nil_perm.mp p).symm ▸ rfl
  | x :: xs, [], p, _, _ => by simp at p
  | x :: xs, y :: ys, p, s1, s2 => by
    have hx := (List.pairwise_cons.mp s1)
    have hy := (List.pairwise_cons.mp s2)
    have e : x = y := by
      have m1 : x ∈ y :: ys := p.mem_iff.mp List.mem_cons_self
      have m2 : y ∈ x :: xs := p.mem_iff.mpr List.mem_cons_self
      rcases List.mem_cons.mp m1 with e | m1
      · exact e
      · rcases List.mem_cons.mp m2 with e | m2
        · exact e.symm
        · have := hy.1 x m1
          have := hx.1 y m2
          omega
    subst e
    rw [perm_sorted_eq (List.Perm.cons_inv p) hx.2 hy.2]
theorem reps_ints {H : Hp} : ∀ l : List Int, Reps K H (l.map V.int) (l.map D.int) []
  | [] => .nil
  | x :: xs => .cons (F := []) (.int x) (reps_ints xs)
theorem ans_sort : AnsC K (rSortedI K) sortG := ansC1 fun H v d z G Q r hg k => by
  obtain ⟨ns, e, rfl⟩ := Option.map_eq_some_iff.mp hg
  obtain ⟨a, rfl, hs⟩ := seqI_rep r e
  refine ⟨a, ns, rfl, hs, fun ns' p hp so => ?_⟩
  have e2 : ns' = ns.mergeSort (fun a b => decide (a ≤ b)) := perm_sorted_eq (hp.trans (List.mergeSort_perm _ _).symm) so (by
    have := List.pairwise_mergeSort (le := fun a b : Int => decide (a ≤ b)) (fun a b c h1 h2 => by simp at *; omega) (fun a b => by simp; omega) ns
    simpa using this)
  rw [e2]
  exact ans_new (reps_ints _) k p
end
end VS
/-! VS7: statements. -/
namespace VS
open PySem L2
inductive Out where
  | nx (Γ : Env) | ret (x : Val) (Γ : Env) | bk (Γ : Env) | ct (Γ : Env)
abbrev SF := Env → Option Out
structure FrS (I I' : Addr → Prop) (F F' : Nat → List Addr) (Γ Γ' : Env) (σ σ' : St) (H H' : Hp) : Prop where
  stp : Stp (fun a => ∃ s, a ∈ F s) H H'
  isub : ∀ a, I a → I' a
  inew : ∀ a, I' a → I a ∨ (∃ s, a ∈ F s ∧ md Γ s ≠ some .io) ∨ H a = none
  fsub : ∀ s a, a ∈ F' s → a ∈ F s ∨ (∃ s', a ∈ F s' ∧ md Γ s' ≠ some .io) ∨ H a = none
  io : ∀ s, md Γ s = some .io → md Γ' s = some .io ∧ σ'[s]? = σ[s]?
  oi : ∀ s, md Γ' s = some .io → md Γ s = some .io
section
variable {K : PySem.W.Frag} {I I1 I2 : Addr → Prop} {F F1 F2 : Nat → List Addr} {Γ Γ1 Γ2 : Env} {σ σ1 σ2 : St} {H H1 H2 : Hp} {D : Ends}
theorem FrS.refl : FrS I I F F Γ Γ σ σ H H := ⟨Stp.refl _ _, fun _ h => h, fun _ h => .inl h, fun _ _ h => .inl h, fun _ h => ⟨h, rfl⟩, fun _ h => h⟩
theorem FrS.trans (a : FrS I I1 F F1 Γ Γ1 σ σ1 H H1) (b : FrS I1 I2 F1 F2 Γ1 Γ2 σ1 σ2 H1 H2) : FrS I I2 F F2 Γ Γ2 σ σ2 H H2 where
  stp := a.stp.trans b.stp fun c e ⟨s, h⟩ => by
    rcases a.fsub s c h with z | ⟨s', z, _⟩ | z
    · exact ⟨s, z⟩
    · exact ⟨s', z⟩
    · exact absurd z e
  isub := fun c h => b.isub c (a.isub c h)
  inew := fun c h => by
    rcases b.inew c h with z | ⟨s, z, n⟩ | z
    · exact a.inew c z
    · rcases a.fsub s c z with y | ⟨s', y, n'⟩ | y
      · exact .inr (.inl ⟨s, y, fun q => n (a.io s q).1⟩)
      · exact .inr (.inl ⟨s', y, n'⟩)
      · exact .inr (.inr y)
    · exact .inr (.inr (a.stp.live c z))
  fsub := fun s c h => by
    rcases b.fsub s c h with z | ⟨s', z, n⟩ | z
    · exact a.fsub s c z
    · rcases a.fsub s' c z with y | ⟨s2, y, n'⟩ | y
      · exact .inr (.inl ⟨s', y, fun q => n (a.io s' q).1⟩)
      · exact .inr (.inl ⟨s2, y, n'⟩)
      · exact .inr (.inr y)
    · exact .inr (.inr (a.stp.live c z))
  io := fun s h => ⟨(b.io s (a.io s h).1).1, ((b.io s (a.io s h).1).2).trans (a.io s h).2⟩
  oi := fun s h => a.oi s (b.oi s h)
theorem FrS.of {M : List Nat} (f : Frm M Γ Γ1 F F1 H H1) : FrS I I F F1 Γ Γ1 σ σ H H1 where
  stp := f.stp.mono fun c _ ⟨s, _, h⟩ => ⟨s, h⟩
  isub := fun _ h => h
  inew := fun _ h => .inl h
  fsub := fun s a h => (f.sub s a h).imp id .inr
  io := fun s h => ⟨by rw [f.md]; exact h, rfl⟩
  oi := fun s h => by rw [← f.md]; exact h
def Post (K : PySem.W.Frag) (I : Addr → Prop) (F : Nat → List Addr) (Γ : Env) (σ : St) (H : Hp) (D : Ends) : Out → Prop
  | .nx Γ' => ∀ σ' H' I' F', Ok K I' F' σ' Γ' H' → FrS I I' F F' Γ Γ' σ σ' H H' → D.nx σ' H'
  | .bk Γ' => ∀ σ' H' I' F', Ok K I' F' σ' Γ' H' → FrS I I' F F' Γ Γ' σ σ' H H' → D.bk σ' H'
  | .ct Γ' => ∀ σ' H' I' F', Ok K I' F' σ' Γ' H' → FrS I I' F F' Γ Γ' σ σ' H H' → D.ct σ' H'
  | .ret x Γ' => ∀ σ' v H' I' F' G, Ok K I' F' σ' Γ' H' → FrS I I' F F' Γ Γ' σ σ' H H' → VOk K I' F' H H' v x G → D.rt v H'
theorem Post.after {o : Out} (f : FrS I I1 F F1 Γ Γ1 σ σ1 H H1) (p : Post K I F Γ σ H D o) : Post K I1 F1 Γ1 σ1 H1 D o := by
  cases o with
  | nx Γ' => exact fun σ' H' I' F' o' f' => p σ' H' I' F' o' (f.trans f')
  | bk Γ' => exact fun σ' H' I' F' o' f' => p σ' H' I' F' o' (f.trans f')
  | ct Γ' => exact fun σ' H' I' F' o' f' => p σ' H' I' F' o' (f.trans f')
  | ret x Γ' => exact fun σ' v H' I' F' G o' f' l => p σ' v H' I' F' G o' (f.trans f') (l.back f.stp.live)
def tSemS (K : PySem.W.Frag) (f : SF) : TS := fun D σ H => ∃ I F Γ o, Ok K I F σ Γ H ∧ f Γ = some o ∧ Post K I F Γ σ H D o
end
structure SS (X : Cx) (st : Stmt) (f : SF) : Prop where
  ps : PS X st (tSemS X.K f)
structure SB (X : Cx) (sts : List Stmt) (f : SF) : Prop where
  pss : PSs X sts (tSemS X.K f)
theorem PS.imp {X : Cx} {e : Stmt} {t t' : TS} (h : PS X e t) (k : ∀ D σ H, t' D σ H → t D σ H) : PS X e t' := ⟨fun pins s σ H D I w => h.run pins s σ H D I (k D σ H w)⟩
theorem PSs.imp {X : Cx} {e : List Stmt} {t t' : TS} (h : PSs X e t) (k : ∀ D σ H, t' D σ H → t D σ H) : PSs X e t' := ⟨fun pins s σ H D I w => h.run pins s σ H D I (k D σ H w)⟩
def nxF : SF := fun Γ => some (.nx Γ)
def seqF (f g : SF) : SF := fun Γ => match f Γ with
  | some (.nx Γ1) => g Γ1
  | o => o
def noF : SF := fun _ => none
section
variable {X : Cx} {st : Stmt} {rest : List Stmt} {a b c e : Expr} {es : List Expr} {M N L : List Nat} {f g : SF} {fa fb fc : EF} {ta tb : TF} {pos : Pos}
theorem sb_nil : SB X [] nxF := ⟨PSs.imp pss_nil fun D σ H q => by
  obtain ⟨I, F, Γ, out, o, e, p⟩ := q
  injection e with e
  subst e
  exact p σ H I F o FrS.refl⟩
theorem sb_cons (h1 : SS X st f) (h2 : SB X rest g) : SB X (st :: rest) (seqF f g) := ⟨PSs.imp (pss_cons h1.ps h2.pss) fun D σ H q => by
  obtain ⟨I, F, Γ, out, o, e, p⟩ := q
  unfold seqF at e
  cases e1 : f Γ with
  | none => rw [e1] at e; cases e
  | some o1 =>
    rw [e1] at e
    refine ⟨I, F, Γ, o1, o, e1, ?_⟩
    cases o1 with
    | nx Γ1 => exact fun σ' H' I' F' o' f' => ⟨I', F', Γ1, out, o', e, p.after f'⟩
    | bk Γ1 => injection e with e; subst e; exact p
    | ct Γ1 => injection e with e; subst e; exact p
    | ret x Γ1 => injection e with e; subst e; exact p⟩
theorem sb_one (h1 : SS X st f) : SB X [st] f := ⟨pss_one h1.ps⟩
theorem ss_pass : SS X (.Pass pos) nxF := ⟨PS.imp ps_pass fun D σ H q => by
  obtain ⟨I, F, Γ, out, o, e, p⟩ := q
  injection e with e
  subst e
  exact p σ H I F o FrS.refl⟩
theorem ss_break : SS X (.Break pos) (fun Γ => some (.bk Γ)) := ⟨PS.imp ps_break fun D σ H q => by
  obtain ⟨I, F, Γ, out, o, e, p⟩ := q
  injection e with e
  subst e
  exact p σ H I F o FrS.refl⟩
theorem ss_never : SS X st noF := ⟨PS.imp ps_never fun D σ H q => by
  obtain ⟨I, F, Γ, out, o, e, p⟩ := q
  cases e⟩
def retF (fa : EF) : SF := fun Γ => match fa Γ with
  | none => none
  | some (x, Γ1) => some (.ret x Γ1)
theorem ss_ret (h : SE X M a fa) : SS X (.Return (some a) pos) (retF fa) := ⟨PS.imp (ps_ret h.pe) fun D σ H q => by
  obtain ⟨I, F, Γ, out, o, e, p⟩ := q
  unfold retF at e
  split at e
  · cases e
  · rename_i x Γ1 e1
    injection e with e
    subst e
    exact ⟨I, F, Γ, x, Γ1, o, e1, fun v H' F' G o' f' l => p σ v H' I F' G o' (FrS.of f') l⟩⟩
def drpF (fa : EF) : SF := fun Γ => match fa Γ with
  | none => none
  | some (_, Γ1) => some (.nx Γ1)
theorem ss_expr (h : SE X M a fa) (hs : swapsWith a none pos.line X.env = pure false := by rfl) : SS X (.Expr a pos) (drpF fa) := ⟨PS.imp (ps_expr h.pe hs) fun D σ H q => by
  obtain ⟨I, F, Γ, out, o, e, p⟩ := q
  unfold drpF at e
  split at e
  · cases e
  · rename_i x Γ1 e1
    injection e with e
    subst e
    exact ⟨I, F, Γ, x, Γ1, o, e1, fun v H' F' G o' f' l => p σ H' I F' o' (FrS.of f')⟩⟩
def iffF (t : TF) (f g : SF) : SF := fun Γ => match t Γ with
  | none => none
  | some (true, Γ1) => f Γ1
  | some (false, Γ1) => g Γ1
theorem ss_if {p q : List Stmt} (hc : ST X M c ta) (hp : SB X p f) (hq : SB X q g) : SS X (.If c p q pos) (iffF ta f g) := ⟨PS.imp (ps_if hc.pt hp.pss hq.pss) fun D σ H q => by
  obtain ⟨I, F, Γ, out, o, e, p⟩ := q
  unfold iffF at e
  split at e
  · cases e
  · rename_i Γ1 e1
    exact ⟨I, F, Γ, true, Γ1, o, e1, fun H' F' o' f' => iteT ⟨I, F', Γ1, out, o', e, p.after (FrS.of f')⟩⟩
  · rename_i Γ1 e1
    exact ⟨I, F, Γ, false, Γ1, o, e1, fun H' F' o' f' => iteF ⟨I, F', Γ1, out, o', e, p.after (FrS.of f')⟩⟩⟩

/-! ### stores -/
def fz : Slot → Slot
  | some (.own, d) => some (.ro, d)
  | s => s
def frz1 : Env → Nat → Env
  | [], _ => []
  | s :: Γ, 0 => fz s :: Γ
  | s :: Γ, n + 1 => s :: frz1 Γ n
def freeze (Γ : Env) : List Nat → Env
  | [] => Γ
  | s :: ss => freeze (frz1 Γ s) ss
theorem frz1_get : ∀ (Γ : Env) (s j : Nat), (frz1 Γ s)[j]? = if j = s then (Γ[j]?).map fz else Γ[j]?
  | [], s, j => by simp [frz1]
  | x :: Γ, 0, 0 => by simp [frz1]
  | x :: Γ, 0, j + 1 => by simp [frz1]
  | x :: Γ, s + 1, 0 => by simp [frz1]
  | x :: Γ, s + 1, j + 1 => by simpa [frz1] using frz1_get Γ s j
theorem fz_fz (s : Slot) : fz (fz s) = fz s := by
  cases s with
  | none => rfl
  | some p =>
    obtain ⟨m, d⟩ := p
    cases m <;> rfl
theorem freeze_get : ∀ (ss : List Nat) (Γ : Env) (j : Nat), (freeze Γ ss)[j]? = if j ∈ ss then (Γ[j]?).map fz else Γ[j]?
  | [], Γ, j => by simp [freeze]
  | s :: ss, Γ, j => by
    rw [freeze, freeze_get ss, frz1_get]
    by_cases h1 : j = s
    · subst h1
      by_cases h2 : j ∈ ss
      · simp [h2, Option.map_map, Function.comp_def, fz_fz]
      · simp [h2]
    · by_cases h2 : j ∈ ss
      · simp [h1, h2]
      · simp [h1, h2]
theorem frz1_len : ∀ (Γ : Env) (s : Nat), (frz1 Γ s).length = Γ.length
  | [], s => rfl
  | x :: Γ, 0 => rfl
  | x :: Γ, s + 1 => by simp [frz1, frz1_len Γ s]
theorem freeze_len : ∀ (ss : List Nat) (Γ : Env), (freeze Γ ss).length = Γ.length
  | [], Γ => rfl
  | s :: ss, Γ => by rw [freeze, freeze_len ss, frz1_len]
def isIo (Γ : Env) (s : Nat) : Bool := match Γ[s]? with
  | some (some (.io, _)) => true
  | _ => false
theorem isIo_md {Γ : Env} {s : Nat} : isIo Γ s = true ↔ md Γ s = some .io := by
  unfold isIo md
  split
  · rename_i d h
    rw [h]
    simp
  · rename_i h
    constructor
    · intro z; cases z
    · intro z
      split at z
      · rename_i m d e
        injection z with z
        subst z
        exact absurd e (h d)
      · cases z
/-- a value comes into slot i -/
def putS (i : Nat) (x : Val) (Γ : Env) : Option Env :=
  if isIo Γ i then none
  else if immut x.d || (!x.ro && x.deps.all (· == i)) then some (Γ.set i (some (.own, x.d)))
  else if x.deps.any (isIo Γ) then none
  else some ((freeze Γ x.deps).set i (some (.ro, x.d)))
section
variable {K : PySem.W.Frag} {I : Addr → Prop} {F F0 : Nat → List Addr} {Γ Γ0 Γ' : Env} {σ : St} {H H0 : Hp} {v : V} {x : Val} {G : List Addr} {i : Nat}
theorem set_get {α : Type} (l : List α) (i j : Nat) (a : α) : (l.set i a)[j]? = if i = j then (if j < l.length then some a else none) else l[j]? := by
  by_cases h : i = j
  · subst h
    by_cases h2 : i < l.length
    · simp [h2]
    · simp [h2]
  · simp [h]
theorem md_set (Γ : Env) (i s : Nat) (m : Md) (d : D) : md (Γ.set i (some (m, d))) s = if i = s then (if s < Γ.length then some m else none) else md Γ s := by
  unfold md
  rw [set_get]
  by_cases h : i = s
  · rw [if_pos h, if_pos h]
    by_cases h2 : s < Γ.length
    · rw [if_pos h2, if_pos h2]
    · rw [if_neg h2, if_neg h2]
  · rw [if_neg h, if_neg h]
theorem md_freeze (Γ : Env) (ss : List Nat) (s : Nat) : md (freeze Γ ss) s = some .io ↔ md Γ s = some .io := by
  unfold md
  rw [freeze_get]
  by_cases h : s ∈ ss
  · rw [if_pos h]
    cases e : Γ[s]? with
    | none => simp
    | some sl =>
      cases sl with
      | none => simp [fz]
      | some p =>
        obtain ⟨m, d⟩ := p
        cases m <;> simp [fz]
  · rw [if_neg h]
theorem put_ok {M : List Nat} (o0 : Ok K I F0 σ Γ0 H0) (f : Frm M Γ0 Γ F0 F H0 H) (o : Ok K I F σ Γ H) (l : VOk K I F H0 H v x G) (e : putS i x Γ = some Γ') :
    ∃ I' F', Ok K I' F' (σ.set i (some v)) Γ' H ∧ FrS I I' F0 F' Γ0 Γ' σ (σ.set i (some v)) H0 H := by
  unfold putS at e
  split at e
  · cases e
  rename_i nio
  have nmd : md Γ i ≠ some .io := fun z => nio (isIo_md.mpr z)
  have ioK : ∀ s, md Γ0 s = some .io → s ≠ i := fun s h z => by subst z; rw [← f.md] at h; exact nmd h
  split at e
  · rename_i h
    injection e with e
    subst e
    have own : (∀ a ∈ G, (H0 a = none ∧ ∀ s, a ∉ F s) ∨ a ∈ F i) ∧ G.Nodup := by
      rw [Bool.or_eq_true] at h
      rcases h with h | h
      · have z := l.rep.immut h
        subst z
        exact ⟨fun _ z => (nomatch z), List.nodup_nil⟩
      · rw [Bool.and_eq_true] at h
        have hr : x.ro = false := by simpa using h.1
        refine ⟨fun a ha => ?_, l.nd hr⟩
        rcases l.own a ha with z | ⟨z, _⟩ | ⟨s, d, z⟩
        · exact .inl z
        · rw [hr] at z; cases z
        · have := List.all_eq_true.mp h.2 s d
          have : s = i := by simpa using this
          subst this
          exact .inr z
    refine ⟨I, fun s => if s = i then G else F s, ⟨by simpa using o.len, fun j m d hj => ?_, fun j => ?_, fun j k hjk a ha => ?_, fun j a ha => ?_, fun j a ha => ?_, o.iv⟩, ⟨f.stp.mono fun c _ ⟨s, _, h⟩ => ⟨s, h⟩, fun _ h => h, fun _ h => .inl h, fun s a ha => ?_, fun s hs => ?_, fun s hs => ?_⟩⟩
    · rw [set_get] at hj
      by_cases q : i = j
      · rw [if_pos q] at hj
        subst q
        split at hj
        · injection hj with hj
          injection hj with hj
          injection hj with h1 h2
          subst h1 h2
          refine ⟨v, G, ?_, l.rep, ?_⟩
          · rw [List.getElem?_set_self (by rw [o.len]; assumption)]
          · rw [if_neg (by decide), if_pos rfl]
        · cases hj
      · rw [if_neg q] at hj
        obtain ⟨w, G', h1, h2, h3⟩ := o.at' j m d hj
        refine ⟨w, G', by rw [List.getElem?_set_ne q]; exact h1, h2, ?_⟩
        split
        · rename_i hm; rw [if_pos hm] at h3; exact h3
        · rename_i hm; rw [if_neg hm] at h3
          show (if j = i then G else F j) = G'
          rw [if_neg (Ne.symm q)]
          exact h3
    · show (if j = i then G else F j).Nodup
      split
      · exact own.2
      · exact o.nd j
    · have ha' : a ∈ if j = i then G else F j := ha
      show a ∉ if k = i then G else F k
      split at ha'
      · rename_i q
        subst q
        rw [if_neg (Ne.symm hjk)]
        rcases own.1 a ha' with z | z
        · exact z.2 k
        · exact o.dj j k hjk a z
      · split
        · rename_i q q2
          subst q2
          intro z
          rcases own.1 a z with y | y
          · exact y.2 j ha'
          · exact o.dj j k hjk a ha' y
        · exact o.dj j k hjk a ha'
    · have ha' : a ∈ if j = i then G else F j := ha
      split at ha'
      · rcases own.1 a ha' with z | z
        · exact fun q => o0.iv a q z.1
        · exact o.nI i a z
      · exact o.nI j a ha'
    · have ha' : a ∈ if j = i then G else F j := ha
      split at ha'
      · obtain ⟨_, z, _⟩ := l.rep.there a ha'
        rw [z]; intro q; cases q
      · exact o.lv j a ha'
    · have ha' : a ∈ if s = i then G else F s := ha
      split at ha'
      · rename_i q
        subst q
        rcases own.1 a ha' with z | z
        · exact .inr (.inr z.1)
        · exact (f.sub s a z).imp id .inr
      · exact (f.sub s a ha').imp id .inr
    · refine ⟨?_, ?_⟩
      · rw [md_set, if_neg (Ne.symm (ioK s hs)), f.md]
        exact hs
      · rw [List.getElem?_set_ne (Ne.symm (ioK s hs))]
    · rw [md_set] at hs
      split at hs
      · split at hs <;> cases hs
      · rw [f.md] at hs
        exact hs
  · rename_i h
    split at e
    · cases e
    rename_i hio
    injection e with e
    subst e
    have dio : ∀ s ∈ x.deps, md Γ s ≠ some .io := fun s hs z => hio (List.any_eq_true.mpr ⟨s, hs, isIo_md.mpr z⟩)
    have gz : ∀ a ∈ G, ∀ j, j ∉ x.deps → a ∉ F j := fun a ha j hj => by
      rcases l.own a ha with z | ⟨_, z⟩ | ⟨s, d, z⟩
      · exact z.2 j
      · exact fun q => o.nI j a q z
      · exact o.dj s j (fun q => hj (q ▸ d)) a z
    refine ⟨fun a => I a ∨ a ∈ G ∨ ∃ s ∈ x.deps, a ∈ F s, fun s => if s = i ∨ s ∈ x.deps then [] else F s, ⟨by simpa [freeze_len] using o.len, fun j m d hj => ?_, fun j => ?_, fun j k hjk a ha => ?_, fun j a ha => ?_, fun j a ha => ?_, fun a ha => ?_⟩, ⟨f.stp.mono fun c _ ⟨s, _, h⟩ => ⟨s, h⟩, fun _ h => .inl h, fun a ha => ?_, fun s a ha => ?_, fun s hs => ?_, fun s hs => ?_⟩⟩
    · rw [set_get] at hj
      by_cases q : i = j
      · rw [if_pos q] at hj
        subst q
        split at hj
        · rename_i hl
          injection hj with hj
          injection hj with hj
          injection hj with h1 h2
          subst h1 h2
          refine ⟨v, G, ?_, l.rep, ?_⟩
          · rw [List.getElem?_set_self (by rw [o.len]; rw [freeze_len] at hl; exact hl)]
          · rw [if_pos rfl]
            exact fun a ha => .inr (.inl ha)
        · cases hj
      · rw [if_neg q, freeze_get] at hj
        by_cases q2 : j ∈ x.deps
        · rw [if_pos q2] at hj
          obtain ⟨sl, h1, h2⟩ := Option.map_eq_some_iff.mp hj
          cases sl with
          | none => cases h2
          | some p =>
            obtain ⟨m0, d0⟩ := p
            obtain ⟨w, G', g1, g2, g3⟩ := o.at' j m0 d0 h1
            cases m0 with
            | own =>
              injection h2 with h2
              injection h2 with h2 h3
              subst h2 h3
              refine ⟨w, G', by rw [List.getElem?_set_ne q]; exact g1, g2, ?_⟩
              rw [if_neg (by decide)] at g3
              rw [if_pos rfl]
              exact fun a ha => .inr (.inr ⟨j, q2, by rw [g3]; exact ha⟩)
            | ro =>
              injection h2 with h2
              injection h2 with h2 h3
              subst h2 h3
              refine ⟨w, G', by rw [List.getElem?_set_ne q]; exact g1, g2, ?_⟩
              rw [if_pos rfl] at g3 ⊢
              exact fun a ha => .inl (g3 a ha)
            | io =>
              exfalso
              refine dio j q2 ?_
              unfold md
              rw [h1]
        · rw [if_neg q2] at hj
          obtain ⟨w, G', g1, g2, g3⟩ := o.at' j m d hj
          refine ⟨w, G', by rw [List.getElem?_set_ne q]; exact g1, g2, ?_⟩
          split
          · rename_i hm; rw [if_pos hm] at g3; exact fun a ha => .inl (g3 a ha)
          · rename_i hm; rw [if_neg hm] at g3
            show (if j = i ∨ j ∈ x.deps then [] else F j) = G'
            rw [if_neg (fun z => z.elim (Ne.symm q) q2)]
            exact g3
    · show (if j = i ∨ j ∈ x.deps then [] else F j).Nodup
      split
      · exact List.nodup_nil
      · exact o.nd j
    · have ha' : a ∈ if j = i ∨ j ∈ x.deps then [] else F j := ha
      show a ∉ if k = i ∨ k ∈ x.deps then [] else F k
      split at ha'
      · cases ha'
      · split
        · exact fun z => nomatch z
        · exact o.dj j k hjk a ha'
    · have ha' : a ∈ if j = i ∨ j ∈ x.deps then [] else F j := ha
      split at ha'
      · cases ha'
      · rename_i q
        rintro (z | z | ⟨s, d, z⟩)
        · exact o.nI j a ha' z
        · exact gz a z j (fun y => q (.inr y)) ha'
        · exact o.dj s j (fun y => q (.inr (y ▸ d))) a z ha'
    · have ha' : a ∈ if j = i ∨ j ∈ x.deps then [] else F j := ha
      split at ha'
      · cases ha'
      · exact o.lv j a ha'
    · rcases ha with z | z | ⟨s, d, z⟩
      · exact o.iv a z
      · obtain ⟨_, y, _⟩ := l.rep.there a z
        rw [y]; intro q; cases q
      · exact o.lv s a z
    · have dep : ∀ s ∈ x.deps, a ∈ F s → I a ∨ (∃ s, a ∈ F0 s ∧ md Γ0 s ≠ some .io) ∨ H0 a = none := fun s d z => by
        rcases f.sub s a z with y | y
        · exact .inr (.inl ⟨s, y, by rw [← f.md]; exact dio s d⟩)
        · exact .inr (.inr y)
      rcases ha with z | z | ⟨s, d, z⟩
      · exact .inl z
      · rcases l.own a z with y | ⟨_, y⟩ | ⟨s, d, y⟩
        · exact .inr (.inr y.1)
        · exact .inl y
        · exact dep s d y
      · exact dep s d z
    · have ha' : a ∈ if s = i ∨ s ∈ x.deps then [] else F s := ha
      split at ha'
      · cases ha'
      · exact (f.sub s a ha').imp id .inr
    · refine ⟨?_, ?_⟩
      · rw [md_set, if_neg (Ne.symm (ioK s hs)), md_freeze, f.md]
        exact hs
      · rw [List.getElem?_set_ne (Ne.symm (ioK s hs))]
    · rw [md_set] at hs
      split at hs
      · split at hs <;> cases hs
      · rw [md_freeze, f.md] at hs
        exact hs
end
def asgF (i : Nat) (fa : EF) : SF := fun Γ => match fa Γ with
  | none => none
  | some (x, Γ1) => match putS i x Γ1 with
    | none => none
    | some Γ2 => some (.nx Γ2)
theorem ss_asg {i : Nat} {x : Str} {pos' : Pos} (h : SE X M a fa) (hN : X.N.Nodup) (hi : X.N[i]? = some x) (hx : Loc X.env.scope x) (hs : swapsWith a (some (.Name x pos')) pos.line X.env = pure false := by rfl) (hf : X.fn x = true ∨ X.env.scope.names.lookup x = some .local := by first | exact .inl rfl | exact .inr rfl | assumption) :
    SS X (.Assign [.Name x pos'] a pos) (asgF i fa) := ⟨PS.imp (ps_set hN hi hx h.pe hs hf) fun D σ H q => by
  obtain ⟨I, F, Γ, out, o, e, p⟩ := q
  unfold asgF at e
  split at e
  · cases e
  · rename_i x Γ1 e1
    split at e
    · cases e
    · rename_i Γ2 e2
      injection e with e
      subst e
      refine ⟨I, F, Γ, x, Γ1, o, e1, fun v H' F' G o' f' l => ?_⟩
      obtain ⟨I2, F2, o2, fr⟩ := put_ok o f' o' l e2
      exact p _ H' I2 F2 o2 fr⟩
end
end VS
/-! VS8: targets, what is walked, for, while. -/
namespace VS
open PySem L2
section
variable {K : PySem.W.Frag} {I I0 : Addr → Prop} {F F0 : Nat → List Addr} {Γ Γ0 Γ' : Env} {σ σ0 : St} {H H0 : Hp} {v : V} {x : Val} {d : D} {G : List Addr} {i : Nat}
/-- what a value shares with is written no more -/
theorem frz_ok {deps : List Nat} (o : Ok K I F σ Γ H) (fr : FrS I0 I F0 F Γ0 Γ σ0 σ H0 H) (hG : ∀ a ∈ G, ((H0 a = none ∧ ¬ I a ∧ ∀ s, a ∉ F s) ∨ I a) ∨ ∃ s ∈ deps, a ∈ F s) (hl : ∀ a ∈ G, H a ≠ none) (dio : ∀ s ∈ deps, md Γ s ≠ some .io) :
    ∃ I' F', Ok K I' F' σ (freeze Γ deps) H ∧ FrS I0 I' F0 F' Γ0 (freeze Γ deps) σ0 σ H0 H ∧ (∀ a ∈ G, I' a) ∧ (∀ a, I a → I' a) := by
  have gz : ∀ a ∈ G, ∀ j, j ∉ deps → a ∉ F j := fun a ha j hj => by
    rcases hG a ha with (z | z) | ⟨s, d, z⟩
    · exact z.2.2 j
    · exact fun q => o.nI j a q z
    · exact o.dj s j (fun q => hj (q ▸ d)) a z
  refine ⟨fun a => I a ∨ a ∈ G ∨ ∃ s ∈ deps, a ∈ F s, fun s => if s ∈ deps then [] else F s, ⟨by simpa [freeze_len] using o.len, fun j m d hj => ?_, fun j => ?_, fun j k hjk a ha => ?_, fun j a ha => ?_, fun j a ha => ?_, fun a ha => ?_⟩,
    ⟨fr.stp, fun _ h => .inl (fr.isub _ h), fun a ha => ?_, fun s a ha => ?_, fun s hs => ?_, fun s hs => ?_⟩, fun a ha => .inr (.inl ha), fun a ha => .inl ha⟩
  · rw [freeze_get] at hj
    by_cases q2 : j ∈ deps
    · rw [if_pos q2] at hj
      obtain ⟨sl, h1, h2⟩ := Option.map_eq_some_iff.mp hj
      cases sl with
      | none => cases h2
      | some p =>
        obtain ⟨m0, d0⟩ := p
        obtain ⟨w, G', g1, g2, g3⟩ := o.at' j m0 d0 h1
        cases m0 with
        | own =>
          injection h2 with h2
          injection h2 with h2 h3
          subst h2 h3
          refine ⟨w, G', g1, g2, ?_⟩
          rw [if_neg (by decide)] at g3
          rw [if_pos rfl]
          exact fun a ha => .inr (.inr ⟨j, q2, by rw [g3]; exact ha⟩)
        | ro =>
          injection h2 with h2
          injection h2 with h2 h3
          subst h2 h3
          refine ⟨w, G', g1, g2, ?_⟩
          rw [if_pos rfl] at g3 ⊢
          exact fun a ha => .inl (g3 a ha)
        | io =>
          exfalso
          refine dio j q2 ?_
          unfold md
          rw [h1]
    · rw [if_neg q2] at hj
      obtain ⟨w, G', g1, g2, g3⟩ := o.at' j m d hj
      refine ⟨w, G', g1, g2, ?_⟩
      split
      · rename_i hm; rw [if_pos hm] at g3; exact fun a ha => .inl (g3 a ha)
      · rename_i hm; rw [if_neg hm] at g3
        first | exact g3 | (show (if j ∈ deps then [] else F j) = G'; rw [if_neg q2]; exact g3)
  · show (if j ∈ deps then [] else F j).Nodup
    split
    · exact List.nodup_nil
    · exact o.nd j
  · have ha' : a ∈ if j ∈ deps then [] else F j := ha
    show a ∉ if k ∈ deps then [] else F k
    split at ha'
    · cases ha'
    · split
      · exact fun z => nomatch z
      · exact o.dj j k hjk a ha'
  · have ha' : a ∈ if j ∈ deps then [] else F j := ha
    split at ha'
    · cases ha'
    · rename_i q
      rintro (z | z | ⟨s, d, z⟩)
      · exact o.nI j a ha' z
      · exact gz a z j q ha'
      · exact o.dj s j (fun y => q (y ▸ d)) a z ha'
  · have ha' : a ∈ if j ∈ deps then [] else F j := ha
    split at ha'
    · cases ha'
    · exact o.lv j a ha'
  · rcases ha with z | z | ⟨s, d, z⟩
    · exact o.iv a z
    · exact hl a z
    · exact o.lv s a z
  · have dep : ∀ s ∈ deps, a ∈ F s → I0 a ∨ (∃ s, a ∈ F0 s ∧ md Γ0 s ≠ some .io) ∨ H0 a = none := fun s d z => by
      rcases fr.fsub s a z with y | y | y
      · exact .inr (.inl ⟨s, y, fun q => dio s d (fr.io s q).1⟩)
      · exact .inr (.inl y)
      · exact .inr (.inr y)
    rcases ha with z | z | ⟨s, d, z⟩
    · exact fr.inew a z
    · rcases hG a z with (y | y) | ⟨s, d, y⟩
      · exact .inr (.inr y.1)
      · exact fr.inew a y
      · exact dep s d y
    · exact dep s d z
  · have ha' : a ∈ if s ∈ deps then [] else F s := ha
    split at ha'
    · cases ha'
    · exact fr.fsub s a ha'
  · exact ⟨(md_freeze Γ deps s).mpr (fr.io s hs).1, (fr.io s hs).2⟩
  · exact fr.oi s ((md_freeze Γ deps s).mp hs)
/-- a value that nobody writes comes into slot i -/
theorem set_ro (o : Ok K I F σ Γ H) (fr : FrS I0 I F0 F Γ0 Γ σ0 σ H0 H) (r : Rep K H v d G) (hG : ∀ a ∈ G, I a) (hi : md Γ i ≠ some .io) :
    ∃ F', Ok K I F' (σ.set i (some v)) (Γ.set i (some (.ro, d))) H ∧ FrS I0 I F0 F' Γ0 (Γ.set i (some (.ro, d))) σ0 (σ.set i (some v)) H0 H ∧ (∀ j, j ≠ i → F' j = F j) ∧ ∀ j, j = i → F' j = [] := by
  have ioK : ∀ s, md Γ s = some .io → s ≠ i := fun s h z => by subst z; exact hi h
  refine ⟨fun s => if s = i then [] else F s, ⟨by simpa using o.len, fun j m d' hj => ?_, fun j => ?_, fun j k hjk a ha => ?_, fun j a ha => ?_, fun j a ha => ?_, o.iv⟩, ⟨fr.stp, fr.isub, fr.inew, fun s a ha => ?_, fun s hs => ?_, fun s hs => ?_⟩, fun j hj => if_neg hj, fun j hj => if_pos hj⟩
  · rw [set_get] at hj
    by_cases q : i = j
    · rw [if_pos q] at hj
      subst q
      split at hj
      · rename_i hl
        injection hj with hj
        injection hj with hj
        injection hj with h1 h2
        subst h1 h2
        exact ⟨v, G, List.getElem?_set_self (by rw [o.len]; exact hl), r, by rw [if_pos rfl]; exact hG⟩
      · cases hj
    · rw [if_neg q] at hj
      obtain ⟨w, G', g1, g2, g3⟩ := o.at' j m d' hj
      refine ⟨w, G', by rw [List.getElem?_set_ne q]; exact g1, g2, ?_⟩
      split
      · rename_i hm; rw [if_pos hm] at g3; exact g3
      · rename_i hm; rw [if_neg hm] at g3
        show (if j = i then [] else F j) = G'
        rw [if_neg (Ne.symm q)]
        exact g3
  · show (if j = i then [] else F j).Nodup
    split
    · exact List.nodup_nil
    · exact o.nd j
  · have ha' : a ∈ if j = i then [] else F j := ha
    show a ∉ if k = i then [] else F k
    split at ha'
    · cases ha'
    · split
      · exact fun z => nomatch z
      · exact o.dj j k hjk a ha'
  · have ha' : a ∈ if j = i then [] else F j := ha
    split at ha'
    · cases ha'
    · exact o.nI j a ha'
  · have ha' : a ∈ if j = i then [] else F j := ha
    split at ha'
    · cases ha'
    · exact o.lv j a ha'
  · have ha' : a ∈ if s = i then [] else F s := ha
    split at ha'
    · cases ha'
    · exact fr.fsub s a ha'
  · have h1 := (fr.io s hs)
    refine ⟨?_, ?_⟩
    · rw [md_set, if_neg (Ne.symm (ioK s h1.1))]
      exact h1.1
    · rw [List.getElem?_set_ne (Ne.symm (ioK s h1.1))]
      exact h1.2
  · rw [md_set] at hs
    split at hs
    · split at hs <;> cases hs
    · exact fr.oi s hs
/-- a new value comes into slot i -/
theorem set_own (o : Ok K I F σ Γ H) (fr : FrS I0 I F0 F Γ0 Γ σ0 σ H0 H) (r : Rep K H v d G) (hG : ∀ a ∈ G, H0 a = none ∧ ¬ I a ∧ ∀ s, a ∉ F s) (nd : G.Nodup) (hi : md Γ i ≠ some .io) :
    Ok K I (fun s => if s = i then G else F s) (σ.set i (some v)) (Γ.set i (some (.own, d))) H ∧ FrS I0 I F0 (fun s => if s = i then G else F s) Γ0 (Γ.set i (some (.own, d))) σ0 (σ.set i (some v)) H0 H := by
  have ioK : ∀ s, md Γ s = some .io → s ≠ i := fun s h z => by subst z; exact hi h
  refine ⟨⟨by simpa using o.len, fun j m d' hj => ?_, fun j => ?_, fun j k hjk a ha => ?_, fun j a ha => ?_, fun j a ha => ?_, o.iv⟩, ⟨fr.stp, fr.isub, fr.inew, fun s a ha => ?_, fun s hs => ?_, fun s hs => ?_⟩⟩
  · rw [set_get] at hj
    by_cases q : i = j
    · rw [if_pos q] at hj
      subst q
      split at hj
      · rename_i hl
        injection hj with hj
        injection hj with hj
        injection hj with h1 h2
        subst h1 h2
        exact ⟨v, G, List.getElem?_set_self (by rw [o.len]; exact hl), r, by rw [if_neg (by decide), if_pos rfl]⟩
      · cases hj
    · rw [if_neg q] at hj
      obtain ⟨w, G', g1, g2, g3⟩ := o.at' j m d' hj
      refine ⟨w, G', by rw [List.getElem?_set_ne q]; exact g1, g2, ?_⟩
      split
      · rename_i hm; rw [if_pos hm] at g3; exact g3
      · rename_i hm; rw [if_neg hm] at g3
        show (if j = i then G else F j) = G'
        rw [if_neg (Ne.symm q)]
        exact g3
  · show (if j = i then G else F j).Nodup
    split
    · exact nd
    · exact o.nd j
  · have ha' : a ∈ if j = i then G else F j := ha
    show a ∉ if k = i then G else F k
    split at ha'
    · rename_i q
      subst q
      rw [if_neg (Ne.symm hjk)]
      exact (hG a ha').2.2 k
    · split
      · exact fun z => (hG a z).2.2 j ha'
      · exact o.dj j k hjk a ha'
  · have ha' : a ∈ if j = i then G else F j := ha
    split at ha'
    · exact (hG a ha').2.1
    · exact o.nI j a ha'
  · have ha' : a ∈ if j = i then G else F j := ha
    split at ha'
    · obtain ⟨_, z, _⟩ := r.there a ha'
      rw [z]; intro q; cases q
    · exact o.lv j a ha'
  · have ha' : a ∈ if s = i then G else F s := ha
    split at ha'
    · exact .inr (.inr (hG a ha').1)
    · exact fr.fsub s a ha'
  · have h1 := (fr.io s hs)
    refine ⟨?_, ?_⟩
    · rw [md_set, if_neg (Ne.symm (ioK s h1.1))]
      exact h1.1
    · rw [List.getElem?_set_ne (Ne.symm (ioK s h1.1))]
      exact h1.2
  · rw [md_set] at hs
    split at hs
    · split at hs <;> cases hs
    · exact fr.oi s hs
end

/-! ### targets of what nobody writes -/
inductive Tgt where
  | nm (i : Nat)
  | tp (ts : List Tgt)
mutual
/-- an item comes into a target -/
def bindR : Tgt → D → Env → Option Env
  | .nm i, d, Γ => if isIo Γ i then none else some (Γ.set i (some (.ro, d)))
  | .tp ts, d, Γ => match d with
    | .tup ds => bindRs ts ds Γ
    | _ => none
def bindRs : List Tgt → List D → Env → Option Env
  | [], [], Γ => some Γ
  | t :: ts, d :: ds, Γ => match bindR t d Γ with
    | some Γ1 => bindRs ts ds Γ1
    | none => none
  | _, _, _ => none
end
mutual
/-- the slots of a target -/
def tgtS : Tgt → List Nat
  | .nm i => [i]
  | .tp ts => tgtSs ts
def tgtSs : List Tgt → List Nat
  | [] => []
  | t :: ts => tgtS t ++ tgtSs ts
end
/-- σ' is σ but for the slots ss -/
def Saves (ss : List Nat) (σ σ' : St) : Prop := σ'.length = σ.length ∧ ∀ j, j ∉ ss → σ'[j]? = σ[j]?
def SavF (ss : List Nat) (F F' : Nat → List Addr) : Prop := (∀ j, j ∉ ss → F' j = F j) ∧ ∀ j ∈ ss, F' j = []
/-- a target as the layer has it -/
def tSemG (K : PySem.W.Frag) (t : Tgt) : TG := fun v σ H Q => ∃ I F Γ d G Γ' I0 F0 Γ0 σ0 H0, Ok K I F σ Γ H ∧ FrS I0 I F0 F Γ0 Γ σ0 σ H0 H ∧ Rep K H v d G ∧ (∀ a ∈ G, I a) ∧ bindR t d Γ = some Γ' ∧
  ∀ σ' F', Saves (tgtS t) σ σ' → SavF (tgtS t) F F' → Ok K I F' σ' Γ' H → FrS I0 I F0 F' Γ0 Γ' σ0 σ' H0 H → Q σ' H
def tSemGs (K : PySem.W.Frag) (t : List Tgt) : TGs := fun vs σ H Q => ∃ I F Γ ds G Γ' I0 F0 Γ0 σ0 H0, Ok K I F σ Γ H ∧ FrS I0 I F0 F Γ0 Γ σ0 σ H0 H ∧ Reps K H vs ds G ∧ (∀ a ∈ G, I a) ∧ bindRs t ds Γ = some Γ' ∧
  ∀ σ' F', Saves (tgtSs t) σ σ' → SavF (tgtSs t) F F' → Ok K I F' σ' Γ' H → FrS I0 I F0 F' Γ0 Γ' σ0 σ' H0 H → Q σ' H
structure SG (X : Cx) (tg : Expr) (t : Tgt) : Prop where
  pg : PG X tg (tSemG X.K t)
structure SGs (X : Cx) (tg : List Expr) (t : List Tgt) : Prop where
  pgs : PGs X tg (tSemGs X.K t)
theorem PG.imp {X : Cx} {e : Expr} {t t' : TG} (h : PG X e t) (k : ∀ v σ H Q, t' v σ H Q → t v σ H Q) : PG X e t' := ⟨fun pins s σ H v u Q I r w => h.run pins s σ H v u Q I r (k v σ H Q w)⟩
theorem PGs.imp {X : Cx} {e : List Expr} {t t' : TGs} (h : PGs X e t) (k : ∀ v σ H Q, t' v σ H Q → t v σ H Q) : PGs X e t' := ⟨fun pins s σ H v u Q I r w => h.run pins s σ H v u Q I r (k v σ H Q w)⟩
section
variable {X : Cx} {e : Expr} {es : List Expr} {t : Tgt} {ts : List Tgt} {pos : Pos}
theorem sg_name {i : Nat} {x : Str} (hN : X.N.Nodup) (hi : X.N[i]? = some x) (hx : Loc X.env.scope x) (hf : X.fn x = true ∨ X.env.scope.names.lookup x = some .local := by first | exact .inl rfl | exact .inr rfl | assumption) : SG X (.Name x pos) (.nm i) := ⟨PG.imp (pg_name hN hi hx hf) fun v σ H Q q => by
  obtain ⟨I, F, Γ, d, G, Γ', I0, F0, Γ0, σ0, H0, o, fr, r, hG, e, k⟩ := q
  unfold bindR at e
  split at e
  · cases e
  · rename_i h
    injection e with e
    subst e
    obtain ⟨F', o', fr', sv⟩ := set_ro (i := i) o fr r hG fun z => h (isIo_md.mpr z)
    exact k _ F' ⟨by simp, fun j hj => List.getElem?_set_ne (fun z => hj (by simp [tgtS, z]))⟩ ⟨fun j hj => sv.1 j fun z => hj (by simp [tgtS, z]), fun j hj => sv.2 j (by simpa [tgtS] using hj)⟩ o' fr'⟩
theorem sgs_nil : SGs X [] [] := ⟨PGs.imp pgs_nil fun v σ H Q q => by
  obtain ⟨I, F, Γ, ds, G, Γ', I0, F0, Γ0, σ0, H0, o, fr, r, hG, e, k⟩ := q
  cases r with
  | nil =>
    injection e with e
    subst e
    exact ⟨rfl, k σ F ⟨rfl, fun _ _ => rfl⟩ ⟨fun _ _ => rfl, (fun _ z => nomatch z)⟩ o fr⟩
  | cons _ _ => cases e⟩
theorem sgs_cons (h1 : SG X e t) (h2 : SGs X es ts) (hs : (assignEach (e :: es) X.env).map (·.2) = assign e X.env :: (assignEach es X.env).map (·.2) := by rfl) : SGs X (e :: es) (t :: ts) := ⟨PGs.imp (pgs_cons h1.pg h2.pgs hs) fun v σ H Q q => by
  obtain ⟨I, F, Γ, ds, G, Γ', I0, F0, Γ0, σ0, H0, o, fr, r, hG, e, k⟩ := q
  cases r with
  | nil => cases e
  | cons r rr =>
    unfold bindRs at e
    split at e
    · rename_i Γ1 e1
      refine ⟨_, _, rfl, I, F, Γ, _, _, Γ1, I0, F0, Γ0, σ0, H0, o, fr, r, fun a ha => hG a (List.mem_append_left _ ha), e1, fun σ' F' sv sf o' fr' => ?_⟩
      exact ⟨I, F', Γ1, _, _, Γ', I0, F0, Γ0, σ0, H0, o', fr', rr, fun a ha => hG a (List.mem_append_right _ ha), e, fun σ2 F2 sv2 sf2 o2 fr2 => k σ2 F2 ⟨sv2.1.trans sv.1, fun j hj => (sv2.2 j fun z => hj (by simp [tgtSs, z])).trans (sv.2 j fun z => hj (by simp [tgtSs, z]))⟩
        ⟨fun j hj => (sf2.1 j fun z => hj (by simp [tgtSs, z])).trans (sf.1 j fun z => hj (by simp [tgtSs, z])), fun j hj => by
          by_cases q : j ∈ tgtSs ts
          · exact sf2.2 j q
          · rw [sf2.1 j q]
            exact sf.2 j (by simpa [tgtSs, q] using hj)⟩ o2 fr2⟩
    · cases e⟩
theorem sg_tup {k : Nat} {n : Nat} (hc : X.calm = true) (h : SGs X es ts) (hl : ts.length = n) (hn : (assignEach es X.env).length = n := by rfl) (hst : (assignEach es X.env).findIdx? (·.1) = none := by rfl) : SG X (.Tuple es k pos) (.tp ts) := ⟨PG.imp (pg_tup hc h.pgs hn hst) fun v σ H Q q => by
  obtain ⟨I, F, Γ, d, G, Γ', I0, F0, Γ0, σ0, H0, o, fr, r, hG, e, k⟩ := q
  unfold bindR at e
  split at e
  · cases r with
    | tup hh rr =>
      refine ⟨_, _, rfl, hh, ?_, I, F, Γ, _, _, Γ', I0, F0, Γ0, σ0, H0, o, fr, rr, hG, e, fun σ2 F2 sv => k σ2 F2 sv⟩
      rw [rr.length, ← hl]
      have len : ∀ (ts : List Tgt) (ds : List D) (Γ : Env) (Γ' : Env), bindRs ts ds Γ = some Γ' → ds.length = ts.length := by
        intro ts
        induction ts with
        | nil => intro ds Γ Γ' e; cases ds with | nil => rfl | cons _ _ => cases e
        | cons t ts ih =>
          intro ds Γ Γ' e
          cases ds with
          | nil => cases e
          | cons d ds =>
            unfold bindRs at e
            split at e
            · rw [List.length_cons, List.length_cons, ih _ _ _ e]
            · cases e
      exact len _ _ _ _ e
  · cases e⟩
end
mutual
theorem bindR_get : ∀ {t : Tgt} {d : D} {Γ Γ' : Env}, bindR t d Γ = some Γ' → Γ'.length = Γ.length ∧ ∀ j, j ∉ tgtS t → Γ'[j]? = Γ[j]?
  | .nm i, d, Γ, Γ', e => by
    unfold bindR at e
    split at e
    · cases e
    · injection e with e
      subst e
      exact ⟨by simp, fun j hj => by rw [set_get, if_neg (fun z => hj (by simp [tgtS, z]))]⟩
  | .tp ts, d, Γ, Γ', e => by
    unfold bindR at e
    split at e
    · exact bindRs_get e
    · cases e
theorem bindRs_get : ∀ {ts : List Tgt} {ds : List D} {Γ Γ' : Env}, bindRs ts ds Γ = some Γ' → Γ'.length = Γ.length ∧ ∀ j, j ∉ tgtSs ts → Γ'[j]? = Γ[j]?
  | [], [], Γ, Γ', e => by
    injection e with e
    subst e
    exact ⟨rfl, fun _ _ => rfl⟩
  | t :: ts, d :: ds, Γ, Γ', e => by
    unfold bindRs at e
    split at e
    · rename_i Γ1 e1
      obtain ⟨a1, a2⟩ := bindR_get e1
      obtain ⟨b1, b2⟩ := bindRs_get e
      exact ⟨b1.trans a1, fun j hj => (b2 j fun z => hj (by simp [tgtSs, z])).trans (a2 j fun z => hj (by simp [tgtSs, z]))⟩
    · cases e
  | [], _ :: _, Γ, Γ', e => by cases e
  | _ :: _, [], Γ, Γ', e => by cases e
end
end VS
/-! VS9: what is walked; for, while. -/
namespace VS
open PySem L2
structure JOk (K : PySem.W.Frag) (J : It) (items : List D) (G : List Addr) (Src : Hp → Prop) : Prop where
  stab : ∀ (X : Addr → Prop) H H', Stp X H H' → (∀ a ∈ G, ¬ X a) → Src H → Src H'
  stop : ∀ H, Src H → J.stop items.length H
  go : ∀ i H, Src H → i < items.length → J.go i H
  yld : ∀ i H x H', Src H → i < items.length → J.yld i H x H' → Evl.Ex H H' ∧ ∃ d Gi, items[i]? = some d ∧ Rep K H' x d Gi ∧ ∀ a ∈ Gi, a ∈ G
/-- as a value's footprint -/
def GOk (I : Addr → Prop) (F : Nat → List Addr) (H : Hp) (x : Val) (G : List Addr) : Prop := ∀ a ∈ G, (H a = none ∧ ∀ s, a ∉ F s) ∨ (x.ro = true ∧ I a) ∨ ∃ s ∈ x.deps, a ∈ F s
def tSemI (K : PySem.W.Frag) (M : List Nat) (f : EF) : TI := fun σ H R => ∃ I F Γ x items Γ', Ok K I F σ Γ H ∧ f Γ = some (x, Γ') ∧ x.d = .lst items ∧
  ∀ J H' F' G Src, Ok K I F' σ Γ' H' → Frm M Γ Γ' F F' H H' → GOk I F' H x G → (∀ a ∈ G, H' a ≠ none) → JOk K J items G Src → Src H' → R J H'
structure SI (X : Cx) (M : List Nat) (tg iter : Expr) (f : EF) : Prop where
  pi : PI X tg iter (tSemI X.K M f)
theorem PI.imp {X : Cx} {tg e : Expr} {t t' : TI} (h : PI X tg e t) (k : ∀ σ H R, t' σ H R → t σ H R) : PI X tg e t' := ⟨fun pins s σ H R I w => h.run pins s σ H R I (k σ H R w)⟩
section
variable {K : PySem.W.Frag}
/-! ### the walks -/
/-- a list's items -/
def itL (f : EF) : EF := fun Γ => match f Γ with
  | some (⟨dp, ro, .lst xs⟩, Γ1) => some (⟨dp, ro, .lst xs⟩, Γ1)
  | some (⟨dp, ro, .frz xs⟩, Γ1) => some (⟨dp, ro, .lst xs⟩, Γ1)
  | _ => none
theorem get_len {vs : List V} {ds : List D} {H : Hp} {G : List Addr} (r : Reps K H vs ds G) {i : Nat} (h : i < ds.length) : ∃ v, vs[i]? = some v := ⟨_, List.getElem?_eq_getElem (by rw [r.length]; exact h)⟩
structure SrcL (K : PySem.W.Frag) (a : Addr) (ds : List D) (G : List Addr) (H : Hp) : Prop where
  ex : ∃ vs Gi, SqL K H a vs ∧ Reps K H vs ds Gi ∧ (∀ b ∈ Gi, b ∈ G) ∧ ((H a = some (.lst vs) ∧ a ∈ G) ∨ SqR K H a vs)
theorem SrcL.stab {a : Addr} {ds : List D} {G : List Addr} (X : Addr → Prop) (H H' : Hp) (s : Stp X H H') (n : ∀ a ∈ G, ¬ X a) (h : SrcL K a ds G H) : SrcL K a ds G H' := by
  obtain ⟨vs, Gi, h1, h2, h3, h4⟩ := h.ex
  rcases h4 with ⟨h4, h5⟩ | h4
  · have e := s.keep a _ h4 fun _ => n a h5
    exact ⟨vs, Gi, .inl (.inl e), h2.stp s (fun b hb => n b (h3 b hb)), h3, .inl ⟨e, h5⟩⟩
  · have e := SqR.stp h4 s
    exact ⟨vs, Gi, e.l, h2.stp s (fun b hb => n b (h3 b hb)), h3, .inr e⟩
theorem SrcL.of {v : V} {ds : List D} {G : List Addr} {H : Hp} {d : D} (r : Rep K H v d G) (hd : d = .lst ds ∨ d = .frz ds) : ∃ a, v = .ref a ∧ SrcL K a ds G H := by
  rcases hd with rfl | rfl
  · cases r with
    | lst h q => exact ⟨_, rfl, ⟨_, _, .inl (.inl h), q, fun b hb => List.mem_cons_of_mem _ hb, .inl ⟨h, List.mem_cons_self⟩⟩⟩
  · cases r with
    | lstR h q => exact ⟨_, rfl, ⟨_, _, h.l, q, fun b hb => hb, .inr h⟩⟩
theorem SrcL.mem {a : Addr} {ds : List D} {G : List Addr} {H : Hp} (h : SrcL K a ds G H) : ∃ vs : List V, SqL K H a vs ∧ vs.length = ds.length ∧ ∀ (i : Nat) (v : V), vs[i]? = some v → ∃ d Gi, ds[i]? = some d ∧ Rep K H v d Gi ∧ ∀ b ∈ Gi, b ∈ G := by
  obtain ⟨vs, Gi, h1, h2, h3, _⟩ := h.ex
  refine ⟨vs, h1, h2.length, fun i v e => ?_⟩
  obtain ⟨d, A, B, C, q1, q2, q3⟩ := h2.at e
  exact ⟨d, B, q1, q2, fun b hb => h3 b (by rw [q3]; simp [hb])⟩
theorem jok_list {a : Addr} {ds : List D} {G : List Addr} : JOk K (Itl K a) ds G (SrcL K a ds G) where
  stab := SrcL.stab
  stop := fun H h => by
    obtain ⟨vs, h1, h2, _⟩ := h.mem
    exact ⟨vs, h1, by omega⟩
  go := fun i H h hi => by
    obtain ⟨vs, h1, h2, _⟩ := h.mem
    exact ⟨vs, vs[i]'(by omega), h1, List.getElem?_eq_getElem _⟩
  yld := fun i H x H' h _ y => by
    obtain ⟨vs, h1, h2, h3⟩ := h.mem
    obtain ⟨e, y⟩ := y
    subst e
    exact ⟨Evl.Ex.refl _, h3 i x (y vs h1)⟩
section
variable {X : Cx} {tg a b : Expr} {es : List Expr} {M N : List Nat} {fa fb : EF} {fs : LF} {pos p : Pos}
theorem itL_inv {f : EF} {Γ Γ' : Env} {x : Val} (e : itL f Γ = some (x, Γ')) : ∃ d xs, f Γ = some (⟨x.deps, x.ro, d⟩, Γ') ∧ x.d = .lst xs ∧ (d = .lst xs ∨ d = .frz xs) := by
  unfold itL at e
  split at e
  · rename_i dp ro xs Γ1 e1
    injection e with e
    injection e with e e'
    subst e e'
    exact ⟨_, xs, e1, rfl, .inl rfl⟩
  · rename_i dp ro xs Γ1 e1
    injection e with e
    injection e with e e'
    subst e e'
    exact ⟨_, xs, e1, rfl, .inr rfl⟩
  · cases e
theorem live_of {v : V} {d : D} {G : List Addr} {H : Hp} (r : Rep K H v d G) : ∀ a ∈ G, H a ≠ none := fun a ha => by
  obtain ⟨_, e, _⟩ := r.there a ha
  rw [e]; intro z; cases z
theorem si_list (h : SE X M a fa) : SI X M tg a (itL fa) := ⟨PI.imp (pi_list h.pe) fun σ H R q => by
  obtain ⟨I, F, Γ, x, items, Γ', o, e, ex, k⟩ := q
  obtain ⟨d, xs, e1, e2, e3⟩ := itL_inv e
  rw [ex] at e2
  injection e2 with e2
  subst e2
  refine ⟨I, F, Γ, _, Γ', o, e1, fun v H1 F1 G o1 f1 l => ?_⟩
  obtain ⟨a, rfl, hs⟩ := SrcL.of l.rep e3
  obtain ⟨vs, h1, _⟩ := hs.mem
  exact ⟨a, rfl, ⟨vs, h1⟩, k _ H1 F1 G _ o1 f1 l.own (live_of l.rep) jok_list hs⟩⟩
/-- range -/
def rngD (lo hi : Int) : Option D := if -(2 ^ 62) ≤ lo ∧ lo < 2 ^ 62 ∧ -(2 ^ 62) ≤ hi ∧ hi < 2 ^ 62 then some (.lst ((List.range (hi - lo).toNat).map fun (i : Nat) => D.int (lo + (i : Int)))) else none
def rng1 : D → Option D
  | .int hi => rngD 0 hi
  | _ => none
def rng2 : D → D → Option D
  | .int lo, .int hi => rngD lo hi
  | _, _ => none
abbrev rngG := g12 rng1 rng2
def itR (fs : LF) : EF := callF rngG fs
theorem rng1_inv {d z : D} (e : rng1 d = some z) : ∃ hi, d = .int hi ∧ rngD 0 hi = some z := by
  cases d <;> first | cases e | exact ⟨_, rfl, e⟩
theorem rng2_inv {c d z : D} (e : rng2 c d = some z) : ∃ lo hi, c = .int lo ∧ d = .int hi ∧ rngD lo hi = some z := by
  cases c <;> first | cases e | (cases d <;> first | cases e | exact ⟨_, _, rfl, rfl, e⟩)
theorem rep_int {H : Hp} {v : V} {i : Int} {G : List Addr} (r : Rep K H v (.int i) G) : v = .int i := by
  cases r
  rfl
theorem jok_range {lo : Int} {n : Nat} : JOk K (Itr lo n) ((List.range n).map fun (i : Nat) => D.int (lo + (i : Int))) [] (fun _ => True) where
  stab := fun _ _ _ _ _ _ => trivial
  stop := fun H _ => by
    show n ≤ _
    simp
  go := fun i H _ h => by
    show i < n
    simpa using h
  yld := fun i H x H' _ hi y => by
    obtain ⟨e, rfl⟩ := y
    subst e
    have hi' : i < n := by simpa using hi
    exact ⟨Evl.Ex.refl _, .int (lo + i), [], by simp [hi'], .int _, (fun _ z => nomatch z)⟩
theorem callG_inv {g : List D → Option D} {fs : LF} {Γ Γ' : Env} {x : Val} (e : callF g fs Γ = some (x, Γ')) : ∃ xs z, fs Γ = some (xs, Γ') ∧ g xs.ds = some z ∧ x = nw z := by
  unfold callF at e
  split at e
  · cases e
  · rename_i xs Γ1 e1
    split at e
    · cases e
    · rename_i z ez
      injection e with e
      injection e with e e'
      subst e e'
      exact ⟨xs, z, e1, ez, rfl⟩
theorem rngD_inv {lo hi : Int} {z : D} (e : rngD lo hi = some z) : (-(2 ^ 62) ≤ lo ∧ lo < 2 ^ 62 ∧ -(2 ^ 62) ≤ hi ∧ hi < 2 ^ 62) ∧ z = .lst ((List.range (hi - lo).toNat).map fun (i : Nat) => D.int (lo + (i : Int))) := by
  unfold rngD at e
  split at e
  · rename_i h
    injection e with e
    exact ⟨h, e.symm⟩
  · cases e
theorem si_range1 (hg : Gl X "range") (hm : X.mg "range" = none) (ha : SL X M [a] fs) (hs : starEach [a] X.env = [(false, eval a X.env)] := by rfl) (hl : ∀ Γ xs Γ', fs Γ = some (xs, Γ') → xs.ds.length = 1) : SI X M tg (.Call (.Name "range" p) [a] [] pos) (itR fs) := ⟨PI.imp (pi_range1 hg hm ha.pa hs) fun σ H R q => by
  obtain ⟨I, F, Γ, x, items, Γ', o, e, ex, k⟩ := q
  obtain ⟨xs, z, e1, e2, rfl⟩ := callG_inv e
  have hl1 := hl _ _ _ e1
  refine ⟨I, F, Γ, _, Γ', o, e1, fun vs H1 F1 G o1 f1 l => ?_⟩
  obtain ⟨dp, ro, ds⟩ := xs
  have hl2 : ds.length = 1 := hl1
  obtain ⟨d, rfl⟩ := List.length_eq_one_iff.mp hl2
  obtain ⟨hi, rfl, e3⟩ := rng1_inv (show rng1 d = some z from e2)
  obtain ⟨v, e6, r1⟩ := reps1 l.rep
  obtain ⟨h, e3⟩ := rngD_inv e3
  have e4 : z = .lst items := ex
  rw [e3] at e4
  injection e4 with e4
  subst e4
  refine ⟨hi, by rw [e6, rep_int r1], h.2.2.1, h.2.2.2, ?_⟩
  have e5 : (hi - 0).toNat = hi.toNat := by simp
  rw [e5] at k
  exact k _ H1 F1 [] _ o1 f1 (fun _ z => nomatch z) (fun _ z => nomatch z) jok_range trivial⟩
theorem si_range2 (hg : Gl X "range") (hm : X.mg "range" = none) (ha : SL X M [a, b] fs) (hs : starEach [a, b] X.env = [(false, eval a X.env), (false, eval b X.env)] := by rfl) (hs2 : starEach [b] X.env = [(false, eval b X.env)] := by rfl) (hl : ∀ Γ xs Γ', fs Γ = some (xs, Γ') → xs.ds.length = 2) : SI X M tg (.Call (.Name "range" p) [a, b] [] pos) (itR fs) := ⟨PI.imp (pi_range2 hg hm ha.pa hs hs2) fun σ H R q => by
  obtain ⟨I, F, Γ, x, items, Γ', o, e, ex, k⟩ := q
  obtain ⟨xs, z, e1, e2, rfl⟩ := callG_inv e
  have hl1 := hl _ _ _ e1
  refine ⟨I, F, Γ, _, Γ', o, e1, fun vs H1 F1 G o1 f1 l => ?_⟩
  obtain ⟨dp, ro, ds⟩ := xs
  have hl2 : ds.length = 2 := hl1
  match ds, hl2, e2, l with
  | [c, d], _, e2, l =>
    obtain ⟨lo, hi, rfl, rfl, e3⟩ := rng2_inv (show rng2 c d = some z from e2)
    obtain ⟨v, w, A, B, e6, r1, r2, _⟩ := reps2 l.rep
    obtain ⟨h, e3⟩ := rngD_inv e3
    have e4 : z = .lst items := ex
    rw [e3] at e4
    injection e4 with e4
    subst e4
    exact ⟨lo, hi, by rw [e6, rep_int r1, rep_int r2], h, k _ H1 F1 [] _ o1 f1 (fun _ z => nomatch z) (fun _ z => nomatch z) jok_range trivial⟩⟩
theorem len_cons {N : List Nat} {n : Nat} (h : ∀ Γ xs Γ', fs Γ = some (xs, Γ') → xs.ds.length = n) : ∀ Γ xs Γ', consL N fa fs Γ = some (xs, Γ') → xs.ds.length = n + 1 := fun Γ xs Γ' e => by
  unfold consL at e
  split at e
  · cases e
  · split at e
    · cases e
    · rename_i xs1 Γ2 e2
      split at e
      · injection e with e
        injection e with e e'
        subst e
        rw [List.length_cons, h _ _ _ e2]
      · cases e
theorem len_nil : ∀ Γ xs Γ', nilL Γ = some (xs, Γ') → xs.ds.length = 0 := fun Γ xs Γ' e => by
  injection e with e
  injection e with e e'
  subst e
  rfl

/-! ### for -/
def clear (Γ : Env) : List Nat → Env
  | [] => Γ
  | s :: ss => clear (if isIo Γ s then Γ else Γ.set s none) ss
def loopF (t : Tgt) (body : SF) (clr : List Nat) : List D → SF
  | [], Γ => some (.nx Γ)
  | d :: ds, Γ => match bindR t d Γ with
    | none => none
    | some Γ1 => match body Γ1 with
      | none => none
      | some (.nx Γ2) => loopF t body clr ds (clear Γ2 clr)
      | some (.ct Γ2) => loopF t body clr ds (clear Γ2 clr)
      | some (.bk Γ2) => some (.nx Γ2)
      | some (.ret x Γ2) => some (.ret x Γ2)
def forF (t : Tgt) (it : EF) (body : SF) (clr : List Nat) : SF := fun Γ => match it Γ with
  | none => none
  | some (x, Γ1) => match x.d with
    | .lst items => if x.deps.any (isIo Γ1) then none else loopF t body clr items (freeze Γ1 x.deps)
    | _ => none
theorem md_none (Γ : Env) (i s : Nat) : md (Γ.set i none) s = if i = s then none else md Γ s := by
  unfold md
  rw [set_get]
  by_cases h : i = s
  · rw [if_pos h, if_pos h]
    by_cases h2 : s < Γ.length
    · rw [if_pos h2]
    · rw [if_neg h2]
  · rw [if_neg h, if_neg h]
theorem clear_ok {I : Addr → Prop} {F : Nat → List Addr} {σ : St} {H : Hp} : ∀ {ss : List Nat} {Γ : Env}, Ok K I F σ Γ H → Ok K I F σ (clear Γ ss) H ∧ FrS I I F F Γ (clear Γ ss) σ σ H H
  | [], Γ, o => ⟨o, FrS.refl⟩
  | s :: ss, Γ, o => by
    unfold clear
    by_cases h : isIo Γ s = true
    · rw [if_pos h]
      exact clear_ok o
    · rw [if_neg h]
      have o1 : Ok K I F σ (Γ.set s none) H := ⟨by simpa using o.len, fun j m d hj => by
        rw [set_get] at hj
        by_cases q : s = j
        · rw [if_pos q] at hj
          split at hj <;> cases hj
        · rw [if_neg q] at hj
          exact o.at' j m d hj, o.nd, o.dj, o.nI, o.lv, o.iv⟩
      have f1 : FrS I I F F Γ (Γ.set s none) σ σ H H := ⟨Stp.refl _ _, fun _ h => h, fun _ h => .inl h, fun _ _ h => .inl h, fun j hj => ⟨by
        rw [md_none, if_neg (fun z => by subst z; exact h (isIo_md.mpr hj))]
        exact hj, rfl⟩, fun j hj => by
        rw [md_none] at hj
        split at hj
        · cases hj
        · exact hj⟩
      obtain ⟨o2, f2⟩ := clear_ok (ss := ss) o1
      exact ⟨o2, f1.trans f2⟩
theorem ss_for {t : Tgt} {clr : List Nat} {body : List Stmt} {f : SF} (hp : PassesOwn (model X.prog X.w) X.A X.env X.xe) (hc : X.calm = true) (hi : SI X M tg a fa) (hg : SG X tg t) (hb : SB X body f)
    (hs : ∀ x, foldedSetIterable a X.env x = pure x := by intro _; rfl) : SS X (.For tg a body [] pos) (forF t fa f clr) := ⟨PS.imp (ps_for hp hc hi.pi hg.pg hb.pss hs) fun D σ H q => by
  obtain ⟨I, F, Γ, out, o, e, p⟩ := q
  unfold forF at e
  split at e
  · cases e
  rename_i x Γ1 e1
  split at e
  · rename_i items ex
    split at e
    · cases e
    rename_i nio
    refine ⟨I, F, Γ, x, items, Γ1, o, e1, ex, fun J H1 F1 G Src o1 f1 hG hlv jok src => ?_⟩
    have dio : ∀ s ∈ x.deps, md Γ1 s ≠ some .io := fun s hs z => nio (List.any_eq_true.mpr ⟨s, hs, isIo_md.mpr z⟩)
    have hG' : ∀ a ∈ G, ((H a = none ∧ ¬ I a ∧ ∀ s, a ∉ F1 s) ∨ I a) ∨ ∃ s ∈ x.deps, a ∈ F1 s := fun a ha => by
      rcases hG a ha with z | ⟨_, z⟩ | z
      · exact .inl (.inl ⟨z.1, fun y => o.iv a y z.1, z.2⟩)
      · exact .inl (.inr z)
      · exact .inr z
    obtain ⟨I2, F2, o2, fr2, g2, _⟩ := frz_ok o1 (FrS.of f1) hG' hlv dio
    refine ⟨fun i m σ' H' => m = items.length - i ∧ i ≤ items.length ∧ ∃ I' F' Γ' out', Ok X.K I' F' σ' Γ' H' ∧ Src H' ∧ (∀ a ∈ G, I' a) ∧ loopF t f clr (items.drop i) Γ' = some out' ∧ Post X.K I' F' Γ' σ' H' D out',
      ⟨items.length, by simp, Nat.zero_le _, I2, F2, _, out, o2, src, g2, by simpa using e, p.after fr2⟩, ?_⟩
    rintro i m σ' H' ⟨rfl, hi, I', F', Γ', out', o', src', g', e', p'⟩
    by_cases hlt : i < items.length
    · rw [List.drop_eq_getElem_cons hlt] at e'
      unfold loopF at e'
      split at e'
      · cases e'
      rename_i Γa ea
      split at e'
      · cases e'
      all_goals
        rename_i Γb eb
        refine .inr ⟨jok.go i H' src' hlt, fun σ2 H2 => items.length - (i + 1) = items.length - (i + 1) ∧ i + 1 ≤ items.length ∧ ∃ I' F' Γ' out', Ok X.K I' F' σ2 Γ' H2 ∧ Src H2 ∧ (∀ a ∈ G, I' a) ∧ loopF t f clr (items.drop (i + 1)) Γ' = some out' ∧ Post X.K I' F' Γ' σ2 H2 D out',
          fun σ2 H2 w => ⟨_, by omega, w⟩, fun x H2 y => ?_⟩
        obtain ⟨ex2, d, Gi, q1, q2, q3⟩ := jok.yld i H' x H2 src' hlt y
        rw [List.getElem?_eq_getElem hlt] at q1
        injection q1 with q1
        subst q1
        have oy := o'.ex ex2
        have fy : FrS I' I' F' F' Γ' Γ' σ' σ' H' H2 := FrS.of (M := []) (Frm.ex ex2)
        have srcy := jok.stab (fun _ => False) H' H2 (Stp.ex ex2) (fun _ _ z => z) src'
        refine ⟨I', F', Γ', _, Gi, Γa, I', F', Γ', σ', H', oy, fy, q2, fun a ha => g' a (q3 a ha), ea, fun σ3 F3 _ _ o3 f3 => ⟨I', F3, Γa, _, o3, eb, ?_⟩⟩
        have keepS : ∀ {σ4 H4 I4 F4 Γ4}, FrS I' I4 F3 F4 Γa Γ4 σ3 σ4 H2 H4 → Src H4 ∧ ∀ a ∈ G, I4 a := fun f4 =>
          ⟨jok.stab _ H2 _ f4.stp (fun a ha ⟨s, hs⟩ => o3.nI s a hs (g' a ha)) srcy, fun a ha => f4.isub a (g' a ha)⟩
      · intro σ4 H4 I4 F4 o4 f4
        obtain ⟨o5, f5⟩ := clear_ok (K := X.K) (ss := clr) o4
        exact ⟨rfl, hlt, I4, F4, _, out', o5, (keepS f4).1, (keepS f4).2, e', p'.after (f3.trans (f4.trans f5))⟩
      · intro σ4 H4 I4 F4 o4 f4
        obtain ⟨o5, f5⟩ := clear_ok (K := X.K) (ss := clr) o4
        exact ⟨rfl, hlt, I4, F4, _, out', o5, (keepS f4).1, (keepS f4).2, e', p'.after (f3.trans (f4.trans f5))⟩
      · injection e' with e'
        subst e'
        intro σ4 H4 I4 F4 o4 f4
        exact p' σ4 H4 I4 F4 o4 (f3.trans f4)
      · injection e' with e'
        subst e'
        intro σ4 v4 H4 I4 F4 G4 o4 f4 l4
        exact p' σ4 v4 H4 I4 F4 G4 o4 (f3.trans f4) (l4.back fun a h => Evl.fresh_back ex2 h)
    · have e0 : items.drop i = [] := List.drop_eq_nil_of_le (by omega)
      rw [e0] at e'
      injection e' with e'
      subst e'
      have hi2 : i = items.length := by omega
      subst hi2
      exact .inl ⟨jok.stop H' src', p' σ' H' I' F' o' FrS.refl⟩
  · cases e⟩

/-! ### while -/
def whileF (c : TF) (body : SF) (clr : List Nat) : Nat → SF
  | 0, _ => none
  | n + 1, Γ => match c Γ with
    | none => none
    | some (false, Γ1) => some (.nx Γ1)
    | some (true, Γ1) => match body Γ1 with
      | none => none
      | some (.nx Γ2) => whileF c body clr n (clear Γ2 clr)
      | some (.ct Γ2) => whileF c body clr n (clear Γ2 clr)
      | some (.bk Γ2) => some (.nx Γ2)
      | some (.ret x Γ2) => some (.ret x Γ2)
theorem ss_while {c : Expr} {tc : TF} {clr : List Nat} {body : List Stmt} {f : SF} {n : Nat} (hp : PassesOwn (model X.prog X.w) X.A X.env X.xe) (hc : ST X M c tc) (hb : SB X body f) : SS X (.While c body [] pos) (whileF tc f clr n) := ⟨PS.imp (ps_while hp hc.pt hb.pss) fun D σ H q => by
  obtain ⟨I, F, Γ, out, o, e, p⟩ := q
  refine ⟨fun m σ' H' => ∃ I' F' Γ' out', Ok X.K I' F' σ' Γ' H' ∧ whileF tc f clr m Γ' = some out' ∧ Post X.K I' F' Γ' σ' H' D out', ⟨n, I, F, Γ, out, o, e, p⟩, ?_⟩
  rintro m σ' H' ⟨I', F', Γ', out', o', e', p'⟩
  cases m with
  | zero => cases e'
  | succ m =>
    unfold whileF at e'
    split at e'
    · cases e'
    · rename_i Γ1 e1
      injection e' with e'
      subst e'
      exact ⟨I', F', Γ', false, Γ1, o', e1, fun H1 F1 o1 f1 => iteF (p' σ' H1 I' F1 o1 (FrS.of f1))⟩
    · rename_i Γ1 e1
      refine ⟨I', F', Γ', true, Γ1, o', e1, fun H1 F1 o1 f1 => iteT ?_⟩
      split at e'
      · cases e'
      all_goals
        rename_i Γb eb
        refine ⟨fun σ2 H2 => ∃ I' F' Γ' out', Ok X.K I' F' σ2 Γ' H2 ∧ whileF tc f clr m Γ' = some out' ∧ Post X.K I' F' Γ' σ2 H2 D out', fun σ2 H2 w => ⟨m, Nat.lt_succ_self m, w⟩, I', F1, Γ1, _, o1, eb, ?_⟩
      · intro σ4 H4 I4 F4 o4 f4
        obtain ⟨o5, f5⟩ := clear_ok (K := X.K) (ss := clr) o4
        exact ⟨I4, F4, _, out', o5, e', p'.after ((FrS.of f1).trans (f4.trans f5))⟩
      · intro σ4 H4 I4 F4 o4 f4
        obtain ⟨o5, f5⟩ := clear_ok (K := X.K) (ss := clr) o4
        exact ⟨I4, F4, _, out', o5, e', p'.after ((FrS.of f1).trans (f4.trans f5))⟩
      · injection e' with e'
        subst e'
        intro σ4 H4 I4 F4 o4 f4
        exact p' σ4 H4 I4 F4 o4 ((FrS.of f1).trans f4)
      · injection e' with e'
        subst e'
        intro σ4 v4 H4 I4 F4 G4 o4 f4 l4
        exact p' σ4 v4 H4 I4 F4 G4 o4 ((FrS.of f1).trans f4) (l4.back f1.stp.live)⟩
end
end
end VS
/-! VS10: comprehensions; further walks. -/
namespace VS
open PySem L2
section
variable {K : PySem.W.Frag} {I : Addr → Prop} {F : Nat → List Addr} {Γ : Env} {σ : St} {H H' : Hp}
theorem Ok.stp {X : Addr → Prop} (o : Ok K I F σ Γ H) (s : Stp X H H') (n : ∀ a, X a → ¬ I a ∧ ∀ j, a ∉ F j) : Ok K I F σ Γ H' where
  len := o.len
  at' := fun i m d h => by
    obtain ⟨v, G, h1, h2, h3⟩ := o.at' i m d h
    refine ⟨v, G, h1, h2.stp s fun a ha x => ?_, h3⟩
    split at h3
    · exact (n a x).1 (h3 a ha)
    · subst h3; exact (n a x).2 i ha
  nd := o.nd
  dj := o.dj
  nI := o.nI
  lv := fun i a h z => o.lv i a h (s.live a z)
  iv := fun a h z => o.iv a h (s.live a z)
def wipeE (Γ : Env) : List Nat → Env
  | [] => Γ
  | v :: vs => (wipeE Γ vs).set v none
theorem wipeE_len (Γ : Env) : ∀ vs, (wipeE Γ vs).length = Γ.length
  | [] => rfl
  | v :: vs => by unfold wipeE; rw [List.length_set, wipeE_len Γ vs]
theorem wipeE_get (Γ : Env) (j : Nat) : ∀ vs, (wipeE Γ vs)[j]? = if j ∈ vs then (Γ[j]?).map (fun _ => none) else Γ[j]?
  | [] => by simp [wipeE]
  | v :: vs => by
    unfold wipeE
    rw [set_get, wipeE_get Γ j vs, wipeE_len]
    by_cases h : v = j
    · subst h
      rw [if_pos rfl, if_pos List.mem_cons_self]
      by_cases h2 : v < Γ.length
      · rw [if_pos h2, List.getElem?_eq_getElem h2]; rfl
      · rw [if_neg h2, List.getElem?_eq_none (by omega)]; rfl
    · rw [if_neg h]
      by_cases h3 : j ∈ vs
      · rw [if_pos h3, if_pos (List.mem_cons_of_mem _ h3)]
      · rw [if_neg h3, if_neg (fun z => (List.mem_cons.mp z).elim (fun y => h y.symm) h3)]
theorem wipe_get (σ : St) (j : Nat) : ∀ vs, (wipe σ vs)[j]? = if j ∈ vs then (σ[j]?).map (fun _ => none) else σ[j]?
  | [] => by simp [wipe]
  | v :: vs => by
    unfold wipe
    rw [set_get, wipe_get σ j vs, wipe_length]
    by_cases h : v = j
    · subst h
      rw [if_pos rfl, if_pos List.mem_cons_self]
      by_cases h2 : v < σ.length
      · rw [if_pos h2, List.getElem?_eq_getElem h2]; rfl
      · rw [if_neg h2, List.getElem?_eq_none (by omega)]; rfl
    · rw [if_neg h]
      by_cases h3 : j ∈ vs
      · rw [if_pos h3, if_pos (List.mem_cons_of_mem _ h3)]
      · rw [if_neg h3, if_neg (fun z => (List.mem_cons.mp z).elim (fun y => h y.symm) h3)]
theorem wipe_saves {σ' : St} {vs ss : List Nat} (h : Saves ss σ σ') (hs : ∀ j ∈ ss, j ∈ vs) : wipe σ' vs = wipe σ vs := by
  refine List.ext_getElem? fun j => ?_
  rw [wipe_get, wipe_get]
  by_cases q : j ∈ vs
  · rw [if_pos q, if_pos q]
    by_cases h2 : j < σ.length
    · rw [List.getElem?_eq_getElem h2, List.getElem?_eq_getElem (by rw [h.1]; exact h2)]; rfl
    · have hl := h.1
      rw [List.getElem?_eq_none (by omega), List.getElem?_eq_none (by omega)]
  · rw [if_neg q, if_neg q]
    exact h.2 j fun z => q (hs j z)
theorem Ok.wipe (o : Ok K I F σ Γ H) (vs : List Nat) : Ok K I F (wipe σ vs) (wipeE Γ vs) H where
  len := by rw [wipe_length, wipeE_len]; exact o.len
  at' := fun i m d h => by
    rw [wipeE_get] at h
    split at h
    · obtain ⟨_, _, z⟩ := Option.map_eq_some_iff.mp h
      cases z
    · rename_i q
      obtain ⟨v, G, h1, h2, h3⟩ := o.at' i m d h
      exact ⟨v, G, by rw [wipe_get, if_neg q]; exact h1, h2, h3⟩
  nd := o.nd
  dj := o.dj
  nI := o.nI
  lv := o.lv
  iv := o.iv
def fzA : Slot → Slot
  | some (_, d) => some (.ro, d)
  | none => none
def frzA : Env → List Nat → Nat → Env
  | [], _, _ => []
  | s :: Γ, ss, n => (if ss.contains n then fzA s else s) :: frzA Γ ss (n + 1)
theorem frzA_get : ∀ (Γ : Env) (ss : List Nat) (n j : Nat), (frzA Γ ss n)[j]? = if n + j ∈ ss then (Γ[j]?).map fzA else Γ[j]?
  | [], ss, n, j => by simp [frzA]
  | s :: Γ, ss, n, 0 => by
    unfold frzA
    by_cases h : n ∈ ss
    · simp [h]
    · simp [h]
  | s :: Γ, ss, n, j + 1 => by
    unfold frzA
    rw [List.getElem?_cons_succ, List.getElem?_cons_succ, frzA_get Γ ss (n + 1) j]
    have : n + 1 + j = n + (j + 1) := by omega
    rw [this]
theorem frzA_len : ∀ (Γ : Env) (ss : List Nat) (n : Nat), (frzA Γ ss n).length = Γ.length
  | [], ss, n => rfl
  | s :: Γ, ss, n => by simp [frzA, frzA_len Γ ss (n + 1)]
/-- for a while nobody writes what a value shares with -/
theorem frzA_ok {deps vs : List Nat} {G : List Addr} (o : Ok K I F σ Γ H) (hG : ∀ a ∈ G, ((∀ s, a ∉ F s) ∨ I a) ∨ ∃ s ∈ deps, a ∈ F s) (hl : ∀ a ∈ G, H a ≠ none) :
    Ok K (fun a => I a ∨ a ∈ G ∨ ∃ s ∈ deps, a ∈ F s) (fun s => if s ∈ deps ∨ s ∈ vs then [] else F s) (wipe σ vs) (wipeE (frzA Γ deps 0) vs) H := by
  have gz : ∀ a ∈ G, ∀ j, j ∉ deps → a ∉ F j := fun a ha j hj => by
    rcases hG a ha with (z | z) | ⟨s, d, z⟩
    · exact z j
    · exact fun q => o.nI j a q z
    · exact o.dj s j (fun q => hj (q ▸ d)) a z
  refine ⟨by rw [wipe_length, wipeE_len, frzA_len]; exact o.len, fun j m d hj => ?_, fun j => ?_, fun j k hjk a ha => ?_, fun j a ha => ?_, fun j a ha => ?_, fun a ha => ?_⟩
  · rw [wipeE_get] at hj
    split at hj
    · obtain ⟨_, _, z⟩ := Option.map_eq_some_iff.mp hj
      cases z
    · rename_i qv
      rw [frzA_get, Nat.zero_add] at hj
      by_cases q2 : j ∈ deps
      · rw [if_pos q2] at hj
        obtain ⟨sl, h1, h2⟩ := Option.map_eq_some_iff.mp hj
        cases sl with
        | none => cases h2
        | some p =>
          obtain ⟨m0, d0⟩ := p
          obtain ⟨w, G', g1, g2, g3⟩ := o.at' j m0 d0 h1
          injection h2 with h2
          injection h2 with h2 h3
          subst h2 h3
          refine ⟨w, G', by rw [wipe_get, if_neg qv]; exact g1, g2, ?_⟩
          rw [if_pos rfl]
          intro a ha
          split at g3
          · exact .inl (g3 a ha)
          · exact .inr (.inr ⟨j, q2, by rw [g3]; exact ha⟩)
      · rw [if_neg q2] at hj
        obtain ⟨w, G', g1, g2, g3⟩ := o.at' j m d hj
        refine ⟨w, G', by rw [wipe_get, if_neg qv]; exact g1, g2, ?_⟩
        split
        · rename_i hm; rw [if_pos hm] at g3; exact fun a ha => .inl (g3 a ha)
        · rename_i hm; rw [if_neg hm] at g3
          show (if j ∈ deps ∨ j ∈ vs then [] else F j) = G'
          rw [if_neg (fun z => z.elim q2 qv)]
          exact g3
  · show (if j ∈ deps ∨ j ∈ vs then [] else F j).Nodup
    split
    · exact List.nodup_nil
    · exact o.nd j
  · have ha' : a ∈ if j ∈ deps ∨ j ∈ vs then [] else F j := ha
    show a ∉ if k ∈ deps ∨ k ∈ vs then [] else F k
    split at ha'
    · cases ha'
    · split
      · exact fun z => nomatch z
      · exact o.dj j k hjk a ha'
  · have ha' : a ∈ if j ∈ deps ∨ j ∈ vs then [] else F j := ha
    split at ha'
    · cases ha'
    · rename_i q
      rintro (z | z | ⟨s, d, z⟩)
      · exact o.nI j a ha' z
      · exact gz a z j (fun y => q (.inl y)) ha'
      · exact o.dj s j (fun y => q (.inl (y ▸ d))) a z ha'
  · have ha' : a ∈ if j ∈ deps ∨ j ∈ vs then [] else F j := ha
    split at ha'
    · cases ha'
    · exact o.lv j a ha'
  · rcases ha with z | z | ⟨s, d, z⟩
    · exact o.iv a z
    · exact hl a z
    · exact o.lv s a z
end
/-- the turns -/
def lcL (vs : List Nat) (t : Tgt) (cs : TF) (fe : EF) : List D → Env → Bool → List D → Option (Bool × List D × Env)
  | [], Γ, ro, acc => some (ro, acc, Γ)
  | d :: ds, Γ, ro, acc => match bindR t d Γ with
    | none => none
    | some Γ1 => match cs Γ1 with
      | none => none
      | some (false, Γ2) => lcL vs t cs fe ds (wipeE Γ2 vs) ro acc
      | some (true, Γ2) => match fe Γ2 with
        | none => none
        | some (y, Γ3) => if immut y.d || y.deps.isEmpty then lcL vs t cs fe ds (wipeE Γ3 vs) (ro || (!immut y.d && y.ro)) (acc ++ [y.d]) else none
/-- behind: the slots M as they have become, the others as they were -/
def backE (M : List Nat) (Γ1 Γ2 : Env) : Nat → Env
  | n => (List.range n).map fun j => if M.contains j then (Γ2[j]?).getD none else (Γ1[j]?).getD none
def yesT : TF := fun Γ => some (true, Γ)
def lcF (M vs : List Nat) (t : Tgt) (it : EF) (cs : TF) (fe : EF) : EF := fun Γ => match it Γ with
  | none => none
  | some (x, Γ1) => match x.d with
    | .lst items => if items.length < SZ && (M.all fun s => !x.deps.contains s && !vs.contains s && (md Γ1 s == some .own || md Γ1 s == some .io)) && (tgtS t).all vs.contains then
        match lcL vs t cs fe items (wipeE (frzA Γ1 x.deps 0) vs) false [] with
        | none => none
        | some (ro, ds, Γ2) => some (if immuts ds then nw (.lst ds) else if ro then ⟨x.deps, true, .lst ds⟩ else nw (.lst ds), if M.isEmpty then Γ1 else backE M Γ1 Γ2 Γ1.length)
      else none
    | _ => none

theorem backE_get (M : List Nat) (Γ1 Γ2 : Env) (n j : Nat) (h1 : Γ1.length = n) (h2 : Γ2.length = n) : (backE M Γ1 Γ2 n)[j]? = if j ∈ M then Γ2[j]? else Γ1[j]? := by
  unfold backE
  rw [List.getElem?_map]
  by_cases h : j < n
  · rw [List.getElem?_range h]
    by_cases q : j ∈ M
    · rw [if_pos q, List.getElem?_eq_getElem (by omega)]
      simp [q]
      rw [List.getElem?_eq_getElem (by omega)]
      rfl
    · rw [if_neg q, List.getElem?_eq_getElem (by omega)]
      simp [q]
      rw [List.getElem?_eq_getElem (by omega)]
      rfl
  · rw [List.getElem?_eq_none (by simp; omega)]
    by_cases q : j ∈ M
    · rw [if_pos q, List.getElem?_eq_none (by omega)]; rfl
    · rw [if_neg q, List.getElem?_eq_none (by omega)]; rfl
section
variable {K : PySem.W.Frag}
/-- the state within a comprehension: Dl its list, ahead: I' F^ at its start -/
structure Lc (K : PySem.W.Frag) (M vs : List Nat) (σ : St) (I' : Addr → Prop) (Fh : Nat → List Addr) (H1 : Hp) (Dl : Addr) (G : List Addr) (Src : Hp → Prop) (Γ0 Γ : Env) (ro : Bool) (ds : List D) (H : Hp) : Prop where
  ex : ∃ F acc Ge, Ok K I' F (wipe σ vs) Γ H ∧ Src H ∧ H Dl = some (.lst acc) ∧ Reps K H acc ds Ge ∧ ((∀ s, Dl ∉ F s) ∧ Dl ∉ Ge) ∧
    (∀ a ∈ Ge, (H1 a = none ∧ ∀ s, a ∉ F s) ∨ (ro = true ∧ I' a)) ∧ (ro = false → Ge.Nodup) ∧ Frm M Γ0 Γ Fh F H1 H
end
section
variable {X : Cx} {tg a elt : Expr} {ifs : List Expr} {M N : List Nat} {fa fe : EF} {cs : TF} {pos : Pos}
structure STs (X : Cx) (M : List Nat) (ifs : List Expr) (f : TF) : Prop where
  pts : PTs X ifs (tSemT X.K M f)
theorem sts_nil : STs X [] [] yesT := ⟨⟨fun pins s σ H Q I q => by
  obtain ⟨I', F, Γ, b, Γ', o, e, k⟩ := q
  injection e with e
  injection e with e e'
  subst e e'
  exact pts_nil.run pins s σ H Q I (k H F o (Frm.refl _ _ _))⟩⟩
theorem sts_one {c : Expr} (h : ST X M c cs) : STs X M [c] cs := ⟨pts_one h.pt⟩
theorem wipe_wipe (σ : St) (vs : List Nat) : wipe (wipe σ vs) vs = wipe σ vs := by
  refine List.ext_getElem? fun j => ?_
  rw [wipe_get, wipe_get]
  split
  · rw [Option.map_map]; rfl
  · rfl
theorem md_wipeE (Γ : Env) (vs : List Nat) (s : Nat) : md (wipeE Γ vs) s = if s ∈ vs then none else md Γ s := by
  unfold md
  rw [wipeE_get]
  by_cases h : s ∈ vs
  · rw [if_pos h, if_pos h]
    cases Γ[s]? <;> rfl
  · rw [if_neg h, if_neg h]
theorem md_some {Γ : Env} {s : Nat} {m : Md} (h : md Γ s = some m) : ∃ d, Γ[s]? = some (some (m, d)) := by
  unfold md at h
  split at h
  · rename_i m' d e
    injection h with h
    subst h
    exact ⟨d, e⟩
  · cases h
theorem stp_add {X1 Y : Addr → Prop} {H H1 H2 : Hp} (a : Stp X1 H H1) (b : Stp Y H1 H2) (hs : ∀ c, H c ≠ none → Y c → X1 c) : Stp X1 H H2 := a.trans b hs
theorem sem_lc {own : List (Str × Nat)} {t : Tgt} {M1 M2 : List Nat} {σ : St} {H : Hp} {Q : VK} (q : tSem X.K (N ++ (M1 ++ M2)) (lcF (M1 ++ M2) (own.map (·.2)) t fa cs fe) σ H Q) : tLc (tSemI X.K N fa) (tSemG X.K t) (tSemT X.K M1 cs) (tSem X.K M2 fe) (own.map (·.2)) σ H Q := by
  obtain ⟨I, F, Γ, x, Γ', o, e, k⟩ := q
  generalize hM : M1 ++ M2 = M at *
  generalize hvs : own.map (·.2) = vs at *
  unfold lcF at e
  split at e
  · cases e
  rename_i x1 Γ1 e1
  split at e
  · rename_i items ex
    split at e
    · rename_i hchk
      split at e
      · cases e
      rename_i roF dsF ΓF eL
      injection e with e
      injection e with e e'
      rw [Bool.and_eq_true, Bool.and_eq_true] at hchk
      obtain ⟨⟨hz, hM1⟩, htg⟩ := hchk
      have hz : items.length < SZ := of_decide_eq_true hz
      have hMx : ∀ s ∈ M, s ∉ x1.deps ∧ s ∉ vs ∧ (md Γ1 s = some .own ∨ md Γ1 s = some .io) := fun s hs => by
        have := List.all_eq_true.mp hM1 s hs
        simp at this
        exact ⟨this.1.1, this.1.2, this.2⟩
      have htv : ∀ j ∈ tgtS t, j ∈ vs := fun j hj => by
        have := List.all_eq_true.mp htg j hj
        simpa using this
      refine ⟨I, F, Γ, x1, items, Γ1, o, e1, ex, fun J H1 F1 G Src o1 f1 hG hlv jok src Dl hD => ?_⟩
      have hG' : ∀ a ∈ G, ((∀ s, a ∉ F1 s) ∨ I a) ∨ ∃ s ∈ x1.deps, a ∈ F1 s := fun a ha => by
        rcases hG a ha with z | ⟨_, z⟩ | z
        · exact .inl (.inl z.2)
        · exact .inl (.inr z)
        · exact .inr z
      have oh := frzA_ok (vs := vs) o1 hG' hlv
      generalize hI : (fun a => I a ∨ a ∈ G ∨ ∃ s ∈ x1.deps, a ∈ F1 s) = I' at oh
      generalize hF : (fun s => if s ∈ x1.deps ∨ s ∈ vs then [] else F1 s) = Fh at oh
      generalize hΓ : wipeE (frzA Γ1 x1.deps 0) vs = Γ0 at oh eL
      have gI : ∀ a ∈ G, I' a := fun a ha => by rw [← hI]; exact .inr (.inl ha)
      have eD : Evl.Ex H1 (upd H1 Dl (.lst [])) := Evl.Ex.new hD
      have ohD := oh.ex eD
      have dF : ∀ s, Dl ∉ Fh s := fun s hs => oh.lv s Dl hs hD
      have dI : ¬ I' Dl := fun z => oh.iv Dl z hD
      have dG : Dl ∉ G := fun z => hlv Dl z hD
      have l0 : Lc X.K M vs σ I' Fh H1 Dl G Src Γ0 Γ0 false [] (upd H1 Dl (.lst [])) :=
        ⟨Fh, [], [], ohD, jok.stab (fun _ => False) H1 _ (Stp.ex eD) (fun _ _ z => z) src, upd_same, .nil, ⟨dF, fun z => nomatch z⟩, (fun _ z => nomatch z), fun _ => List.nodup_nil, ⟨Stp.ex eD, fun _ _ => rfl, fun _ _ => rfl, fun _ _ h => .inl h, fun _ => rfl⟩⟩
      have Γw : ∀ j ∈ vs, Γ0[j]? = none ∨ Γ0[j]? = some none := fun j hj => by
        rw [← hΓ, wipeE_get, if_pos hj]
        cases (frzA Γ1 x1.deps 0)[j]? with
        | none => exact .inl rfl
        | some _ => exact .inr rfl
      have Fv : ∀ j ∈ vs, Fh j = [] := fun j hj => by rw [← hF]; exact if_pos (.inr hj)
      refine ⟨fun i m H' => m = items.length - i ∧ i ≤ items.length ∧ ∃ Γi ro ds, Lc X.K M vs σ I' Fh H1 Dl G Src Γ0 Γi ro ds H' ∧ ds.length ≤ i ∧ lcL vs t cs fe (items.drop i) Γi ro ds = some (roF, dsF, ΓF),
        ⟨items.length, by simp, Nat.zero_le _, Γ0, false, [], l0, Nat.le_refl _, by simpa using eL⟩, ?_⟩
      rintro i m H' ⟨rfl, hi, Γi, ro, ds, ⟨Fi, acc, Ge, oi, srci, hDi, ri, ⟨dFi, dGe⟩, ge, gn, fi⟩, hlen, eLi⟩
      by_cases hlt : i < items.length
      · rw [List.drop_eq_getElem_cons hlt] at eLi
        unfold lcL at eLi
        split at eLi
        · cases eLi
        rename_i Γa ea
        refine .inr ⟨jok.go i H' srci hlt, fun H2 => items.length - (i + 1) = items.length - (i + 1) ∧ i + 1 ≤ items.length ∧ ∃ Γi ro ds, Lc X.K M vs σ I' Fh H1 Dl G Src Γ0 Γi ro ds H2 ∧ ds.length ≤ i + 1 ∧ lcL vs t cs fe (items.drop (i + 1)) Γi ro ds = some (roF, dsF, ΓF),
          fun H2 w => ⟨_, by omega, w⟩, fun v H2 y => ?_⟩
        obtain ⟨ex2, d, Gi, q1, q2, q3⟩ := jok.yld i H' v H2 srci hlt y
        rw [List.getElem?_eq_getElem hlt] at q1
        injection q1 with q1
        subst q1
        have oy := oi.ex ex2
        refine ⟨I', Fi, Γi, _, Gi, Γa, I', Fi, Γi, wipe σ vs, H2, oy, FrS.refl, q2, fun a ha => gI a (q3 a ha), ea, fun σ3 F3 sv sf o3 f3 => ⟨(wipe_saves sv htv).trans (wipe_wipe σ vs), ?_⟩⟩
        obtain ⟨ba1, ba2⟩ := bindR_get ea
        -- the state behind the target
        have srcy := jok.stab (fun _ => False) H' H2 (Stp.ex ex2) (fun _ _ z => z) srci
        -- what holds behind any reckoning that writes M alone
        have fin : ∀ {Γb : Env} {Fb : Nat → List Addr} {Hm Hb : Hp} {ro' : Bool} {ds' : List D} {acc' : List V} {Ge' : List Addr}, Ok X.K I' Fb σ3 Γb Hb → Frm M Γa Γb F3 Fb H2 Hm → Stp (fun b => b = Dl) Hm Hb → Hb Dl = some (.lst acc') → Reps X.K Hb acc' ds' Ge' → Dl ∉ Ge' →
            (∀ a ∈ Ge', (H1 a = none ∧ ∀ s, a ∉ Fb s) ∨ (ro' = true ∧ I' a)) → (ro' = false → Ge'.Nodup) → Src Hb → (∀ s, Dl ∉ Fb s) → Lc X.K M vs σ I' Fh H1 Dl G Src Γ0 (wipeE Γb vs) ro' ds' Hb := by
          intro Γb Fb Hm Hb ro' ds' acc' Ge' ob fb sD hDb rb dGb gb nb sb dFb
          have ow := ob.wipe vs
          rw [wipe_saves sv htv] at ow
          have ww := wipe_wipe σ vs
          rw [ww] at ow
          refine ⟨Fb, acc', Ge', ow, sb, hDb, rb, ⟨dFb, dGb⟩, gb, nb, ⟨?_, fun s hs => ?_, fun s hs => ?_, fun s a ha => ?_, fun s => ?_⟩⟩
          · refine ((fi.stp.trans (Stp.ex (X := fun _ => False) ex2) (fun _ _ z => z.elim)).trans fb.stp fun c hc ⟨s, hs, h⟩ => ?_).trans sD fun c hc z => absurd (by rw [z]; exact hD) hc
            by_cases q : s ∈ tgtS t
            · rw [sf.2 s q] at h; cases h
            · rw [sf.1 s q] at h
              rcases fi.sub s c h with z | z
              · exact ⟨s, hs, z⟩
              · exact absurd z hc
          · rw [fb.same s hs]
            by_cases q : s ∈ tgtS t
            · rw [sf.2 s q, Fv s (htv s q)]
            · rw [sf.1 s q, fi.same s hs]
          · rw [wipeE_get]
            split
            · rename_i q
              have hl : Γb.length = Γ0.length := by
                have a1 := ob.len; have a2 := oh.len; have a3 := sv.1
                rw [wipe_length] at a2 a3
                omega
              rcases Γw s q with z | z
              · rw [z, List.getElem?_eq_none (by have := List.getElem?_eq_none_iff.mp z; omega)]; rfl
              · rw [z, List.getElem?_eq_getElem (by have := (List.getElem?_eq_some_iff.mp z).1; omega)]; rfl
            · rename_i q
              rw [fb.env s hs, ba2 s (fun z => q (htv s z)), fi.env s hs]
          · rcases fb.sub s a ha with z | z
            · by_cases q : s ∈ tgtS t
              · rw [sf.2 s q] at z; cases z
              · rw [sf.1 s q] at z
                exact fi.sub s a z
            · exact .inr (fi.stp.live a (Evl.fresh_back ex2 z))
          · rw [md_wipeE]
            split
            · rename_i q
              rw [← hΓ, md_wipeE, if_pos q]
            · rename_i q
              have e1 := fb.md s
              have e2 : md Γa s = md Γi s := by unfold md; rw [ba2 s (fun z => q (htv s z))]
              exact (e1.trans e2).trans (fi.md s)
        have accy : H2 Dl = some (.lst acc) := ex2 Dl _ hDi
        have riy : Reps X.K H2 acc ds Ge := Reps.stp (X := fun _ => False) (Stp.ex ex2) ri fun _ _ z => z
        have dF3 : ∀ s, Dl ∉ F3 s := fun s => by
          by_cases q : s ∈ tgtS t
          · rw [sf.2 s q]; exact fun z => nomatch z
          · rw [sf.1 s q]; exact dFi s
        have ge3 : ∀ a ∈ Ge, (H1 a = none ∧ ∀ s, a ∉ F3 s) ∨ (ro = true ∧ I' a) := fun a ha => (ge a ha).imp (fun z => ⟨z.1, fun s => by
          by_cases q : s ∈ tgtS t
          · rw [sf.2 s q]; exact fun z => nomatch z
          · rw [sf.1 s q]; exact z.2 s⟩) id
        -- the list lasts
        have lasts : ∀ {Γb : Env} {Fb : Nat → List Addr} {Hb : Hp}, Ok X.K I' Fb σ3 Γb Hb → Frm M Γa Γb F3 Fb H2 Hb → Hb Dl = some (.lst acc) ∧ Reps X.K Hb acc ds Ge ∧ (∀ a ∈ Ge, (H1 a = none ∧ ∀ s, a ∉ Fb s) ∨ (ro = true ∧ I' a)) ∧ Src Hb ∧ ∀ s, Dl ∉ Fb s := by
          intro Γb Fb Hb ob fb
          refine ⟨fb.stp.keep Dl _ accy fun _ ⟨s, _, z⟩ => dF3 s z, riy.stp fb.stp fun a ha ⟨s, _, z⟩ => ?_, fun a ha => (ge3 a ha).imp (fun z => ⟨z.1, fun s hs => ?_⟩) id, jok.stab _ H2 Hb fb.stp (fun a ha ⟨s, _, z⟩ => o3.nI s a z (gI a ha)) srcy, fun s hs => ?_⟩
          · rcases ge3 a ha with y | ⟨_, y⟩
            · exact y.2 s z
            · exact o3.nI s a z y
          · rcases fb.sub s a hs with y | y
            · exact z.2 s y
            · obtain ⟨_, e, _⟩ := riy.there a ha
              rw [y] at e; cases e
          · rcases fb.sub s Dl hs with y | y
            · exact dF3 s y
            · rw [accy] at y; cases y
        split at eLi
        · cases eLi
        · -- not kept
          rename_i Γb eb
          refine ⟨I', F3, Γa, false, Γb, o3, eb, fun H3 F4 o4 f4 => iteF ?_⟩
          have f4' : Frm M Γa Γb F3 F4 H2 H3 := f4.mono fun s hs => by rw [← hM]; exact List.mem_append_left _ hs
          obtain ⟨a1, a2, a3, a4, a5⟩ := lasts o4 f4'
          exact ⟨rfl, hlt, _, ro, ds, fin o4 f4' (Stp.refl _ _) a1 a2 dGe a3 gn a4 a5, by omega, eLi⟩
        · -- kept
          rename_i Γb eb
          split at eLi
          · cases eLi
          rename_i y Γc ec
          split at eLi
          · rename_i hy
            refine ⟨I', F3, Γa, true, Γb, o3, eb, fun H3 F4 o4 f4 => iteT ⟨I', F4, Γb, y, Γc, o4, ec, fun w H4 F5 Gy o5 f5 ly => ?_⟩⟩
            have f45 : Frm M Γa Γc F3 F5 H2 H4 := (f4.trans f5).mono fun s hs => by rw [← hM]; exact hs
            obtain ⟨a1, a2, a3, a4, a5⟩ := lasts o5 f45
            refine ⟨acc, a1, by rw [a2.length]; exact SZ_lt (by omega), rfl, hlt, wipeE Γc vs, ro || (!immut y.d && y.ro), ds ++ [y.d], ?_, by simp; omega, eLi⟩
            -- the list one longer
            have hyG : ∀ a ∈ Gy, (H1 a = none ∧ ∀ s, a ∉ F5 s) ∨ ((!immut y.d && y.ro) = true ∧ I' a) := fun a ha => by
              have ni : immut y.d = false := by
                cases q : immut y.d with
                | false => rfl
                | true => rw [ly.rep.immut q] at ha; cases ha
              have dn : y.deps = [] := by
                rw [ni, Bool.false_or] at hy
                exact List.isEmpty_iff.mp hy
              rcases ly.own a ha with z | ⟨z, z'⟩ | ⟨s, z, _⟩
              · exact .inl ⟨fi.stp.live a (Evl.fresh_back ex2 (f4.stp.live a z.1)), z.2⟩
              · exact .inr ⟨by rw [ni, z]; rfl, z'⟩
              · rw [dn] at z; cases z
            have dy : Dl ∉ Gy := fun m => by
              rcases hyG Dl m with z | ⟨_, z⟩
              · rcases ly.own Dl m with y' | ⟨_, y'⟩ | ⟨s, _, y'⟩
                · have := (f4.stp.keep Dl _ accy fun _ ⟨s, _, z⟩ => dF3 s z)
                  rw [y'.1] at this; cases this
                · exact dI y'
                · exact a5 s y'
              · exact dI z
            have su : Stp (fun b => b = Dl) H4 (upd H4 Dl (.lst (acc ++ [w]))) := Stp.upd rfl fun o q => by
              rw [a1] at q; injection q with q; subst q; trivial
            have o6 : Ok X.K I' F5 σ3 Γc (upd H4 Dl (.lst (acc ++ [w]))) := o5.stp su fun b hb => by
              subst hb
              exact ⟨dI, a5⟩
            refine fin o6 f45 su upd_same ((a2.stp su fun b hb z => dGe (z ▸ hb)).app (by
              have := Reps.cons (ly.rep.stp su fun b hb z => dy (z ▸ hb)) Reps.nil
              simpa using this)) (fun z => (List.mem_append.mp z).elim dGe dy) (fun b hb => ?_) (fun hr => ?_) (jok.stab _ _ _ su (fun b hb z => dG (z ▸ hb)) a4) a5
            · rcases List.mem_append.mp hb with hb | hb
              · exact (a3 b hb).imp id fun z => ⟨by rw [z.1]; rfl, z.2⟩
              · exact (hyG b hb).imp id fun z => ⟨by rw [z.1, Bool.or_true], z.2⟩
            · rw [Bool.or_eq_false_iff] at hr
              refine List.nodup_append.mpr ⟨gn hr.1, ?_, fun b hb c hc e => ?_⟩
              · cases q : immut y.d with
                | true => rw [ly.rep.immut q]; exact List.nodup_nil
                | false =>
                  have := hr.2
                  rw [q] at this
                  exact ly.nd (by simpa using this)
              · subst e
                rcases hyG b hc with z | z
                · rcases ly.own b hc with y' | ⟨y', _⟩ | ⟨s, y', y2⟩
                  · have hb2 := (riy.stp f4.stp (X := _) (F := Ge) fun a ha ⟨s, _, z⟩ => by
                      rcases ge3 a ha with y3 | ⟨_, y3⟩
                      · exact y3.2 s z
                      · exact o3.nI s a z y3).there b hb
                    obtain ⟨_, e, _⟩ := hb2
                    rw [y'.1] at e; cases e
                  · have ni : immut y.d = false := by
                      cases q : immut y.d with
                      | false => rfl
                      | true => rw [ly.rep.immut q] at hc; cases hc
                    have := hr.2
                    rw [ni, y'] at this
                    cases this
                  · exact z.2 s y2
                · rw [hr.2] at z; cases z.1
          · cases eLi
      · -- the end
        have e0 : items.drop i = [] := List.drop_eq_nil_of_le (by omega)
        rw [e0] at eLi
        injection eLi with eLi
        injection eLi with r1 r2
        injection r2 with r2 r3
        subst r1 r2 r3
        have hi2 : i = items.length := by omega
        subst hi2
        refine .inl ⟨jok.stop H' srci, ?_⟩
        -- the slots M as they are now, the others as they were
        have fhM : ∀ s ∈ M, Fh s = F1 s := fun s hs => by
          obtain ⟨m1, m2, _⟩ := hMx s hs
          rw [← hF]
          exact if_neg fun z => z.elim m1 m2
        have mdM : ∀ s ∈ M, md Γi s = md Γ1 s := fun s hs => by
          obtain ⟨m1, m2, _⟩ := hMx s hs
          rw [fi.md s, ← hΓ, md_wipeE, if_neg m2]
          unfold md
          rw [frzA_get, Nat.zero_add, if_neg m1]
        have nX : ∀ a, (∃ s ∈ M, a ∈ Fh s) → ∃ s ∈ M, a ∈ F1 s := fun a ⟨s, hs, h⟩ => ⟨s, hs, by rw [← fhM s hs]; exact h⟩
        have subM : ∀ s ∈ M, ∀ a ∈ Fi s, a ∈ F1 s ∨ H1 a = none := fun s hs a ha => by
          have := fi.sub s a ha
          rw [fhM s hs] at this
          exact this
        have lenF : Γi.length = Γ1.length := by
          have a1 := oi.len
          have a2 := o1.len
          rw [wipe_length] at a1
          omega
        have getB : ∀ j, Γ'[j]? = if j ∈ M then Γi[j]? else Γ1[j]? := fun j => by
          rw [← e']
          split
          · rename_i hm
            rw [List.isEmpty_iff.mp hm]
            simp
          · exact backE_get M Γ1 Γi _ j rfl lenF
        have lenB : Γ'.length = Γ1.length := by
          rw [← e']
          split
          · rfl
          · simp [backE]
        have of : Ok X.K I (fun s => if s ∈ M then Fi s else F1 s) σ Γ' H' := by
          refine ⟨by rw [lenB]; exact o1.len, fun j m d hj => ?_, fun j => ?_, fun j k2 hjk a ha => ?_, fun j a ha => ?_, fun j a ha => ?_, fun a ha z => o1.iv a ha (fi.stp.live a z)⟩
          · rw [getB] at hj
            split at hj
            · rename_i hm
              obtain ⟨m1, m2, m3⟩ := hMx j hm
              obtain ⟨w, G', g1, g2, g3⟩ := oi.at' j m d hj
              rw [wipe_get, if_neg m2] at g1
              refine ⟨w, G', g1, g2, ?_⟩
              have hmd : md Γ1 j = some m := by rw [← mdM j hm]; unfold md; rw [hj]
              have hro : m ≠ .ro := fun z => by
                subst z
                rw [hmd] at m3
                rcases m3 with y | y <;> cases y
              rw [if_neg hro] at g3 ⊢
              show (if j ∈ M then Fi j else F1 j) = G'
              rw [if_pos hm]
              exact g3
            · rename_i hm
              obtain ⟨w, G', g1, g2, g3⟩ := o1.at' j m d hj
              refine ⟨w, G', g1, g2.stp fi.stp fun a ha hx => ?_, ?_⟩
              · obtain ⟨s, hs, h⟩ := nX a hx
                split at g3
                · exact o1.nI s a h (g3 a ha)
                · subst g3
                  exact o1.dj s j (fun z => hm (z ▸ hs)) a h ha
              · split
                · rename_i hr; rw [if_pos hr] at g3; exact g3
                · rename_i hr; rw [if_neg hr] at g3
                  first | exact g3 | (show (if j ∈ M then Fi j else F1 j) = G'; rw [if_neg hm]; exact g3)
          · show (if j ∈ M then Fi j else F1 j).Nodup
            split
            · exact oi.nd j
            · exact o1.nd j
          · have ha' : a ∈ if j ∈ M then Fi j else F1 j := ha
            show a ∉ if k2 ∈ M then Fi k2 else F1 k2
            split at ha'
            · rename_i h1
              split
              · exact oi.dj j k2 hjk a ha'
              · intro z
                rcases subM j h1 a ha' with y | y
                · exact o1.dj j k2 hjk a y z
                · exact o1.lv k2 a z y
            · split
              · rename_i h2
                intro z
                rcases subM k2 h2 a z with y | y
                · exact o1.dj j k2 hjk a ha' y
                · exact o1.lv j a ha' y
              · exact o1.dj j k2 hjk a ha'
          · have ha' : a ∈ if j ∈ M then Fi j else F1 j := ha
            split at ha'
            · intro z
              exact oi.nI j a ha' (by rw [← hI]; exact .inl z)
            · exact o1.nI j a ha'
          · have ha' : a ∈ if j ∈ M then Fi j else F1 j := ha
            split at ha'
            · exact oi.lv j a ha'
            · exact fun z => o1.lv j a ha' (fi.stp.live a z)
        have ff : Frm M Γ1 Γ' F1 (fun s => if s ∈ M then Fi s else F1 s) H1 H' := by
          refine ⟨fi.stp.mono fun a _ h => nX a h, fun s hs => if_neg hs, fun s hs => by rw [getB, if_neg hs], fun s a ha => ?_, fun s => ?_⟩
          · have ha' : a ∈ if s ∈ M then Fi s else F1 s := ha
            split at ha'
            · rename_i hm; exact subM s hm a ha'
            · exact .inl ha'
          · by_cases hm : s ∈ M
            · have : md Γ' s = md Γi s := by unfold md; rw [getB, if_pos hm]
              rw [this, mdM s hm]
            · unfold md
              rw [getB, if_neg hm]
        have fw := f1.trans ff
        have freshB : ∀ a, H1 a = none → (∀ s, a ∉ Fi s) → H a = none ∧ ∀ s, a ∉ (fun s => if s ∈ M then Fi s else F1 s) s := fun a h1 h2 => ⟨f1.stp.live a h1, fun s hs => by
          have hs' : a ∈ if s ∈ M then Fi s else F1 s := hs
          split at hs'
          · exact h2 s hs'
          · exact o1.lv s a hs' h1⟩
        have rl : Rep X.K H' (.ref Dl) (.lst ds) (Dl :: Ge) := .lst hDi ri
        have dl := freshB Dl hD dFi
        have gA : ∀ a ∈ Ge, (H a = none ∧ ∀ s, a ∉ (fun s => if s ∈ M then Fi s else F1 s) s) ∨ (ro = true ∧ I' a) := fun a ha => (ge a ha).imp (fun z => freshB a z.1 z.2) id
        refine k (.ref Dl) H' _ (Dl :: Ge) of fw ?_
        rw [← e]
        split
        · rename_i him
          have e2 := ri.immut him
          subst e2
          exact ⟨rl, fun a ha => by rw [List.mem_singleton.mp ha]; exact .inl dl, fun _ => by simp⟩
        · split
          · refine ⟨rl, fun a ha => ?_, fun z => nomatch z⟩
            rcases List.mem_cons.mp ha with rfl | ha
            · exact .inl dl
            · rcases gA a ha with z | ⟨_, z⟩
              · exact .inl z
              · rw [← hI] at z
                rcases z with z | z | ⟨s, d, z⟩
                · exact .inr (.inl ⟨rfl, z⟩)
                · rcases hG a z with y | ⟨_, y⟩ | ⟨s, d, y⟩
                  · refine .inl ⟨y.1, fun s hs => ?_⟩
                    have hs' : a ∈ if s ∈ M then Fi s else F1 s := hs
                    split at hs'
                    · rename_i hm
                      rcases subM s hm a hs' with q | q
                      · exact y.2 s q
                      · exact hlv a z q
                    · exact y.2 s hs'
                  · exact .inr (.inl ⟨rfl, y⟩)
                  · refine .inr (.inr ⟨s, d, ?_⟩)
                    show a ∈ if s ∈ M then Fi s else F1 s
                    rw [if_neg fun hm => (hMx s hm).1 d]
                    exact y
                · refine .inr (.inr ⟨s, d, ?_⟩)
                  show a ∈ if s ∈ M then Fi s else F1 s
                  rw [if_neg fun hm => (hMx s hm).1 d]
                  exact z
          · rename_i hro
            have hrf : ro = false := by simpa using hro
            refine ⟨rl, fun a ha => ?_, fun _ => List.nodup_cons.mpr ⟨dGe, gn hrf⟩⟩
            rcases List.mem_cons.mp ha with rfl | ha
            · exact .inl dl
            · rcases gA a ha with z | ⟨z, _⟩
              · exact .inl z
              · rw [hrf] at z; cases z
    · cases e
  · cases e
theorem se_lc {own : List (Str × Nat)} {scope : Scope} {t : Tgt} {M1 M2 : List Nat} (hc : X.calm = true) (hN : X.N.Nodup) (hi : SI X N tg a fa) (ok : BlkOk X.N X.env.scope scope own)
    (hg : ∀ (s : Shared) (H : Hp) (C : Addr) (cl : List (Str × Addr)) (fp : List Addr), SG (X.blk s H scope (compEnvC scope cl C X.env) fp) tg t) (ht : ∀ (s : Shared) (H : Hp) (C : Addr) (cl : List (Str × Addr)) (fp : List Addr), STs (X.blk s H scope (compEnvC scope cl C X.env) fp) M1 ifs cs)
    (he : ∀ (s : Shared) (H : Hp) (C : Addr) (cl : List (Str × Addr)) (fp : List Addr), SE (X.blk s H scope (compEnvC scope cl C X.env) fp) M2 elt fe) (hs : ∀ x, foldedSetIterable a X.env x = pure x := by intro _; rfl) :
    SE X (N ++ (M1 ++ M2)) (.ListComp elt [⟨tg, a, ifs, 0⟩] scope pos) (lcF (M1 ++ M2) (own.map (·.2)) t fa cs fe) := ⟨PE.imp (pe_lc (wi := tSemI X.K N fa) (g := tSemG X.K t) (tt := tSemT X.K M1 cs) (te := tSem X.K M2 fe) hc hN hi.pi ok (fun s H C cl fp => (hg s H C cl fp).pg) (fun s H C cl fp => (ht s H C cl fp).pts) (fun s H C cl fp => (he s H C cl fp).pe) hs) fun σ H Q q => sem_lc q⟩
theorem ss_setLc {own : List (Str × Nat)} {scope : Scope} {t : Tgt} {M1 M2 : List Nat} {i : Nat} {y : Str} {py spos : Pos} (hc : X.calm = true) (hN : X.N.Nodup) (hy : X.N[i]? = some y) (hyl : X.env.scope.names.lookup y = some .local)
    (hsw : swapsWith (.ListComp elt [⟨tg, a, ifs, 0⟩] scope pos) (some (.Name y py)) spos.line X.env = pure true) (hi : SI X N tg a fa) (ok : BlkOk X.N X.env.scope scope own)
    (hg : ∀ (s : Shared) (H : Hp) (C : Addr) (cl : List (Str × Addr)) (fp : List Addr), SG (X.blk s H scope (compEnvC scope cl C X.env) fp) tg t) (ht : ∀ (s : Shared) (H : Hp) (C : Addr) (cl : List (Str × Addr)) (fp : List Addr), STs (X.blk s H scope (compEnvC scope cl C X.env) fp) M1 ifs cs)
    (he : ∀ (s : Shared) (H : Hp) (C : Addr) (cl : List (Str × Addr)) (fp : List Addr), SE (X.blk s H scope (compEnvC scope cl C X.env) fp) M2 elt fe) (hs : ∀ x, foldedSetIterable a X.env x = pure x := by intro _; rfl) :
    SS X (.Assign [.Name y py] (.ListComp elt [⟨tg, a, ifs, 0⟩] scope pos) spos) (asgF i (lcF (M1 ++ M2) (own.map (·.2)) t fa cs fe)) := ⟨PS.imp (ps_setLc (wi := tSemI X.K N fa) (g := tSemG X.K t) (tt := tSemT X.K M1 cs) (te := tSem X.K M2 fe) hc hN hy hyl hsw hi.pi ok (fun s H C cl fp => (hg s H C cl fp).pg) (fun s H C cl fp => (ht s H C cl fp).pts) (fun s H C cl fp => (he s H C cl fp).pe) hs) fun Dd σ H q => by
  obtain ⟨I, F, Γ, out, o, e, p⟩ := q
  unfold asgF at e
  split at e
  · cases e
  · rename_i x Γ1 e1
    split at e
    · cases e
    · rename_i Γ2 e2
      injection e with e
      subst e
      refine sem_lc (X := X) ⟨I, F, Γ, x, Γ1, o, e1, fun v H' F' G o' f' l => ?_⟩
      obtain ⟨I2, F2, o2, fr⟩ := put_ok o f' o' l e2
      exact p _ H' I2 F2 o2 fr⟩
end
end VS
/-! VS11: defs of the text: what they promise, how they are called. -/
namespace VS
open PySem L2
/-- a def's worth: from the arguments (whose they are, what they hold) the value (shared or new) and the arguments behind -/
abbrev FF := Env → Option (Bool × D × Env)
/-- the promise -/
def SpOf (K : PySem.W.Frag) (g : FF) : Sp := fun vs H Q _ => ∃ I F Γ r d Γ', Ok K I F (vs.map some) Γ H ∧ (∀ s, md Γ s ≠ some .io → F s = []) ∧ g Γ = some (r, d, Γ') ∧
  ∀ v H' F' G, Ok K I F' (vs.map some) Γ' H' → Frm (List.range Γ.length) Γ Γ' F F' H H' → (∀ s, md Γ s ≠ some .io → F' s = []) → VOk K I F' H H' v ⟨[], r, d⟩ G → Q v H'
/-- all slots are handed in -/
def given? : Env → Bool
  | [] => true
  | some (.io, _) :: Γ => given? Γ
  | some (.ro, _) :: Γ => given? Γ
  | _ => false
/-- the parameters behind -/
def outE : Env → Env → Env
  | [], _ => []
  | s :: Γ, Γ1 => (match s with | some (.io, _) => Γ1.headD none | _ => s) :: outE Γ Γ1.tail
def finF (Γ : Env) (x : Val) (Γ1 : Env) : Option (Bool × D × Env) := if x.deps.any (isIo Γ1) then none else some (!immut x.d && x.ro, x.d, outE Γ Γ1)
def fnF (np ns : Nat) (f : SF) : FF := fun Γ => if Γ.length = np ∧ given? Γ = true then match f (Γ ++ List.replicate (ns - np) none) with
  | some (.ret x Γ1) => finF Γ x Γ1
  | some (.nx Γ1) => finF Γ (nw .non) Γ1
  | _ => none else none
section
theorem md_cons (s : Slot) (Γ : Env) (j : Nat) : md (s :: Γ) (j + 1) = md Γ j := by
  unfold md
  rw [List.getElem?_cons_succ]
theorem outE_get : ∀ (Γ Γ1 : Env) (j : Nat), (outE Γ Γ1)[j]? = if md Γ j = some .io then some ((Γ1[j]?).getD none) else Γ[j]?
  | [], Γ1, j => by simp [outE, md]
  | s :: Γ, Γ1, 0 => by
    unfold outE md
    rw [List.getElem?_cons_zero, List.getElem?_cons_zero]
    cases s with
    | none => rfl
    | some p =>
      obtain ⟨m, d⟩ := p
      cases m with
      | io =>
        rw [if_pos rfl]
        cases Γ1 <;> rfl
      | own => rfl
      | ro => rfl
  | s :: Γ, Γ1, j + 1 => by
    unfold outE
    rw [List.getElem?_cons_succ, md_cons, List.getElem?_cons_succ, outE_get Γ Γ1.tail j]
    cases Γ1 with
    | nil => rfl
    | cons t Γ1 => rw [List.tail_cons, List.getElem?_cons_succ]
theorem outE_len : ∀ (Γ Γ1 : Env), (outE Γ Γ1).length = Γ.length
  | [], Γ1 => rfl
  | s :: Γ, Γ1 => by simp [outE, outE_len Γ Γ1.tail]
theorem md_app {Γ Δ : Env} {s : Nat} (h : ∀ j : Nat, Δ[j]? = none ∨ Δ[j]? = some none) : md (Γ ++ Δ) s = md Γ s := by
  unfold md
  by_cases q : s < Γ.length
  · rw [List.getElem?_append_left q]
  · rw [List.getElem?_append_right (by omega), List.getElem?_eq_none (l := Γ) (by omega)]
    rcases h (s - Γ.length) with e | e <;> rw [e]
theorem rep_none (n j : Nat) : (List.replicate n (none : Slot))[j]? = none ∨ (List.replicate n (none : Slot))[j]? = some none := by
  rw [List.getElem?_replicate]
  split
  · exact .inr rfl
  · exact .inl rfl
variable {K : PySem.W.Frag}
/-- a body's end is the def's end -/
theorem fin_ok {I I' : Addr → Prop} {F F' : Nat → List Addr} {Γ Γ1 Γe : Env} {vs : List V} {σ' : St} {H H' : Hp} {x : Val} {v : V} {G : List Addr} {r : Bool} {d : D} {Γ' : Env} {n : Nat}
    (o : Ok K I F (vs.map some) Γ H) (hF : ∀ s, md Γ s ≠ some .io → F s = []) (eΓ : Γe = Γ ++ List.replicate n none) (o' : Ok K I' F' σ' Γ1 H') (fr : FrS I I' F F' Γe Γ1 (vs.map some ++ List.replicate n none) σ' H H') (l : VOk K I' F' H H' v x G) (e : finF Γ x Γ1 = some (r, d, Γ')) :
    ∃ F2 G2, Ok K I F2 (vs.map some) Γ' H' ∧ Frm (List.range Γ.length) Γ Γ' F F2 H H' ∧ (∀ s, md Γ s ≠ some .io → F2 s = []) ∧ VOk K I F2 H H' v ⟨[], r, d⟩ G2 := by
  unfold finF at e
  split at e
  · cases e
  rename_i nio
  injection e with e
  injection e with e1 e
  injection e with e2 e3
  subst e1 e2 e3
  have mde : ∀ s, md Γe s = md Γ s := fun s => by rw [eΓ, md_app (rep_none n)]
  have dio : ∀ s ∈ x.deps, md Γ1 s ≠ some .io := fun s hs z => nio (List.any_eq_true.mpr ⟨s, hs, isIo_md.mpr z⟩)
  have ioL : ∀ s, md Γ s = some .io → s < Γ.length := fun s h => by
    obtain ⟨d, e⟩ := md_some h
    exact (List.getElem?_eq_some_iff.mp e).1
  have io1 : ∀ s, md Γ s = some .io → ∃ d, Γ1[s]? = some (some (.io, d)) ∧ σ'[s]? = (vs.map some)[s]? := fun s h => by
    have h1 := fr.io s (by rw [mde]; exact h)
    obtain ⟨d, e⟩ := md_some h1.1
    refine ⟨d, e, ?_⟩
    rw [h1.2, List.getElem?_append_left (by rw [o.len]; exact ioL s h)]
  have getO : ∀ s, md Γ s = some .io → (outE Γ Γ1)[s]? = Γ1[s]? := fun s h => by
    obtain ⟨d, e, _⟩ := io1 s h
    rw [outE_get, if_pos h, e]
    rfl
  have getN : ∀ s, md Γ s ≠ some .io → (outE Γ Γ1)[s]? = Γ[s]? := fun s h => by rw [outE_get, if_neg h]
  have mdO : ∀ s, md (outE Γ Γ1) s = md Γ s := fun s => by
    by_cases h : md Γ s = some .io
    · obtain ⟨d, e, _⟩ := io1 s h
      unfold md at h ⊢
      rw [getO s (by unfold md; exact h), e, h]
    · unfold md
      rw [getN s h]
  have hX : ∀ s a, a ∈ F s → md Γ s = some .io := fun s a h => Classical.byContradiction fun z => by rw [hF s z] at h; cases h
  have old : ∀ s a, a ∈ F' s → md Γ s ≠ some .io → H a = none := fun s a h n => by
    rcases fr.fsub s a h with z | ⟨s', z, n'⟩ | z
    · exact absurd (hX s a z) n
    · exact absurd (hX s' a z) (by rw [← mde]; exact n')
    · exact z
  refine ⟨fun s => if md Γ s = some .io then F' s else [], if immut x.d then [] else G, ⟨by rw [outE_len]; exact o.len, fun j m d hj => ?_, fun j => ?_, fun j k hjk a ha => ?_, fun j a ha => ?_, fun j a ha => ?_, fun a ha z => o.iv a ha (fr.stp.live a z)⟩,
    ⟨fr.stp.mono fun a _ ⟨s, h⟩ => ⟨s, List.mem_range.mpr (ioL s (hX s a h)), h⟩, fun s hs => ?_, fun s hs => ?_, fun s a ha => ?_, mdO⟩, fun s hs => if_neg hs, ⟨?_, fun a ha => ?_, fun h => ?_⟩⟩
  · by_cases hm : md Γ j = some .io
    · obtain ⟨d1, e1, s1⟩ := io1 j hm
      rw [getO j hm] at hj
      obtain ⟨w, G', g1, g2, g3⟩ := o'.at' j m d hj
      rw [e1] at hj
      injection hj with hj
      injection hj with hj
      injection hj with h1 h2
      subst h1 h2
      refine ⟨w, G', by rw [← s1]; exact g1, g2, ?_⟩
      rw [if_neg (by decide)] at g3 ⊢
      show (if md Γ j = some .io then F' j else []) = G'
      rw [if_pos hm]
      exact g3
    · rw [getN j hm] at hj
      obtain ⟨w, G', g1, g2, g3⟩ := o.at' j m d hj
      have hmm : md Γ j = some m := by unfold md; rw [hj]
      have gI : ∀ a ∈ G', ∀ s, a ∉ F s := fun a ha s hs => by
        split at g3
        · exact o.nI s a hs (g3 a ha)
        · rw [hF j hm] at g3
          subst g3
          cases ha
      refine ⟨w, G', g1, g2.stp fr.stp fun a ha ⟨s, hs⟩ => gI a ha s hs, ?_⟩
      split
      · rename_i hr; rw [if_pos hr] at g3; exact g3
      · rename_i hr; rw [if_neg hr] at g3
        first | (rw [← g3, hF j hm]) | (show (if md Γ j = some .io then F' j else []) = G'; rw [if_neg hm, ← g3, hF j hm])
  · show (if md Γ j = some .io then F' j else []).Nodup
    split
    · exact o'.nd j
    · exact List.nodup_nil
  · have ha' : a ∈ if md Γ j = some .io then F' j else [] := ha
    show a ∉ if md Γ k = some .io then F' k else []
    split at ha'
    · split
      · exact o'.dj j k hjk a ha'
      · exact fun z => nomatch z
    · cases ha'
  · have ha' : a ∈ if md Γ j = some .io then F' j else [] := ha
    split at ha'
    · exact fun z => o'.nI j a ha' (fr.isub a z)
    · cases ha'
  · have ha' : a ∈ if md Γ j = some .io then F' j else [] := ha
    split at ha'
    · exact o'.lv j a ha'
    · cases ha'
  · show (if md Γ s = some .io then F' s else []) = F s
    rw [if_neg fun z => hs (List.mem_range.mpr (ioL s z)), hF s fun z => hs (List.mem_range.mpr (ioL s z))]
  · exact getN s fun z => hs (List.mem_range.mpr (ioL s z))
  · have ha' : a ∈ if md Γ s = some .io then F' s else [] := ha
    split at ha'
    · rename_i hm
      rcases fr.fsub s a ha' with z | ⟨s', z, n'⟩ | z
      · exact .inl z
      · exact absurd (hX s' a z) (by rw [← mde]; exact n')
      · exact .inr z
    · cases ha'
  · show Rep K H' v x.d (if immut x.d then [] else G)
    split
    · rename_i him
      have := l.rep.immut him
      subst this
      exact l.rep
    · exact l.rep
  · split at ha
    · cases ha
    rename_i him
    have notin : (∀ s, md Γ s = some .io → a ∉ F' s) → ∀ s, a ∉ (fun s => if md Γ s = some .io then F' s else []) s := fun h s hs => by
      have hs' : a ∈ if md Γ s = some .io then F' s else [] := hs
      split at hs'
      · exact h s (by assumption) hs'
      · cases hs'
    rcases l.own a ha with z | ⟨z, z'⟩ | ⟨s, d, z⟩
    · exact .inl ⟨z.1, notin fun s _ => z.2 s⟩
    · rcases fr.inew a z' with y | ⟨s, y, n'⟩ | y
      · refine .inr (.inl ⟨?_, y⟩)
        show (!immut x.d && x.ro) = true
        rw [z]
        simp [him]
      · exact absurd (hX s a y) (by rw [← mde]; exact n')
      · exact .inl ⟨y, notin fun s _ h => o'.nI s a h z'⟩
    · have hs : md Γ s ≠ some .io := fun q => dio s d (fr.io s (by rw [mde]; exact q)).1
      exact .inl ⟨old s a z hs, notin fun s' h' h => o'.dj s' s (fun q => hs (q ▸ h')) a h z⟩
  · split
    · exact List.nodup_nil
    · rename_i him
      have : (!immut x.d && x.ro) = false := h
      exact l.nd (by simpa [him] using this)
/-- a def of the text keeps the promise of what its body means -/
theorem fn_ok {P : Program} {w : World} {mg : Str → Option Value} {base : Heap} {x qual : Str} {st : Stmt} {f : Addr} {fd : FuncData} {N ps : List Str} {k : Nat} {fb : SF} (F : Fun K x qual st f fd) (S : FnScope N ps (defScope st)) {np : Nat} (hp : ps.length = np) (hle : np ≤ N.length)
    (hbody : ∀ (cdv : Value) (A : Around) (outer : List PySem.Env) (s : Shared) (H : Hp) (E : XK), Room k (A.deeper (PyProof.Rows.envOfC qual (defScope st) s.heap.objs.size f cdv)) → SB (cxOf CX0 P w K mg base N qual (defScope st) f cdv A outer s H E).nox (defBody st) fb) :
    FnOk P w K mg base CX0 (k + 1) f fd ps (SpOf K (fnF np N.length fb)) := by
  refine F.ok S (fun vs H Q E h => ?_) (fun cdv A outer s H vs Q E hr h => ?_)
  · obtain ⟨I, F0, Γ, r, d, Γ', o, hF, e, _⟩ := h
    unfold fnF at e
    split at e
    · rename_i h
      have := o.len
      rw [List.length_map] at this
      omega
    · cases e
  · obtain ⟨I, F0, Γ, r, d, Γ', o, hF, e, k⟩ := h
    refine ⟨_, (hbody cdv A outer s H E hr).pss, ?_⟩
    unfold fnF at e
    split at e
    · rename_i hg
      have hl : vs.length = np := by
        have := o.len
        rw [List.length_map] at this
        omega
      have oe : Ok K I F0 (L2.start N vs) (Γ ++ List.replicate (N.length - np) none) H := by
        refine ⟨?_, fun j m d hj => ?_, o.nd, o.dj, o.nI, o.lv, o.iv⟩
        · unfold L2.start
          rw [List.length_append, List.length_append, o.len, List.length_replicate, List.length_replicate, hl]
        · by_cases q : j < Γ.length
          · rw [List.getElem?_append_left q] at hj
            obtain ⟨v, G, h1, h2, h3⟩ := o.at' j m d hj
            refine ⟨v, G, ?_, h2, h3⟩
            unfold L2.start
            rw [List.getElem?_append_left (by rw [o.len]; exact q)]
            exact h1
          · rw [List.getElem?_append_right (by omega)] at hj
            rcases rep_none (N.length - np) (j - Γ.length) with z | z <;> rw [z] at hj <;> cases hj
      have est : L2.start N vs = vs.map some ++ List.replicate (N.length - np) none := by unfold L2.start; rw [hl]
      rw [est] at oe ⊢
      split at e
      · rename_i x1 Γ1 e1
        refine ⟨I, F0, _, _, oe, e1, fun σ' v H' I' F' G o' fr l => ?_⟩
        obtain ⟨F2, G2, h1, h2, h3, h4⟩ := fin_ok o hF rfl o' fr l e
        exact k v H' F2 G2 h1 h2 h3 h4
      · rename_i Γ1 e1
        refine ⟨I, F0, _, _, oe, e1, fun σ' H' I' F' o' fr => ?_⟩
        obtain ⟨F2, G2, h1, h2, h3, h4⟩ := fin_ok o hF rfl o' fr (VOk.flat .non) e
        exact k .non H' F2 G2 h1 h2 h3 h4
      · cases e
    · cases e
end
end VS
/-! VS12: calls of defs of the text. -/
namespace VS
open PySem L2
inductive Arg where
  | v (x : Val) | s (i : Nat)
abbrev AgF := Env → Option (List Arg × Env)
inductive ArgsOk (K : PySem.W.Frag) (I : Addr → Prop) (F : Nat → List Addr) (σ : L2.St) (H H' : Hp) : List V → List Arg → List (List Addr) → Prop
  | nil : ArgsOk K I F σ H H' [] [] []
  | val {v : V} {x : Val} {G : List Addr} {vs : List V} {xs : List Arg} {Gs : List (List Addr)} : VOk K I F H H' v x G → (∀ a ∈ G, ¬ I a → (∀ s, a ∉ F s) → ∀ G' ∈ Gs, a ∉ G') → ArgsOk K I F σ H H' vs xs Gs → ArgsOk K I F σ H H' (v :: vs) (.v x :: xs) (G :: Gs)
  | slot {v : V} {i : Nat} {vs : List V} {xs : List Arg} {Gs : List (List Addr)} : σ[i]? = some (some v) → ArgsOk K I F σ H H' vs xs Gs → ArgsOk K I F σ H H' (v :: vs) (.s i :: xs) ([] :: Gs)
def tSemA (K : PySem.W.Frag) (M : List Nat) (f : AgF) : TA := fun σ H Q => ∃ I F Γ x Γ', Ok K I F σ Γ H ∧ f Γ = some (x, Γ') ∧
  ∀ vs H' F' Gs, Ok K I F' σ Γ' H' → Frm M Γ Γ' F F' H H' → ArgsOk K I F' σ H H' vs x Gs → Q vs H'
structure SA (X : Cx) (M : List Nat) (es : List Expr) (f : AgF) : Prop where
  pa : PA X es (tSemA X.K M f)
def nilA : AgF := fun Γ => some ([], Γ)
def consV (N : List Nat) (fa : EF) (fs : AgF) : AgF := fun Γ => match fa Γ with
  | none => none
  | some (x, Γ1) => match fs Γ1 with
    | none => none
    | some (xs, Γ2) => if lastOk N x then some (.v x :: xs, Γ2) else none
def consS (i : Nat) (fs : AgF) : AgF := fun Γ => match Γ[i]? with
  | some (some _) => match fs Γ with
    | none => none
    | some (xs, Γ2) => some (.s i :: xs, Γ2)
  | _ => none
section
variable {K : PySem.W.Frag} {I : Addr → Prop} {F : Nat → List Addr} {σ : L2.St} {Γ : Env} {H H1 H' : Hp}
/-- the footprints of values that have been reckoned -/
theorem ArgsOk.from {vs : List V} {xs : List Arg} {Gs : List (List Addr)} (h : ArgsOk K I F σ H H' vs xs Gs) : ∀ G ∈ Gs, ∀ a ∈ G, (H a = none ∧ ∀ s, a ∉ F s) ∨ I a ∨ ∃ s, a ∈ F s := by
  induction h with
  | nil => exact fun _ z => nomatch z
  | val l _ _ ih =>
    intro G hG a ha
    rcases List.mem_cons.mp hG with rfl | hG
    · rcases l.own a ha with z | ⟨_, z⟩ | ⟨s, _, z⟩
      · exact .inl z
      · exact .inr (.inl z)
      · exact .inr (.inr ⟨s, z⟩)
    · exact ih G hG a ha
  | slot _ _ ih =>
    intro G hG a ha
    rcases List.mem_cons.mp hG with rfl | hG
    · cases ha
    · exact ih G hG a ha
theorem ArgsOk.back {vs : List V} {xs : List Arg} {Gs : List (List Addr)} (h : ArgsOk K I F σ H1 H' vs xs Gs) (l : ∀ a, H1 a = none → H a = none) : ArgsOk K I F σ H H' vs xs Gs := by
  induction h with
  | nil => exact .nil
  | val q d _ ih => exact .val (q.back l) d ih
  | slot e _ ih => exact .slot e ih
end
section
variable {X : Cx} {a b c : Expr} {es : List Expr} {M N L : List Nat} {fa fb fc : EF} {fs : AgF} {pos : Pos}
theorem sa_nil : SA X [] [] nilA := ⟨PA.imp pa_nil fun σ H Q q => by
  obtain ⟨I, F, Γ, x, Γ', o, e, k⟩ := q
  injection e with e
  injection e with e e'
  subst e e'
  exact k [] H F [] o (Frm.refl _ _ _) .nil⟩
theorem sa_val (ha : SE X M a fa) (hs : SA X N es fs) (hst : starEach (a :: es) X.env = (false, eval a X.env) :: starEach es X.env := by rfl) : SA X (M ++ N) (a :: es) (consV N fa fs) := ⟨PA.imp (pa_cons ha.pe hs.pa hst) fun σ H Q q => by
  obtain ⟨I, F, Γ, x, Γ', o, e, k⟩ := q
  unfold consV at e
  split at e
  · cases e
  · rename_i x1 Γ1 e1
    split at e
    · cases e
    · rename_i xs Γ2 e2
      split at e
      · rename_i hl
        injection e with e
        injection e with e e'
        subst e e'
        refine ⟨I, F, Γ, _, _, o, e1, fun v H1 F1 G1 o1 f1 hx => ⟨I, F1, Γ1, _, _, o1, e2, fun vs H2 F2 Gs o2 f2 hy => ?_⟩⟩
        have l1 := hx.lastB hl o1 f2 o2
        refine k (v :: vs) H2 F2 (G1 :: Gs) o2 (f1.trans f2) (.val l1 (fun a ha nI nF G' hG' hb => ?_) (hy.back f1.stp.live))
        rcases hy.from G' hG' a hb with z | z | ⟨s, z⟩
        · obtain ⟨_, e, _⟩ := hx.rep.there a ha
          rw [z.1] at e; cases e
        · exact nI z
        · exact nF s z
      · cases e⟩
theorem sa_slot {i : Nat} {x : Str} {p : Pos} (h : PE X (.Name x p) (tVar i)) (hs : SA X N es fs) (hst : starEach (.Name x p :: es) X.env = (false, eval (.Name x p) X.env) :: starEach es X.env := by rfl) : SA X N (.Name x p :: es) (consS i fs) := ⟨PA.imp (pa_cons h hs.pa hst) fun σ H Q q => by
  obtain ⟨I, F, Γ, x, Γ', o, e, k⟩ := q
  unfold consS at e
  split at e
  · rename_i md hd
    obtain ⟨m, d⟩ := md
    split at e
    · cases e
    · rename_i xs Γ2 e2
      injection e with e
      injection e with e e'
      subst e e'
      obtain ⟨v, G, h1, h2, h3⟩ := o.at' i m d hd
      exact ⟨v, h1, I, F, Γ, _, _, o, e2, fun vs H2 F2 Gs o2 f2 hy => k (v :: vs) H2 F2 ([] :: Gs) o2 f2 (.slot h1 hy)⟩
  · cases e⟩
end
/-- the callee's environment: true: handed in to be written -/
def calE (Γ : Env) : List Arg → List Bool → Option Env
  | [], [] => some []
  | .s i :: xs, true :: ks => match Γ[i]? with
    | some (some (.own, d)) => (calE Γ xs ks).map (some (.io, d) :: ·)
    | some (some (.io, d)) => (calE Γ xs ks).map (some (.io, d) :: ·)
    | _ => none
  | .v x :: xs, true :: ks => if x.deps.isEmpty && !x.ro then (calE Γ xs ks).map (some (.io, x.d) :: ·) else none
  | .v x :: xs, false :: ks => (calE Γ xs ks).map (some (.ro, x.d) :: ·)
  | _, _ => none
def slotsA : List Arg → List Nat
  | [] => []
  | .s i :: xs => i :: slotsA xs
  | .v _ :: xs => slotsA xs
/-- what the arguments that are read share with -/
def depsA : List Arg → List Bool → List Nat
  | .v x :: xs, false :: ks => x.deps ++ depsA xs ks
  | _ :: xs, _ :: ks => depsA xs ks
  | _, _ => []
/-- the slots that were handed in to be written, behind -/
def bckA (Γ : Env) : List Arg → Env → Env
  | [], _ => Γ
  | .s i :: xs, t :: Γc => match Γ[i]?, t with
    | some (some (m, _)), some (_, d) => (bckA Γ xs Γc).set i (some (m, d))
    | _, _ => bckA Γ xs Γc
  | .v _ :: xs, _ :: Γc => bckA Γ xs Γc
  | _ :: xs, [] => bckA Γ xs []
def nodupN : List Nat → Bool
  | [] => true
  | x :: xs => !xs.contains x && nodupN xs
def calF (g : FF) (ks : List Bool) (M0 : List Nat) (fs : AgF) : EF := fun Γ => match fs Γ with
  | none => none
  | some (xs, Γ1) => match calE Γ1 xs ks with
    | none => none
    | some Γc => if nodupN (slotsA xs) && ((depsA xs ks).all fun s => !(slotsA xs).contains s) && (slotsA xs).all M0.contains then match g Γc with
      | none => none
      | some (r, d, Γc') => some (if r then ⟨depsA xs ks, true, d⟩ else nw d, bckA Γ1 xs Γc') else none

section
variable {K : PySem.W.Frag} {I : Addr → Prop} {F : Nat → List Addr} {σ : L2.St} {Γ : Env} {H H1 H' : Hp}
theorem ArgsOk.atV {vs : List V} {xs : List Arg} {Gs : List (List Addr)} (h : ArgsOk K I F σ H H' vs xs Gs) : ∀ {i : Nat} {x : Val}, xs[i]? = some (.v x) → ∃ v G, vs[i]? = some v ∧ Gs[i]? = some G ∧ VOk K I F H H' v x G ∧ (∀ a ∈ G, ¬ I a → (∀ s, a ∉ F s) → ∀ (j : Nat) G', i < j → Gs[j]? = some G' → a ∉ G') := by
  induction h with
  | nil => intro i x e; simp at e
  | val l d h ih =>
    intro i x e
    cases i with
    | zero =>
      simp at e
      subst e
      refine ⟨_, _, rfl, rfl, l, fun a ha nI nF j G' hj hG => ?_⟩
      cases j with
      | zero => omega
      | succ j =>
        rw [List.getElem?_cons_succ] at hG
        exact d a ha nI nF G' (List.mem_of_getElem? hG)
    | succ i =>
      obtain ⟨v, G, h1, h2, h3, h4⟩ := ih (by simpa using e)
      refine ⟨v, G, by simpa using h1, by simpa using h2, h3, fun a ha nI nF j G' hj hG => ?_⟩
      cases j with
      | zero => omega
      | succ j => exact h4 a ha nI nF j G' (by omega) (by simpa using hG)
  | slot e0 h ih =>
    intro i x e
    cases i with
    | zero => simp at e
    | succ i =>
      obtain ⟨v, G, h1, h2, h3, h4⟩ := ih (by simpa using e)
      refine ⟨v, G, by simpa using h1, by simpa using h2, h3, fun a ha nI nF j G' hj hG => ?_⟩
      cases j with
      | zero => omega
      | succ j => exact h4 a ha nI nF j G' (by omega) (by simpa using hG)
theorem ArgsOk.atS {vs : List V} {xs : List Arg} {Gs : List (List Addr)} (h : ArgsOk K I F σ H H' vs xs Gs) : ∀ {i s : Nat}, xs[i]? = some (.s s) → ∃ v, vs[i]? = some v ∧ σ[s]? = some (some v) := by
  induction h with
  | nil => intro i x e; simp at e
  | val l d h ih =>
    intro i x e
    cases i with
    | zero => simp at e
    | succ i => simpa using ih (by simpa using e)
  | slot e0 h ih =>
    intro i x e
    cases i with
    | zero =>
      simp at e
      subst e
      exact ⟨_, rfl, e0⟩
    | succ i => simpa using ih (by simpa using e)
theorem ArgsOk.len {vs : List V} {xs : List Arg} {Gs : List (List Addr)} (h : ArgsOk K I F σ H H' vs xs Gs) : vs.length = xs.length := by
  induction h with
  | nil => rfl
  | val _ _ _ ih => simp [ih]
  | slot _ _ ih => simp [ih]
/-- what an argument's slot is in the callee -/
inductive ArgAt (Γ : Env) (xs : List Arg) (ks : List Bool) (i : Nat) (m : Md) (d : D) : Prop
  | sl (s : Nat) (m0 : Md) : xs[i]? = some (.s s) → ks[i]? = some true → Γ[s]? = some (some (m0, d)) → m0 ≠ .ro → m = .io → ArgAt Γ xs ks i m d
  | io (x : Val) : xs[i]? = some (.v x) → ks[i]? = some true → x.deps = [] → x.ro = false → d = x.d → m = .io → ArgAt Γ xs ks i m d
  | ro (x : Val) : xs[i]? = some (.v x) → ks[i]? = some false → d = x.d → m = .ro → ArgAt Γ xs ks i m d
theorem ArgAt.succ {xs : List Arg} {ks : List Bool} {i : Nat} {m : Md} {d : D} {y : Arg} {k : Bool} (h : ArgAt Γ xs ks i m d) : ArgAt Γ (y :: xs) (k :: ks) (i + 1) m d := by
  cases h with
  | sl s m0 h1 h2 h3 h4 h5 => exact .sl s m0 (by simpa using h1) (by simpa using h2) h3 h4 h5
  | io x h1 h2 h3 h4 h5 h6 => exact .io x (by simpa using h1) (by simpa using h2) h3 h4 h5 h6
  | ro x h1 h2 h3 h4 => exact .ro x (by simpa using h1) (by simpa using h2) h3 h4
theorem calE_at : ∀ {xs : List Arg} {ks : List Bool} {Γc : Env}, calE Γ xs ks = some Γc → Γc.length = xs.length ∧ ∀ (i : Nat) (sl : Slot), Γc[i]? = some sl → ∃ m d, sl = some (m, d) ∧ ArgAt Γ xs ks i m d
  | [], [], Γc, e => by
    injection e with e
    subst e
    exact ⟨rfl, fun i sl h => by simp at h⟩
  | .s s :: xs, true :: ks, Γc, e => by
    unfold calE at e
    split at e
    · rename_i d hd
      obtain ⟨Γt, et, rfl⟩ := Option.map_eq_some_iff.mp e
      obtain ⟨h1, h2⟩ := calE_at et
      refine ⟨by simp [h1], fun i sl h => ?_⟩
      cases i with
      | zero =>
        simp at h
        subst h
        exact ⟨_, _, rfl, .sl s .own rfl rfl hd (by decide) rfl⟩
      | succ i =>
        obtain ⟨m, d, q1, q2⟩ := h2 i sl (by simpa using h)
        exact ⟨m, d, q1, q2.succ⟩
    · rename_i d hd
      obtain ⟨Γt, et, rfl⟩ := Option.map_eq_some_iff.mp e
      obtain ⟨h1, h2⟩ := calE_at et
      refine ⟨by simp [h1], fun i sl h => ?_⟩
      cases i with
      | zero =>
        simp at h
        subst h
        exact ⟨_, _, rfl, .sl s .io rfl rfl hd (by decide) rfl⟩
      | succ i =>
        obtain ⟨m, d, q1, q2⟩ := h2 i sl (by simpa using h)
        exact ⟨m, d, q1, q2.succ⟩
    · cases e
  | .v x :: xs, true :: ks, Γc, e => by
    unfold calE at e
    split at e
    · rename_i hx
      rw [Bool.and_eq_true] at hx
      obtain ⟨Γt, et, rfl⟩ := Option.map_eq_some_iff.mp e
      obtain ⟨h1, h2⟩ := calE_at et
      refine ⟨by simp [h1], fun i sl h => ?_⟩
      cases i with
      | zero =>
        simp at h
        subst h
        exact ⟨_, _, rfl, .io x rfl rfl (List.isEmpty_iff.mp hx.1) (by simpa using hx.2) rfl rfl⟩
      | succ i =>
        obtain ⟨m, d, q1, q2⟩ := h2 i sl (by simpa using h)
        exact ⟨m, d, q1, q2.succ⟩
    · cases e
  | .v x :: xs, false :: ks, Γc, e => by
    unfold calE at e
    obtain ⟨Γt, et, rfl⟩ := Option.map_eq_some_iff.mp e
    obtain ⟨h1, h2⟩ := calE_at et
    refine ⟨by simp [h1], fun i sl h => ?_⟩
    cases i with
    | zero =>
      simp at h
      subst h
      exact ⟨_, _, rfl, .ro x rfl rfl rfl rfl⟩
    | succ i =>
      obtain ⟨m, d, q1, q2⟩ := h2 i sl (by simpa using h)
      exact ⟨m, d, q1, q2.succ⟩
  | [], _ :: _, _, e => by cases e
  | .s _ :: _, [], _, e => by cases e
  | .v _ :: _, [], _, e => by cases e
  | .s _ :: _, false :: _, _, e => by cases e
theorem slotsA_mem : ∀ {xs : List Arg} {s : Nat}, s ∈ slotsA xs ↔ ∃ i : Nat, xs[i]? = some (Arg.s s)
  | [], s => by simp [slotsA]
  | .s j :: xs, s => by
    constructor
    · intro h
      rcases List.mem_cons.mp h with rfl | h
      · exact ⟨0, rfl⟩
      · obtain ⟨i, e⟩ := slotsA_mem.mp h
        exact ⟨i + 1, by simpa using e⟩
    · rintro ⟨i, e⟩
      cases i with
      | zero => simp at e; subst e; exact List.mem_cons_self
      | succ i => exact List.mem_cons_of_mem _ (slotsA_mem.mpr ⟨i, by simpa using e⟩)
  | .v x :: xs, s => by
    constructor
    · intro h
      obtain ⟨i, e⟩ := slotsA_mem.mp (show s ∈ slotsA xs from h)
      exact ⟨i + 1, by simpa using e⟩
    · rintro ⟨i, e⟩
      cases i with
      | zero => simp at e
      | succ i =>
        have e' : xs[i]? = some (Arg.s s) := by simpa using e
        exact (slotsA_mem (xs := xs)).mpr ⟨i, e'⟩
theorem nodupN_inj : ∀ {xs : List Arg}, nodupN (slotsA xs) = true → ∀ {i j s : Nat}, xs[i]? = some (.s s) → xs[j]? = some (.s s) → i = j
  | [], _, i, j, s, h, _ => by simp at h
  | .s k :: xs, hn, i, j, s, hi, hj => by
    have hn' : (!(slotsA xs).contains k && nodupN (slotsA xs)) = true := hn
    rw [Bool.and_eq_true] at hn'
    have nk : k ∉ slotsA xs := by simpa using hn'.1
    cases i with
    | zero =>
      cases j with
      | zero => rfl
      | succ j =>
        simp at hi hj
        subst hi
        exact absurd (slotsA_mem.mpr ⟨j, hj⟩) nk
    | succ i =>
      cases j with
      | zero =>
        simp at hi hj
        subst hj
        exact absurd (slotsA_mem.mpr ⟨i, hi⟩) nk
      | succ j => exact congrArg (· + 1) (nodupN_inj hn'.2 (by simpa using hi) (by simpa using hj))
  | .v x :: xs, hn, i, j, s, hi, hj => by
    cases i with
    | zero => simp at hi
    | succ i =>
      cases j with
      | zero => simp at hj
      | succ j => exact congrArg (· + 1) (nodupN_inj (xs := xs) hn (by simpa using hi) (by simpa using hj))
theorem depsA_mem : ∀ {xs : List Arg} {ks : List Bool} {i : Nat} {x : Val} {s : Nat}, xs[i]? = some (.v x) → ks[i]? = some false → s ∈ x.deps → s ∈ depsA xs ks
  | [], _, i, x, s, h, _, _ => by simp at h
  | _ :: _, [], i, x, s, _, h, _ => by simp at h
  | y :: xs, k :: ks, 0, x, s, h1, h2, h3 => by
    simp at h1 h2
    subst h1 h2
    exact List.mem_append_left _ h3
  | y :: xs, k :: ks, i + 1, x, s, h1, h2, h3 => by
    have := depsA_mem (xs := xs) (ks := ks) (by simpa using h1) (by simpa using h2) h3
    cases y with
    | s j => cases k <;> exact this
    | v z =>
      cases k with
      | true => exact this
      | false => exact List.mem_append_right _ this
theorem bckA_len : ∀ {xs : List Arg} {Γc : Env}, (bckA Γ xs Γc).length = Γ.length
  | [], _ => rfl
  | .s i :: xs, t :: Γc => by
    unfold bckA
    split
    · rw [List.length_set]; exact bckA_len
    · exact bckA_len
  | .v _ :: xs, _ :: Γc => by unfold bckA; exact bckA_len
  | .s _ :: xs, [] => by unfold bckA; exact bckA_len
  | .v _ :: xs, [] => by unfold bckA; exact bckA_len
theorem bckA_out : ∀ {xs : List Arg} {Γc : Env} {j : Nat}, j ∉ slotsA xs → (bckA Γ xs Γc)[j]? = Γ[j]?
  | [], _, j, _ => rfl
  | .s i :: xs, t :: Γc, j, h => by
    have h1 : j ≠ i := fun z => h (by rw [z]; exact List.mem_cons_self)
    have h2 : j ∉ slotsA xs := fun z => h (List.mem_cons_of_mem _ z)
    unfold bckA
    split
    · rw [List.getElem?_set_ne (Ne.symm h1)]; exact bckA_out h2
    · exact bckA_out h2
  | .v _ :: xs, _ :: Γc, j, h => by unfold bckA; exact bckA_out h
  | .s i :: xs, [], j, h => by unfold bckA; exact bckA_out fun z => h (List.mem_cons_of_mem _ z)
  | .v _ :: xs, [], j, h => by unfold bckA; exact bckA_out h
theorem bckA_in : ∀ {xs : List Arg} {Γc : Env} {i s : Nat} {m m' : Md} {d d0 : D}, nodupN (slotsA xs) = true → xs[i]? = some (.s s) → Γ[s]? = some (some (m, d0)) → Γc[i]? = some (some (m', d)) → (bckA Γ xs Γc)[s]? = some (some (m, d))
  | [], _, i, s, m, m', d, d0, _, h, _, _ => by simp at h
  | .s k :: xs, t :: Γc, i, s, m, m', d, d0, hn, h1, h2, h3 => by
    have hn' : (!(slotsA xs).contains k && nodupN (slotsA xs)) = true := hn
    rw [Bool.and_eq_true] at hn'
    have nk : k ∉ slotsA xs := by simpa using hn'.1
    unfold bckA
    cases i with
    | zero =>
      simp at h1 h3
      subst h1 h3
      rw [h2]
      show ((bckA Γ xs Γc).set k (some (m, d)))[k]? = _
      rw [List.getElem?_set_self (by rw [bckA_len]; exact (List.getElem?_eq_some_iff.mp h2).1)]
    | succ i =>
      have hx : xs[i]? = some (.s s) := by simpa using h1
      have ne : k ≠ s := fun z => nk (slotsA_mem.mpr ⟨i, by rw [z]; exact hx⟩)
      have := bckA_in (Γc := Γc) hn'.2 hx h2 (by simpa using h3)
      split
      · rw [List.getElem?_set_ne ne]; exact this
      · exact this
  | .v x :: xs, t :: Γc, i, s, m, m', d, d0, hn, h1, h2, h3 => by
    unfold bckA
    cases i with
    | zero => simp at h1
    | succ i => exact bckA_in (show nodupN (slotsA xs) = true from hn) (by simpa using h1) h2 (by simpa using h3)
  | .s _ :: xs, [], i, s, m, m', d, d0, hn, h1, h2, h3 => by simp at h3
  | .v _ :: xs, [], i, s, m, m', d, d0, hn, h1, h2, h3 => by simp at h3

open Classical in
/-- a call, its arguments reckoned -/
theorem call_core {I : Addr → Prop} {F Fs : Nat → List Addr} {σ : L2.St} {Γ Γs Γc Γc' : Env} {M0 : List Nat} {H0 H1 : Hp} {vs : List V} {xs : List Arg} {ks : List Bool} {Gs : List (List Addr)} {g : FF} {r : Bool} {d : D} {Q : VK} {E : XK}
    (o : Ok K I F σ Γ H1) (f0 : Frm M0 Γs Γ Fs F H0 H1) (iv0 : ∀ a, I a → H0 a ≠ none) (ar : ArgsOk K I F σ H0 H1 vs xs Gs) (ec : calE Γ xs ks = some Γc) (hn : nodupN (slotsA xs) = true) (hd : ∀ s ∈ depsA xs ks, s ∉ slotsA xs) (eg : g Γc = some (r, d, Γc'))
    (k : ∀ v H' F' G, Ok K I F' σ (bckA Γ xs Γc') H' → Frm (M0 ++ slotsA xs) Γs (bckA Γ xs Γc') Fs F' H0 H' → VOk K I F' H0 H' v (if r then ⟨depsA xs ks, true, d⟩ else nw d) G → Q v H') : SpOf K g vs H1 Q E := by
  obtain ⟨cl, ca⟩ := calE_at ec
  -- the callee's footprints, what it must not write
  generalize hI : (fun a => I a ∨ ∃ (i : Nat) (x : Val) (G : List Addr), xs[i]? = some (Arg.v x) ∧ ks[i]? = some false ∧ Gs[i]? = some G ∧ a ∈ G) = Ic
  generalize hF : (fun (i : Nat) => match xs[i]?, ks[i]? with
    | some (Arg.s j), some true => F j
    | some (Arg.v _), some true => (Gs[i]?).getD []
    | _, _ => []) = Fc
  have fS : ∀ {i s : Nat}, xs[i]? = some (.s s) → ks[i]? = some true → Fc i = F s := fun h1 h2 => by rw [← hF]; simp only [h1, h2]
  have fV : ∀ {i : Nat} {x : Val} {G : List Addr}, xs[i]? = some (.v x) → ks[i]? = some true → Gs[i]? = some G → Fc i = G := fun h1 h2 h3 => by rw [← hF]; simp only [h1, h2, h3]; rfl
  have fN : ∀ {i : Nat}, ks[i]? ≠ some true → Fc i = [] := fun {i} h => by
    rw [← hF]
    show (match xs[i]?, ks[i]? with
      | some (Arg.s j), some true => F j
      | some (Arg.v _), some true => (Gs[i]?).getD []
      | _, _ => []) = []
    split
    · rename_i h2; exact absurd h2 h
    · rename_i h2; exact absurd h2 h
    · rfl
  -- whence what stands in a callee's footprint
  have fC : ∀ {i : Nat} {a : Addr}, a ∈ Fc i → (∃ s, xs[i]? = some (.s s) ∧ ks[i]? = some true ∧ a ∈ F s) ∨ ∃ x G, xs[i]? = some (.v x) ∧ ks[i]? = some true ∧ Gs[i]? = some G ∧ a ∈ G := fun {i a} h => by
    by_cases hk : ks[i]? = some true
    · cases hx : xs[i]? with
      | none =>
        have : Fc i = [] := by
          rw [← hF]
          show (match xs[i]?, ks[i]? with
            | some (Arg.s j), some true => F j
            | some (Arg.v _), some true => (Gs[i]?).getD []
            | _, _ => []) = []
          rw [hx]
        rw [this] at h; cases h
      | some y =>
        cases y with
        | s s => rw [fS hx hk] at h; exact .inl ⟨s, rfl, hk, h⟩
        | v x =>
          obtain ⟨v, G, h1, h2, _⟩ := ar.atV hx
          rw [fV hx hk h2] at h
          exact .inr ⟨x, G, rfl, hk, h2, h⟩
    · rw [fN hk] at h; cases h
  have lenA := ar.len
  -- new values that are handed in to be written
  have ioV : ∀ {i : Nat} {x : Val} {G : List Addr}, xs[i]? = some (.v x) → ks[i]? = some true → Gs[i]? = some G → (x.deps = [] ∧ x.ro = false) ∧ ∃ v, vs[i]? = some v ∧ Rep K H1 v x.d G ∧ G.Nodup ∧ (∀ a ∈ G, H0 a = none ∧ ∀ s, a ∉ F s) ∧ ∀ a ∈ G, ∀ (j : Nat) G', i < j → Gs[j]? = some G' → a ∉ G' := fun {i x G} h1 h2 h3 => by
    have hi : i < Γc.length := by rw [cl]; exact (List.getElem?_eq_some_iff.mp h1).1
    obtain ⟨m, d, _, q⟩ := ca i _ (List.getElem?_eq_getElem hi)
    have hx : x.deps = [] ∧ x.ro = false := by
      cases q with
      | sl s m0 e1 => rw [h1] at e1; cases e1
      | io y e1 _ e3 e4 => rw [h1] at e1; cases e1; exact ⟨e3, e4⟩
      | ro y e1 e2 => rw [h2] at e2; cases e2
    obtain ⟨v, G2, q1, q2, q3, q4⟩ := ar.atV h1
    rw [h3] at q2; cases q2
    have fr : ∀ a ∈ G, H0 a = none ∧ ∀ s, a ∉ F s := fun a ha => by
      rcases q3.own a ha with z | ⟨z, _⟩ | ⟨s, z, _⟩
      · exact z
      · rw [hx.2] at z; cases z
      · rw [hx.1] at z; cases z
    exact ⟨hx, v, q1, q3.rep, q3.nd hx.2, fr, fun a ha => q4 a ha (fun z => iv0 a z (fr a ha).1) (fr a ha).2⟩
  have sltX : ∀ {i s : Nat}, xs[i]? = some (.s s) → ks[i]? = some true := fun {i s} h => by
    have hi : i < Γc.length := by rw [cl]; exact (List.getElem?_eq_some_iff.mp h).1
    obtain ⟨m, d, _, q⟩ := ca i _ (List.getElem?_eq_getElem hi)
    cases q with
    | sl s m0 _ e2 => exact e2
    | io y e1 => rw [h] at e1; cases e1
    | ro y e1 => rw [h] at e1; cases e1
  -- what is read lies apart from what is written
  have apart : ∀ {i : Nat} {a : Addr}, a ∈ Fc i → ¬ Ic a := fun {i a} h hz => by
    rw [← hI] at hz
    rcases fC h with ⟨s, e1, e2, h⟩ | ⟨x, G, e1, e2, e3, h⟩
    · rcases hz with z | ⟨j, y, G', g1, g2, g3, g4⟩
      · exact o.nI s a h z
      · obtain ⟨v, G2, q1, q2, q3, _⟩ := ar.atV g1
        rw [g3] at q2; cases q2
        rcases q3.own a g4 with z | ⟨_, z⟩ | ⟨s', z, z'⟩
        · exact z.2 s h
        · exact o.nI s a h z
        · have : s' ≠ s := fun w => hd s' (depsA_mem g1 g2 z) (slotsA_mem.mpr ⟨i, by rw [w]; exact e1⟩)
          exact o.dj s' s this a z' h
    · obtain ⟨hx, v, r1, r2, r3, r4, r5⟩ := ioV e1 e2 e3
      rcases hz with z | ⟨j, y, G', g1, g2, g3, g4⟩
      · exact iv0 a z (r4 a h).1
      · have nij : i ≠ j := fun w => by subst w; rw [e2] at g2; cases g2
        by_cases lt : i < j
        · exact r5 a h j G' lt g3 g4
        · obtain ⟨v2, G2, q1, q2, q3, q4⟩ := ar.atV g1
          rw [g3] at q2; cases q2
          exact q4 a g4 (fun z => iv0 a z (r4 a h).1) (r4 a h).2 i G (by omega) e3 h
  have oc : Ok K Ic Fc (vs.map some) Γc H1 := by
    refine ⟨by rw [List.length_map, lenA, cl], fun j m d hj => ?_, fun j => ?_, fun j k2 hjk a ha hb => ?_, fun j a ha => apart ha, fun j a ha => ?_, fun a ha => ?_⟩
    · obtain ⟨m', d', e, q⟩ := ca j _ hj
      injection e with e
      injection e with e e'
      subst e e'
      cases q with
      | sl s m0 e1 e2 e3 e4 e5 =>
        obtain ⟨v, G, g1, g2, g3⟩ := o.at' s m0 d e3
        obtain ⟨v', h1, h2⟩ := ar.atS e1
        rw [g1] at h2
        injection h2 with h2
        injection h2 with h2
        subst h2
        rw [if_neg e4] at g3
        refine ⟨v, G, by rw [List.getElem?_map, h1]; rfl, g2, ?_⟩
        rw [if_neg (by rw [e5]; decide), fS e1 e2]
        exact g3
      | io x e1 e2 e3 e4 e5 e6 =>
        obtain ⟨v, G, h1, h2, h3, _⟩ := ar.atV e1
        refine ⟨v, G, by rw [List.getElem?_map, h1]; rfl, by rw [e5]; exact h3.rep, ?_⟩
        rw [if_neg (by rw [e6]; decide), fV e1 e2 h2]
      | ro x e1 e2 e3 e4 =>
        obtain ⟨v, G, h1, h2, h3, _⟩ := ar.atV e1
        refine ⟨v, G, by rw [List.getElem?_map, h1]; rfl, by rw [e3]; exact h3.rep, ?_⟩
        rw [if_pos e4]
        intro a ha
        rw [← hI]
        exact .inr ⟨j, x, G, e1, e2, h2, ha⟩
    · by_cases hk : ks[j]? = some true
      · cases hx : xs[j]? with
        | none =>
          have : Fc j = [] := by
            cases q : Fc j with
            | nil => rfl
            | cons a l =>
              rcases fC (i := j) (a := a) (by rw [q]; exact List.mem_cons_self) with ⟨s, e1, _⟩ | ⟨x, G, e1, _⟩ <;> rw [hx] at e1 <;> cases e1
          rw [this]
          exact List.nodup_nil
        | some y =>
          cases y with
          | s s => rw [fS hx hk]; exact o.nd s
          | v x =>
            obtain ⟨v, G, h1, h2, _⟩ := ar.atV hx
            obtain ⟨_, v', _, _, nd, _⟩ := ioV hx hk h2
            rw [fV hx hk h2]
            exact nd
      · rw [fN hk]; exact List.nodup_nil
    · rcases fC ha with ⟨s, e1, e2, h⟩ | ⟨x, G, e1, e2, e3, h⟩
      · rcases fC hb with ⟨s', g1, g2, h'⟩ | ⟨x', G', g1, g2, g3, h'⟩
        · have : s ≠ s' := fun w => hjk (nodupN_inj hn e1 (by rw [w]; exact g1))
          exact o.dj s s' this a h h'
        · obtain ⟨_, v, _, _, _, r4, _⟩ := ioV g1 g2 g3
          exact (r4 a h').2 s h
      · obtain ⟨_, v, _, _, _, r4, r5⟩ := ioV e1 e2 e3
        rcases fC hb with ⟨s', g1, g2, h'⟩ | ⟨x', G', g1, g2, g3, h'⟩
        · exact (r4 a h).2 s' h'
        · by_cases lt : j < k2
          · exact r5 a h k2 G' lt g3 h'
          · obtain ⟨_, v', _, _, _, _, r5'⟩ := ioV g1 g2 g3
            exact r5' a h' j G (by omega) e3 h
    · rcases fC ha with ⟨s, _, _, h⟩ | ⟨x, G, e1, e2, e3, h⟩
      · exact o.lv s a h
      · obtain ⟨_, v, _, r2, _⟩ := ioV e1 e2 e3
        exact live_of r2 a h
    · rw [← hI] at ha
      rcases ha with z | ⟨j, y, G', g1, g2, g3, g4⟩
      · exact o.iv a z
      · obtain ⟨v, G2, q1, q2, q3, _⟩ := ar.atV g1
        rw [g3] at q2; cases q2
        exact live_of q3.rep a g4
  have mdc : ∀ s, md Γc s ≠ some .io → Fc s = [] := fun s h => by
    cases q : Fc s with
    | nil => rfl
    | cons a l =>
      exfalso
      have ha : a ∈ Fc s := by rw [q]; exact List.mem_cons_self
      have hi : s < Γc.length := by
        rw [cl]
        rcases fC ha with ⟨s', e1, _⟩ | ⟨x, G, e1, _⟩ <;> exact (List.getElem?_eq_some_iff.mp e1).1
      obtain ⟨m, d, e, z⟩ := ca s _ (List.getElem?_eq_getElem hi)
      have hk : ks[s]? = some true := by rcases fC ha with ⟨s', _, e2, _⟩ | ⟨x, G, _, e2, _⟩ <;> exact e2
      apply h
      unfold md
      rw [List.getElem?_eq_getElem hi, e]
      cases z with
      | sl _ _ _ _ _ _ e5 => rw [e5]
      | io _ _ _ _ _ _ e6 => rw [e6]
      | ro _ _ e2 => rw [hk] at e2; cases e2
  refine ⟨Ic, Fc, Γc, r, d, Γc', oc, mdc, eg, fun v H' Fc' G o' f' hm' l' => ?_⟩
  -- back to the caller
  have stay : ∀ a, (∃ s ∈ List.range Γc.length, a ∈ Fc s) → (∃ s ∈ slotsA xs, a ∈ F s) ∨ (H0 a = none ∧ (∀ s, a ∉ F s) ∧ ¬ I a) := fun a ⟨i, _, h⟩ => by
    rcases fC h with ⟨s, e1, e2, h⟩ | ⟨x, G, e1, e2, e3, h⟩
    · exact .inl ⟨s, slotsA_mem.mpr ⟨i, e1⟩, h⟩
    · obtain ⟨_, v, _, _, _, r4, _⟩ := ioV e1 e2 e3
      exact .inr ⟨(r4 a h).1, (r4 a h).2, fun z => iv0 a z (r4 a h).1⟩
  generalize hB : (fun s => if h : ∃ i : Nat, xs[i]? = some (Arg.s s) then Fc' (Classical.choose h) else F s) = F2
  have bS : ∀ {i s : Nat}, xs[i]? = some (Arg.s s) → F2 s = Fc' i := fun {i s} h => by
    have hx : ∃ i : Nat, xs[i]? = some (Arg.s s) := ⟨i, h⟩
    rw [← hB]
    show (if h : ∃ i : Nat, xs[i]? = some (Arg.s s) then Fc' (Classical.choose h) else F s) = Fc' i
    rw [dif_pos hx, nodupN_inj hn (Classical.choose_spec hx) h]
  have bN : ∀ {s : Nat}, s ∉ slotsA xs → F2 s = F s := fun {s} h => by
    rw [← hB]
    exact dif_neg fun ⟨i, e⟩ => h (slotsA_mem.mpr ⟨i, e⟩)
  have sub2 : ∀ {i s : Nat} {a : Addr}, xs[i]? = some (Arg.s s) → a ∈ Fc' i → a ∈ F s ∨ H1 a = none := fun {i s a} e h => by
    rcases f'.sub i a h with z | z
    · rw [fS e (sltX e)] at z; exact .inl z
    · exact .inr z
  have slotAt : ∀ {i s : Nat}, xs[i]? = some (Arg.s s) → ∃ m0 d0 d', Γ[s]? = some (some (m0, d0)) ∧ m0 ≠ .ro ∧ Γc'[i]? = some (some (.io, d')) ∧ (bckA Γ xs Γc')[s]? = some (some (m0, d')) := fun {i s} h => by
    have hi : i < Γc.length := by rw [cl]; exact (List.getElem?_eq_some_iff.mp h).1
    obtain ⟨m, d, e, q⟩ := ca i _ (List.getElem?_eq_getElem hi)
    cases q with
    | sl s' m0 e1 e2 e3 e4 e5 =>
      rw [h] at e1
      injection e1 with e1
      injection e1 with e1
      subst e1
      have hm : md Γc' i = some .io := by
        rw [f'.md i]
        unfold md
        rw [List.getElem?_eq_getElem hi, e, e5]
      obtain ⟨d', hd'⟩ := md_some hm
      exact ⟨m0, d, d', e3, e4, hd', bckA_in hn h e3 hd'⟩
    | io y e1 => rw [h] at e1; cases e1
    | ro y e1 => rw [h] at e1; cases e1
  have st' : ∀ a, (∃ s ∈ List.range Γc.length, a ∈ Fc s) → ∀ j, j ∉ slotsA xs → (a ∉ F j ∧ ¬ I a) := fun a hx j hj => by
    rcases stay a hx with ⟨s, hs, h⟩ | ⟨_, h2, h3⟩
    · exact ⟨fun z => o.dj s j (fun w => hj (w ▸ hs)) a h z, o.nI s a h⟩
    · exact ⟨h2 j, h3⟩
  have of : Ok K I F2 σ (bckA Γ xs Γc') H' := by
    refine ⟨by rw [bckA_len]; exact o.len, fun j m d hj => ?_, fun j => ?_, fun j k2 hjk a ha hb => ?_, fun j a ha z => ?_, fun j a ha => ?_, fun a ha z => o.iv a ha (f'.stp.live a z)⟩
    · by_cases hs : j ∈ slotsA xs
      · obtain ⟨i, e⟩ := slotsA_mem.mp hs
        obtain ⟨m0, d0, d', h1, h2, h3, h4⟩ := slotAt e
        rw [h4] at hj
        injection hj with hj
        injection hj with hj
        injection hj with hj hj'
        subst hj hj'
        obtain ⟨v, G', g1, g2, g3⟩ := o'.at' i .io d' h3
        obtain ⟨v', r1, r2⟩ := ar.atS e
        rw [List.getElem?_map, r1] at g1
        injection g1 with g1
        injection g1 with g1
        subst g1
        rw [if_neg (by decide)] at g3
        refine ⟨_, G', r2, g2, ?_⟩
        rw [if_neg h2, bS e]
        exact g3
      · rw [bckA_out hs] at hj
        obtain ⟨w, G', g1, g2, g3⟩ := o.at' j m d hj
        refine ⟨w, G', g1, g2.stp f'.stp fun a ha hx => ?_, ?_⟩
        · obtain ⟨q1, q2⟩ := st' a hx j hs
          split at g3
          · exact q2 (g3 a ha)
          · subst g3; exact q1 ha
        · split
          · rename_i hr; rw [if_pos hr] at g3; exact g3
          · rename_i hr; rw [if_neg hr] at g3
            rw [bN hs]
            exact g3
    · by_cases hs : j ∈ slotsA xs
      · obtain ⟨i, e⟩ := slotsA_mem.mp hs
        rw [bS e]; exact o'.nd i
      · rw [bN hs]; exact o.nd j
    · by_cases hs : j ∈ slotsA xs
      · obtain ⟨i, e⟩ := slotsA_mem.mp hs
        rw [bS e] at ha
        by_cases hs2 : k2 ∈ slotsA xs
        · obtain ⟨i2, e2⟩ := slotsA_mem.mp hs2
          rw [bS e2] at hb
          have : i ≠ i2 := fun w => by subst w; rw [e] at e2; injection e2 with e2; injection e2 with e2; exact hjk e2
          exact o'.dj i i2 this a ha hb
        · rw [bN hs2] at hb
          rcases sub2 e ha with z | z
          · exact o.dj j k2 hjk a z hb
          · exact o.lv k2 a hb z
      · rw [bN hs] at ha
        by_cases hs2 : k2 ∈ slotsA xs
        · obtain ⟨i2, e2⟩ := slotsA_mem.mp hs2
          rw [bS e2] at hb
          rcases sub2 e2 hb with z | z
          · exact o.dj j k2 hjk a ha z
          · exact o.lv j a ha z
        · rw [bN hs2] at hb
          exact o.dj j k2 hjk a ha hb
    · by_cases hs : j ∈ slotsA xs
      · obtain ⟨i, e⟩ := slotsA_mem.mp hs
        rw [bS e] at ha
        exact o'.nI i a ha (by rw [← hI]; exact .inl z)
      · rw [bN hs] at ha
        exact o.nI j a ha z
    · by_cases hs : j ∈ slotsA xs
      · obtain ⟨i, e⟩ := slotsA_mem.mp hs
        rw [bS e] at ha
        exact o'.lv i a ha
      · rw [bN hs] at ha
        exact fun z => o.lv j a ha (f'.stp.live a z)
  have ff : Frm (M0 ++ slotsA xs) Γs (bckA Γ xs Γc') Fs F2 H0 H' := by
    refine ⟨(f0.stp.mono fun a _ ⟨s, hs, h⟩ => ⟨s, List.mem_append_left _ hs, h⟩).trans f'.stp fun a ha hx => ?_, fun s hs => ?_, fun s hs => ?_, fun s a ha => ?_, fun s => ?_⟩
    · rcases stay a hx with ⟨s, hs, h⟩ | ⟨h1, _⟩
      · rcases f0.sub s a h with z | z
        · exact ⟨s, List.mem_append_right _ hs, z⟩
        · exact absurd z ha
      · exact absurd h1 ha
    · rw [bN fun z => hs (List.mem_append_right _ z)]
      exact f0.same s fun z => hs (List.mem_append_left _ z)
    · rw [bckA_out fun z => hs (List.mem_append_right _ z)]
      exact f0.env s fun z => hs (List.mem_append_left _ z)
    · by_cases hs : s ∈ slotsA xs
      · obtain ⟨i, e⟩ := slotsA_mem.mp hs
        rw [bS e] at ha
        rcases sub2 e ha with z | z
        · exact f0.sub s a z
        · exact .inr (f0.stp.live a z)
      · rw [bN hs] at ha
        exact f0.sub s a ha
    · rw [← f0.md s]
      by_cases hs : s ∈ slotsA xs
      · obtain ⟨i, e⟩ := slotsA_mem.mp hs
        obtain ⟨m0, d0, d', h1, h2, h3, h4⟩ := slotAt e
        unfold md
        rw [h4, h1]
      · unfold md
        rw [bckA_out hs]
  have fresh2 : ∀ a, H1 a = none → (∀ s, a ∉ Fc' s) → ∀ s, a ∉ F2 s := fun a h1 h2 s hs => by
    by_cases hs' : s ∈ slotsA xs
    · obtain ⟨i, e⟩ := slotsA_mem.mp hs'
      rw [bS e] at hs
      exact h2 i hs
    · rw [bN hs'] at hs
      exact o.lv s a hs h1
  refine k v H' F2 G of ff ?_
  have own2 : ∀ a ∈ G, (H0 a = none ∧ ∀ s, a ∉ F2 s) ∨ (r = true ∧ (I a ∨ ∃ s ∈ depsA xs ks, a ∈ F2 s)) := fun a ha => by
    rcases l'.own a ha with z | ⟨z, y⟩ | ⟨s, z, _⟩
    · exact .inl ⟨f0.stp.live a z.1, fresh2 a z.1 z.2⟩
    · rw [← hI] at y
      rcases y with y | ⟨j, x, G', g1, g2, g3, g4⟩
      · exact .inr ⟨z, .inl y⟩
      · obtain ⟨v2, G2, q1, q2, q3, _⟩ := ar.atV g1
        rw [g3] at q2; cases q2
        rcases q3.own a g4 with w | ⟨_, w⟩ | ⟨s', w, w'⟩
        · refine .inl ⟨w.1, fun s hs => ?_⟩
          by_cases hs' : s ∈ slotsA xs
          · obtain ⟨i, e⟩ := slotsA_mem.mp hs'
            rw [bS e] at hs
            rcases sub2 e hs with u | u
            · exact w.2 s u
            · exact live_of q3.rep a g4 u
          · rw [bN hs'] at hs
            exact w.2 s hs
        · exact .inr ⟨z, .inl w⟩
        · have hdep := depsA_mem g1 g2 w
          exact .inr ⟨z, .inr ⟨s', hdep, by rw [bN (hd s' hdep)]; exact w'⟩⟩
    · cases z
  cases r with
  | true =>
    refine ⟨l'.rep, fun a ha => ?_, fun z => nomatch z⟩
    rcases own2 a ha with z | ⟨_, z | z⟩
    · exact .inl z
    · exact .inr (.inl ⟨rfl, z⟩)
    · exact .inr (.inr z)
  | false =>
    refine ⟨l'.rep, fun a ha => ?_, fun _ => l'.nd rfl⟩
    rcases own2 a ha with z | ⟨z, _⟩
    · exact .inl z
    · cases z
end
section
variable {X : Cx} {e a o : Expr} {es : List Expr} {M : List Nat} {fs : AgF} {x : Str} {p pos apos : Pos} {f C : Addr} {fd : FuncData} {ps : List Str} {k : Nat} {g : FF} {ks : List Bool} {M0 : List Nat}
theorem calF_inv {Γ Γ' : Env} {y : Val} (h : calF g ks M0 fs Γ = some (y, Γ')) : ∃ xs Γ1 Γc r d Γc', fs Γ = some (xs, Γ1) ∧ calE Γ1 xs ks = some Γc ∧ nodupN (slotsA xs) = true ∧ (∀ s ∈ depsA xs ks, s ∉ slotsA xs) ∧ (∀ s ∈ slotsA xs, s ∈ M0) ∧ g Γc = some (r, d, Γc') ∧ y = (if r then ⟨depsA xs ks, true, d⟩ else nw d) ∧ Γ' = bckA Γ1 xs Γc' := by
  unfold calF at h
  split at h
  · cases h
  rename_i xs Γ1 e1
  split at h
  · cases h
  rename_i Γc e2
  split at h
  · rename_i hc
    rw [Bool.and_eq_true, Bool.and_eq_true] at hc
    split at h
    · cases h
    rename_i r d Γc' e3
    injection h with h
    injection h with h h'
    refine ⟨xs, Γ1, Γc, r, d, Γc', e1, e2, hc.1.1, fun s hs => ?_, fun s hs => ?_, e3, h.symm, h'.symm⟩
    · have := List.all_eq_true.mp hc.1.2 s hs
      simpa using this
    · have := List.all_eq_true.mp hc.2 s hs
      simpa using this
  · cases h
theorem se_call (F : FnOk X.prog X.w X.K X.mg X.base CX0 k f fd ps (SpOf X.K g)) (hr : Room k X.A) (hg : Gl X x) (hm : X.mg x = some (.ref f)) (hk : PySem.W.keepIn X.K (.ref f) = true) (hb : Binds X.K fd ps []) (ha : SA X M (e :: es) fs)
    (hdb : (x == ("__debug__" : Str)) = false := by decide) (he : starEach (e :: es) X.env = (false, eval e X.env) :: starEach es X.env := by rfl) (hpl : (backTo pos (starEach es X.env)).any (·.1) = false := by rfl) :
    SE X (M ++ M0) (.Call (.Name x p) (e :: es) [] pos) (calF g ks M0 fs) := ⟨PE.imp (pe_call F hr hg hm hk hb .nil pass0 ha.pa hdb he hpl) fun σ H Q q => by
  obtain ⟨I, F0, Γ, y, Γ', o, e, k⟩ := q
  obtain ⟨xs, Γ1, Γc, r, d, Γc', e1, e2, e3, e4, e5, e6, rfl, rfl⟩ := calF_inv e
  refine ⟨I, F0, Γ, xs, Γ1, o, e1, fun vs H1 F1 Gs o1 f1 ar => ?_⟩
  show SpOf X.K g (vs ++ []) H1 Q E0
  rw [List.append_nil]
  exact call_core o1 f1 o.iv ar e2 e3 e4 e6 fun v H' F' G o' f' l' => k v H' F' G o' (f'.mono fun s hs => by
    rcases List.mem_append.mp hs with h | h
    · exact List.mem_append_left _ h
    · exact List.mem_append_right _ (e5 s h)) l'⟩
theorem se_call0 (F : FnOk X.prog X.w X.K X.mg X.base CX0 k f fd ps (SpOf X.K g)) (hr : Room k X.A) (hg : Gl X x) (hm : X.mg x = some (.ref f)) (hk : PySem.W.keepIn X.K (.ref f) = true) (hb : Binds X.K fd ps [])
    (hdb : (x == ("__debug__" : Str)) = false := by decide) : SE X M0 (.Call (.Name x p) [] [] pos) (calF g ks M0 nilA) := ⟨PE.imp (pe_call0 F hr hg hm hk hb .nil pass0 hdb) fun σ H Q q => by
  obtain ⟨I, F0, Γ, y, Γ', o, e, k⟩ := q
  obtain ⟨xs, Γ1, Γc, r, d, Γc', e1, e2, e3, e4, e5, e6, rfl, rfl⟩ := calF_inv e
  injection e1 with e1
  injection e1 with e1 e1'
  subst e1 e1'
  show SpOf X.K g [] H Q E0
  exact call_core (ks := ks) (M0 := []) o (Frm.refl _ _ _) o.iv .nil e2 e3 e4 e6 fun v H' F' G o' f' l' => k v H' F' G o' (f'.mono fun s hs => e5 s (by simpa using hs)) l'⟩
end
end VS
/-! VS13: places and what is written there. -/
namespace VS
open PySem L2
inductive Acc where
  | ix (i : Nat) | fld (f : Str) | ky (k : Key) | kt (k : List Key)
section
variable {κ : Type} [DecidableEq κ]
def findD (k : κ) : List (κ × D) → Option D
  | [] => none
  | (j, d) :: r => if j = k then some d else findD k r
def replD (k : κ) (d' : D) : List (κ × D) → List (κ × D)
  | [] => []
  | (j, d) :: r => if j = k then (j, d') :: r else (j, d) :: replD k d' r
end
/-- what stands at a place -/
def getP : D → List Acc → Option D
  | d, [] => some d
  | .lst ds, .ix i :: p => match ds[i]? with
    | some d => getP d p
    | none => none
  | .tup ds, .ix i :: p => match ds[i]? with
    | some d => getP d p
    | none => none
  | .obj _ fs, .fld f :: p => match findD f fs with
    | some d => getP d p
    | none => none
  | .dK fs, .ky f :: p => match findD f fs with
    | some d => getP d p
    | none => none
  | .dT fs, .kt f :: p => match findD f fs with
    | some d => getP d p
    | none => none
  | _, _ => none
/-- another thing there -/
def setP : D → List Acc → D → D
  | _, [], e => e
  | .lst ds, .ix i :: p, e => .lst (ds.set i (match ds[i]? with | some d => setP d p e | none => e))
  | .tup ds, .ix i :: p, e => .tup (ds.set i (match ds[i]? with | some d => setP d p e | none => e))
  | .obj C fs, .fld f :: p, e => .obj C (replD f (match findD f fs with | some d => setP d p e | none => e) fs)
  | .dK fs, .ky f :: p, e => .dK (replD f (match findD f fs with | some d => setP d p e | none => e) fs)
  | .dT fs, .kt f :: p, e => .dT (replD f (match findD f fs with | some d => setP d p e | none => e) fs)
  | d, _, _ => d
section
variable {K : PySem.W.Frag} {H H' : Hp} {X : Addr → Prop}
theorem Reps.hole : ∀ {vs : List V} {ds : List D} {G : List Addr} {i : Nat} {v : V} {d : D}, Reps K H vs ds G → vs[i]? = some v → ds[i]? = some d → ∃ A B C, Rep K H v d B ∧ G = A ++ B ++ C ∧ ∀ {X : Addr → Prop} {H' d' B'}, Stp X H H' → (∀ a ∈ A ++ C, ¬ X a) → Rep K H' v d' B' → Reps K H' vs (ds.set i d') (A ++ B' ++ C)
  | _, _, _, i, _, _, .nil, e, _ => by simp at e
  | _, _, _, 0, _, _, .cons (F := F) (G := G) r t, e, e' => by
    simp at e e'
    subst e e'
    refine ⟨[], F, G, r, rfl, fun s n r' => ?_⟩
    exact .cons r' (t.stp s fun a ha => n a (by simpa using ha))
  | _, _, _, i + 1, _, _, .cons (F := F) (G := G) r t, e, e' => by
    obtain ⟨A, B, C, h1, h2, h3⟩ := Reps.hole (i := i) t (by simpa using e) (by simpa using e')
    refine ⟨F ++ A, B, C, h1, by rw [h2]; simp, fun s n r' => ?_⟩
    have := Reps.cons (r.stp s fun a ha => n a (by simp [ha])) (h3 s (fun a ha => n a (by simp at ha ⊢; exact ha.elim (fun z => .inr (.inl z)) fun z => .inr (.inr z))) r')
    simpa using this
theorem RepF.hole : ∀ {vs : List (Str × V)} {ds : List (Str × D)} {G : List Addr} {f : Str} {v : V} {d : D}, RepF K H vs ds G → vs.lookup f = some v → findD f ds = some d → ∃ A B C, Rep K H v d B ∧ G = A ++ B ++ C ∧ ∀ {X : Addr → Prop} {H' d' B'}, Stp X H H' → (∀ a ∈ A ++ C, ¬ X a) → Rep K H' v d' B' → RepF K H' vs (replD f d' ds) (A ++ B' ++ C)
  | _, _, _, f, _, _, .nil, e, _ => by simp at e
  | _, _, _, f, v', d', .cons (k := j) (v := v) (d := d) (F := F) (G := G) r t, e, e' => by
    unfold findD at e'
    by_cases q : j = f
    · subst q
      rw [if_pos rfl] at e'
      rw [List.lookup_cons, beq_self_eq_true] at e
      injection e with e
      injection e' with e'
      subst e e'
      refine ⟨[], F, G, r, rfl, fun s n r' => ?_⟩
      unfold replD
      rw [if_pos rfl]
      exact .cons r' (t.stp s fun a ha => n a (by simpa using ha))
    · rw [if_neg q] at e'
      have qb : (f == j) = false := by simpa using Ne.symm q
      rw [List.lookup_cons, qb] at e
      obtain ⟨A, B, C, h1, h2, h3⟩ := RepF.hole t e e'
      refine ⟨F ++ A, B, C, h1, by rw [h2]; simp, fun s n r' => ?_⟩
      unfold replD
      rw [if_neg q]
      have := RepF.cons (k := j) (r.stp s fun a ha => n a (by simp [ha])) (h3 s (fun a ha => n a (by simp at ha ⊢; exact ha.elim (fun z => .inr (.inl z)) fun z => .inr (.inr z))) r')
      simpa using this
theorem RepK.hole : ∀ {vs : List (Key × V)} {ds : List (Key × D)} {G : List Addr} {f : Key} {v : V} {d : D}, RepK K H vs ds G → valV vs f = some v → findD f ds = some d → ∃ A B C, Rep K H v d B ∧ G = A ++ B ++ C ∧ ∀ {X : Addr → Prop} {H' d' B'}, Stp X H H' → (∀ a ∈ A ++ C, ¬ X a) → Rep K H' v d' B' → RepK K H' vs (replD f d' ds) (A ++ B' ++ C)
  | _, _, _, f, _, _, .nil, e, _ => by rw [valV_nil] at e; cases e
  | _, _, _, f, v', d', .cons (k := j) (v := v) (d := d) (F := F) (G := G) r t, e, e' => by
    unfold findD at e'
    by_cases q : j = f
    · rw [if_pos q] at e'
      rw [valV_pos q] at e
      injection e with e
      injection e' with e'
      subst e e'
      refine ⟨[], F, G, r, rfl, fun s n r' => ?_⟩
      unfold replD
      rw [if_pos q]
      exact .cons r' (t.stp s fun a ha => n a (by simpa using ha))
    · rw [if_neg q] at e'
      rw [valV_neg q] at e
      obtain ⟨A, B, C, h1, h2, h3⟩ := RepK.hole t e e'
      refine ⟨F ++ A, B, C, h1, by rw [h2]; simp, fun s n r' => ?_⟩
      unfold replD
      rw [if_neg q]
      have := RepK.cons (k := j) (r.stp s fun a ha => n a (by simp [ha])) (h3 s (fun a ha => n a (by simp at ha ⊢; exact ha.elim (fun z => .inr (.inl z)) fun z => .inr (.inr z))) r')
      simpa using this
theorem RepT.hole : ∀ {vs : List (List Key × V)} {ds : List (List Key × D)} {G : List Addr} {f : List Key} {v : V} {d : D}, RepT K H vs ds G → valV vs f = some v → findD f ds = some d → ∃ A B C, Rep K H v d B ∧ G = A ++ B ++ C ∧ ∀ {X : Addr → Prop} {H' d' B'}, Stp X H H' → (∀ a ∈ A ++ C, ¬ X a) → Rep K H' v d' B' → RepT K H' vs (replD f d' ds) (A ++ B' ++ C)
  | _, _, _, f, _, _, .nil, e, _ => by rw [valV_nil] at e; cases e
  | _, _, _, f, v', d', .cons (k := j) (v := v) (d := d) (F := F) (G := G) r t, e, e' => by
    unfold findD at e'
    by_cases q : j = f
    · rw [if_pos q] at e'
      rw [valV_pos q] at e
      injection e with e
      injection e' with e'
      subst e e'
      refine ⟨[], F, G, r, rfl, fun s n r' => ?_⟩
      unfold replD
      rw [if_pos q]
      exact .cons r' (t.stp s fun a ha => n a (by simpa using ha))
    · rw [if_neg q] at e'
      rw [valV_neg q] at e
      obtain ⟨A, B, C, h1, h2, h3⟩ := RepT.hole t e e'
      refine ⟨F ++ A, B, C, h1, by rw [h2]; simp, fun s n r' => ?_⟩
      unfold replD
      rw [if_neg q]
      have := RepT.cons (k := j) (r.stp s fun a ha => n a (by simp [ha])) (h3 s (fun a ha => n a (by simp at ha ⊢; exact ha.elim (fun z => .inr (.inl z)) fun z => .inr (.inr z))) r')
      simpa using this
end
/-- one step -/
def set1 (d : D) (c : Acc) (e : D) : D := setP d [c] e
def get1 (d : D) (c : Acc) : Option D := getP d [c]
theorem getP_nil {d : D} : getP d [] = some d := by unfold getP; rfl
theorem setP_nil {d e : D} : setP d [] e = e := by unfold setP; rfl
theorem getP_snoc : ∀ {p : List Acc} {d e : D} {c : Acc}, getP d p = some e → getP d (p ++ [c]) = get1 e c
  | [], d, e, c, h => by
    rw [getP_nil] at h
    injection h with h
    subst h
    rfl
  | q :: p, d, e, c, h => by
    cases d <;> cases q <;> simp only [getP, List.cons_append, reduceCtorEq] at h ⊢ <;>
    · split at h
      · exact getP_snoc h
      · cases h
theorem setP_snoc : ∀ {p : List Acc} {d e : D} {c : Acc} {z : D}, getP d p = some e → setP d (p ++ [c]) z = setP d p (set1 e c z)
  | [], d, e, c, z, h => by
    rw [getP_nil] at h
    injection h with h
    subst h
    rw [setP_nil]
    rfl
  | q :: p, d, e, c, z, h => by
    cases d <;> cases q <;> simp only [getP, setP, List.cons_append, reduceCtorEq] at h ⊢ <;>
    · split at h
      · simp only [setP_snoc h]
      · cases h
section
variable {K : PySem.W.Frag} {H H' H1 H2 : Hp} {X : Addr → Prop} {v w : V} {d e : D} {G B : List Addr} {p : List Acc}
/-- v is d; along p from it stands w, which is e; it may be filled anew -/
structure Hole (K : PySem.W.Frag) (H : Hp) (v : V) (d : D) (G : List Addr) (p : List Acc) (w : V) (e : D) (B A C : List Addr) : Prop where
  get : getP d p = some e
  rep : Rep K H w e B
  app : G = A ++ B ++ C
  fill : ∀ {X : Addr → Prop} {H' e' B'}, Stp X H H' → (∀ a ∈ A ++ C, ¬ X a) → Rep K H' w e' B' → Rep K H' v (setP d p e') (A ++ B' ++ C)
theorem Hole.nil (r : Rep K H v d G) : Hole K H v d G [] v d G [] [] := ⟨getP_nil, r, by simp, fun _ _ r' => by rw [setP_nil]; simpa using r'⟩
theorem Hole.last {A C : List Addr} (h : Hole K H v d G p w e B A C) (s : Stp X H H1) (n : ∀ a ∈ G, ¬ X a) : Hole K H1 v d G p w e B A C where
  get := h.get
  rep := h.rep.stp s fun a ha => n a (by rw [h.app]; simp [ha])
  app := h.app
  fill := fun {Y H' e' B'} s' n' r' => by
    refine h.fill (X := fun a => X a ∨ Y a) ((s.mono fun _ _ z => .inl z).trans s' fun _ _ z => .inr z) (fun a ha => ?_) r'
    rintro (z | z)
    · refine n a ?_ z
      rw [h.app]
      rcases List.mem_append.mp ha with q | q <;> simp [q]
    · exact n' a ha z
/-- deeper: whatever the way within is -/
theorem Hole.deeper {A C : List Addr} {w1 : V} {e1 : D} {c : Acc} {A1 B1 C1 : List Addr} (h : Hole K H v d G p w e B A C) (hg : get1 e c = some e1) (r1 : Rep K H w1 e1 B1) (ha : B = A1 ++ B1 ++ C1)
    (f : ∀ {X : Addr → Prop} {H' e' B'}, Stp X H H' → (∀ a ∈ A1 ++ C1, ¬ X a) → Rep K H' w1 e' B' → Rep K H' w (set1 e c e') (A1 ++ B' ++ C1)) : Hole K H v d G (p ++ [c]) w1 e1 B1 (A ++ A1) (C1 ++ C) where
  get := (getP_snoc h.get).trans hg
  rep := r1
  app := by rw [h.app, ha]; simp
  fill := fun {Y H' e' B'} s n r' => by
    rw [setP_snoc h.get]
    have := h.fill s (fun a ha => n a (by rcases List.mem_append.mp ha with q | q <;> simp [q])) (f s (fun a ha => n a (by rcases List.mem_append.mp ha with q | q <;> simp [q])) r')
    simpa using this
/-- an item of a list -/
theorem Hole.lst {A C ds : _} {i : Nat} {e1 : D} (h : Hole K H v d G p w (.lst ds) B A C) (he : ds[i]? = some e1) :
    ∃ a vs w1 A1 B1 C1, w = .ref a ∧ H a = some (.lst vs) ∧ vs.length = ds.length ∧ vs[i]? = some w1 ∧ Hole K H v d G (p ++ [.ix i]) w1 e1 B1 A1 C1 := by
  have h0 := h.rep
  cases h0 with
  | @lst a vs _ F ha rr =>
    obtain ⟨w1, q⟩ := List.getElem?_eq_some_iff.mp he |>.1 |> fun z => (show ∃ w1, vs[i]? = some w1 from by
      rw [← rr.length] at z
      exact ⟨_, List.getElem?_eq_getElem z⟩)
    obtain ⟨A1, B1, C1, q1, q2, q3⟩ := rr.hole q he
    refine ⟨a, vs, w1, _, _, _, rfl, ha, rr.length, q, h.deeper (A1 := a :: A1) (B1 := B1) (C1 := C1) ?_ q1 (by rw [q2]; simp) fun {X H' e' B'} s n r' => ?_⟩
    · show getP (.lst ds) [.ix i] = _
      simp only [getP, he]
    · show Rep K H' (.ref a) (setP (.lst ds) [.ix i] e') _
      simp only [setP, he]
      have := Rep.lst (s.keep _ _ ha fun _ => n _ (by simp)) (q3 s (fun b hb => n b (by rcases List.mem_append.mp hb with z | z <;> simp [z])) r')
      simpa using this
theorem Hole.tup {A C ds : _} {i : Nat} {e1 : D} (h : Hole K H v d G p w (.tup ds) B A C) (he : ds[i]? = some e1) :
    ∃ a vs w1 A1 B1 C1, w = .ref a ∧ SqT K H a vs ∧ vs.length = ds.length ∧ vs[i]? = some w1 ∧ Hole K H v d G (p ++ [.ix i]) w1 e1 B1 A1 C1 := by
  have h0 := h.rep
  cases h0 with
  | @tup a vs _ F ha rr =>
    obtain ⟨w1, q⟩ := List.getElem?_eq_some_iff.mp he |>.1 |> fun z => (show ∃ w1, vs[i]? = some w1 from by
      rw [← rr.length] at z
      exact ⟨_, List.getElem?_eq_getElem z⟩)
    obtain ⟨A1, B1, C1, q1, q2, q3⟩ := rr.hole q he
    refine ⟨a, vs, w1, _, _, _, rfl, ha, rr.length, q, h.deeper (A1 := A1) (B1 := B1) (C1 := C1) ?_ q1 (by rw [q2]) fun {X H' e' B'} s n r' => ?_⟩
    · show getP (.tup ds) [.ix i] = _
      simp only [getP, he]
    · show Rep K H' (.ref a) (setP (.tup ds) [.ix i] e') _
      simp only [setP, he]
      exact Rep.tup (SqT.stp ha s) (q3 s n r')
end
end VS
/-! VS14: a slot's place written. -/
namespace VS
open PySem L2
/-- what stands at a place of a slot that may be written -/
def getS (Γ : Env) (s : Nat) (p : List Acc) : Option D := match Γ[s]? with
  | some (some (m, d)) => if m = .ro then none else getP d p
  | _ => none
def setS (Γ : Env) (s : Nat) (p : List Acc) (e : D) : Env := match Γ[s]? with
  | some (some (m, d)) => Γ.set s (some (m, setP d p e))
  | _ => Γ
/-- slots are let go -/
def drops : List Nat → Env → Env
  | [], Γ => Γ
  | j :: js, Γ => drops js (Γ.set j none)
theorem drops_get : ∀ (js : List Nat) (Γ : Env) (i : Nat), (drops js Γ)[i]? = if i ∈ js then (if i < Γ.length then some none else none) else Γ[i]?
  | [], Γ, i => by simp [drops]
  | j :: js, Γ, i => by
    rw [drops, drops_get js, set_get]
    by_cases h1 : i ∈ js
    · simp [h1]
    · by_cases h2 : j = i
      · subst h2; simp [h1]
      · simp [h1, h2, Ne.symm h2]
theorem drops_len : ∀ (js : List Nat) (Γ : Env), (drops js Γ).length = Γ.length
  | [], Γ => rfl
  | j :: js, Γ => by rw [drops, drops_len js]; simp
theorem md_drops (js : List Nat) (Γ : Env) (i : Nat) : md (drops js Γ) i = if i ∈ js then none else md Γ i := by
  unfold md
  rw [drops_get]
  by_cases h : i ∈ js
  · rw [if_pos h, if_pos h]
    by_cases h2 : i < Γ.length
    · rw [if_pos h2]
    · rw [if_neg h2]
  · rw [if_neg h, if_neg h]
section
variable {K : PySem.W.Frag} {I I0 : Addr → Prop} {F F0 F1 F2 : Nat → List Addr} {Γ Γ0 Γ1 Γ2 : Env} {σ σ0 : St} {H H0 H1 H2 H' : Hp} {s : Nat} {p : List Acc} {w : V} {e e' : D} {B B' : List Addr}
structure Spot (K : PySem.W.Frag) (F : Nat → List Addr) (σ : St) (Γ : Env) (H : Hp) (s : Nat) (p : List Acc) (w : V) (e : D) (B : List Addr) : Prop where
  ex : ∃ v m d A C, Γ[s]? = some (some (m, d)) ∧ m ≠ .ro ∧ σ[s]? = some (some v) ∧ Hole K H v d (F s) p w e B A C
theorem Spot.get (h : Spot K F σ Γ H s p w e B) : getS Γ s p = some e := by
  obtain ⟨v, m, d, A, C, h1, h2, h3, h4⟩ := h.ex
  unfold getS
  rw [h1]
  show (if m = .ro then none else getP d p) = _
  rw [if_neg h2, h4.get]
theorem Spot.rep (h : Spot K F σ Γ H s p w e B) : Rep K H w e B := by
  obtain ⟨v, m, d, A, C, h1, h2, h3, h4⟩ := h.ex
  exact h4.rep
theorem Spot.sub (h : Spot K F σ Γ H s p w e B) : ∀ a ∈ B, a ∈ F s := by
  obtain ⟨v, m, d, A, C, h1, h2, h3, h4⟩ := h.ex
  intro a ha
  rw [h4.app]
  simp [ha]
theorem Spot.nd (o : Ok K I F σ Γ H) (h : Spot K F σ Γ H s p w e B) : B.Nodup := by
  obtain ⟨v, m, d, A, C, h1, h2, h3, h4⟩ := h.ex
  have := o.nd s
  rw [h4.app] at this
  exact mid_nodup this
theorem Spot.last {N : List Nat} (o : Ok K I F1 σ Γ1 H1) (h : Spot K F1 σ Γ1 H1 s p w e B) (f : Frm N Γ1 Γ2 F1 F2 H1 H2) (n : s ∉ N) : Spot K F2 σ Γ2 H2 s p w e B := by
  obtain ⟨v, m, d, A, C, h1, h2, h3, h4⟩ := h.ex
  refine ⟨v, m, d, A, C, (f.env s n).trans h1, h2, h3, ?_⟩
  rw [f.same s n]
  exact h4.last f.stp fun a ha ⟨s', q, z⟩ => o.dj s s' (fun y => n (y ▸ q)) a ha z
theorem Spot.ex' (h : Spot K F σ Γ H s p w e B) (x : Evl.Ex H H2) : Spot K F σ Γ H2 s p w e B := by
  obtain ⟨v, m, d, A, C, h1, h2, h3, h4⟩ := h.ex
  exact ⟨v, m, d, A, C, h1, h2, h3, h4.last (X := fun _ => False) (Stp.ex x) fun _ _ z => z⟩
theorem setS_get {Γ : Env} {s : Nat} {m : Md} {d : D} (h : Γ[s]? = some (some (m, d))) (p : List Acc) (e : D) : setS Γ s p e = Γ.set s (some (m, setP d p e)) := by
  unfold setS
  rw [h]
theorem setS_md (Γ : Env) (s : Nat) (p : List Acc) (e : D) (j : Nat) : md (setS Γ s p e) j = md Γ j := by
  unfold setS
  split
  · rename_i m d h
    rw [md_set]
    split
    · rename_i q
      subst q
      have hl : s < Γ.length := (List.getElem?_eq_some_iff.mp h).1
      rw [if_pos hl]
      unfold md
      rw [h]
    · rfl
  · rfl
theorem setS_ne {Γ : Env} {s : Nat} {p : List Acc} {e : D} {j : Nat} (h : j ≠ s) : (setS Γ s p e)[j]? = Γ[j]? := by
  unfold setS
  split
  · rw [List.getElem?_set_ne (Ne.symm h)]
  · rfl
/-- the place is filled anew; what it takes along leaves the slots mv -/
theorem Spot.fill {mv : List Nat} (o : Ok K I F σ Γ H) (h : Spot K F σ Γ H s p w e B) (st : Stp (fun a => a ∈ B) H H') (r : Rep K H' w e' B') (nd : B'.Nodup) (ns : s ∉ mv) (hm : ∀ j ∈ mv, md Γ j = some .own)
    (hB : ∀ a ∈ B', a ∈ B ∨ (¬ I a ∧ ∀ j, a ∉ F j) ∨ ∃ j ∈ mv, a ∈ F j) :
    ∃ F', Ok K I F' σ (setS (drops mv Γ) s p e') H' ∧ (∀ j, j ≠ s → j ∉ mv → F' j = F j) ∧ (∀ j ∈ mv, F' j = []) ∧ ∀ a ∈ F' s, a ∈ F s ∨ a ∈ B' := by
  obtain ⟨v, m, d, A, C, h1, h2, h3, h4⟩ := h.ex
  have hBs := h.sub
  have ACs : ∀ a ∈ A ++ C, a ∈ F s := fun a ha => by
    rw [h4.app]
    rcases List.mem_append.mp ha with q | q <;> simp [q]
  have nds := o.nd s
  rw [h4.app] at nds
  have ACB : ∀ a ∈ A ++ C, a ∉ B := fun a ha hb => by
    rw [List.nodup_append, List.nodup_append] at nds
    rcases List.mem_append.mp ha with q | q
    · exact nds.1.2.2 a q a hb rfl
    · exact nds.2.2 a (List.mem_append_right _ hb) a q rfl
  have ACB' : ∀ a ∈ A ++ C, a ∉ B' := fun a ha hb => by
    rcases hB a hb with z | z | ⟨j, hj, z⟩
    · exact ACB a ha z
    · exact z.2 s (ACs a ha)
    · exact o.dj s j (fun q => ns (q ▸ hj)) a (ACs a ha) z
  have rep' := h4.fill st ACB r
  have e0 : (drops mv Γ)[s]? = some (some (m, d)) := by rw [drops_get, if_neg ns]; exact h1
  have sl : s < Γ.length := (List.getElem?_eq_some_iff.mp h1).1
  rw [setS_get e0]
  refine ⟨fun j => if j = s then A ++ B' ++ C else if j ∈ mv then [] else F j, ⟨?_, fun j m' d' hj => ?_, fun j => ?_, fun j k hjk a ha => ?_, fun j a ha => ?_, fun j a ha => ?_, fun a ha z => o.iv a ha (st.live a z)⟩, fun j q1 q2 => by simp only [if_neg q1, if_neg q2], fun j hj => by
    have : j ≠ s := fun q => ns (q ▸ hj)
    simp only [if_neg this, if_pos hj], fun a ha => ?_⟩
  · rw [List.length_set, drops_len]; exact o.len
  · rw [set_get] at hj
    by_cases q : s = j
    · subst q
      rw [if_pos rfl, drops_len, if_pos sl] at hj
      injection hj with hj
      injection hj with hj
      injection hj with q1 q2
      subst q1 q2
      exact ⟨v, _, h3, rep', by rw [if_neg h2, if_pos rfl]⟩
    · rw [if_neg q, drops_get] at hj
      by_cases q2 : j ∈ mv
      · rw [if_pos q2] at hj
        split at hj
        · injection hj with hj; cases hj
        · cases hj
      · rw [if_neg q2] at hj
        obtain ⟨u, G, g1, g2, g3⟩ := o.at' j m' d' hj
        refine ⟨u, G, g1, g2.stp st fun a ha hb => ?_, ?_⟩
        · split at g3
          · exact o.nI s a (hBs a hb) (g3 a ha)
          · subst g3
            exact o.dj s j q a (hBs a hb) ha
        · split
          · rename_i y; rw [if_pos y] at g3; exact g3
          · rename_i y; rw [if_neg y] at g3
            first
              | exact g3
              | (rw [if_neg (Ne.symm q)]; exact g3)
              | (rw [if_neg (Ne.symm q), if_neg q2]; exact g3)
  · show (if j = s then A ++ B' ++ C else if j ∈ mv then [] else F j).Nodup
    split
    · rw [List.nodup_append, List.nodup_append] at nds ⊢
      refine ⟨⟨nds.1.1, nd, fun a ha b hb q => ?_⟩, nds.2.1, fun a ha b hb q => ?_⟩
      · subst q
        exact ACB' a (List.mem_append_left _ ha) hb
      · subst q
        rcases List.mem_append.mp ha with y | y
        · exact nds.2.2 a (List.mem_append_left _ y) a hb rfl
        · exact ACB' a (List.mem_append_right _ hb) y
    · split
      · exact List.nodup_nil
      · exact o.nd j
  · have ha' : a ∈ if j = s then A ++ B' ++ C else if j ∈ mv then [] else F j := ha
    show a ∉ if k = s then A ++ B' ++ C else if k ∈ mv then [] else F k
    have key : ∀ k, k ≠ s → k ∉ mv → a ∈ A ++ B' ++ C → a ∉ F k := fun k q1 q2 hx z => by
      have : a ∈ A ++ C ∨ a ∈ B' := by
        simp at hx ⊢
        rcases hx with y | y | y <;> simp [y]
      rcases this with y | y
      · exact o.dj s k (Ne.symm q1) a (ACs a y) z
      · rcases hB a y with x | x | ⟨i, hi, x⟩
        · exact o.dj s k (Ne.symm q1) a (hBs a x) z
        · exact x.2 k z
        · exact o.dj i k (fun q => q2 (q ▸ hi)) a x z
    split at ha'
    · rename_i q
      subst q
      rw [if_neg (Ne.symm hjk)]
      split
      · exact fun z => nomatch z
      · rename_i q2
        exact key k (Ne.symm hjk) q2 ha'
    · rename_i q
      split at ha'
      · cases ha'
      · rename_i q2
        split
        · exact fun z => key j q q2 z ha'
        · split
          · exact fun z => nomatch z
          · exact o.dj j k hjk a ha'
  · have ha' : a ∈ if j = s then A ++ B' ++ C else if j ∈ mv then [] else F j := ha
    split at ha'
    · have : a ∈ A ++ C ∨ a ∈ B' := by
        simp at ha' ⊢
        rcases ha' with y | y | y <;> simp [y]
      rcases this with y | y
      · exact o.nI s a (ACs a y)
      · rcases hB a y with x | x | ⟨i, hi, x⟩
        · exact o.nI s a (hBs a x)
        · exact x.1
        · exact o.nI i a x
    · split at ha'
      · cases ha'
      · exact o.nI j a ha'
  · have ha' : a ∈ if j = s then A ++ B' ++ C else if j ∈ mv then [] else F j := ha
    split at ha'
    · obtain ⟨_, z, _⟩ := rep'.there a ha'
      rw [z]; intro q; cases q
    · split at ha'
      · cases ha'
      · exact fun z => o.lv j a ha' (st.live a z)
  · have ha' : a ∈ if s = s then A ++ B' ++ C else if s ∈ mv then [] else F s := ha
    rw [if_pos rfl] at ha'
    have : a ∈ A ++ C ∨ a ∈ B' := by
      simp at ha' ⊢
      rcases ha' with y | y | y <;> simp [y]
    exact this.imp (ACs a) id
/-- .. as a statement's end -/
theorem Spot.fillS {mv : List Nat} (fr : FrS I0 I F0 F Γ0 Γ σ0 σ H0 H) (o : Ok K I F σ Γ H) (h : Spot K F σ Γ H s p w e B) (st : Stp (fun a => a ∈ B) H H') (r : Rep K H' w e' B') (nd : B'.Nodup) (ns : s ∉ mv) (hm : ∀ j ∈ mv, md Γ j = some .own)
    (hB : ∀ a ∈ B', a ∈ B ∨ (H0 a = none ∧ ¬ I a ∧ ∀ j, a ∉ F j) ∨ ∃ j ∈ mv, a ∈ F j) :
    ∃ F', Ok K I F' σ (setS (drops mv Γ) s p e') H' ∧ FrS I0 I F0 F' Γ0 (setS (drops mv Γ) s p e') σ0 σ H0 H' := by
  obtain ⟨F', o', k1, k2, k3⟩ := h.fill o st r nd ns hm (fun a ha => (hB a ha).imp id (Or.imp And.right id))
  have hmd : ∀ j, md (setS (drops mv Γ) s p e') j = if j ∈ mv then none else md Γ j := fun j => by rw [setS_md, md_drops]
  refine ⟨F', o', ⟨fr.stp.trans (st.mono (Y := fun a => ∃ s, a ∈ F s) fun a _ z => ⟨s, h.sub a z⟩) fun c hc ⟨j, z⟩ => ?_, fr.isub, fr.inew, fun j a ha => ?_, fun j hj => ?_, fun j hj => ?_⟩⟩
  · rcases fr.fsub j c z with y | ⟨j', y, _⟩ | y
    · exact ⟨j, y⟩
    · exact ⟨j', y⟩
    · exact absurd y hc
  · by_cases q : j = s
    · subst q
      rcases k3 a ha with z | z
      · exact fr.fsub j a z
      · rcases hB a z with y | y | ⟨i, hi, y⟩
        · exact fr.fsub j a (h.sub a y)
        · exact .inr (.inr y.1)
        · have mi := hm i hi
          rcases fr.fsub i a y with x | x | x
          · refine .inr (.inl ⟨i, x, fun z => ?_⟩)
            rw [(fr.io i z).1] at mi
            cases mi
          · exact .inr (.inl x)
          · exact .inr (.inr x)
    · by_cases q2 : j ∈ mv
      · rw [k2 j q2] at ha; cases ha
      · rw [k1 j q q2] at ha
        exact fr.fsub j a ha
  · have z := fr.io j hj
    refine ⟨?_, z.2⟩
    rw [hmd]
    split
    · rename_i q
      have := hm j q
      rw [z.1] at this
      cases this
    · exact z.1
  · rw [hmd] at hj
    split at hj
    · cases hj
    · exact fr.oi j hj
/-- .. within an expression -/
theorem Spot.fillE {M : List Nat} (fr : Frm M Γ0 Γ F0 F H0 H) (o : Ok K I F σ Γ H) (h : Spot K F σ Γ H s p w e B) (st : Stp (fun a => a ∈ B) H H') (r : Rep K H' w e' B') (nd : B'.Nodup)
    (hB : ∀ a ∈ B', a ∈ B ∨ (H0 a = none ∧ ¬ I a ∧ ∀ j, a ∉ F j)) :
    ∃ F', Ok K I F' σ (setS Γ s p e') H' ∧ Frm (M ++ [s]) Γ0 (setS Γ s p e') F0 F' H0 H' ∧ (∀ j, j ≠ s → F' j = F j) ∧ ∀ a ∈ F' s, a ∈ F s ∨ a ∈ B' := by
  obtain ⟨F', o', k1, k2, k3⟩ := h.fill (mv := []) o st r nd (fun z => nomatch z) (fun _ z => nomatch z) (fun a ha => (hB a ha).imp id fun z => .inl z.2)
  refine ⟨F', o', ⟨(fr.stp.mono fun c _ ⟨j, m, z⟩ => ⟨j, List.mem_append_left _ m, z⟩).trans (st.mono (Y := fun a => a ∈ F s) fun a _ z => h.sub a z) fun c hc z => ?_, fun j hj => ?_, fun j hj => ?_, fun j a ha => ?_, fun j => ?_⟩, fun j q => k1 j q (fun z => nomatch z), k3⟩
  · rcases fr.sub s c z with y | y
    · exact ⟨s, by simp, y⟩
    · exact absurd y hc
  · have q : j ≠ s := fun z => hj (by simp [z])
    rw [k1 j q (fun z => nomatch z)]
    exact fr.same j fun z => hj (by simp [z])
  · have q : j ≠ s := fun z => hj (by simp [z])
    rw [setS_ne q]
    exact fr.env j fun z => hj (by simp [z])
  · by_cases q : j = s
    · subst q
      rcases k3 a ha with z | z
      · exact fr.sub j a z
      · rcases hB a z with y | y
        · exact fr.sub j a (h.sub a y)
        · exact .inr y.1
    · rw [k1 j q (fun z => nomatch z)] at ha
      exact fr.sub j a ha
  · rw [setS_md]
    exact fr.md j
end
end VS
/-! VS15: places as expressions; lists written. -/
namespace VS
open PySem L2
section
variable {K : PySem.W.Frag} {I I0 : Addr → Prop} {F F0 F1 F2 : Nat → List Addr} {Γ Γ0 Γ1 Γ2 : Env} {σ σ0 : St} {H H0 H1 H2 H' : Hp} {s : Nat} {p : List Acc} {v w : V} {x : Val} {G : List Addr} {ds ds' : List D} {vs vs' : List V} {l : Addr} {L L' : List Addr}
theorem Spot.lst {B : List Addr} (o : Ok K I F σ Γ H) (h : Spot K F σ Γ H s p w (.lst ds) B) : ∃ l vs L, w = .ref l ∧ H l = some (.lst vs) ∧ B = l :: L ∧ Reps K H vs ds L ∧ l ∉ L ∧ L.Nodup := by
  have nd := h.nd o
  have r := h.rep
  cases r with
  | @lst a vs _ L ha rr => exact ⟨a, vs, L, rfl, ha, rfl, rr, (List.nodup_cons.mp nd).1, (List.nodup_cons.mp nd).2⟩
/-- how a list's new items stand -/
theorem lst_new (hl : H l = some (.lst vs)) (r : Reps K H vs' ds' L') (nd : (l :: L').Nodup) : Stp (fun a => a ∈ l :: L) H (upd H l (.lst vs')) ∧ Rep K (upd H l (.lst vs')) (.ref l) (.lst ds') (l :: L') := by
  have st : Stp (fun a => a = l) H (upd H l (.lst vs')) := Stp.upd rfl fun o e => by
    rw [hl] at e
    injection e with e
    subst e
    exact trivial
  refine ⟨st.mono fun a _ z => by subst z; exact List.mem_cons_self, .lst upd_same (r.stp st fun a ha z => ?_)⟩
  subst z
  exact (List.nodup_cons.mp nd).1 ha
theorem Spot.lput {mv : List Nat} (fr : FrS I0 I F0 F Γ0 Γ σ0 σ H0 H) (o : Ok K I F σ Γ H) (h : Spot K F σ Γ H s p (.ref l) (.lst ds) (l :: L)) (hl : H l = some (.lst vs)) (r : Reps K H vs' ds' L') (nd : (l :: L').Nodup) (ns : s ∉ mv) (hm : ∀ j ∈ mv, md Γ j = some .own)
    (hB : ∀ a ∈ L', a ∈ L ∨ (H0 a = none ∧ ¬ I a ∧ ∀ j, a ∉ F j) ∨ ∃ j ∈ mv, a ∈ F j) :
    ∃ F', Ok K I F' σ (setS (drops mv Γ) s p (.lst ds')) (upd H l (.lst vs')) ∧ FrS I0 I F0 F' Γ0 (setS (drops mv Γ) s p (.lst ds')) σ0 σ H0 (upd H l (.lst vs')) := by
  obtain ⟨st, r'⟩ := lst_new (L := L) hl r nd
  refine h.fillS fr o st r' nd ns hm fun a ha => ?_
  rcases List.mem_cons.mp ha with z | z
  · subst z
    exact .inl List.mem_cons_self
  · exact (hB a z).imp (List.mem_cons_of_mem _) id
theorem Spot.lputE {M : List Nat} (fr : Frm M Γ0 Γ F0 F H0 H) (o : Ok K I F σ Γ H) (h : Spot K F σ Γ H s p (.ref l) (.lst ds) (l :: L)) (hl : H l = some (.lst vs)) (r : Reps K H vs' ds' L') (nd : (l :: L').Nodup)
    (hB : ∀ a ∈ L', a ∈ L) :
    ∃ F', Ok K I F' σ (setS Γ s p (.lst ds')) (upd H l (.lst vs')) ∧ Frm (M ++ [s]) Γ0 (setS Γ s p (.lst ds')) F0 F' H0 (upd H l (.lst vs')) := by
  obtain ⟨st, r'⟩ := lst_new (L := L) hl r nd
  obtain ⟨F', a, b, _⟩ := h.fillE fr o st r' nd fun a ha => by
    rcases List.mem_cons.mp ha with z | z
    · subst z
      exact .inl List.mem_cons_self
    · exact .inl (List.mem_cons_of_mem _ (hB a z))
  exact ⟨F', a, b⟩
/-- what a value takes along -/
def giveS (s : Nat) (x : Val) (Γ : Env) : Option (List Nat) :=
  if immut x.d then some [] else if !x.ro && !x.deps.contains s && x.deps.all (fun j => decide (md Γ j = some .own)) then some x.deps else none
theorem give_ok {mv : List Nat} (o0 : Ok K I0 F0 σ0 Γ0 H0) (hI : ∀ a, I a → I0 a) (l : VOk K I F H0 H v x G) (e : giveS s x Γ = some mv) :
    s ∉ mv ∧ (∀ j ∈ mv, md Γ j = some .own) ∧ G.Nodup ∧ ∀ a ∈ G, (H0 a = none ∧ ¬ I a ∧ ∀ j, a ∉ F j) ∨ ∃ j ∈ mv, a ∈ F j := by
  unfold giveS at e
  split at e
  · rename_i h
    injection e with e
    subst e
    have z := l.rep.immut h
    subst z
    exact ⟨(fun z => nomatch z), (fun _ z => nomatch z), List.nodup_nil, (fun _ z => nomatch z)⟩
  · split at e
    · rename_i h
      injection e with e
      subst e
      rw [Bool.and_eq_true, Bool.and_eq_true] at h
      have hr : x.ro = false := by simpa using h.1.1
      refine ⟨by simpa using h.1.2, fun j hj => by simpa using List.all_eq_true.mp h.2 j hj, l.nd hr, fun a ha => ?_⟩
      rcases l.own a ha with ⟨z, n⟩ | ⟨z, _⟩ | z
      · exact .inl ⟨z, fun q => o0.iv a (hI a q) z, n⟩
      · rw [hr] at z; cases z
      · exact .inr z
    · cases e
end

/-! ### places -/
abbrev PlF := Env → Option (List Acc × Env)
def tPl (K : PySem.W.Frag) (M : List Nat) (s : Nat) (pl : PlF) : TE := fun σ H Q => ∃ I F Γ p Γ', Ok K I F σ Γ H ∧ pl Γ = some (p, Γ') ∧
  ∀ w e B H' F', Ok K I F' σ Γ' H' → Frm M Γ Γ' F F' H H' → Spot K F' σ Γ' H' s p w e B → Q w H'
structure SP (X : Cx) (M : List Nat) (e : Expr) (s : Nat) (pl : PlF) : Prop where
  pe : PE X e (tPl X.K M s pl)
def varP (i : Nat) : PlF := fun Γ => match Γ[i]? with
  | some (some (m, _)) => if m = .ro then none else some ([], Γ)
  | _ => none
def subP (N : List Nat) (s : Nat) (pl : PlF) (fb : EF) : PlF := fun Γ => match pl Γ with
  | none => none
  | some (p, Γ1) => match fb Γ1 with
    | some (⟨_, _, .int k⟩, Γ2) => if N.contains s then none else match getS Γ2 s p with
      | some (.lst ds) => match ixN ds.length k with
        | some j => some (p ++ [.ix j], Γ2)
        | none => none
      | some (.tup ds) => match ixN ds.length k with
        | some j => some (p ++ [.ix j], Γ2)
        | none => none
      | _ => none
    | _ => none
section
variable {X : Cx} {a b e : Expr} {M N L : List Nat} {fa fb fe : EF} {pl : PlF} {s : Nat} {pos apos cpos : Pos}
theorem sp_var {i : Nat} {x : Str} (h : PE X (.Name x pos) (tVar i)) : SP X [] (.Name x pos) i (varP i) := ⟨PE.imp h fun σ H Q q => by
  obtain ⟨I, F, Γ, p, Γ', o, e, k⟩ := q
  unfold varP at e
  split at e
  · rename_i m d hd
    split at e
    · cases e
    · rename_i hm
      injection e with e
      injection e with e1 e2
      subst e1 e2
      obtain ⟨v, G, h1, h2, h3⟩ := o.at' i m d hd
      rw [if_neg hm] at h3
      exact ⟨v, h1, k v d (F i) H F o (Frm.refl _ _ _) ⟨v, m, d, _, _, hd, hm, h1, h3.symm ▸ Hole.nil h2⟩⟩
  · cases e⟩
theorem ixN_lt {n : Nat} {k : Int} {j : Nat} (h : ixN n k = some j) : j < n := (ixN_seq h).2.1
theorem sp_sub (ha : SP X M a s pl) (hb : SE X N b fb) (hs : PlainIx b := by exact fun _ _ => rfl) : SP X (M ++ N) (.Subscript a b pos) s (subP N s pl fb) := ⟨PE.imp (pe_ix ix_seq ha.pe hb.pe hs) fun σ H Q q => by
  obtain ⟨I, F, Γ, p, Γ', o, e, k⟩ := q
  unfold subP at e
  split at e
  · cases e
  · rename_i p1 Γ1 e1
    split at e
    · rename_i dp ro i Γ2 e2
      split at e
      · cases e
      · rename_i hn
        have hn' : s ∉ N := by simpa using hn
        refine ⟨I, F, Γ, p1, Γ1, o, e1, fun w d B H1 F1 o1 f1 sp => ⟨I, F1, Γ1, _, Γ2, o1, e2, fun u H2 F2 G2 o2 f2 y => ?_⟩⟩
        have sp2 := sp.last o1 f2 hn'
        have g2 := sp2.get
        cases y.rep
        split at e
        · rename_i ds eg
          rw [g2] at eg
          injection eg with eg
          subst eg
          split at e
          · rename_i j ej
            injection e with e
            injection e with h1 h2
            subst h1 h2
            obtain ⟨v, m, d0, A, C, q1, q2, q3, q4⟩ := sp2.ex
            obtain ⟨a1, vs, w1, A1, B1, C1, rfl, hv, hl, hw, hh⟩ := q4.lst (List.getElem?_eq_getElem (ixN_lt ej))
            refine .inl ⟨_, vs, i, w1, rfl, rfl, .inl (.inl hv), ?_, k w1 _ _ H2 F2 o2 (f1.trans f2) ⟨v, m, d0, _, _, q1, q2, q3, hh⟩⟩
            unfold atI
            rw [hl, ej]
            exact hw
          · cases e
        · rename_i ds eg
          rw [g2] at eg
          injection eg with eg
          subst eg
          split at e
          · rename_i j ej
            injection e with e
            injection e with h1 h2
            subst h1 h2
            obtain ⟨v, m, d0, A, C, q1, q2, q3, q4⟩ := sp2.ex
            obtain ⟨a1, vs, w1, A1, B1, C1, rfl, hv, hl, hw, hh⟩ := q4.tup (List.getElem?_eq_getElem (ixN_lt ej))
            refine .inr (.inl ⟨_, vs, i, w1, rfl, rfl, hv, ?_, k w1 _ _ H2 F2 o2 (f1.trans f2) ⟨v, m, d0, _, _, q1, q2, q3, hh⟩⟩)
            unfold atI
            rw [hl, ej]
            exact hw
          · cases e
        · cases e
    · cases e⟩

/-! ### methods that write a list: append, extend, remove -/
def AnsM (K : PySem.W.Frag) (r : V → List V → Hp → VK → Prop) (g : List D → D → Option (List D)) : Prop := ∀ (H : Hp) (l : Addr) (vs : List V) (ds : List D) (L : List Addr) (v : V) (d : D) (G : List Addr) (ds' : List D),
  H l = some (.lst vs) → Reps K H vs ds L → Rep K H v d G → (L ++ G).Nodup → g ds d = some ds' →
  ∃ vs' L', Reps K H vs' ds' L' ∧ L'.Nodup ∧ (∀ a ∈ L', a ∈ L ∨ a ∈ G) ∧ ∀ Q : VK, Q .non (upd H l (.lst vs')) → r (.ref l) [v] H Q
def mthF (g : List D → D → Option (List D)) (N : List Nat) (s : Nat) (pl : PlF) (fe : EF) : SF := fun Γ => match pl Γ with
  | none => none
  | some (p, Γ1) => match getS Γ1 s p with
    | some (.lst ds) => match fe Γ1 with
      | none => none
      | some (x, Γ2) => if N.contains s then none else match g ds x.d, giveS s x Γ2 with
        | some ds', some mv => some (.nx (setS (drops mv Γ2) s p (.lst ds')))
        | _, _ => none
    | _ => none
theorem Reps.snoc {K : PySem.W.Frag} {H : Hp} {vs : List V} {ds : List D} {L G : List Addr} {v : V} {d : D} (r : Reps K H vs ds L) (q : Rep K H v d G) : Reps K H (vs ++ [v]) (ds ++ [d]) (L ++ G) := by
  have := r.app (.cons q .nil)
  simpa using this
theorem ss_mth {r : V → List V → Hp → VK → Prop} {g : List D → D → Option (List D)} {name : Str} {mid : String} (slot : PySem.Slot "list" name mid) (hty : typeOf (.builtin mid) = pure (.type "method_descriptor")) (hmt : MtM X mid r) (A : AnsM X.K r g)
    (ho : SP X M a s pl) (he : SE X N e fe) (hs : swapsWith (.Call (.Attribute a name apos) [e] [] cpos) none pos.line X.env = pure false := by rfl)
    (hbase : attributeBase a name X.env (eval a X.env) = eval a X.env := by rfl)
    (hfew : ((backTo cpos (starEach [e] X.env)).all (fun x => !x.1) && (backToKw cpos (keywordEach [] X.env)).all (fun x => x.1.isSome)
      && decide ([e].length + ([] : List Keyword).length + (if ([] : List Keyword).isEmpty then 0 else 1) < 30)) = true := by rfl)
    (hline : (apos.endLine == cpos.line) = true := by rfl) (hst : starEach [e] X.env = (false, eval e X.env) :: starEach [] X.env := by rfl) (hplain : (backTo cpos (starEach [] X.env)).any (·.1) = false := by rfl) :
    SS X (.Expr (.Call (.Attribute a name apos) [e] [] cpos) pos) (mthF g N s pl fe) :=
  ⟨PS.imp (ps_expr (pe_bm PySem.F.plainAttrs_list slot hty hmt ho.pe (pa_cons he.pe pa_nil hst) hbase hfew hline hst hplain) hs) fun Dd σ H q => by
  obtain ⟨I, F, Γ, out, o, e, p⟩ := q
  unfold mthF at e
  split at e
  · cases e
  · rename_i p1 Γ1 e1
    split at e
    · rename_i ds eg
      split at e
      · cases e
      · rename_i x Γ2 e2
        split at e
        · cases e
        · rename_i hn
          have hn' : s ∉ N := by simpa using hn
          split at e
          · rename_i ds' mv ed em
            injection e with e
            subst e
            refine ⟨I, F, Γ, p1, Γ1, o, e1, fun w d B H1 F1 o1 f1 sp => ?_⟩
            have g1 := sp.get
            rw [eg] at g1
            injection g1 with g1
            subst g1
            obtain ⟨l, vs, L, rfl, hl, rfl, rr, nl, nd⟩ := sp.lst o1
            refine ⟨.inl ⟨rfl, vs, .inl (.inl hl)⟩, I, F1, Γ1, x, Γ2, o1, e2, fun v H2 F2 G o2 f2 y => ?_⟩
            have sp2 := sp.last o1 f2 hn'
            obtain ⟨l', vs2, L2, e3, hl2, e4, rr2, nl2, nd2⟩ := sp2.lst o2
            injection e3 with e3
            subst e3
            injection e4 with _ e4
            subst e4
            obtain ⟨m1, m2, m3, m4⟩ := give_ok o (fun _ z => z) (y.back f1.stp.live) em
            have sL : ∀ a ∈ L, a ∈ F2 s := fun a ha => sp2.sub a (List.mem_cons_of_mem _ ha)
            have sl : l ∈ F2 s := sp2.sub l List.mem_cons_self
            have off : ∀ a ∈ G, a ∉ F2 s := fun a ha z => by
              rcases m4 a ha with q | ⟨j, hj, q⟩
              · exact q.2.2 s z
              · exact o2.dj j s (fun y => m1 (y ▸ hj)) a q z
            have lg : (L ++ G).Nodup := List.nodup_append.mpr ⟨nd, m3, fun a ha b hb q => by
              subst q
              exact off a hb (sL a ha)⟩
            obtain ⟨vs', L', r', n', s', hr⟩ := A H2 l vs2 ds L v x.d G ds' hl2 rr2 y.rep lg ed
            refine hr _ ?_
            have nd' : (l :: L').Nodup := List.nodup_cons.mpr ⟨fun z => (s' l z).elim nl fun q => off l q sl, n'⟩
            obtain ⟨F3, o3, fr⟩ := sp2.lput (FrS.of (f1.trans f2)) o2 hl2 r' nd' m1 m2 fun a ha => (s' a ha).imp id fun q => m4 a q
            exact p σ _ I F3 o3 fr
          · cases e
    · cases e⟩
def appG (ds : List D) (d : D) : Option (List D) := if ds.length < SZ then some (ds ++ [d]) else none
theorem ansM_append {K : PySem.W.Frag} : AnsM K rAppend appG := by
  intro H l vs ds L v d G ds' hl r q nd e
  unfold appG at e
  split at e
  · rename_i hz
    injection e with e
    subst e
    exact ⟨vs ++ [v], L ++ G, r.snoc q, nd, fun a ha => List.mem_append.mp ha, fun Q h => ⟨l, vs, v, rfl, rfl, hl, by rw [r.length]; exact Nat.lt_of_lt_of_le hz (SZ_le (Nat.le_refl _)), h⟩⟩
  · cases e
def extG (ds : List D) (d : D) : Option (List D) := match d with
  | .lst es => if ds.length + es.length ≤ SZ then some (ds ++ es) else none
  | _ => none
theorem ansM_extend {K : PySem.W.Frag} : AnsM K rExtend extG := by
  intro H l vs ds L v d G ds' hl r q nd e
  unfold extG at e
  split at e
  · rename_i es
    split at e
    · rename_i hz
      injection e with e
      subst e
      cases q with
      | @lst b zs _ G hb rr =>
        refine ⟨vs ++ zs, L ++ G, r.app rr, ?_, fun a ha => (List.mem_append.mp ha).imp id (List.mem_cons_of_mem _), fun Q h => ⟨l, b, vs, zs, rfl, rfl, hl, hb, by rw [r.length, rr.length]; exact SZ_le hz, h⟩⟩
        rw [List.nodup_append] at nd ⊢
        exact ⟨nd.1, (List.nodup_cons.mp nd.2.1).2, fun a ha c hc => nd.2.2 a ha c (List.mem_cons_of_mem _ hc)⟩
    · cases e
  · cases e
/-- the first place of an int -/
def idxI (k : Int) : List Int → Option Nat
  | [] => none
  | i :: r => if i = k then some 0 else (idxI k r).map (· + 1)
theorem idxI_some : ∀ {k : Int} {l : List Int} {j : Nat}, idxI k l = some j → l[j]? = some k ∧ ∀ m, m < j → l[m]? ≠ some k
  | k, [], j, h => by cases h
  | k, i :: r, j, h => by
    unfold idxI at h
    split at h
    · rename_i q
      injection h with h
      subst h q
      exact ⟨rfl, fun m z => absurd z (Nat.not_lt_zero _)⟩
    · rename_i q
      cases h2 : idxI k r with
      | none => rw [h2] at h; cases h
      | some n =>
        rw [h2] at h
        injection h with h
        subst h
        obtain ⟨a, b⟩ := idxI_some h2
        refine ⟨by simpa using a, fun m hm => ?_⟩
        cases m with
        | zero => simpa using q
        | succ m => simpa using b m (Nat.lt_of_succ_lt_succ hm)
def remG (ds : List D) (d : D) : Option (List D) := match d, intsOf ds with
  | .int k, some is => match idxI k is with
    | some j => some (ds.eraseIdx j)
    | none => none
  | _, _ => none
theorem erase_mapD : ∀ (is : List Int) (j : Nat), (is.map D.int).eraseIdx j = (is.eraseIdx j).map D.int
  | [], j => by simp
  | a :: r, 0 => by simp
  | a :: r, j + 1 => by simpa using erase_mapD r j
theorem ansM_remove {K : PySem.W.Frag} : AnsM K rRemI remG := by
  intro H l vs ds L v d G ds' hl r q nd e
  unfold remG at e
  split at e
  · rename_i k is ei
    split at e
    · rename_i j ej
      injection e with e
      subst e
      cases q
      obtain ⟨a, c, b⟩ := intsOf_rep r ei
      subst a b c
      obtain ⟨h1, h2⟩ := idxI_some ej
      refine ⟨(is.eraseIdx j).map V.int, [], ?_, List.nodup_nil, (fun _ z => nomatch z), fun Q h => ⟨l, is, k, j, rfl, rfl, hl, h1, h2, h⟩⟩
      rw [show (is.map D.int).eraseIdx j = (is.eraseIdx j).map D.int from erase_mapD is j]
      exact reps_ints _
    · cases e
  · cases e
end
end VS
/-! VS16: xs[i] = e, xs[i] op= e, xs.pop(), xs.pop(i). -/
namespace VS
open PySem L2
section
variable {K : PySem.W.Frag} {H : Hp}
theorem Reps.put : ∀ {vs : List V} {ds : List D} {L : List Addr} {j : Nat} {v : V} {d : D} {G : List Addr}, Reps K H vs ds L → Rep K H v d G → j < ds.length → ∃ A B C, L = A ++ B ++ C ∧ Reps K H (vs.set j v) (ds.set j d) (A ++ G ++ C)
  | _, _, _, j, _, _, _, .nil, q, h => absurd h (Nat.not_lt_zero _)
  | _, _, _, 0, _, _, G, .cons (F := F) (G := L) r t, q, h => ⟨[], F, L, rfl, by simpa using Reps.cons q t⟩
  | _, _, _, j + 1, _, _, G, .cons (F := F) (G := L) r t, q, h => by
    obtain ⟨A, B, C, e, r'⟩ := Reps.put (j := j) t q (by simpa using h)
    exact ⟨F ++ A, B, C, by rw [e]; simp, by simpa using Reps.cons r r'⟩
theorem Reps.less : ∀ {vs : List V} {ds : List D} {L : List Addr} (j : Nat), Reps K H vs ds L → ∃ L', Reps K H (vs.eraseIdx j) (ds.eraseIdx j) L' ∧ L'.Sublist L
  | _, _, _, _, .nil => ⟨[], .nil, List.Sublist.refl _⟩
  | _, _, _, 0, .cons (F := F) (G := L) r t => ⟨L, t, List.sublist_append_right F L⟩
  | _, _, _, j + 1, .cons (F := F) (G := L) r t => by
    obtain ⟨L', a, b⟩ := Reps.less j t
    exact ⟨F ++ L', .cons r a, List.Sublist.append (List.Sublist.refl _) b⟩
theorem Reps.dropLast {vs : List V} {ds : List D} {L : List Addr} (h : Reps K H vs ds L) : ∃ L', Reps K H vs.dropLast ds.dropLast L' ∧ L'.Sublist L := by
  induction vs generalizing ds L with
  | nil => cases h; exact ⟨[], .nil, List.Sublist.refl _⟩
  | cons v vs ih =>
    cases h with
    | @cons _ d F _ ds G r t =>
      cases t with
      | nil => exact ⟨[], .nil, List.nil_sublist _⟩
      | cons r2 t2 =>
        obtain ⟨L', a, b⟩ := ih (.cons r2 t2)
        exact ⟨F ++ L', .cons r a, List.Sublist.append (List.Sublist.refl _) b⟩
end
section
variable {X : Cx} {a b e : Expr} {M N L : List Nat} {fa fb fe fi : EF} {pl : PlF} {s : Nat} {pos apos cpos : Pos}
def setIF (N L : List Nat) (s : Nat) (fe : EF) (pl : PlF) (fi : EF) : SF := fun Γ => match fe Γ with
  | none => none
  | some (x, Γ1) => match pl Γ1 with
    | none => none
    | some (p, Γ2) => match getS Γ2 s p with
      | some (.lst ds) => match fi Γ2 with
        | some (⟨_, _, .int k⟩, Γ3) => if !L.contains s && (lastOk N x && lastOk L x) then match ixN ds.length k, giveS s x Γ3 with
          | some j, some mv => some (.nx (setS (drops mv Γ3) s p (.lst (ds.set j x.d))))
          | _, _ => none else none
        | _ => none
      | _ => none
theorem ss_setI (he : SE X M e fe) (ho : SP X N a s pl) (hi : SE X L b fi)
    (hasg : ∀ v, assign (.Subscript a b apos) X.env v = (do
      let ov ← holding [v] (eval a X.env)
      let iv ← holding [v, ov] (eval b X.env)
      standAt apos
      holding [v, ov, iv] (setItem ov iv v)
      release [v, ov, iv] []) := by intro _; rfl)
    (hs : swapsWithSole [.Subscript a b apos] e pos.line X.env = pure false := by rfl) (hw : swappedStores [.Subscript a b apos] e X.env = pure none := by rfl)
    (h1 : (assignEach [.Subscript a b apos] X.env).map (·.2) = [assign (.Subscript a b apos) X.env] := by rfl) :
    SS X (.Assign [.Subscript a b apos] e pos) (setIF N L s fe pl fi) := ⟨PS.imp (ps_asg he.pe (pg_sub ho.pe hi.pe set_list hasg) hs hw h1) fun Dd σ H q => by
  obtain ⟨I, F, Γ, out, o, e, p⟩ := q
  unfold setIF at e
  split at e
  · cases e
  · rename_i x Γ1 e1
    split at e
    · cases e
    · rename_i p1 Γ2 e2
      split at e
      · rename_i ds eg
        split at e
        · rename_i dp ro k Γ3 e3
          split at e
          · rename_i hc
            rw [Bool.and_eq_true, Bool.and_eq_true] at hc
            have hL : s ∉ L := by simpa using hc.1
            split at e
            · rename_i j mv ej em
              injection e with e
              subst e
              refine ⟨I, F, Γ, x, Γ1, o, e1, fun v H1 F1 G o1 f1 y1 => ⟨I, F1, Γ1, p1, Γ2, o1, e2, fun w d B H2 F2 o2 f2 sp => ?_⟩⟩
              have g1 := sp.get
              rw [eg] at g1
              injection g1 with g1
              subst g1
              have y2 := y1.lastB hc.2.1 o1 f2 o2
              refine ⟨I, F2, Γ2, _, Γ3, o2, e3, fun u H3 F3 G3 o3 f3 y3 => ?_⟩
              have y4 := y2.lastB hc.2.2 o2 f3 o3
              have sp2 := sp.last o2 f3 hL
              obtain ⟨l, vs, LL, rfl, hl, rfl, rr, nl, nd⟩ := sp2.lst o3
              cases y3.rep
              have hj := (ixN_seq ej).2.1
              obtain ⟨A, B0, C, eL, r'⟩ := rr.put (j := j) y4.rep hj
              refine ⟨l, vs, k, j, rfl, rfl, hl, by rw [rr.length]; exact ej, ?_⟩
              obtain ⟨m1, m2, m3, m4⟩ := give_ok o (fun _ z => z) y4 em
              have sL : ∀ a ∈ LL, a ∈ F3 s := fun a ha => sp2.sub a (List.mem_cons_of_mem _ ha)
              have sl : l ∈ F3 s := sp2.sub l List.mem_cons_self
              have off : ∀ a ∈ G, a ∉ F3 s := fun a ha z => by
                rcases m4 a ha with q | ⟨j, hj, q⟩
                · exact q.2.2 s z
                · exact o3.dj j s (fun y => m1 (y ▸ hj)) a q z
              have AC : ∀ a ∈ A ++ C, a ∈ LL := fun a ha => by
                rw [eL]
                rcases List.mem_append.mp ha with q | q <;> simp [q]
              have nd' : (l :: (A ++ G ++ C)).Nodup := by
                rw [eL] at nd
                refine List.nodup_cons.mpr ⟨fun z => ?_, ?_⟩
                · have : l ∈ A ++ C ∨ l ∈ G := by
                    simp at z ⊢
                    rcases z with q | q | q <;> simp [q]
                  rcases this with q | q
                  · exact nl (AC l q)
                  · exact off l q sl
                · rw [List.nodup_append, List.nodup_append] at nd ⊢
                  refine ⟨⟨nd.1.1, m3, fun a ha c hc q => ?_⟩, nd.2.1, fun a ha c hc q => ?_⟩
                  · subst q
                    exact off a hc (sL a (AC a (List.mem_append_left _ ha)))
                  · subst q
                    rcases List.mem_append.mp ha with y | y
                    · exact nd.2.2 a (List.mem_append_left _ y) a hc rfl
                    · exact off a y (sL a (AC a (List.mem_append_right _ hc)))
              obtain ⟨F4, o4, fr⟩ := sp2.lput (FrS.of ((f1.trans f2).trans f3)) o3 hl r' nd' m1 m2 fun a ha => by
                have : a ∈ A ++ C ∨ a ∈ G := by
                  simp at ha ⊢
                  rcases ha with q | q | q <;> simp [q]
                exact this.imp (AC a) (m4 a)
              exact p σ _ I F4 o4 fr
            · cases e
          · cases e
        · cases e
      · cases e⟩

/-! ### xs[i] op= e, what cannot be written put in -/
def rGetL : V → V → Hp → VK → Prop := fun o i H Q => ∃ p xs k v, o = .ref p ∧ i = .int k ∧ H p = some (.lst xs) ∧ atI xs k = some v ∧ Q v H
theorem get_list : PGet X rGetL := by
  intro pins s σ H o i ov iv Q I ro ri h
  obtain ⟨p, xs, k, v, rfl, rfl, hp, he, q⟩ := h
  cases ro
  obtain ⟨t, rfl⟩ := ri
  obtain ⟨its, r, pl, hz⟩ := I.list (.inl (.inl hp))
  obtain ⟨j, h1, h2, h3, h4, h5⟩ := atI_get he
  obtain ⟨w, ew, rw'⟩ := r.get h2
  have hl := r.length
  have hn := line63
  have fin : EP X pins σ Q w s := ⟨v, H, I, rw', q⟩
  by_cases h0 : 0 ≤ k
  · have hj : k.toNat = j := by
      rw [seqIndex_of h0 h5] at h1
      exact Option.some.inj h1
    exact wpAny_getItem_list pl.isList h0 (by omega) (by rw [hj]; simpa using ew) fin
  · have hj : (k + (its.toArray.size : Int)).toNat = j := by
      rw [seqIndex_neg (by omega) h4] at h1
      rw [List.size_toArray, ← hl]
      exact Option.some.inj h1
    exact wpAny_getItem_list_neg pl.isList (by omega) (by rw [List.size_toArray] <;> omega) (by omega) (by rw [hj]; simpa using ew) fin
def augIF (g : D → D → Option D) (L N : List Nat) (s : Nat) (pl : PlF) (fi fe : EF) : SF := fun Γ => match pl Γ with
  | none => none
  | some (p, Γ1) => match getS Γ1 s p with
    | some (.lst ds) => match fi Γ1 with
      | some (⟨_, _, .int k⟩, Γ2) => if !L.contains s && !N.contains s then match ixN ds.length k with
        | some j => match ds[j]? with
          | some d => match fe Γ2 with
            | some (y, Γ3) => if immut d then match g d y.d with
              | some z => if immut z then some (.nx (setS Γ3 s p (.lst (ds.set j z)))) else none
              | none => none else none
            | none => none
          | none => none
        | none => none else none
      | _ => none
    | _ => none
theorem ss_augI {op : Operator} {t : TIp} {g : D → D → Option D} (hop : PIp X op t) (A : Ans2 X.K t g) (ho : SP X M a s pl) (hi : SE X L b fi) (he : SE X N e fe)
    (ha : ∀ ov iv new, augStore b ov iv new = (do holding [new, ov, iv] (setItem ov iv new); release [new, ov, iv] []; pure .next) := by intros; rfl) :
    SS X (.AugAssign (.Subscript a b apos) op e pos) (augIF g L N s pl fi fe) := ⟨PS.imp (ps_augS ho.pe hi.pe get_list he.pe hop set_list ha) fun Dd σ H q => by
  obtain ⟨I, F, Γ, out, o, e, p⟩ := q
  unfold augIF at e
  split at e
  · cases e
  · rename_i p1 Γ1 e1
    split at e
    · rename_i ds eg
      split at e
      · rename_i dp ro k Γ2 e2
        split at e
        · rename_i hc
          rw [Bool.and_eq_true] at hc
          have hL : s ∉ L := by simpa using hc.1
          have hN : s ∉ N := by simpa using hc.2
          split at e
          · rename_i j ej
            split at e
            · rename_i d ed
              split at e
              · rename_i y Γ3 e3
                split at e
                · rename_i hd
                  split at e
                  · rename_i z ez
                    split at e
                    · rename_i hz
                      injection e with e
                      subst e
                      refine ⟨I, F, Γ, p1, Γ1, o, e1, fun w d1 B H1 F1 o1 f1 sp => ?_⟩
                      have g1 := sp.get
                      rw [eg] at g1
                      injection g1 with g1
                      subst g1
                      refine ⟨I, F1, Γ1, _, Γ2, o1, e2, fun u H2 F2 G2 o2 f2 y2 => ?_⟩
                      have sp2 := sp.last o1 f2 hL
                      obtain ⟨l, vs, LL, rfl, hl, rfl, rr, nl, nd⟩ := sp2.lst o2
                      cases y2.rep
                      have hj := (ixN_seq ej).2.1
                      obtain ⟨xv, hxv⟩ : ∃ xv, vs[j]? = some xv := ⟨_, List.getElem?_eq_getElem (by rw [rr.length]; exact hj)⟩
                      obtain ⟨A1, B1, C1, rx, eL, _⟩ := rr.hole hxv ed
                      refine ⟨l, vs, k, xv, rfl, rfl, hl, ?_, ?_⟩
                      · unfold atI
                        rw [rr.length, ej]
                        exact hxv
                      · refine ⟨I, F2, Γ2, y, Γ3, o2, e3, fun v3 H3 F3 G3 o3 f3 y3 => ?_⟩
                        have sp3 := sp2.last o2 f3 hN
                        have eB := rx.immut hd
                        subst eB
                        have rx3 : Rep X.K H3 xv d [] := rx.stp f3.stp (fun _ z => nomatch z)
                        refine A H3 xv v3 d y.d z [] G3 _ rx3 y3.rep ez fun nv H4 ex ⟨Gz, rz, _, _⟩ => ?_
                        have eG := rz.immut hz
                        subst eG
                        have sp4 := sp3.ex' ex
                        have o4 := o3.ex ex
                        obtain ⟨l', vs4, LL4, e4, hl4, e5, rr4, nl4, nd4⟩ := sp4.lst o4
                        injection e4 with e4
                        subst e4
                        injection e5 with _ e5
                        subst e5
                        obtain ⟨A, B0, C, eL4, r'⟩ := rr4.put (j := j) rz hj
                        refine ⟨l, vs4, k, j, rfl, rfl, hl4, by rw [rr4.length]; exact ej, ?_⟩
                        have sub : (A ++ [] ++ C).Sublist LL := by
                          rw [eL4]
                          exact List.Sublist.append (List.Sublist.append (List.Sublist.refl _) (List.nil_sublist _)) (List.Sublist.refl _)
                        obtain ⟨F5, o5, fr⟩ := sp4.lput (mv := []) (FrS.of ((((f1.trans f2).trans f3)).trans (Frm.ex (M := []) ex))) o4 hl4 r' (List.nodup_cons.mpr ⟨fun q => nl4 (sub.subset q), sub.nodup nd4⟩) (fun z => nomatch z) (fun _ z => nomatch z) fun a ha => .inl (sub.subset ha)
                        exact p σ _ I F5 o5 fr
                    · cases e
                  · cases e
                · cases e
              · cases e
            · cases e
          · cases e
        · cases e
      · cases e
    · cases e⟩
theorem ans_ip {K : PySem.W.Frag} {f : Int → Int → Int} : Ans2 K (ipI f) (gI fun i j => some (.int (f i j))) := by
  intro H v w d e z G1 G2 Q r1 r2 hg k
  cases r1 <;> first | cases hg | (cases r2 <;> first | cases hg | skip)
  exact ⟨_, _, rfl, rfl, k _ H (Evl.Ex.refl H) ⟨[], .int _, (fun _ z => nomatch z), List.nodup_nil⟩⟩
theorem ip_or : PIp X .BitOr (ipI fun i j => Builtin.bitOr i j) := by
  intro pins s σ H x y v u Q I r1 r2 h
  obtain ⟨i, j, e1, e2, q⟩ := h
  subst e1; subst e2
  obtain ⟨t, rfl⟩ := r1
  obtain ⟨t', rfl⟩ := r2
  exact PyProof.Rows.ior_int ⟨.int _, H, I.tok _, ⟨_, rfl⟩, q⟩

/-! ### pop -/
def popF (s : Nat) (pl : PlF) : EF := fun Γ => match pl Γ with
  | none => none
  | some (p, Γ1) => match getS Γ1 s p with
    | some (.lst ds) => match ds[ds.length - 1]? with
      | some d => if immut d then some (nw d, setS Γ1 s p (.lst ds.dropLast)) else none
      | none => none
    | _ => none
theorem se_pop (ho : SP X M a s pl) (hbase : attributeBase a "pop" X.env (eval a X.env) = eval a X.env := by rfl) (hline : (apos.endLine == cpos.line) = true := by rfl) :
    SE X (M ++ [s]) (.Call (.Attribute a "pop" apos) [] [] cpos) (popF s pl) := ⟨PE.imp (pe_bm0 PySem.F.plainAttrs_list PySem.F.slot_list_pop PySem.F.type_list_pop mt_pop ho.pe hbase hline) fun σ H Q q => by
  obtain ⟨I, F, Γ, x, Γ', o, e, k⟩ := q
  unfold popF at e
  split at e
  · cases e
  · rename_i p1 Γ1 e1
    split at e
    · rename_i ds eg
      split at e
      · rename_i d ed
        split at e
        · rename_i hd
          injection e with e
          injection e with h1 h2
          subst h1 h2
          refine ⟨I, F, Γ, p1, Γ1, o, e1, fun w d1 B H1 F1 o1 f1 sp => ?_⟩
          have g1 := sp.get
          rw [eg] at g1
          injection g1 with g1
          subst g1
          obtain ⟨l, vs, L, rfl, hl, rfl, rr, nl, nd⟩ := sp.lst o1
          obtain ⟨xv, hxv⟩ : ∃ xv, vs[vs.length - 1]? = some xv := ⟨_, List.getElem?_eq_getElem (by have := (List.getElem?_eq_some_iff.mp ed).1; rw [rr.length]; exact this)⟩
          obtain ⟨A1, B1, C1, rx, eL, _⟩ := rr.hole (by rw [rr.length] at hxv; exact hxv) ed
          have eB := rx.immut hd
          subst eB
          refine ⟨.inl ⟨rfl, vs, .inl (.inl hl)⟩, l, vs, xv, rfl, rfl, hl, hxv, ?_⟩
          obtain ⟨L', r', sub⟩ := rr.dropLast
          obtain ⟨F3, o3, fr⟩ := sp.lputE f1 o1 hl r' (List.nodup_cons.mpr ⟨fun q => nl (sub.subset q), sub.nodup nd⟩) fun a ha => sub.subset ha
          refine k xv _ F3 [] o3 fr (.flat ?_)
          obtain ⟨st, _⟩ := lst_new (L := L) hl r' (List.nodup_cons.mpr ⟨fun q => nl (sub.subset q), sub.nodup nd⟩)
          exact rx.stp st (fun _ z => nomatch z)
        · cases e
      · cases e
    · cases e⟩
def popAF (N : List Nat) (s : Nat) (pl : PlF) (fi : EF) : EF := fun Γ => match pl Γ with
  | none => none
  | some (p, Γ1) => match getS Γ1 s p with
    | some (.lst ds) => match fi Γ1 with
      | some (⟨_, _, .int k⟩, Γ2) => if N.contains s then none else if ds.length ≤ SZ then match ixN ds.length k with
        | some j => match ds[j]? with
          | some d => if immut d then some (nw d, setS Γ2 s p (.lst (ds.eraseIdx j))) else none
          | none => none
        | none => none else none
      | _ => none
    | _ => none
theorem SZ63 {n : Nat} (h : n ≤ SZ) : (n : Int) < 2 ^ 63 := by
  have : SZ = 16777216 := rfl
  omega
theorem se_popA (ho : SP X M a s pl) (hi : SE X N e fi) 
    (hbase : attributeBase a "pop" X.env (eval a X.env) = eval a X.env := by rfl)
    (hfew : ((backTo cpos (starEach [e] X.env)).all (fun x => !x.1) && (backToKw cpos (keywordEach [] X.env)).all (fun x => x.1.isSome)
      && decide ([e].length + ([] : List Keyword).length + (if ([] : List Keyword).isEmpty then 0 else 1) < 30)) = true := by rfl)
    (hline : (apos.endLine == cpos.line) = true := by rfl) (hst : starEach [e] X.env = (false, eval e X.env) :: starEach [] X.env := by rfl) (hplain : (backTo cpos (starEach [] X.env)).any (·.1) = false := by rfl) :
    SE X (M ++ N ++ [s]) (.Call (.Attribute a "pop" apos) [e] [] cpos) (popAF N s pl fi) := ⟨PE.imp (pe_bm PySem.F.plainAttrs_list PySem.F.slot_list_pop PySem.F.type_list_pop mt_popAt ho.pe (pa_cons hi.pe pa_nil hst) hbase hfew hline hst hplain) fun σ H Q q => by
  obtain ⟨I, F, Γ, x, Γ', o, e, k⟩ := q
  unfold popAF at e
  split at e
  · cases e
  · rename_i p1 Γ1 e1
    split at e
    · rename_i ds eg
      split at e
      · rename_i dp ro i Γ2 e2
        split at e
        · cases e
        · rename_i hn
          have hn' : s ∉ N := by simpa using hn
          split at e
          · rename_i hz
            split at e
            · rename_i j ej
              split at e
              · rename_i d ed
                split at e
                · rename_i hd
                  injection e with e
                  injection e with h1 h2
                  subst h1 h2
                  refine ⟨I, F, Γ, p1, Γ1, o, e1, fun w d1 B H1 F1 o1 f1 sp => ?_⟩
                  have g1 := sp.get
                  rw [eg] at g1
                  injection g1 with g1
                  subst g1
                  obtain ⟨l, vs, L, rfl, hl, rfl, rr, nl, nd⟩ := sp.lst o1
                  refine ⟨.inl ⟨rfl, vs, .inl (.inl hl)⟩, I, F1, Γ1, _, Γ2, o1, e2, fun u H2 F2 G2 o2 f2 y2 => ?_⟩
                  have sp2 := sp.last o1 f2 hn'
                  obtain ⟨l', vs2, L2, e3, hl2, e4, rr2, nl2, nd2⟩ := sp2.lst o2
                  injection e3 with e3
                  subst e3
                  injection e4 with _ e4
                  subst e4
                  cases y2.rep
                  obtain ⟨q1, q2, q3, q4⟩ := ixN_seq ej
                  obtain ⟨xv, hxv⟩ : ∃ xv, vs2[j]? = some xv := ⟨_, List.getElem?_eq_getElem (by rw [rr2.length]; exact q2)⟩
                  obtain ⟨A1, B1, C1, rx, eL, _⟩ := rr2.hole hxv ed
                  have eB := rx.immut hd
                  subst eB
                  have := SZ63 hz
                  refine ⟨l, vs2, i, j, xv, rfl, rfl, hl2, by omega, by omega, by rw [rr2.length]; exact q1, hxv, ?_⟩
                  obtain ⟨L', r', sub⟩ := rr2.less j
                  obtain ⟨F3, o3, fr⟩ := sp2.lputE (f1.trans f2) o2 hl2 r' (List.nodup_cons.mpr ⟨fun q => nl (sub.subset q), sub.nodup nd⟩) fun a ha => sub.subset ha
                  refine k xv _ F3 [] o3 fr (.flat ?_)
                  obtain ⟨st, _⟩ := lst_new (L := L) hl2 r' (List.nodup_cons.mpr ⟨fun q => nl (sub.subset q), sub.nodup nd⟩)
                  exact rx.stp st (fun _ z => nomatch z)
                · cases e
              · cases e
            · cases e
          · cases e
      · cases e
    · cases e⟩
end
end VS
/-! VS17: further operators; what the printer names. -/
namespace VS
open PySem L2
section
variable {K : PySem.W.Frag}
/-! ### times: ints of any size, lists, texts -/
instance (i j : Int) : Decidable (CMulX i j) := by unfold CMulX; infer_instance
def mulW : D → D → Option D := gI fun i j => if CMulX i j then some (.int (i * j)) else none
theorem ans_mulW : Ans2 K (rI CMulX fun i j => .int (i * j)) mulW := ans_I fun _ _ _ => .int _
def repS (x : Str) (n : Int) : Str := if n < 1 then Str.empty else if (n == 1 || x.length == 0) = true then x else ⟨(List.replicate n.toNat x.cps).foldl (· ++ ·) #[]⟩
def mulS : D → D → Option D
  | .str x, .int n => if n < 1000 ∧ -1000 < n ∧ x.length < 1000 then some (.str (repS x n)) else none
  | _, _ => none
def rMulS : R2 := fun x y H Q => ∃ (z : Str) (n : Int), x = .str z ∧ y = .int n ∧ (n < 1000 ∧ -1000 < n ∧ z.length < 1000) ∧ Q (.str (repS z n)) H
theorem foldl_len : ∀ (k : Nat) (x acc : Array Nat), ((List.replicate k x).foldl (· ++ ·) acc).size = acc.size + k * x.size
  | 0, x, acc => by simp
  | k + 1, x, acc => by
    rw [List.replicate_succ, List.foldl_cons, foldl_len k x, Array.size_append, Nat.succ_mul]
    omega
theorem op_mulS {X : Cx} : OpR X (binaryOp .Mult) rMulS := by
  intro pins s σ H x y v u Q I rx ry h
  obtain ⟨z, n, rfl, rfl, ⟨h1, h2, h3⟩, q⟩ := h
  obtain ⟨t, rfl⟩ := rx
  obtain ⟨t', rfl⟩ := ry
  have hs : sizeLine = 16777216 := by rw [sizeLine_eq]
  have hlen : z.length * n.toNat ≤ sizeLine := by
    have : z.length * n.toNat ≤ 1000 * 1000 := Nat.mul_le_mul (by omega) (by omega)
    omega
  refine PySem.P.mul_str ?_ ?_ ?_ ?_
  · rw [decide_eq_false (by omega), decide_eq_false (by omega)]
    rfl
  · intro hn _ hc
    have h5 : (9223372036854775 : Int) ≤ (2 ^ 63 - 1) / n := (Int.le_ediv_iff_mul_le (by omega)).mpr (by omega)
    omega
  · intro _ _
    unfold Builtin.Str.tooLong
    exact decide_eq_false (by omega)
  · unfold repS at q
    by_cases c1 : n < 1
    · rw [if_pos c1] at q ⊢
      exact ⟨by rw [hs]; decide, .str _, H, I.tok _, ⟨_, rfl⟩, q⟩
    · rw [if_neg c1] at q ⊢
      by_cases c2 : (n == 1 || z.length == 0) = true
      · rw [if_pos c2] at q ⊢
        exact ⟨.str _, H, I, ⟨_, rfl⟩, q⟩
      · rw [if_neg c2] at q ⊢
        refine ⟨?_, .str _, H, I.tok _, ⟨_, rfl⟩, q⟩
        show ((List.replicate n.toNat z.cps).foldl (· ++ ·) #[]).size ≤ sizeLine
        rw [foldl_len]
        show 0 + n.toNat * z.length ≤ sizeLine
        rw [Nat.mul_comm]
        omega
theorem ans_mulS : Ans2 K rMulS mulS := by
  intro H v w d e z G1 G2 Q r1 r2 hg k
  cases r1 <;> first | cases hg | (cases r2 <;> first | cases hg | skip)
  rename_i x n
  have hg' : (if n < 1000 ∧ -1000 < n ∧ x.length < 1000 then some (D.str (repS x n)) else none) = some z := hg
  split at hg'
  · rename_i hc
    injection hg' with hg'
    subst hg'
    exact ⟨x, n, rfl, rfl, hc, k _ H (Evl.Ex.refl H) ⟨[], .str _, (fun _ z => nomatch z), List.nodup_nil⟩⟩
  · cases hg'
def rMulY : R2 := fun x y H Q => rI CMulX (fun i j => .int (i * j)) x y H Q ∨ rRep x y H Q ∨ rMulS x y H Q
def mulY : D → D → Option D := orElse mulW (orElse mulL mulS)
theorem op_mulY {X : Cx} : OpR X (binaryOp .Mult) rMulY := OpR.or L2.op_mulX (OpR.or op_rep op_mulS)
theorem ans_mulY : Ans2 K rMulY mulY := ans_mulW.or (ans_mulL.or ans_mulS)

/-! ### in -/
def inG : D → D → Option D := orElse inS inL
def niL : D → D → Option D := fun x y => (inL x y).map notD
def niG : D → D → Option D := niL
theorem op_inX {X : Cx} (hu : X.A.units + 65 < cLine) : OpR X (compareOp .In) (fun x y H Q => rInS x y H Q ∨ rInD X.K x y H Q) := OpR.or op_in_sign (op_inD hu)
theorem op_niX {X : Cx} (hu : X.A.units + 65 < cLine) : OpR X (compareOp .NotIn) (rNotInD X.K) := op_notInD hu
theorem ans_inG : Ans2 K (fun x y H Q => rInS x y H Q ∨ rInD K x y H Q) inG := ans_inS.or ans_inL
theorem ans_niG : Ans2 K (rNotInD K) niG := ans_notInL
/-- room -/
theorem hu65 {A : Around} {k : Nat} (hr : Room k A) : A.units + 65 < cLine := by
  have := hr.un
  omega
theorem hu64 {A : Around} {k : Nat} (hr : Room k A) : A.units + 64 < cLine := by
  have := hr.un
  omega
theorem hu0 {A : Around} {k : Nat} (hr : Room k A) : A.units < cLine := by
  have := hr.un
  omega
end
end VS
set_option maxHeartbeats 4000000
namespace PySem
namespace VSX
open PySem.HandSPX PyProof.Rows PySem.W PySem.Calls
section
variable {M : Model} {A : Around} {E : Value → Shared → Prop} {h : Heap} {g : Array GenState} {d : Drawn} {t : Nat} {os : OsState}
variable {nm q : Str} {C N : Addr} {bs bm bmB : List Value} {hdct : Bool} {sn : List Str} {sub : List Value} {ab : Bool} {col : Option Bool} {dd : Option Addr} {k0 k1 k2 k3 k5 : Option Value} {B newId initId : String} {kw : List (Str × Value)}
theorem check_new_kw (facts : ExcBaseFacts B newId initId bmB) (same : ∀ X : String, bm.contains (.type X) = bmB.contains (.type X)) {pz : List Value} {Q : Unit → Shared → Prop}
    (at0 : h.get? C = some (excClassObj nm q C N bs bm hdct sn sub ab col dd k0 k1 k2 k3 k5 newId)) (fin : Q () ⟨h, g, d, t, os⟩) : wpAny M A (checkBuiltinCall newId ⟨.ref C :: pz, kw⟩) Q E ⟨h, g, d, t, os⟩ := by
  have inB : (Value.ref C :: bm).contains (.type B) = true := by rw [List.contains_cons, same, facts.hasB, Bool.or_true]
  have noSt := facts.noStar
  simp only [checkBuiltinCall, facts.newKind, facts.newSplit, facts.newRow]
  repeat (first | refine wpAny_loadPart_at at0 ?_ | (refine wpAny_isSubtype_exc at0 ?_; rw [inB]) | refine wpAny_staticBase_exc at0 ?_ | refine wpAny_madeBy_exc at0 ?_ | simp only [bne_self_eq_false, Bool.false_eq_true, if_false] | wp_step)
  exact fin
end
section
variable {prog : Program} {w : World} {A : Around} {E : Value → Shared → Prop} {R : Result → Shared → Prop} {h : Heap} {g : Array GenState} {d : Drawn} {t : Nat} {os : OsState}
variable {nm q : Str} {C N : Addr} {bs bm bmB : List Value} {hdct : Bool} {sn : List Str} {sub : List Value} {ab : Bool} {col : Option Bool} {dd : Option Addr} {k0 k1 k2 k3 k5 : Option Value} {B newId initId : String} {kw : List (Str × Value)}
theorem new_kw (facts : ExcBaseFacts B newId initId bmB) (same : ∀ X : String, bm.contains (.type X) = bmB.contains (.type X)) {pz : List Value}
    (at0 : h.get? C = some (excClassObj nm q C N bs bm hdct sn sub ab col dd k0 k1 k2 k3 k5 newId))
    (fin : R (.ok (.ret (.ref (h.objs.size + 1)))) ⟨(h.push { cls := .type "tuple", data := .seq pz.toArray }).push
      { cls := .ref C, data := .fields #[.ref h.objs.size, .none, .none, .none, .bool false, .none] }, g, d, t, os⟩) (few : pz.length ≤ sizeLine) :
    codeAny (model prog w) A (.builtin newId ⟨.ref C :: pz, kw⟩) R ⟨h, g, d, t, os⟩ := by
  have ends0 := facts.ends
  have inB : (Value.ref C :: bm).contains (.type B) = true := by rw [List.contains_cons, same, facts.hasB, Bool.or_true]
  have inA : (Value.ref C :: bm).contains (.type "AttributeError") = false := by rw [List.contains_cons, same, facts.noAttr]; rfl
  have inN : (Value.ref C :: bm).contains (.type "NameError") = false := by rw [List.contains_cons, same, facts.noName]; rfl
  refine codeAny_builtinAt facts.entry ?_
  unfold Builtin.«BaseException.__new__»
  refine wpAt_bind ?_
  show wpAt _ _ _ (stack >>= _) _ _ _
  refine wpAt_bind (wpAt_stack fun p below => wpAt_of_wpAny ?_)
  wp_walk
  refine wpAt_of_wpAny ?_
  rw [facts.owner]
  repeat (first | with_reducible refine wpAny_madeHere_exc facts.canon at0 ?_ | with_reducible refine wpAny_loadPart_at at0 ?_ | (with_reducible refine wpAny_isSubtype_exc at0 ?_; first | rw [inB] | rw [inA] | rw [inN]) | wp_step)
  show R _ _
  rw [Heap.size_push]
  exact fin
theorem type_call_kw (facts : ExcBaseFacts B newId initId bmB) (same : ∀ X : String, bm.contains (.type X) = bmB.contains (.type X)) {pz : List Value} {fI : Addr} {Q : Fin → Shared → Prop}
    (at0 : h.get? C = some (excClassObj nm q C N bs bm hdct sn sub ab col dd k0 k1 k2 k3 k5 newId))
    (ini : W.Looks (model prog w) h (typeLookup (.ref C) "__init__") (some (.ref fI))) (bnd : ∀ self, W.Looks (model prog w) h (bindSpecial (.ref fI) self) (.ref fI, [self])) (few : pz.length ≤ sizeLine)
    (fin : codeAny (model prog w) A (.call (.ref fI) ⟨.ref (h.objs.size + 1) :: pz, kw⟩)
      (fun r s' => match r with | .ok (.ret v) => v = .none ∧ Q (.done (.ret (.ref (h.objs.size + 1)))) s' | .ok _ => False | .error e => E e s')
      ⟨(h.push (W.kdv_tup pz)).push (excO C h.objs.size), g, d, t, os⟩) :
    wpAny (model prog w) A (Builtin.«type.__call__» ⟨.ref C :: pz, kw⟩) Q E ⟨h, g, d, t, os⟩ := by
  repeat (first | with_reducible refine wpAny_loadPart_at at0 ?_ | with_reducible refine wpAny_madeBy_exc at0 ?_ | wp_step)
  refine codeAny_call_builtin_code (Code.quiet_builtin _ facts.quiet) (check_new_kw facts same at0 ?_)
  refine new_kw facts same at0 ?_ few
  show wpAny _ _ _ _ _ _
  have kp : ∀ b o, h.get? b = some o → ((h.push (W.kdv_tup pz)).push (excO C h.objs.size)).get? b = some o := fun b o e => Heap.get?_push_of_some _ (Heap.get?_push_of_some _ e)
  have at1 := kp _ _ at0
  have got : ((h.push (W.kdv_tup pz)).push (excO C h.objs.size)).get? (h.objs.size + 1) = some (excO C h.objs.size) := by heap_get
  have inC : (Value.ref C :: bm).contains (.ref C) = true := by simp
  have ini1 := ini.keeps kp
  have bnd1 := (bnd (.ref (h.objs.size + 1))).keeps kp
  unfold isInstance
  repeat (first | with_reducible refine wpAny_loadPart_at got ?_ | (with_reducible refine wpAny_isSubtype_exc at1 ?_; rw [inC]) | wp_step)
  show wpAny _ _ (typeLookup (.ref C) _) _ _ _
  refine ini1.at ?_
  refine wpAny_holding (wpAny_bind (bnd1.at ?_))
  refine wpAny_bind (wpAny_call (codeAny_mono fin fun r s' z => ?_))
  rcases r with e | (v | _ | _ | _) <;> first | exact z | exact z.elim | skip
  obtain ⟨rfl, z⟩ := z
  first
    | exact wpAny_pure (wpAny_pure z)
    | (wp_walk; exact z)
theorem check_type_call_kw {M : Model} {pz : List Value} {Q : Unit → Shared → Prop} {E : Value → Shared → Prop} (at0 : h.get? C = some (excClassObj nm q C N bs bm hdct sn sub ab col dd k0 k1 k2 k3 k5 newId))
    (fin : Q () ⟨h, g, d, t, os⟩) : wpAny M A (checkBuiltinCall "type.__call__" ⟨.ref C :: pz, kw⟩) Q E ⟨h, g, d, t, os⟩ := by
  have tc3 := tc_sub
  have same : (⟨h, g, d, t, os⟩ : Shared).TypeIs (.ref C) "type" := ⟨_, at0, rfl⟩
  simp only [checkBuiltinCall, tc_kind, tc_split]
  repeat (any_goals (first | assumption | with_reducible refine wpAny_loadPart_at at0 ?_ | with_reducible refine wpAny_onRaise ?_ | with_reducible refine wpAny_map ?_ | wp_step))
theorem call_kw (facts : ExcBaseFacts B newId initId bmB) (same : ∀ X : String, bm.contains (.type X) = bmB.contains (.type X)) {pz : List Value} {fI : Addr}
    (at0 : h.get? C = some (excClassObj nm q C N bs bm hdct sn sub ab col dd k0 k1 k2 k3 k5 newId))
    (ini : W.Looks (model prog w) h (typeLookup (.ref C) "__init__") (some (.ref fI))) (bnd : ∀ self, W.Looks (model prog w) h (bindSpecial (.ref fI) self) (.ref fI, [self])) (few : pz.length ≤ sizeLine)
    (fin : codeAny (model prog w) (A.under (.builtin "type.__call__" ⟨.ref C :: pz, kw⟩)) (.call (.ref fI) ⟨.ref (h.objs.size + 1) :: pz, kw⟩) (W.InitBack (h.objs.size + 1) R)
      ⟨(h.push (W.kdv_tup pz)).push (excO C h.objs.size), g, d, t, os⟩) :
    codeAny (model prog w) A (.call (.ref C) ⟨pz, kw⟩) R ⟨h, g, d, t, os⟩ := by
  have tc1 := tc_lookup
  have tc2 := tc_bind (.ref C)
  have isTy : (⟨h, g, d, t, os⟩ : Shared).TypeIs (.ref C) "type" := ⟨_, at0, rfl⟩
  refine codeAny_of_tree ?_
  show wpAny _ _ (callAny (.ref C) _) _ _ _
  repeat (any_goals (first | assumption | with_reducible refine wpAny_loadPart_at at0 ?_ | wp_step))
  refine ⟨rfl, ?_⟩
  refine codeAny_call_builtin_at (Code.quiet_builtin _ (by decide +kernel)) entry_typeCall (check_type_call_kw at0 (type_call_kw facts same at0 ini bnd few ?_))
  refine codeAny_mono fin fun r s' z => ?_
  rcases r with e | (v | _ | _ | _) <;> exact z
end
end VSX
end PySem
namespace VS
open PySem L2 PySem.Spec PyProof.Rows
section
variable {X : Cx} {CX : CXT} {k : Nat} {fI C : Addr} {fd : FuncData} {ps : List Str} {sp : Sp} {x : Str} {p p1 p2 pos : Pos} {e : Expr} {es : List Expr} {ta : TA} {te : TE}
/-- an own exception class called, its __init__ keeping sp: the exception stays as a value -/
theorem run_exv {pins : List (Addr × Obj)} {σ : L2.St} {H : Hp} {s : Shared} {Q : VK} {us zs : List Value} {vs : List V} {kw : List (Str × Value)} (T : OexC X.K C) (iC : PySem.W.findIn X.K (.ref C) "__init__" = some (some (.ref fI))) (tI : PySem.W.typeIn X.K (.ref fI) = some (.type "function"))
    (F1 : FnOk X.prog X.w X.K X.mg X.base CX k fI fd ps sp) (hr : Room (k + 1) X.A) (hb : ∀ (s : Shared) (self : Value), X.K.In s.heap → BindsTo s fd ⟨self :: us, kw⟩ (ps.zip (self :: zs))) (hx : Passes CX X (fun _ _ _ => False))
    (I : Inv X pins σ H s) (r : Vals vs zs) (hus : us.length ≤ sizeLine)
    (h : ∀ a, H a = none → sp (.ref a :: vs) (upd H a (exo a C none)) (fun v H2 => v = .non ∧ Q (.ref a) H2) (fun _ _ _ => False)) :
    wpAny (model X.prog X.w) X.A (call (.ref C) us kw) (EP X pins σ Q) X.xe s := by
  obtain ⟨nm, q, N, bs, bm, sn, sub, ab, col, dd, k0, k1, k2, k3, k5, at0, tailV⟩ := T.cls
  obtain ⟨h0, g, dr, tk, os⟩ := s
  have le1 : h0.objs.size ≤ h0.objs.size + 1 := Nat.le_succ _
  have hn : H (h0.objs.size + 1) = none := I.hok.fresh le1
  have hq := h (h0.objs.size + 1) hn
  have stays : ∀ b o, h0.get? b = some o → ((h0.push (PySem.W.kdv_tup us)).push (PySem.HandSPX.excO C h0.objs.size)).get? b = some o := fun b o e => Heap.get?_push_of_some _ (Heap.get?_push_of_some _ e)
  have got : ((h0.push (PySem.W.kdv_tup us)).push (PySem.HandSPX.excO C h0.objs.size)).get? (h0.objs.size + 1) = some (PySem.HandSPX.excO C h0.objs.size) := by heap_get
  have I2 : Inv X pins σ (upd H (h0.objs.size + 1) (exo (h0.objs.size + 1) C none)) ⟨(h0.push (PySem.W.kdv_tup us)).push (PySem.HandSPX.excO C h0.objs.size), g, dr, tk, os⟩ :=
    I.laid (t' := tk) (a := h0.objs.size + 1) (o := exo (h0.objs.size + 1) C none) (h' := (h0.push (PySem.W.kdv_tup us)).push (PySem.HandSPX.excO C h0.objs.size)) stays le1 (exo_ok got)
  have r2 : Vals (V.ref (h0.objs.size + 1) :: vs) (Value.ref (h0.objs.size + 1) :: zs) := .cons rfl r
  refine wpAny_call (PySem.VSX.call_kw F.excBase_ValueError (fun Y => PySem.HandSPX.refsVE_contains Y bm tailV) (I.kIn _ _ at0) (PySem.W.looks_findIn I.kIn iC) (fun self => PySem.W.bind_fn I.kIn self tI) hus
    (codeAny_mono (F1.run _ X.stack _ _ ⟨Value.ref (h0.objs.size + 1) :: us, kw⟩ (Value.ref (h0.objs.size + 1) :: zs) _ _ (fun _ _ _ => False) (hr.make C us kw) (I2.env0.make C us kw) (hb _ _ I2.kIn) r2 hq) fun r s' hq' => ?_))
  cases r with
  | error er => exact hx pins σ _ _ er s' I2 hq'
  | ok fl =>
    cases fl with
    | ret u =>
      obtain ⟨v, H', I3, rv, ev, q3⟩ := I2.after hq'
      subst ev
      exact ⟨rv, ⟨V.ref (h0.objs.size + 1), H', I3, rfl, q3⟩⟩
    | next => exact False.elim hq'
    | brk => exact False.elim hq'
    | cont => exact False.elim hq'
def tExv (C : Addr) (sp : Sp) (te : TE) : TE := fun σ H Q => te σ H fun y H1 => ∀ a, H1 a = none → sp [.ref a, y] (upd H1 a (exo a C none)) (fun v H2 => v = .non ∧ Q (.ref a) H2) (fun _ _ _ => False)
theorem pe_exv (T : OexC X.K C) (iC : PySem.W.findIn X.K (.ref C) "__init__" = some (some (.ref fI))) (tI : PySem.W.typeIn X.K (.ref fI) = some (.type "function"))
    (F1 : FnOk X.prog X.w X.K X.mg X.base CX k fI fd ps sp) (hr : Room (k + 1) X.A) (hb : ∀ (s : Shared) (self u : Value), X.K.In s.heap → BindsTo s fd ⟨[self, u], []⟩ (ps.zip [self, u])) (hx : Passes CX X (fun _ _ _ => False)) (hg : Gl X x) (hm : X.mg x = some (.ref C)) (he : PE X e te)
    (hdb : (x == ("__debug__" : Str)) = false := by decide) (hs : starEach [e] X.env = (false, eval e X.env) :: starEach [] X.env := by rfl) (hpl : (backTo pos (starEach [] X.env)).any (·.1) = false := by rfl) :
    PE X (.Call (.Name x p) [e] [] pos) (tExv C sp te) := by
  refine ⟨fun pins s σ H Q I h => ?_⟩
  refine wpAny_Call_Name_kw (ld_glob I hg hm ?_ hdb)
  refine PySem.W.callWith_K (h₀ := X.base) I.ok.mod.kin T.kC ?_ hs hpl
  rw [hs]
  show wpAny _ _ (spliced ((false, eval e X.env) :: backTo pos (starEach [] X.env))) _ _ s
  refine Calls.spliced_cons (thn (he.run pins s σ H _ I h) fun u s1 ⟨v, H1, J1, r1, q1⟩ => ?_)
  refine Calls.spliced_nil ⟨J1.kIn, ?_⟩
  show wpAny _ _ (call (.ref C) [u]) _ _ _
  exact run_exv (us := [u]) (zs := [u]) (vs := [v]) (kw := []) T iC tI F1 hr (fun s self K => hb s self u K) hx J1 (.cons r1 .nil) (by show 1 ≤ sizeLine; rw [sizeLine_eq]; omega) q1
/-- C(name = e) -/
theorem pe_exk {kn : Str} {kpos : Pos} (T : OexC X.K C) (iC : PySem.W.findIn X.K (.ref C) "__init__" = some (some (.ref fI))) (tI : PySem.W.typeIn X.K (.ref fI) = some (.type "function"))
    (F1 : FnOk X.prog X.w X.K X.mg X.base CX k fI fd ps sp) (hr : Room (k + 1) X.A) (hb : ∀ (s : Shared) (self u : Value), X.K.In s.heap → BindsTo s fd ⟨[self], [(kn, u)]⟩ (ps.zip [self, u])) (hx : Passes CX X (fun _ _ _ => False)) (hg : Gl X x) (hm : X.mg x = some (.ref C)) (he : PE X e te)
    (hdb : (x == ("__debug__" : Str)) = false := by decide) 
    (hall : (backToKw pos (keywordEach [⟨some kn, e, kpos⟩] X.env)).all (·.1.isSome) = true := by rfl) (hks : (backToKw pos (keywordEach [⟨some kn, e, kpos⟩] X.env)).filterMap (·.1) = [kn] := by rfl)
    (hpl : ((backTo pos (starEach [] X.env)).any (·.1) || (backToKw pos (keywordEach [⟨some kn, e, kpos⟩] X.env)).any (·.1.isNone)) = false := by rfl) :
    PE X (.Call (.Name x p) [] [⟨some kn, e, kpos⟩] pos) (tExv C sp te) := by
  refine ⟨fun pins s σ H Q I h => ?_⟩
  refine wpAny_Call_Name_kw (ld_glob I hg hm ?_ hdb)
  refine PySem.W.callWith_KW0 (h₀ := X.base) I.ok.mod.kin T.kC hall ?_ hpl
  refine thn ((pk_cons (nm := some kn) (kpos := kpos) he pk_nil).run pos pins s σ H (fun zs H1 => match zs with
    | [y] => ∀ a, H1 a = none → sp [.ref a, y] (upd H1 a (exo a C none)) (fun v H2 => v = .non ∧ Q (.ref a) H2) (fun _ _ _ => False)
    | _ => False) I h) fun ks s2 ⟨zs, H2, I2, rz, q2⟩ => ⟨I2.kIn, ?_⟩
  match zs, q2 with
  | [y], q2 =>
    rw [hks]
    obtain ⟨u, rfl, ru⟩ := rz.one
    exact run_exv (us := []) (zs := [u]) (vs := [y]) (kw := [(kn, u)]) T iC tI F1 hr (fun s self K => hb s self u K) hx I2 (.cons ru .nil) (Nat.zero_le _) q2
/-- B.__init__(self, ..), B an own class over ValueError without own __init__ -/
theorem pe_oinit {D : Addr} {pl : Sem Bool} (hg : Gl X x) (hm : X.mg x = some (.ref D)) (sD : PySem.W.specialIn X.K (.ref D) "__getattribute__" = some (some (.builtin "type.__getattribute__"))) (tD : PySem.W.typeIn X.K (.ref D) = some (.type "type")) (rD : PySem.W.readsIn X.K D (.type "type") = true)
    (vD : PySem.W.findCls X.K (.ref D) (.type "type") "__init__" = some (.val (.builtin "ValueError.__init__"))) (ha : PA X (e :: es) ta) (hdb : (x == ("__debug__" : Str)) = false := by decide)
    (hc : eval (.Call (.Attribute (.Name x p1) "__init__" p2) (e :: es) [] pos) X.env = (do
      let ov ← eval (.Name x p1) X.env
      standAt p2.atName
      let (f, first) ← holding [ov] (getMethod ov "__init__" pl)
      callWith pos f first (backTo pos (starEach (e :: es) X.env)) (backToKw pos (keywordEach [] X.env))) := by rfl)
    (he : starEach (e :: es) X.env = (false, eval e X.env) :: starEach es X.env := by rfl) (hpl : (backTo pos (starEach es X.env)).any (·.1) = false := by rfl) :
    PE X (.Call (.Attribute (.Name x p1) "__init__" p2) (e :: es) [] pos) (tVeI X.K ta) := by
  refine ⟨fun pins s σ H Q I h => ?_⟩
  refine PySem.W.methodCall_KW (ld_glob I hg hm ?_ hdb) hc
  obtain ⟨m, fr⟩ := I.fr
  refine PySem.W.method_of_cls fr I.ok.mod.kin sD (PySem.W.cls_val fr I.ok.mod.kin tD rD vD (by decide +kernel) ?_)
  show wpAny _ _ (callWith pos (Value.builtin "ValueError.__init__") [] (backTo pos (starEach (e :: es) X.env)) []) _ _ _
  refine PyProof.Rows.callWith_method1 (thn (ha.run pos pins _ σ H _ (I.tok _) h) fun us s1 ⟨vs, H1, J1, r1, a, C, zs, ev, hl, T, ea, q⟩ => ?_) he hpl
  subst ev
  cases r1 with
  | @cons _ u0 _ ur ra rr =>
    obtain rfl : u0 = Value.ref a := ra
    have lenU : ur.length ≤ sizeLine := by
      rw [← Paired.length rr, sizeLine_eq]
      omega
    exact oinit_ok T J1 ea lenU fun s' J => ⟨.non, H1, J, rfl, q⟩
end
end VS
/-! VS19: isinstance; own exceptions as values. -/
namespace VS
open PySem L2
/-- a value's built-in type -/
def tyN : D → Option String
  | .non => some "NoneType" | .bl _ => some "bool" | .int _ => some "int" | .str _ => some "str"
  | .tup _ => some "tuple" | .lst _ => some "list" | .frz _ => some "list" | .dK _ => some "dict" | .dT _ => some "dict"
  | _ => none
def tyL : List String := ["NoneType", "bool", "int", "str", "tuple", "list", "dict"]
def tyR : List String := ["int", "str", "bool", "list", "tuple", "dict"]
theorem kitB_all : ∀ t ∈ tyL, ∀ T ∈ tyR, kitB t T = some (t == T || (t == "bool" && T == "int")) := by decide +kernel
theorem tyN_in {d : D} {t : String} (h : tyN d = some t) : t ∈ tyL := by
  cases d <;> cases h <;> simp [tyL]
theorem rep_ty {K : PySem.W.Frag} {H : Hp} {v : V} {d : D} {G : List Addr} {t : String} (r : Rep K H v d G) (h : tyN d = some t) : TyX K H v (.type t) := by
  cases r with
  | non => injection h with h; subst h; exact .base .non
  | bl b => injection h with h; subst h; exact .base (.bl b)
  | int b => injection h with h; subst h; exact .base (.int b)
  | str b => injection h with h; subst h; exact .base (.str b)
  | tup e _ =>
    injection h with h; subst h
    rcases e with (e | ⟨o, e⟩) | ⟨o, its, n, e, c, _⟩
    · exact .base (.tup e)
    · exact .fTuple e
    · exact .kTuple e c
  | lst e _ => injection h with h; subst h; exact .base (.lst e)
  | lstR e _ =>
    injection h with h; subst h
    rcases e with ⟨o, e⟩ | ⟨o, its, n, e, c, _⟩
    · exact .base (.frz e)
    · exact .kList e c
  | dK e _ => injection h with h; subst h; exact .base (.dK e)
  | dT e _ => injection h with h; subst h; exact .base (.dT e)
  | obj _ _ => cases h
  | exc _ => cases h
  | excF _ _ => cases h
/-- isinstance(x, T), T built in -/
def isT (T : String) (d : D) : Option D := match tyN d with
  | some t => if T ∈ tyR then some (.bl (t == T || (t == "bool" && T == "int"))) else none
  | none => none
/-- isinstance(e, C), C an own class: what sub says -/
def isX (sub : Addr → Option Bool) (d : D) : Option D := match d with
  | .exc C _ => (sub C).map .bl
  | _ => none
/-- a value's exception class and field, in the heap -/
def ExcAt (H : Hp) (a C : Addr) : Prop := H a = some (ExO (.ref C) a) ∨ ∃ dx fs, H a = some (exo a C (some dx)) ∧ H dx = some (exd dx fs)
def rIsXc (K : PySem.W.Frag) : List V → Hp → VK → Prop := fun xs H Q => ∃ (a D : Addr) (c : V) (cv : Value) (b : Bool), xs = [.ref a, c] ∧ ExcAt H a D ∧ ExcC K D ∧ ClsV c cv ∧ PySem.W.kitOne K (.ref D) cv = some b ∧ Q (.bl b) H
theorem call_isXc {X : Cx} : CallR X (.builtin "isinstance") (rIsXc X.K) := by
  intro pins s σ H xs us Q I r h
  obtain ⟨a, D, c, cv, b, rfl, hat, C, hcv, e, q⟩ := h
  obtain ⟨u1, u2, rfl, r1, r2⟩ := vals2 r
  have ec := hcv.eq r2
  subst ec
  cases (show u1 = Value.ref a from r1)
  have hcl : (PySem.W.clsIn X.K D).isSome = true := by
    have := C.hd
    unfold PySem.W.hasDictIn at this
    cases z : PySem.W.clsIn X.K D with
    | none => rw [z] at this; cases this
    | some _ => rfl
  rcases hat with h1 | ⟨dx, fs, h1, h2⟩
  · obtain ⟨⟨oe, vs, ho, hz, hd, _⟩, _, _⟩ := I.hok a _ h1
    obtain ⟨oc, od, oda, osl⟩ := oe
    obtain ⟨z1, z2⟩ := hz
    dsimp only at z1 z2 hd
    subst z1 z2 hd
    have J : PySem.W.InstAt s.heap a ⟨.ref D, none, .fields vs, osl⟩ D none := ⟨ho, rfl, rfl, trivial⟩
    exact PySem.W.kia_one (PySem.W.kitx_exc hcl C.hg C.hk C.hs C.ha C.hn C.ht C.hm) I.kIn J e (fun z => nomatch z) fun tk => ⟨.bl b, H, I.kept (t' := tk) fun _ _ z => z, rfl, q⟩
  · obtain ⟨t1, ho⟩ := exo_at I.hok h1
    obtain ⟨mA, hns, rel⟩ := exd_at I.hok h2
    obtain ⟨od, hod, hl⟩ := lookIn_ns hns
    have J : PySem.W.InstAt s.heap a _ D (some od) := ⟨ho, rfl, rfl, hod⟩
    exact PySem.W.kia_one (PySem.W.kitx_exc hcl C.hg C.hk C.hs C.ha C.hn C.ht C.hm) I.kIn J e (fun z => nomatch z) fun tk => ⟨.bl b, H, I.kept (t' := tk) fun _ _ z => z, rfl, q⟩
section
variable {X : Cx} {e : Expr} {M : List Nat} {fa : EF} {x : Str} {p p1 p2 pos : Pos}
theorem se_isT {T : String} (hg : Gl X "isinstance") (hm : X.mg "isinstance" = none) (hgT : Gl X x) (hmT : X.mg x = none) (hvT : bootBuiltins x = some (.type T)) (h : SE X M e fa)
    (hn : x ≠ "__name__" := by decide) (hd : (x == ("__debug__" : Str)) = false := by decide)
    (he : starEach [e, .Name x p2] X.env = (false, eval e X.env) :: starEach [.Name x p2] X.env := by rfl) (hpl : (backTo pos (starEach [.Name x p2] X.env)).any (·.1) = false := by rfl)
    (he2 : starEach [.Name x p2] X.env = (false, eval (.Name x p2) X.env) :: starEach [] X.env := by rfl) :
    SE X M (.Call (.Name "isinstance" p) [e, .Name x p2] [] pos) (op1F (isT T) fa) := ⟨PE.imp (pe_callB call_isi hg hm PyProof.Rows.boot_isinstance (pa_cons h.pe (pa_cons (pe_bltn (v := .ty T) hgT hmT hvT rfl hn hd) pa_nil he2) he) (by decide) (by decide) he hpl) fun σ H Q q => by
  obtain ⟨I, F, Γ, y, Γ', o, e, k⟩ := q
  unfold op1F at e
  split at e
  · cases e
  · rename_i x1 Γ1 e1
    split at e
    · cases e
    · rename_i z ez
      injection e with e
      injection e with e e'
      subst e e'
      refine ⟨I, F, Γ, x1, Γ1, o, e1, fun v H1 F1 G o1 f1 l => ?_⟩
      unfold isT at ez
      split at ez
      · rename_i t et
        split at ez
        · rename_i hT
          injection ez with ez
          subst ez
          exact ⟨v, .ty T, .type t, .type T, _, rfl, .ty T, rep_ty l.rep et, kit_ty (kitB_all t (tyN_in et) T hT), k _ H1 F1 [] o1 f1 (.flat (.bl _))⟩
        · cases ez
      · cases ez⟩
theorem sem_isX {K : PySem.W.Frag} {sub : Addr → Option Bool} {c : V} {cv : Value} (hs : ∀ D b, sub D = some b → ExcC K D ∧ PySem.W.kitOne K (.ref D) cv = some b) (hc : ClsV c cv) {σ : L2.St} {H : Hp} {Q : VK} (q : tSem K M (op1F (isX sub) fa) σ H Q) :
    tSem K M fa σ H fun v H1 => rIsXc K [v, c] H1 Q := by
  obtain ⟨I, F, Γ, y, Γ', o, e, k⟩ := q
  unfold op1F at e
  split at e
  · cases e
  · rename_i x1 Γ1 e1
    split at e
    · cases e
    · rename_i z ez
      injection e with e
      injection e with e e'
      subst e e'
      refine ⟨I, F, Γ, x1, Γ1, o, e1, fun v H1 F1 G o1 f1 l => ?_⟩
      have lr := l.rep
      unfold isX at ez
      split at ez
      · rename_i C f ed
        rw [ed] at lr
        cases eb : sub C with
        | none => rw [eb] at ez; cases ez
        | some b =>
          rw [eb] at ez
          injection ez with ez
          subst ez
          obtain ⟨h1, h2⟩ := hs C b eb
          have kk := k (.bl b) H1 F1 [] o1 f1 (.flat (.bl _))
          cases lr with
          | exc ha => exact ⟨_, C, c, cv, b, rfl, .inl ha, h1, hc, h2, kk⟩
          | excF ha hb => exact ⟨_, C, c, cv, b, rfl, .inr ⟨_, _, ha, hb⟩, h1, hc, h2, kk⟩
      · cases ez
theorem se_isX {sub : Addr → Option Bool} {C : Addr} (hs : ∀ D b, sub D = some b → ExcC X.K D ∧ PySem.W.kitOne X.K (.ref D) (.ref C) = some b) (hg : Gl X "isinstance") (hm : X.mg "isinstance" = none) (hgT : Gl X x) (hmT : X.mg x = some (.ref C)) (h : SE X M e fa)
    (hd : (x == ("__debug__" : Str)) = false := by decide)
    (he : starEach [e, .Name x p2] X.env = (false, eval e X.env) :: starEach [.Name x p2] X.env := by rfl) (hpl : (backTo pos (starEach [.Name x p2] X.env)).any (·.1) = false := by rfl)
    (he2 : starEach [.Name x p2] X.env = (false, eval (.Name x p2) X.env) :: starEach [] X.env := by rfl) :
    SE X M (.Call (.Name "isinstance" p) [e, .Name x p2] [] pos) (op1F (isX sub) fa) := ⟨PE.imp (pe_callB call_isXc hg hm PyProof.Rows.boot_isinstance (pa_cons h.pe (pa_cons (pe_glob (v := .ref C) hgT hmT rfl hd) pa_nil he2) he) (by decide) (by decide) he hpl) fun σ H Q q => sem_isX hs (.own C) q⟩
theorem se_isXT {sub : Addr → Option Bool} {T : String} (hs : ∀ D b, sub D = some b → ExcC X.K D ∧ PySem.W.kitOne X.K (.ref D) (.type T) = some b) (hg : Gl X "isinstance") (hm : X.mg "isinstance" = none) (hgT : Gl X x) (hmT : X.mg x = none) (hvT : bootBuiltins x = some (.type T)) (h : SE X M e fa)
    (hn : x ≠ "__name__" := by decide) (hd : (x == ("__debug__" : Str)) = false := by decide)
    (he : starEach [e, .Name x p2] X.env = (false, eval e X.env) :: starEach [.Name x p2] X.env := by rfl) (hpl : (backTo pos (starEach [.Name x p2] X.env)).any (·.1) = false := by rfl)
    (he2 : starEach [.Name x p2] X.env = (false, eval (.Name x p2) X.env) :: starEach [] X.env := by rfl) :
    SE X M (.Call (.Name "isinstance" p) [e, .Name x p2] [] pos) (op1F (isX sub) fa) := ⟨PE.imp (pe_callB call_isXc hg hm PyProof.Rows.boot_isinstance (pa_cons h.pe (pa_cons (pe_bltn (v := .ty T) hgT hmT hvT rfl hn hd) pa_nil he2) he) (by decide) (by decide) he hpl) fun σ H Q q => sem_isX hs (.ty T) q⟩

/-! ### an exception of a class without own __init__ -/
def exc1F (C : Addr) (fa : EF) : EF := fun Γ => match fa Γ with
  | none => none
  | some (_, Γ1) => some (nw (.exc C none), Γ1)
theorem se_exc1 {C : Addr} (q : PySem.W.excIn X.K C [.type "ValueError", .type "Exception", .type "BaseException", .type "object"] "ValueError.__new__" = true) (gC : X.mg x = some (.ref C)) (kC : PySem.W.keepIn X.K (.ref C) = true) (hg : Gl X x)
    (h : SE X M e fa) (hs : starEach [e] X.env = (false, eval e X.env) :: starEach [] X.env := by rfl) (hdb : (x == ("__debug__" : Str)) = false := by decide) : SE X M (.Call (.Name x p) [e] [] pos) (exc1F C fa) :=
  ⟨PE.imp (pe_exc1 PySem.F.excBase_ValueError q gC kC hg h.pe hs hdb) fun σ H Q q => by
  obtain ⟨I, F, Γ, y, Γ', o, e, k⟩ := q
  unfold exc1F at e
  split at e
  · cases e
  · rename_i x1 Γ1 e1
    injection e with e
    injection e with e e'
    subst e e'
    refine ⟨I, F, Γ, x1, Γ1, o, e1, fun v H1 F1 G o1 f1 l a ha => ?_⟩
    exact ok_new (z := .exc C none) (G := []) o1 f1 k (Evl.Ex.new ha) (.exc upd_same) (fun _ z => nomatch z) List.nodup_nil⟩

/-! ### an exception of a class whose __init__ is StampError.__init__(self, 'text'); self.f = f -/
def spX (K : PySem.W.Frag) (f : Str) : Sp := fun vs H Q _ => ∃ (a C : Addr) (y : V), vs = [.ref a, y] ∧ OexC K C ∧ PySem.W.findIn K (.ref C) f = some none ∧ H a = some (exo a C none) ∧
  ∀ dx, H dx = none → dx ≠ a → Q .non (upd (upd H dx (exd dx [(f, y)])) a (exo a C (some dx)))
def exvF (C : Addr) (f : Str) (fa : EF) : EF := fun Γ => match fa Γ with
  | some (⟨_, _, .int i⟩, Γ1) => some (nw (.exc C (some (f, i))), Γ1)
  | _ => none
theorem sem_exv {K : PySem.W.Frag} {C : Addr} {f : Str} (T : OexC K C) (hno : PySem.W.findIn K (.ref C) f = some none) {σ : L2.St} {H : Hp} {Q : VK} (q : tSem K M (exvF C f fa) σ H Q) : tExv C (spX K f) (tSem K M fa) σ H Q := by
  obtain ⟨I, F, Γ, y, Γ', o, e, k⟩ := q
  unfold exvF at e
  split at e
  · rename_i dp ro i Γ1 e1
    injection e with e
    injection e with e e'
    subst e e'
    refine ⟨I, F, Γ, _, Γ1, o, e1, fun v H1 F1 G o1 f1 l a ha => ⟨a, C, v, rfl, T, hno, upd_same, fun dx hdx nda => ⟨rfl, ?_⟩⟩⟩
    cases l.rep
    have hd1 : H1 dx = none := by rw [upd_ne nda] at hdx; exact hdx
    refine ok_new (z := .exc C (some (f, i))) (G := []) o1 f1 k (fun b u hb => ?_) (.excF (dx := dx) upd_same ?_) (fun _ z => nomatch z) List.nodup_nil
    · have n1 : b ≠ a := fun z => by rw [z, ha] at hb; cases hb
      have n2 : b ≠ dx := fun z => by rw [z, hd1] at hb; cases hb
      rw [upd_ne n1, upd_ne n2, upd_ne n1]
      exact hb
    · rw [upd_ne nda, upd_same]
  · cases e
section
variable {k : Nat} {C fI : Addr} {fd : FuncData} {f : Str}
theorem se_exv (T : OexC X.K C) (hno : PySem.W.findIn X.K (.ref C) f = some none) (iC : PySem.W.findIn X.K (.ref C) "__init__" = some (some (.ref fI))) (tI : PySem.W.typeIn X.K (.ref fI) = some (.type "function"))
    (F1 : FnOk X.prog X.w X.K X.mg X.base CX0 k fI fd ["self", f] (spX X.K f)) (hr : Room (k + 1) X.A) (hb : ∀ (s : Shared) (self u : Value), X.K.In s.heap → BindsTo s fd ⟨[self, u], []⟩ ((["self", f] : List Str).zip [self, u])) (hg : Gl X x) (hm : X.mg x = some (.ref C)) (h : SE X M e fa)
    (hdb : (x == ("__debug__" : Str)) = false := by decide) (hs : starEach [e] X.env = (false, eval e X.env) :: starEach [] X.env := by rfl) (hpl : (backTo pos (starEach [] X.env)).any (·.1) = false := by rfl) :
    SE X M (.Call (.Name x p) [e] [] pos) (exvF C f fa) := ⟨PE.imp (pe_exv T iC tI F1 hr hb pass0 hg hm h.pe hdb hs hpl) fun σ H Q q => sem_exv T hno q⟩
theorem se_exk {kpos : Pos} (T : OexC X.K C) (hno : PySem.W.findIn X.K (.ref C) f = some none) (iC : PySem.W.findIn X.K (.ref C) "__init__" = some (some (.ref fI))) (tI : PySem.W.typeIn X.K (.ref fI) = some (.type "function"))
    (F1 : FnOk X.prog X.w X.K X.mg X.base CX0 k fI fd ["self", f] (spX X.K f)) (hr : Room (k + 1) X.A) (hb : ∀ (s : Shared) (self u : Value), X.K.In s.heap → BindsTo s fd ⟨[self], [(f, u)]⟩ ((["self", f] : List Str).zip [self, u])) (hg : Gl X x) (hm : X.mg x = some (.ref C)) (h : SE X M e fa)
    (hdb : (x == ("__debug__" : Str)) = false := by decide)
    (hall : (backToKw pos (keywordEach [⟨some f, e, kpos⟩] X.env)).all (·.1.isSome) = true := by rfl) (hks : (backToKw pos (keywordEach [⟨some f, e, kpos⟩] X.env)).filterMap (·.1) = [f] := by rfl)
    (hpl : ((backTo pos (starEach [] X.env)).any (·.1) || (backToKw pos (keywordEach [⟨some f, e, kpos⟩] X.env)).any (·.1.isNone)) = false := by rfl) :
    SE X M (.Call (.Name x p) [] [⟨some f, e, kpos⟩] pos) (exvF C f fa) := ⟨PE.imp (pe_exk T iC tI F1 hr hb pass0 hg hm h.pe hdb hall hks hpl) fun σ H Q q => sem_exv T hno q⟩
end
/-- what B's class must have, for B.__init__(self, 'text') -/
structure BaseC (K : PySem.W.Frag) (D : Addr) : Prop where
  s : PySem.W.specialIn K (.ref D) "__getattribute__" = some (some (.builtin "type.__getattribute__"))
  t : PySem.W.typeIn K (.ref D) = some (.type "type")
  r : PySem.W.readsIn K D (.type "type") = true
  v : PySem.W.findCls K (.ref D) (.type "type") "__init__" = some (.val (.builtin "ValueError.__init__"))
/-! ### e.f -/
theorem pe_xfv {te : TE} {n : Str} (he : PE X e te) (hb : attributeBase e n X.env (eval e X.env) = eval e X.env := by rfl) :
    PE X (.Attribute e n pos) (fun σ H Q => te σ H fun x H1 => ∃ (a C dx : Addr) (fs : List (Str × V)) (v : V), x = .ref a ∧ H1 a = some (exo a C (some dx)) ∧ H1 dx = some (exd dx fs) ∧ XfC X.K C ∧ PySem.W.findIn X.K (.ref C) n = some none ∧ fs.lookup n = some v ∧ Q v H1) := by
  refine ⟨fun pins s σ H Q I h => ?_⟩
  refine attr_of hb (thn (he.run pins s σ H _ I h) fun u s1 hh => ?_)
  obtain ⟨x, H1, I1, rx, a, C, dx, fs, v, ex, ha, hd, T, hno, l, q⟩ := hh
  subst ex
  obtain rfl : u = Value.ref a := rx
  obtain ⟨t1, ho⟩ := exo_at I1.hok ha
  obtain ⟨mA, hns, hr⟩ := exd_at I1.hok hd
  obtain ⟨od, hod, hl⟩ := lookIn_ns hns
  obtain ⟨u, hu, ru⟩ := RelO.some_of (v := v) (o := mA n) (by rw [← l]; exact hr n)
  have J : PySem.W.InstAt s1.heap a _ C (some od) := ⟨ho, rfl, rfl, hod⟩
  exact PySem.HandSPX.exc_get I1.kIn J T.ga T.gg T.exC (PySem.W.findObj_own T.hdC hno rfl (by rw [hl, hu])) (handed_of ru) ⟨v, H1, I1.tok _, ru, q⟩
def xfdF (cs : List Addr) (n : Str) (fa : EF) : EF := fun Γ => match fa Γ with
  | some (⟨_, _, .exc C (some (f, i))⟩, Γ1) => if cs.contains C && f == n then some (nw (.int i), Γ1) else none
  | _ => none
theorem se_xfd {cs : List Addr} {n : Str} (hc : ∀ C ∈ cs, XfC X.K C ∧ PySem.W.findIn X.K (.ref C) n = some none) (h : SE X M e fa) (hb : attributeBase e n X.env (eval e X.env) = eval e X.env := by rfl) : SE X M (.Attribute e n pos) (xfdF cs n fa) :=
  ⟨PE.imp (pe_xfv h.pe hb) fun σ H Q q => by
  obtain ⟨I, F, Γ, y, Γ', o, e, k⟩ := q
  unfold xfdF at e
  split at e
  · rename_i dp ro C f i Γ1 e1
    split at e
    · rename_i hcc
      rw [Bool.and_eq_true] at hcc
      have hm : C ∈ cs := by simpa using hcc.1
      have hf : f = n := by simpa using hcc.2
      subst hf
      injection e with e
      injection e with e e'
      subst e e'
      refine ⟨I, F, Γ, _, Γ1, o, e1, fun v H1 F1 G o1 f1 l => ?_⟩
      have lr := l.rep
      cases lr with
      | excF ha hd => exact ⟨_, C, _, _, .int i, rfl, ha, hd, (hc C hm).1, (hc C hm).2, by simp [List.lookup], k (.int i) H1 F1 [] o1 f1 (.flat (.int _))⟩
    · cases e
  · cases e⟩
end
end VS
/-! VS20: what the written part says of the exception classes, each a Bool; the end of a claim. -/
namespace VS
open PySem L2
section
variable {K : PySem.W.Frag} {C D : Addr}
def excB (K : PySem.W.Frag) (D : Addr) : Bool :=
  decide (PySem.W.findIn K (.ref D) "__getattribute__" = some (some (.builtin "BaseException.__getattribute__"))) && (decide (PySem.W.findIn K (.ref D) "__getattr__" = some none) && (decide (PySem.W.subIn K (.ref D) (.type "BaseException") = some true) && (PySem.W.hasDictIn K D &&
  (decide (PySem.W.findIn K (.ref D) "__class__" = some (some (.builtin "object.__class__"))) && (decide (PySem.W.specialIn K (.builtin "object.__class__") "__get__" = some (some (.builtin "getset_descriptor.__get__"))) && (decide (PySem.W.takesIn K (.builtin "object.__class__") = some true) && decide (PySem.W.mroIn K D (.type "object") = some true)))))))
theorem excB_ok (h : excB K D = true) : ExcC K D := by
  obtain ⟨h1, h⟩ := Bool.and_eq_true_iff.mp h
  obtain ⟨h2, h⟩ := Bool.and_eq_true_iff.mp h
  obtain ⟨h3, h⟩ := Bool.and_eq_true_iff.mp h
  obtain ⟨h4, h⟩ := Bool.and_eq_true_iff.mp h
  obtain ⟨h5, h⟩ := Bool.and_eq_true_iff.mp h
  obtain ⟨h6, h⟩ := Bool.and_eq_true_iff.mp h
  obtain ⟨h7, h8⟩ := Bool.and_eq_true_iff.mp h
  exact ⟨of_decide_eq_true h1, of_decide_eq_true h2, of_decide_eq_true h3, h4, of_decide_eq_true h5, of_decide_eq_true h6, of_decide_eq_true h7, of_decide_eq_true h8⟩
def oexC1 (K : PySem.W.Frag) (C : Addr) : Bool := match K.lookup C with
  | some ⟨.type "type", _, .cls cd, sl⟩ => (match cd.mro, sl.toList with
    | .ref C' :: bm, [_, _, _, _, some (.builtin n), _] => C' == C && n == "ValueError.__new__" && !cd.hasDel && cd.hasDict && PySem.HandSPX.refsVE bm
    | _, _ => false)
  | _ => false
theorem oexC1_ok (q : oexC1 K C = true) : ∃ nm q N bs bm sn sub ab col dd k0 k1 k2 k3 k5, K.lookup C = some (excClassObj nm q C N bs bm true sn sub ab col dd k0 k1 k2 k3 k5 "ValueError.__new__") ∧ PySem.HandSPX.refsVE bm = true := by
  unfold oexC1 at q
  split at q
  · rename_i dd cd sl ho
    split at q
    · rename_i C' bm k0 k1 k2 k3 n k5 hm hs
      simp only [Bool.and_eq_true, beq_iff_eq, Bool.not_eq_true'] at q
      obtain ⟨⟨⟨⟨rfl, rfl⟩, hdel⟩, hdct⟩, ht⟩ := q
      obtain ⟨nm, bs, mro, ns, qn, hd, sn, sub, ab, col, del⟩ := cd
      dsimp only at hm hdel hdct
      subst hm hdel hdct
      have hsl : sl = #[k0, k1, k2, k3, some (.builtin "ValueError.__new__"), k5] := by
        obtain ⟨l⟩ := sl
        simp only at hs
        rw [hs]
      subst hsl
      exact ⟨nm, qn, ns, bs, bm, sn, sub, ab, col, dd, k0, k1, k2, k3, k5, ho, ht⟩
    · cases q
  · cases q
def oexB (K : PySem.W.Frag) (C : Addr) : Bool := oexC1 K C && (decide (PySem.W.findIn K (.ref C) "__setattr__" = some (some (.builtin "object.__setattr__"))) && (decide (PySem.W.subIn K (.ref C) (.type "BaseException") = some true) && (decide (PySem.W.typeIn K (.ref C) = some (.type "type")) && PySem.W.keepIn K (.ref C))))
theorem oexB_ok (h : oexB K C = true) : OexC K C := by
  obtain ⟨h1, h⟩ := Bool.and_eq_true_iff.mp h
  obtain ⟨h2, h⟩ := Bool.and_eq_true_iff.mp h
  obtain ⟨h3, h⟩ := Bool.and_eq_true_iff.mp h
  obtain ⟨h4, h5⟩ := Bool.and_eq_true_iff.mp h
  exact ⟨oexC1_ok h1, of_decide_eq_true h2, of_decide_eq_true h3, of_decide_eq_true h4, h5⟩
def baseB (K : PySem.W.Frag) (D : Addr) : Bool := decide (PySem.W.specialIn K (.ref D) "__getattribute__" = some (some (.builtin "type.__getattribute__"))) && (decide (PySem.W.typeIn K (.ref D) = some (.type "type")) && PySem.W.readsIn K D (.type "type"))
/-- which of the classes ds are c's: tab's answers -/
def kitTab (K : PySem.W.Frag) (c : Value) (tab : List (Addr × Bool)) : Bool := tab.all fun p => excB K p.1 && decide (PySem.W.kitOne K (.ref p.1) c = some p.2)
def lk (tab : List (Addr × Bool)) (D : Addr) : Option Bool := tab.lookup D
theorem kitTab_ok {c : Value} {tab : List (Addr × Bool)} (h : kitTab K c tab = true) : ∀ D b, lk tab D = some b → ExcC K D ∧ PySem.W.kitOne K (.ref D) c = some b := by
  intro D b e
  unfold lk at e
  have mem : (D, b) ∈ tab := by
    clear h
    induction tab with
    | nil => cases e
    | cons p r ih =>
      obtain ⟨D', b'⟩ := p
      rw [List.lookup_cons] at e
      by_cases q : (D == D') = true
      · rw [q] at e
        injection e with e
        have := beq_iff_eq.mp q
        subst this e
        exact List.mem_cons_self
      · have q' : (D == D') = false := by simpa using q
        rw [q'] at e
        exact List.mem_cons_of_mem _ (ih e)
  have := List.all_eq_true.mp h _ mem
  rw [Bool.and_eq_true] at this
  exact ⟨excB_ok this.1, of_decide_eq_true this.2⟩
def xfTab (K : PySem.W.Frag) (n : Str) (cs : List Addr) : Bool := cs.all fun C => xfB K C && decide (PySem.W.findIn K (.ref C) n = some none)
theorem xfTab_ok {n : Str} {cs : List Addr} (h : xfTab K n cs = true) : ∀ C ∈ cs, XfC K C ∧ PySem.W.findIn K (.ref C) n = some none := by
  intro C hC
  have := List.all_eq_true.mp h C hC
  rw [Bool.and_eq_true] at this
  exact ⟨xfB_ok this.1, of_decide_eq_true this.2⟩
end
/-- the script as data -/
def scr (ns : List Int) : D := .frz (ns.map .int)
/-- the end: the law's def, asked with the script, answers True -/
theorem spOf_law {K : PySem.W.Frag} {g : FF} {H : Hp} {a : Addr} {ns : List Int} (hO : Only H) (hS : SqL K H a (ns.map V.int)) (e : ∃ r Γ', g [some (.ro, scr ns)] = some (r, .bl true, Γ')) : SpOf K g [.ref a] H (fun v _ => v = .bl true) fun _ _ _ => False := by
  obtain ⟨r, Γ', e⟩ := e
  have hR : SqR K H a (ns.map V.int) := by
    rcases hS with (h | h) | h
    · rcases hO a with z | ⟨o, xs, z⟩
      · rw [z] at h; cases h
      · rw [z] at h; cases h
    · exact .inl h
    · exact .inr h
  refine ⟨fun _ => False, fun _ => [], _, r, _, Γ', ⟨rfl, fun i m d h => ?_, fun _ => List.nodup_nil, (fun _ _ _ _ h => nomatch h), (fun _ _ h => nomatch h), (fun _ _ h => nomatch h), fun _ h => False.elim h⟩, fun _ _ => rfl, e, fun v H' F' G _ _ _ l => ?_⟩
  · match i, h with
    | 0, h =>
      injection h with h
      injection h with h
      injection h with h1 h2
      subst h1 h2
      exact ⟨.ref a, [], rfl, .lstR hR (reps_ints ns), by rw [if_pos rfl]; exact fun _ z => nomatch z⟩
  · cases l.rep
    rfl
theorem walk_end {l : PySem.W.OpenLaw} {n k : Nat} {q : Program} {loose : List Str} {XP : (Str → Option Value) → Heap → Prop} {YP : World → Heap → Prop} {d : DefRec} {K : Params → PySem.W.Frag} {g : FF} {x : Str}
    (hn : l.most = some n) (hn2 : n ≤ sizeLine) (hdf : d.params.defaults = []) (hr : Room k callerA)
    (hY : ∀ (w : World) (h : Heap), YP w h → (K w.params).In h)
    (F : ∀ (w : World) (mg : Str → Option Value) (fa : Addr) (h : Heap), (K w.params).In h → h.Ns mainGlobals mg → mg d.name = some (.ref fa) →
      ∃ fd : FuncData, (∀ (s : Shared) (u : Value), BindsTo s fd ⟨[u], []⟩ [(x, u)]) ∧
        ∀ base : Heap, (K w.params).In base → base.Ns mainGlobals mg → FnOk l.prog w (K w.params) mg base CX0 k fa fd [x] (SpOf (K w.params) g))
    (hl : ∀ ns : List Int, ns.length ≤ n → (∀ z ∈ ns, Builtin.Int.intBits z ≤ 1048576) → ∃ r Γ', g [some (.ro, scr ns)] = some (r, .bl true, Γ')) :
    PySem.W.WalkO q loose XP YP l.row.toRowW d [] (fun f vs => PySem.call f vs) :=
  L2.walk_ofB (CX := fun _ => CX0) (sp := fun w => SpOf (K w.params) g) hn hn2 hdf hr hY F (fun w H a ns h1 h2 hO hS => spOf_law hO hS (hl ns h1 h2)) fun _ _ _ _ _ z => z
end VS
/-! VM1: plain facts of data: lists of dInts, comparisons. -/
namespace VS
open PySem L2
def dInts (ns : List Int) : List D := ns.map .int
theorem dI_nil : dInts [] = [] := rfl
theorem dI_cons (i : Int) (ns : List Int) : dInts (i :: ns) = .int i :: dInts ns := rfl
theorem immuts_dI : ∀ ns : List Int, immuts (dInts ns) = true
  | [] => rfl
  | i :: ns => by
    rw [dI_cons]
    unfold immuts
    rw [immuts_dI ns]
    rfl
theorem plains_dI : ∀ ns : List Int, plains (dInts ns) = true
  | [] => rfl
  | i :: ns => by
    rw [dI_cons]
    unfold plains
    rw [plains_dI ns]
    rfl
theorem toPys_dI : ∀ ns : List Int, toPys (dInts ns) = ns.map PyData.int
  | [] => rfl
  | i :: ns => by
    rw [dI_cons]
    unfold toPys
    rw [toPys_dI ns]
    rfl
theorem canLay_pI : ∀ ns : List Int, PyData.canLayAll0 (ns.map PyData.int) = true
  | [] => rfl
  | i :: ns => by
    rw [List.map_cons]
    unfold PyData.canLayAll0
    rw [canLay_pI ns]
    rfl
theorem depth_pI : ∀ ns : List Int, PyData.depthAll (ns.map PyData.int) = 0
  | [] => rfl
  | i :: ns => by
    rw [List.map_cons]
    unfold PyData.depthAll
    rw [depth_pI ns]
    rfl
theorem shaped_pI (ns : List Int) : SeqAt.shaped (.list (ns.map PyData.int)) = true := by
  unfold SeqAt.shaped PyData.canLay0 PyData.depth
  rw [canLay_pI, depth_pI]
  rfl
theorem cmpb_dI (ns : List Int) : cmpb (.lst (dInts ns)) = true := by
  unfold cmpb plain toPy
  rw [plains_dI, toPys_dI, shaped_pI]
  rfl
theorem cmpb_fI (ns : List Int) : cmpb (.frz (dInts ns)) = true := by
  unfold cmpb plain toPy
  rw [plains_dI, toPys_dI, shaped_pI]
  rfl
theorem eqvAll_pI : ∀ (ns ms : List Int), PyData.eqvAll (ns.map PyData.int) (ms.map PyData.int) = decide (ns = ms)
  | [], [] => rfl
  | [], m :: ms => by simp [PyData.eqvAll]
  | n :: ns, [] => by simp [PyData.eqvAll]
  | n :: ns, m :: ms => by
    rw [List.map_cons, List.map_cons]
    unfold PyData.eqvAll
    rw [eqvAll_pI ns ms]
    unfold PyData.eqv
    by_cases h : n = m
    · subst h
      simp
    · simp [h]
theorem eqG_dI (ns ms : List Int) : eqG (.lst (dInts ns)) (.lst (dInts ms)) = some (.bl (decide (ns = ms))) := by
  unfold eqG orElse
  show (match (none : Option D) with | some z => some z | none => eqD (.lst (dInts ns)) (.lst (dInts ms))) = _
  unfold eqD
  rw [cmpb_dI, cmpb_dI]
  show some (D.bl (PyData.eqvAll (toPys (dInts ns)) (toPys (dInts ms)))) = _
  rw [toPys_dI, toPys_dI, eqvAll_pI]
theorem eqG_fI (ns ms : List Int) : eqG (.frz (dInts ns)) (.lst (dInts ms)) = some (.bl (decide (ns = ms))) := by
  unfold eqG orElse
  show (match (none : Option D) with | some z => some z | none => eqD (.frz (dInts ns)) (.lst (dInts ms))) = _
  unfold eqD
  rw [cmpb_fI, cmpb_dI]
  show some (D.bl (PyData.eqvAll (toPys (dInts ns)) (toPys (dInts ms)))) = _
  rw [toPys_dI, toPys_dI, eqvAll_pI]
theorem dI_len (ns : List Int) : (dInts ns).length = ns.length := by unfold dInts; rw [List.length_map]
theorem dI_app (ns ms : List Int) : dInts (ns ++ ms) = dInts ns ++ dInts ms := by unfold dInts; rw [List.map_append]
theorem dI_get (ns : List Int) (i : Nat) : (dInts ns)[i]? = (ns[i]?).map .int := by unfold dInts; rw [List.getElem?_map]
theorem dI_take (ns : List Int) (n : Nat) : (dInts ns).take n = dInts (ns.take n) := by unfold dInts; rw [List.map_take]
theorem dI_drop (ns : List Int) (n : Nat) : (dInts ns).drop n = dInts (ns.drop n) := by unfold dInts; rw [List.map_drop]
/-! the combinators, one step -/
theorem seqF_nx {f g : SF} {Γ Γ1 : Env} (h : f Γ = some (.nx Γ1)) : seqF f g Γ = g Γ1 := by
  unfold seqF
  rw [h]
theorem op2F_eq {g : D → D → Option D} {N : List Nat} {fa fb : EF} {Γ Γ1 Γ2 : Env} {x y : Val} {z : D} (h1 : fa Γ = some (x, Γ1)) (h2 : fb Γ1 = some (y, Γ2)) (hl : lastOk N x = true) (hg : g x.d y.d = some z) : op2F g N fa fb Γ = some (nw z, Γ2) := by
  unfold op2F
  rw [h1]
  dsimp only
  rw [h2]
  dsimp only
  rw [if_pos hl, hg]
theorem calF_eq {g : FF} {ks : List Bool} {M0 : List Nat} {fs : AgF} {Γ Γ1 Γc Γc' : Env} {xs : List Arg} {r : Bool} {d : D} (h1 : fs Γ = some (xs, Γ1)) (h2 : calE Γ1 xs ks = some Γc) (h3 : (nodupN (slotsA xs) && ((depsA xs ks).all fun s => !(slotsA xs).contains s) && (slotsA xs).all M0.contains) = true) (h4 : g Γc = some (r, d, Γc')) :
    calF g ks M0 fs Γ = some (if r then ⟨depsA xs ks, true, d⟩ else nw d, bckA Γ1 xs Γc') := by
  unfold calF
  rw [h1]
  dsimp only
  rw [h2]
  dsimp only
  rw [if_pos h3, h4]
theorem forF_eq {t : Tgt} {it : EF} {body : SF} {clr : List Nat} {Γ Γ1 : Env} {x : Val} {items : List D} (h1 : it Γ = some (x, Γ1)) (h2 : x.d = .lst items) (h3 : x.deps = []) : forF t it body clr Γ = loopF t body clr items Γ1 := by
  unfold forF
  rw [h1]
  dsimp only
  rw [h2]
  dsimp only
  rw [h3]
  rfl
/-- a loop whose turns keep an invariant -/
theorem loopF_inv {t : Tgt} {body : SF} {clr : List Nat} (P : Nat → Env → Prop) : ∀ (items : List D) (k : Nat) (Γ : Env), P k Γ → (∀ j d Γ, items[j]? = some d → P (k + j) Γ → ∃ Γ1 Γ2, bindR t d Γ = some Γ1 ∧ (body Γ1 = some (.nx Γ2) ∨ body Γ1 = some (.ct Γ2)) ∧ P (k + j + 1) (clear Γ2 clr)) →
    ∃ Γ', loopF t body clr items Γ = some (.nx Γ') ∧ P (k + items.length) Γ'
  | [], k, Γ, h, _ => ⟨Γ, rfl, h⟩
  | d :: ds, k, Γ, h, st => by
    obtain ⟨Γ1, Γ2, e1, e2, h2⟩ := st 0 d Γ rfl h
    obtain ⟨Γ', e3, h3⟩ := loopF_inv P ds (k + 1) (clear Γ2 clr) h2 fun j d Γ hj hp => by
      have := st (j + 1) d Γ (by simpa using hj) (by rw [← Nat.add_assoc, Nat.add_right_comm]; exact hp)
      rw [← Nat.add_assoc, Nat.add_right_comm k j 1] at this
      exact this
    refine ⟨Γ', ?_, by rw [List.length_cons, ← Nat.add_assoc, Nat.add_right_comm]; exact h3⟩
    unfold loopF
    rw [e1]
    dsimp only
    rcases e2 with e2 | e2 <;> rw [e2] <;> exact e3
theorem rng1_eq (n : Nat) (h : n ≤ 1000000000) : rng1 (.int n) = some (.lst ((List.range n).map fun (i : Nat) => D.int (0 + (i : Int)))) := by
  show rngD 0 (n : Int) = _
  unfold rngD
  rw [if_pos ⟨by decide, by decide, by omega, by omega⟩, Int.sub_zero, Int.toNat_natCast]
theorem addG_lst {x y : List D} (h : x.length + y.length ≤ SZ) (hx : immuts x = true) (hy : immuts y = true) : addG (.lst x) (.lst y) = some (.lst (x ++ y)) := by
  show (if x.length + y.length ≤ SZ ∧ immuts x = true ∧ immuts y = true then some (D.lst (x ++ y)) else none) = _
  exact if_pos ⟨h, hx, hy⟩
theorem consL_eq {N : List Nat} {fa : EF} {fs : LF} {Γ Γ1 Γ2 : Env} {x : Val} {xs : VL} (h1 : fa Γ = some (x, Γ1)) (h2 : fs Γ1 = some (xs, Γ2)) (hl : lastOk N x = true) : consL N fa fs Γ = some (⟨x.deps ++ xs.deps, x.ro || xs.ro || tiedL x xs, x.d :: xs.ds⟩, Γ2) := by
  unfold consL
  rw [h1]
  dsimp only
  rw [h2]
  dsimp only
  rw [if_pos hl]
theorem callF_eq {g : List D → Option D} {fs : LF} {Γ Γ1 : Env} {xs : VL} {z : D} (h1 : fs Γ = some (xs, Γ1)) (hg : g xs.ds = some z) : callF g fs Γ = some (nw z, Γ1) := by
  unfold callF
  rw [h1]
  dsimp only
  rw [hg]
theorem callF1_eq {g : List D → Option D} {N : List Nat} {fa : EF} {Γ Γ1 : Env} {x : Val} {z : D} (h1 : fa Γ = some (x, Γ1)) (hl : lastOk N x = true) (hg : g [x.d] = some z) : callF g (consL N fa nilL) Γ = some (nw z, Γ1) := callF_eq (consL_eq h1 rfl hl) hg
theorem callF2_eq {g : List D → Option D} {N M : List Nat} {fa fb : EF} {Γ Γ1 Γ2 : Env} {x y : Val} {z : D} (h1 : fa Γ = some (x, Γ1)) (h2 : fb Γ1 = some (y, Γ2)) (hl : lastOk N x = true) (hl2 : lastOk M y = true) (hg : g [x.d, y.d] = some z) : callF g (consL N fa (consL M fb nilL)) Γ = some (nw z, Γ2) := callF_eq (consL_eq h1 (consL_eq h2 rfl hl2) hl) hg
theorem subF_eq {N : List Nat} {fa fb : EF} {Γ Γ1 Γ2 : Env} {x y : Val} {z : D} (h1 : fa Γ = some (x, Γ1)) (h2 : fb Γ1 = some (y, Γ2)) (hl : lastOk N x = true) (hg : getAt x.d y.d = some z) : subF N fa fb Γ = some (if immut z then nw z else ⟨x.deps, x.ro, z⟩, Γ2) := by
  unfold subF
  rw [h1]
  dsimp only
  rw [h2]
  dsimp only
  rw [if_pos hl, hg]
theorem consV_eq {N : List Nat} {fa : EF} {fs : AgF} {Γ Γ1 Γ2 : Env} {x : Val} {xs : List Arg} (h1 : fa Γ = some (x, Γ1)) (h2 : fs Γ1 = some (xs, Γ2)) (hl : lastOk N x = true) : consV N fa fs Γ = some (.v x :: xs, Γ2) := by
  unfold consV
  rw [h1]
  dsimp only
  rw [h2]
  dsimp only
  rw [if_pos hl]
theorem consS_eq {i : Nat} {fs : AgF} {Γ Γ2 : Env} {p : Md × D} {xs : List Arg} (h1 : Γ[i]? = some (some p)) (h2 : fs Γ = some (xs, Γ2)) : consS i fs Γ = some (.s i :: xs, Γ2) := by
  unfold consS
  rw [h1]
  dsimp only
  rw [h2]
theorem asgF_eq {i : Nat} {fa : EF} {Γ Γ1 Γ2 : Env} {x : Val} (h1 : fa Γ = some (x, Γ1)) (h2 : putS i x Γ1 = some Γ2) : asgF i fa Γ = some (.nx Γ2) := by
  unfold asgF
  rw [h1]
  dsimp only
  rw [h2]
theorem iffF_t {t : TF} {f g : SF} {Γ Γ1 : Env} (h : t Γ = some (true, Γ1)) : iffF t f g Γ = f Γ1 := by
  unfold iffF
  rw [h]
theorem iffF_f {t : TF} {f g : SF} {Γ Γ1 : Env} (h : t Γ = some (false, Γ1)) : iffF t f g Γ = g Γ1 := by
  unfold iffF
  rw [h]
theorem retF_eq {fa : EF} {Γ Γ1 : Env} {x : Val} (h1 : fa Γ = some (x, Γ1)) : retF fa Γ = some (.ret x Γ1) := by
  unfold retF
  rw [h1]
theorem notF_eq {t : TF} {Γ Γ1 : Env} {b : Bool} (h : t Γ = some (b, Γ1)) : notF t Γ = some (!b, Γ1) := by
  unfold notF
  rw [h]
theorem rngG1 (d : D) : rngG [d] = rng1 d := by rfl
theorem tst_eq {f : EF} {Γ Γ1 : Env} {b : Bool} (h : f Γ = some (nw (.bl b), Γ1)) : tst f Γ = some (b, Γ1) := by
  unfold tst
  rw [h]
  rfl
end VS
namespace VS.k93
open PySem L2 VS
def top (i : Nat) : Stmt := PySem.Challenge.pw_twostamps_k93_refusals_apart.main.body.getD i (.Pass ⟨0, 0, 0, 0⟩)
abbrev s_Ring___init__ : Stmt := inClass (top 17) 0
abbrev n_Ring___init__ : List Str := ["self", "ring"]
abbrev p_Ring___init__ : List Str := ["self", "ring"]
theorem sc_Ring___init__ : FnScope n_Ring___init__ p_Ring___init__ (defScope s_Ring___init__) := ⟨rfl, rfl, rfl, by decide +kernel, rfl, by decide +kernel, by decide +kernel⟩
abbrev s_TooFew___init__ : Stmt := inClass (top 18) 0
abbrev n_TooFew___init__ : List Str := ["self", "least"]
abbrev p_TooFew___init__ : List Str := ["self", "least"]
theorem sc_TooFew___init__ : FnScope n_TooFew___init__ p_TooFew___init__ (defScope s_TooFew___init__) := ⟨rfl, rfl, rfl, by decide +kernel, rfl, by decide +kernel, by decide +kernel⟩
abbrev s_Barred___init__ : Stmt := inClass (top 19) 0
abbrev n_Barred___init__ : List Str := ["self", "by"]
abbrev p_Barred___init__ : List Str := ["self", "by"]
theorem sc_Barred___init__ : FnScope n_Barred___init__ p_Barred___init__ (defScope s_Barred___init__) := ⟨rfl, rfl, rfl, by decide +kernel, rfl, by decide +kernel, by decide +kernel⟩
abbrev s_TooMany___init__ : Stmt := inClass (top 20) 0
abbrev n_TooMany___init__ : List Str := ["self", "many"]
abbrev p_TooMany___init__ : List Str := ["self", "many"]
theorem sc_TooMany___init__ : FnScope n_TooMany___init__ p_TooMany___init__ (defScope s_TooMany___init__) := ⟨rfl, rfl, rfl, by decide +kernel, rfl, by decide +kernel, by decide +kernel⟩
abbrev s_NoText___init__ : Stmt := inClass (top 21) 0
abbrev n_NoText___init__ : List Str := ["self", "at"]
abbrev p_NoText___init__ : List Str := ["self", "at"]
theorem sc_NoText___init__ : FnScope n_NoText___init__ p_NoText___init__ (defScope s_NoText___init__) := ⟨rfl, rfl, rfl, by decide +kernel, rfl, by decide +kernel, by decide +kernel⟩
abbrev s__law_bag : Stmt := top 23
abbrev n__law_bag : List Str := ["_law_cell", "_law_k"]
abbrev p__law_bag : List Str := ["_law_cell", "_law_k"]
theorem sc__law_bag : FnScope n__law_bag p__law_bag (defScope s__law_bag) := ⟨rfl, rfl, rfl, by decide +kernel, rfl, by decide +kernel, by decide +kernel⟩
abbrev s__law_draw : Stmt := top 24
abbrev n__law_draw : List Str := ["_law_bag_here", "_law_so_many", "_law_digit", "_law_one"]
abbrev p__law_draw : List Str := ["_law_bag_here", "_law_so_many"]
theorem sc__law_draw : FnScope n__law_draw p__law_draw (defScope s__law_draw) := ⟨rfl, rfl, rfl, by decide +kernel, rfl, by decide +kernel, by decide +kernel⟩
abbrev s__law_marks : Stmt := top 25
abbrev n__law_marks : List Str := ["_law_e", "_law_marks_here"]
abbrev p__law_marks : List Str := ["_law_e"]
theorem sc__law_marks : FnScope n__law_marks p__law_marks (defScope s__law_marks) := ⟨rfl, rfl, rfl, by decide +kernel, rfl, by decide +kernel, by decide +kernel⟩
abbrev s__law_right : Stmt := top 26
abbrev n__law_right : List Str := ["_law_text", "_law_number", "_law_some", "_law_k", "_law_told", "_law_j"]
abbrev p__law_right : List Str := ["_law_text", "_law_number"]
theorem sc__law_right : FnScope n__law_right p__law_right (defScope s__law_right) := ⟨rfl, rfl, rfl, by decide +kernel, rfl, by decide +kernel, by decide +kernel⟩
abbrev s_law : Stmt := top 27
abbrev n_law : List Str := ["_law_script", "_law_cells", "_law_k", "_law_bag_here", "_law_text"]
abbrev p_law : List Str := ["_law_script"]
theorem sc_law : FnScope n_law p_law (defScope s_law) := ⟨rfl, rfl, rfl, by decide +kernel, rfl, by decide +kernel, by decide +kernel⟩
abbrev a_Barred : Addr := 262
abbrev a_Full : Addr := 193
abbrev a_NoChain : Addr := 61
abbrev a_NoName : Addr := 169
abbrev a_NoNumber : Addr := 73
abbrev a_NoPaper : Addr := 49
abbrev a_NoPile : Addr := 37
abbrev a_NoPlan : Addr := 85
abbrev a_NoRow : Addr := 133
abbrev a_NoRule : Addr := 145
abbrev a_NoStamp : Addr := 157
abbrev a_NoStep : Addr := 109
abbrev a_NoSteps : Addr := 121
abbrev a_NoText : Addr := 300
abbrev a_NoTold : Addr := 97
abbrev a_Nothing : Addr := 205
abbrev a_Ring : Addr := 224
abbrev a_StampError : Addr := 24
abbrev a_Taken : Addr := 181
abbrev a_TooFew : Addr := 243
abbrev a_TooMany : Addr := 281
def tb_Barred : List (Addr × Bool) := [(262, true), (193, false), (61, false), (169, false), (73, false), (49, false), (37, false), (85, false), (133, false), (145, false), (157, false), (109, false), (121, false), (300, false), (97, false), (205, false), (224, false), (24, false), (181, false), (243, false), (281, false)]
def tb_Full : List (Addr × Bool) := [(262, false), (193, true), (61, false), (169, false), (73, false), (49, false), (37, false), (85, false), (133, false), (145, false), (157, false), (109, false), (121, false), (300, false), (97, false), (205, false), (224, false), (24, false), (181, false), (243, false), (281, false)]
def tb_NoChain : List (Addr × Bool) := [(262, false), (193, false), (61, true), (169, false), (73, false), (49, false), (37, false), (85, false), (133, false), (145, false), (157, false), (109, false), (121, false), (300, false), (97, false), (205, false), (224, false), (24, false), (181, false), (243, false), (281, false)]
def tb_NoName : List (Addr × Bool) := [(262, false), (193, false), (61, false), (169, true), (73, false), (49, false), (37, false), (85, false), (133, false), (145, false), (157, false), (109, false), (121, false), (300, false), (97, false), (205, false), (224, false), (24, false), (181, false), (243, false), (281, false)]
def tb_NoNumber : List (Addr × Bool) := [(262, false), (193, false), (61, false), (169, false), (73, true), (49, false), (37, false), (85, false), (133, false), (145, false), (157, false), (109, false), (121, false), (300, false), (97, false), (205, false), (224, false), (24, false), (181, false), (243, false), (281, false)]
def tb_NoPaper : List (Addr × Bool) := [(262, false), (193, false), (61, false), (169, false), (73, false), (49, true), (37, false), (85, false), (133, false), (145, false), (157, false), (109, false), (121, false), (300, false), (97, false), (205, false), (224, false), (24, false), (181, false), (243, false), (281, false)]
def tb_NoPile : List (Addr × Bool) := [(262, false), (193, false), (61, false), (169, false), (73, false), (49, false), (37, true), (85, false), (133, false), (145, false), (157, false), (109, false), (121, false), (300, false), (97, false), (205, false), (224, false), (24, false), (181, false), (243, false), (281, false)]
def tb_NoPlan : List (Addr × Bool) := [(262, false), (193, false), (61, false), (169, false), (73, false), (49, false), (37, false), (85, true), (133, false), (145, false), (157, false), (109, false), (121, false), (300, false), (97, false), (205, false), (224, false), (24, false), (181, false), (243, false), (281, false)]
def tb_NoRow : List (Addr × Bool) := [(262, false), (193, false), (61, false), (169, false), (73, false), (49, false), (37, false), (85, false), (133, true), (145, false), (157, false), (109, false), (121, false), (300, false), (97, false), (205, false), (224, false), (24, false), (181, false), (243, false), (281, false)]
def tb_NoRule : List (Addr × Bool) := [(262, false), (193, false), (61, false), (169, false), (73, false), (49, false), (37, false), (85, false), (133, false), (145, true), (157, false), (109, false), (121, false), (300, false), (97, false), (205, false), (224, false), (24, false), (181, false), (243, false), (281, false)]
def tb_NoStamp : List (Addr × Bool) := [(262, false), (193, false), (61, false), (169, false), (73, false), (49, false), (37, false), (85, false), (133, false), (145, false), (157, true), (109, false), (121, false), (300, false), (97, false), (205, false), (224, false), (24, false), (181, false), (243, false), (281, false)]
def tb_NoStep : List (Addr × Bool) := [(262, false), (193, false), (61, false), (169, false), (73, false), (49, false), (37, false), (85, false), (133, false), (145, false), (157, false), (109, true), (121, false), (300, false), (97, false), (205, false), (224, false), (24, false), (181, false), (243, false), (281, false)]
def tb_NoSteps : List (Addr × Bool) := [(262, false), (193, false), (61, false), (169, false), (73, false), (49, false), (37, false), (85, false), (133, false), (145, false), (157, false), (109, false), (121, true), (300, false), (97, false), (205, false), (224, false), (24, false), (181, false), (243, false), (281, false)]
def tb_NoText : List (Addr × Bool) := [(262, false), (193, false), (61, false), (169, false), (73, false), (49, false), (37, false), (85, false), (133, false), (145, false), (157, false), (109, false), (121, false), (300, true), (97, false), (205, false), (224, false), (24, false), (181, false), (243, false), (281, false)]
def tb_NoTold : List (Addr × Bool) := [(262, false), (193, false), (61, false), (169, false), (73, false), (49, false), (37, false), (85, false), (133, false), (145, false), (157, false), (109, false), (121, false), (300, false), (97, true), (205, false), (224, false), (24, false), (181, false), (243, false), (281, false)]
def tb_Nothing : List (Addr × Bool) := [(262, false), (193, false), (61, false), (169, false), (73, false), (49, false), (37, false), (85, false), (133, false), (145, false), (157, false), (109, false), (121, false), (300, false), (97, false), (205, true), (224, false), (24, false), (181, false), (243, false), (281, false)]
def tb_Ring : List (Addr × Bool) := [(262, false), (193, false), (61, false), (169, false), (73, false), (49, false), (37, false), (85, false), (133, false), (145, false), (157, false), (109, false), (121, false), (300, false), (97, false), (205, false), (224, true), (24, false), (181, false), (243, false), (281, false)]
def tb_StampError : List (Addr × Bool) := [(262, true), (193, true), (61, true), (169, true), (73, true), (49, true), (37, true), (85, true), (133, true), (145, true), (157, true), (109, true), (121, true), (300, true), (97, true), (205, true), (224, true), (24, true), (181, true), (243, true), (281, true)]
def tb_Taken : List (Addr × Bool) := [(262, false), (193, false), (61, false), (169, false), (73, false), (49, false), (37, false), (85, false), (133, false), (145, false), (157, false), (109, false), (121, false), (300, false), (97, false), (205, false), (224, false), (24, false), (181, true), (243, false), (281, false)]
def tb_TooFew : List (Addr × Bool) := [(262, false), (193, false), (61, false), (169, false), (73, false), (49, false), (37, false), (85, false), (133, false), (145, false), (157, false), (109, false), (121, false), (300, false), (97, false), (205, false), (224, false), (24, false), (181, false), (243, true), (281, false)]
def tb_TooMany : List (Addr × Bool) := [(262, false), (193, false), (61, false), (169, false), (73, false), (49, false), (37, false), (85, false), (133, false), (145, false), (157, false), (109, false), (121, false), (300, false), (97, false), (205, false), (224, false), (24, false), (181, false), (243, false), (281, true)]
def tb_ValueError : List (Addr × Bool) := [(262, true), (193, true), (61, true), (169, true), (73, true), (49, true), (37, true), (85, true), (133, true), (145, true), (157, true), (109, true), (121, true), (300, true), (97, true), (205, true), (224, true), (24, true), (181, true), (243, true), (281, true)]
def xt_at : List Addr := [300]
def xt_by : List Addr := [262]
def xt_least : List Addr := [243]
def xt_many : List Addr := [281]
def xt_ring : List Addr := [224]
def e__law_bag : SF := (seqF (iffF (tst (op2F ltG [] (varF 0) (cF (.int 0)))) (retF (lstF (consL [] (op1F negG (varF 0)) (consL [] (op2F addG [] (op2F mulY [] (cF (.int 37)) (varF 1)) (cF (.int 18))) nilL)))) nxF)
  (retF (lstF (consL [] (varF 0) (consL [] (op2F mulY [] (cF (.int 37)) (varF 1)) nilL)))))
def m__law_bag : FF := fnF 2 2 e__law_bag
def e__law_draw : SF := (seqF (augIF (gI fun i j => some (.int (i + j))) [] [] 0 (varP 0) (cF (.int 1)) (cF (.int 1)))
  (seqF (iffF (tst (op2F geI [] (subF [] (varF 0) (cF (.int 0))) (op2F powI [] (cF (.int 10)) (cF (.int 18))))) (seqF (asgF 2 (op2F modI [] (subF [] (varF 0) (cF (.int 0))) (varF 1)))
  (seqF (setIF [] [] 0 (op2F divI [] (subF [] (varF 0) (cF (.int 0))) (varF 1)) (varP 0) (cF (.int 0)))
  (retF (varF 2)))) nxF)
  (seqF (asgF 3 (op2F modI [] (op2F addG [] (op2F addG [] (op2F modI [] (subF [] (varF 0) (cF (.int 0))) (cF (.int 2147483629))) (op2F mulY [] (cF (.int 104729)) (subF [] (varF 0) (cF (.int 1))))) (cF (.int 1))) (cF (.int 2147483587))))
  (seqF (asgF 3 (op2F modI [] (op2F mulY [] (varF 3) (varF 3)) (cF (.int 2147483587))))
  (seqF (asgF 3 (op2F modI [] (op2F addG [] (varF 3) (op2F mulY [] (cF (.int 40692)) (subF [] (varF 0) (cF (.int 1))))) (cF (.int 2147483563))))
  (seqF (asgF 3 (op2F modI [] (op2F mulY [] (varF 3) (varF 3)) (cF (.int 2147483563))))
  (retF (op2F modI [] (op2F divI [] (varF 3) (cF (.int 8))) (varF 1)))))))))
def m__law_draw : FF := fnF 2 4 e__law_draw
def e__law_marks : SF := (seqF (asgF 1 (lstF (consL [] (op1F (isX (lk tb_Barred)) (varF 0)) (consL [] (op1F (isX (lk tb_Full)) (varF 0)) (consL [] (op1F (isX (lk tb_NoChain)) (varF 0)) (consL [] (op1F (isX (lk tb_NoName)) (varF 0)) nilL))))))
  (seqF (asgF 1 (op2F addG [] (varF 1) (lstF (consL [] (op1F (isX (lk tb_NoNumber)) (varF 0)) (consL [] (op1F (isX (lk tb_NoPaper)) (varF 0)) (consL [] (op1F (isX (lk tb_NoPile)) (varF 0)) (consL [] (op1F (isX (lk tb_NoPlan)) (varF 0)) nilL)))))))
  (seqF (asgF 1 (op2F addG [] (varF 1) (lstF (consL [] (op1F (isX (lk tb_NoRow)) (varF 0)) (consL [] (op1F (isX (lk tb_NoRule)) (varF 0)) (consL [] (op1F (isX (lk tb_NoStamp)) (varF 0)) (consL [] (op1F (isX (lk tb_NoStep)) (varF 0)) nilL)))))))
  (seqF (asgF 1 (op2F addG [] (varF 1) (lstF (consL [] (op1F (isX (lk tb_NoSteps)) (varF 0)) (consL [] (op1F (isX (lk tb_NoText)) (varF 0)) (consL [] (op1F (isX (lk tb_Nothing)) (varF 0)) (consL [] (op1F (isX (lk tb_NoTold)) (varF 0)) nilL)))))))
  (retF (op2F addG [] (varF 1) (lstF (consL [] (op1F (isX (lk tb_Ring)) (varF 0)) (consL [] (op1F (isX (lk tb_Taken)) (varF 0)) (consL [] (op1F (isX (lk tb_TooFew)) (varF 0)) (consL [] (op1F (isX (lk tb_TooMany)) (varF 0)) nilL)))))))))))
def m__law_marks : FF := fnF 1 2 e__law_marks
def e__law_right : SF := (seqF (asgF 2 (lstF (consL [] (exvF a_Barred "by" (varF 1)) (consL [] (exc1F a_Full (varF 0)) (consL [] (exc1F a_NoChain (varF 0)) (consL [] (exc1F a_NoName (varF 0)) (consL [] (exc1F a_NoNumber (varF 0)) (consL [] (exc1F a_NoPaper (varF 0)) (consL [] (exc1F a_NoPile (varF 0)) nilL)))))))))
  (seqF (asgF 2 (op2F addG [] (varF 2) (lstF (consL [] (exc1F a_NoPlan (varF 0)) (consL [] (exc1F a_NoRow (varF 0)) (consL [] (exc1F a_NoRule (varF 0)) (consL [] (exc1F a_NoStamp (varF 0)) (consL [] (exc1F a_NoStep (varF 0)) (consL [] (exc1F a_NoSteps (varF 0)) nilL)))))))))
  (seqF (asgF 2 (op2F addG [] (varF 2) (lstF (consL [] (exvF a_NoText "at" (varF 1)) (consL [] (exc1F a_Nothing (varF 0)) (consL [] (exc1F a_NoTold (varF 0)) (consL [] (exvF a_Ring "ring" (varF 1)) (consL [] (exc1F a_Taken (varF 0)) (consL [] (exvF a_TooFew "least" (varF 1)) nilL)))))))))
  (seqF (asgF 2 (op2F addG [] (varF 2) (lstF (consL [] (exvF a_TooMany "many" (varF 1)) nilL))))
  (seqF (forF (.nm 3) (itR (consL [] (cF (.int 20)) nilL)) (seqF (iffF (tst (op2F neG [] (calF m__law_marks [false] [] (consV [] (subF [] (varF 2) (varF 3)) nilA)) (lcF [] [5] (.nm 5) (itR (consL [] (cF (.int 20)) nilL)) yesT (op2F eqG [] (varF 5) (varF 3))))) (retF (cF (.bl false))) nxF)
  (iffF (orF (notF (tst (op1F (isX (lk tb_StampError)) (subF [] (varF 2) (varF 3))))) (notF (tst (op1F (isX (lk tb_ValueError)) (subF [] (varF 2) (varF 3)))))) (retF (cF (.bl false))) nxF)) [3])
  (seqF (asgF 4 (lstF (consL [] (xfdF xt_by "by" (exvF a_Barred "by" (varF 1))) (consL [] (xfdF xt_by "by" (exvF a_Barred "by" (varF 1))) (consL [] (xfdF xt_ring "ring" (exvF a_Ring "ring" (varF 1))) (consL [] (xfdF xt_ring "ring" (exvF a_Ring "ring" (varF 1))) (consL [] (xfdF xt_least "least" (exvF a_TooFew "least" (varF 1))) nilL)))))))
  (seqF (asgF 4 (op2F addG [] (varF 4) (lstF (consL [] (xfdF xt_least "least" (exvF a_TooFew "least" (varF 1))) (consL [] (xfdF xt_many "many" (exvF a_TooMany "many" (varF 1))) (consL [] (xfdF xt_many "many" (exvF a_TooMany "many" (varF 1))) nilL))))))
  (seqF (asgF 4 (op2F addG [] (varF 4) (lstF (consL [] (xfdF xt_at "at" (exvF a_NoText "at" (varF 1))) (consL [] (xfdF xt_at "at" (exvF a_NoText "at" (varF 1))) nilL)))))
  (retF (andE (op2F eqG [] (varF 4) (op2F mulY [] (lstF (consL [] (varF 1) nilL)) (cF (.int 10)))) (op2F niG [] (cF (.bl true)) (calF m__law_marks [false] [] (consV [] (exc1F a_StampError (varF 0)) nilA)))))))))))))
def m__law_right : FF := fnF 2 6 e__law_right
def e_law : SF := (seqF (asgF 1 (op2F addG [] (sliF (varF 0) noO (someO (cF (.int 12)))) (op2F mulY [] (lstF (consL [] (cF (.int 0)) nilL)) (callF intG (consL [] (op2F eqG [] (varF 0) (lstF nilL)) nilL)))))
  (seqF (forF (.nm 2) (itR (consL [] (callF lenG (consL [] (varF 1) nilL)) nilL)) (seqF (asgF 3 (calF m__law_bag [false, false] [] (consV [] (subF [] (varF 1) (varF 2)) (consV [] (varF 2) nilA))))
  (seqF (asgF 4 (op2F mulY [3] (subF [3] (cF (.str "a| ~")) (calF m__law_draw [true, false] [3] (consS 3 (consV [] (cF (.int 4)) nilA)))) (calF m__law_draw [true, false] [3] (consS 3 (consV [] (cF (.int 60)) nilA)))))
  (iffF (notF (tst (calF m__law_right [false, false] [] (consV [3] (varF 4) (consV [] (calF m__law_draw [true, false] [3] (consS 3 (consV [] (op2F powI [] (cF (.int 10)) (cF (.int 9))) nilA))) nilA))))) (retF (cF (.bl false))) nxF))) [2, 3, 4])
  (retF (cF (.bl true)))))
def m_law : FF := fnF 1 5 e_law
structure Txt (K : PySem.W.Frag) (mg : Str → Option Value) where
  f_Ring___init__ : Addr
  d_Ring___init__ : FuncData
  F_Ring___init__ : Fun K "__init__" "Ring.__init__" s_Ring___init__ f_Ring___init__ d_Ring___init__
  k_Ring___init__ : PySem.W.keepIn K (.ref f_Ring___init__) = true
  f_TooFew___init__ : Addr
  d_TooFew___init__ : FuncData
  F_TooFew___init__ : Fun K "__init__" "TooFew.__init__" s_TooFew___init__ f_TooFew___init__ d_TooFew___init__
  k_TooFew___init__ : PySem.W.keepIn K (.ref f_TooFew___init__) = true
  f_Barred___init__ : Addr
  d_Barred___init__ : FuncData
  F_Barred___init__ : Fun K "__init__" "Barred.__init__" s_Barred___init__ f_Barred___init__ d_Barred___init__
  k_Barred___init__ : PySem.W.keepIn K (.ref f_Barred___init__) = true
  f_TooMany___init__ : Addr
  d_TooMany___init__ : FuncData
  F_TooMany___init__ : Fun K "__init__" "TooMany.__init__" s_TooMany___init__ f_TooMany___init__ d_TooMany___init__
  k_TooMany___init__ : PySem.W.keepIn K (.ref f_TooMany___init__) = true
  f_NoText___init__ : Addr
  d_NoText___init__ : FuncData
  F_NoText___init__ : Fun K "__init__" "NoText.__init__" s_NoText___init__ f_NoText___init__ d_NoText___init__
  k_NoText___init__ : PySem.W.keepIn K (.ref f_NoText___init__) = true
  f__law_bag : Addr
  d__law_bag : FuncData
  F__law_bag : Fun K "_law_bag" "_law_bag" s__law_bag f__law_bag d__law_bag
  m__law_bag : mg "_law_bag" = some (.ref f__law_bag)
  k__law_bag : PySem.W.keepIn K (.ref f__law_bag) = true
  b__law_bag : Binds K d__law_bag p__law_bag []
  f__law_draw : Addr
  d__law_draw : FuncData
  F__law_draw : Fun K "_law_draw" "_law_draw" s__law_draw f__law_draw d__law_draw
  m__law_draw : mg "_law_draw" = some (.ref f__law_draw)
  k__law_draw : PySem.W.keepIn K (.ref f__law_draw) = true
  b__law_draw : Binds K d__law_draw p__law_draw []
  f__law_marks : Addr
  d__law_marks : FuncData
  F__law_marks : Fun K "_law_marks" "_law_marks" s__law_marks f__law_marks d__law_marks
  m__law_marks : mg "_law_marks" = some (.ref f__law_marks)
  k__law_marks : PySem.W.keepIn K (.ref f__law_marks) = true
  b__law_marks : Binds K d__law_marks p__law_marks []
  f__law_right : Addr
  d__law_right : FuncData
  F__law_right : Fun K "_law_right" "_law_right" s__law_right f__law_right d__law_right
  m__law_right : mg "_law_right" = some (.ref f__law_right)
  k__law_right : PySem.W.keepIn K (.ref f__law_right) = true
  b__law_right : Binds K d__law_right p__law_right []
  f_law : Addr
  d_law : FuncData
  F_law : Fun K "law" "law" s_law f_law d_law
  m_law : mg "law" = some (.ref f_law)
  k_law : PySem.W.keepIn K (.ref f_law) = true
  b_law : Binds K d_law p_law []
  z_ValueError : mg "ValueError" = none
  z_int : mg "int" = none
  z_isinstance : mg "isinstance" = none
  z_len : mg "len" = none
  z_range : mg "range" = none
  g_Barred : mg "Barred" = some (.ref a_Barred)
  o_Barred : oexB K a_Barred = true
  i_Barred : PySem.W.findIn K (.ref a_Barred) "__init__" = some (some (.ref f_Barred___init__))
  t_Barred : PySem.W.typeIn K (.ref f_Barred___init__) = some (.type "function")
  n_Barred : PySem.W.findIn K (.ref a_Barred) "by" = some none
  bp_Barred : ∀ (s : Shared) (self u : Value), K.In s.heap → BindsTo s d_Barred___init__ ⟨[self, u], []⟩ ((["self", "by"] : List Str).zip [self, u])
  bk_Barred : ∀ (s : Shared) (self u : Value), K.In s.heap → BindsTo s d_Barred___init__ ⟨[self], [("by", u)]⟩ ((["self", "by"] : List Str).zip [self, u])
  g_Full : mg "Full" = some (.ref a_Full)
  q_Full : PySem.W.excIn K a_Full [.type "ValueError", .type "Exception", .type "BaseException", .type "object"] "ValueError.__new__" = true
  kp_Full : PySem.W.keepIn K (.ref a_Full) = true
  g_NoChain : mg "NoChain" = some (.ref a_NoChain)
  q_NoChain : PySem.W.excIn K a_NoChain [.type "ValueError", .type "Exception", .type "BaseException", .type "object"] "ValueError.__new__" = true
  kp_NoChain : PySem.W.keepIn K (.ref a_NoChain) = true
  g_NoName : mg "NoName" = some (.ref a_NoName)
  q_NoName : PySem.W.excIn K a_NoName [.type "ValueError", .type "Exception", .type "BaseException", .type "object"] "ValueError.__new__" = true
  kp_NoName : PySem.W.keepIn K (.ref a_NoName) = true
  g_NoNumber : mg "NoNumber" = some (.ref a_NoNumber)
  q_NoNumber : PySem.W.excIn K a_NoNumber [.type "ValueError", .type "Exception", .type "BaseException", .type "object"] "ValueError.__new__" = true
  kp_NoNumber : PySem.W.keepIn K (.ref a_NoNumber) = true
  g_NoPaper : mg "NoPaper" = some (.ref a_NoPaper)
  q_NoPaper : PySem.W.excIn K a_NoPaper [.type "ValueError", .type "Exception", .type "BaseException", .type "object"] "ValueError.__new__" = true
  kp_NoPaper : PySem.W.keepIn K (.ref a_NoPaper) = true
  g_NoPile : mg "NoPile" = some (.ref a_NoPile)
  q_NoPile : PySem.W.excIn K a_NoPile [.type "ValueError", .type "Exception", .type "BaseException", .type "object"] "ValueError.__new__" = true
  kp_NoPile : PySem.W.keepIn K (.ref a_NoPile) = true
  g_NoPlan : mg "NoPlan" = some (.ref a_NoPlan)
  q_NoPlan : PySem.W.excIn K a_NoPlan [.type "ValueError", .type "Exception", .type "BaseException", .type "object"] "ValueError.__new__" = true
  kp_NoPlan : PySem.W.keepIn K (.ref a_NoPlan) = true
  g_NoRow : mg "NoRow" = some (.ref a_NoRow)
  q_NoRow : PySem.W.excIn K a_NoRow [.type "ValueError", .type "Exception", .type "BaseException", .type "object"] "ValueError.__new__" = true
  kp_NoRow : PySem.W.keepIn K (.ref a_NoRow) = true
  g_NoRule : mg "NoRule" = some (.ref a_NoRule)
  q_NoRule : PySem.W.excIn K a_NoRule [.type "ValueError", .type "Exception", .type "BaseException", .type "object"] "ValueError.__new__" = true
  kp_NoRule : PySem.W.keepIn K (.ref a_NoRule) = true
  g_NoStamp : mg "NoStamp" = some (.ref a_NoStamp)
  q_NoStamp : PySem.W.excIn K a_NoStamp [.type "ValueError", .type "Exception", .type "BaseException", .type "object"] "ValueError.__new__" = true
  kp_NoStamp : PySem.W.keepIn K (.ref a_NoStamp) = true
  g_NoStep : mg "NoStep" = some (.ref a_NoStep)
  q_NoStep : PySem.W.excIn K a_NoStep [.type "ValueError", .type "Exception", .type "BaseException", .type "object"] "ValueError.__new__" = true
  kp_NoStep : PySem.W.keepIn K (.ref a_NoStep) = true
  g_NoSteps : mg "NoSteps" = some (.ref a_NoSteps)
  q_NoSteps : PySem.W.excIn K a_NoSteps [.type "ValueError", .type "Exception", .type "BaseException", .type "object"] "ValueError.__new__" = true
  kp_NoSteps : PySem.W.keepIn K (.ref a_NoSteps) = true
  g_NoText : mg "NoText" = some (.ref a_NoText)
  o_NoText : oexB K a_NoText = true
  i_NoText : PySem.W.findIn K (.ref a_NoText) "__init__" = some (some (.ref f_NoText___init__))
  t_NoText : PySem.W.typeIn K (.ref f_NoText___init__) = some (.type "function")
  n_NoText : PySem.W.findIn K (.ref a_NoText) "at" = some none
  bp_NoText : ∀ (s : Shared) (self u : Value), K.In s.heap → BindsTo s d_NoText___init__ ⟨[self, u], []⟩ ((["self", "at"] : List Str).zip [self, u])
  bk_NoText : ∀ (s : Shared) (self u : Value), K.In s.heap → BindsTo s d_NoText___init__ ⟨[self], [("at", u)]⟩ ((["self", "at"] : List Str).zip [self, u])
  g_NoTold : mg "NoTold" = some (.ref a_NoTold)
  q_NoTold : PySem.W.excIn K a_NoTold [.type "ValueError", .type "Exception", .type "BaseException", .type "object"] "ValueError.__new__" = true
  kp_NoTold : PySem.W.keepIn K (.ref a_NoTold) = true
  g_Nothing : mg "Nothing" = some (.ref a_Nothing)
  q_Nothing : PySem.W.excIn K a_Nothing [.type "ValueError", .type "Exception", .type "BaseException", .type "object"] "ValueError.__new__" = true
  kp_Nothing : PySem.W.keepIn K (.ref a_Nothing) = true
  g_Ring : mg "Ring" = some (.ref a_Ring)
  o_Ring : oexB K a_Ring = true
  i_Ring : PySem.W.findIn K (.ref a_Ring) "__init__" = some (some (.ref f_Ring___init__))
  t_Ring : PySem.W.typeIn K (.ref f_Ring___init__) = some (.type "function")
  n_Ring : PySem.W.findIn K (.ref a_Ring) "ring" = some none
  bp_Ring : ∀ (s : Shared) (self u : Value), K.In s.heap → BindsTo s d_Ring___init__ ⟨[self, u], []⟩ ((["self", "ring"] : List Str).zip [self, u])
  bk_Ring : ∀ (s : Shared) (self u : Value), K.In s.heap → BindsTo s d_Ring___init__ ⟨[self], [("ring", u)]⟩ ((["self", "ring"] : List Str).zip [self, u])
  g_StampError : mg "StampError" = some (.ref a_StampError)
  q_StampError : PySem.W.excIn K a_StampError [.type "ValueError", .type "Exception", .type "BaseException", .type "object"] "ValueError.__new__" = true
  kp_StampError : PySem.W.keepIn K (.ref a_StampError) = true
  g_Taken : mg "Taken" = some (.ref a_Taken)
  q_Taken : PySem.W.excIn K a_Taken [.type "ValueError", .type "Exception", .type "BaseException", .type "object"] "ValueError.__new__" = true
  kp_Taken : PySem.W.keepIn K (.ref a_Taken) = true
  g_TooFew : mg "TooFew" = some (.ref a_TooFew)
  o_TooFew : oexB K a_TooFew = true
  i_TooFew : PySem.W.findIn K (.ref a_TooFew) "__init__" = some (some (.ref f_TooFew___init__))
  t_TooFew : PySem.W.typeIn K (.ref f_TooFew___init__) = some (.type "function")
  n_TooFew : PySem.W.findIn K (.ref a_TooFew) "least" = some none
  bp_TooFew : ∀ (s : Shared) (self u : Value), K.In s.heap → BindsTo s d_TooFew___init__ ⟨[self, u], []⟩ ((["self", "least"] : List Str).zip [self, u])
  bk_TooFew : ∀ (s : Shared) (self u : Value), K.In s.heap → BindsTo s d_TooFew___init__ ⟨[self], [("least", u)]⟩ ((["self", "least"] : List Str).zip [self, u])
  g_TooMany : mg "TooMany" = some (.ref a_TooMany)
  o_TooMany : oexB K a_TooMany = true
  i_TooMany : PySem.W.findIn K (.ref a_TooMany) "__init__" = some (some (.ref f_TooMany___init__))
  t_TooMany : PySem.W.typeIn K (.ref f_TooMany___init__) = some (.type "function")
  n_TooMany : PySem.W.findIn K (.ref a_TooMany) "many" = some none
  bp_TooMany : ∀ (s : Shared) (self u : Value), K.In s.heap → BindsTo s d_TooMany___init__ ⟨[self, u], []⟩ ((["self", "many"] : List Str).zip [self, u])
  bk_TooMany : ∀ (s : Shared) (self u : Value), K.In s.heap → BindsTo s d_TooMany___init__ ⟨[self], [("many", u)]⟩ ((["self", "many"] : List Str).zip [self, u])
  ba_StampError : baseB K a_StampError = true
  bv_StampError : PySem.W.findCls K (.ref a_StampError) (.type "type") "__init__" = some (.val (.builtin "ValueError.__init__"))
  kit_Barred : kitTab K (.ref a_Barred) tb_Barred = true
  kit_Full : kitTab K (.ref a_Full) tb_Full = true
  kit_NoChain : kitTab K (.ref a_NoChain) tb_NoChain = true
  kit_NoName : kitTab K (.ref a_NoName) tb_NoName = true
  kit_NoNumber : kitTab K (.ref a_NoNumber) tb_NoNumber = true
  kit_NoPaper : kitTab K (.ref a_NoPaper) tb_NoPaper = true
  kit_NoPile : kitTab K (.ref a_NoPile) tb_NoPile = true
  kit_NoPlan : kitTab K (.ref a_NoPlan) tb_NoPlan = true
  kit_NoRow : kitTab K (.ref a_NoRow) tb_NoRow = true
  kit_NoRule : kitTab K (.ref a_NoRule) tb_NoRule = true
  kit_NoStamp : kitTab K (.ref a_NoStamp) tb_NoStamp = true
  kit_NoStep : kitTab K (.ref a_NoStep) tb_NoStep = true
  kit_NoSteps : kitTab K (.ref a_NoSteps) tb_NoSteps = true
  kit_NoText : kitTab K (.ref a_NoText) tb_NoText = true
  kit_NoTold : kitTab K (.ref a_NoTold) tb_NoTold = true
  kit_Nothing : kitTab K (.ref a_Nothing) tb_Nothing = true
  kit_Ring : kitTab K (.ref a_Ring) tb_Ring = true
  kit_StampError : kitTab K (.ref a_StampError) tb_StampError = true
  kit_Taken : kitTab K (.ref a_Taken) tb_Taken = true
  kit_TooFew : kitTab K (.ref a_TooFew) tb_TooFew = true
  kit_TooMany : kitTab K (.ref a_TooMany) tb_TooMany = true
  kit_ValueError : kitTab K (.type "ValueError") tb_ValueError = true
  x_at : xfTab K "at" xt_at = true
  x_by : xfTab K "by" xt_by = true
  x_least : xfTab K "least" xt_least = true
  x_many : xfTab K "many" xt_many = true
  x_ring : xfTab K "ring" xt_ring = true
section
variable {P : Program} {w : World} {K : PySem.W.Frag} {mg : Str → Option Value} {base : Heap}
theorem ok_Ring___init__ (T : Txt K mg) : FnOk P w K mg base CX0 1 T.f_Ring___init__ T.d_Ring___init__ p_Ring___init__ (spX K "ring") := T.F_Ring___init__.ok sc_Ring___init__ (fun vs H Q E h => by obtain ⟨_, _, _, rfl, _⟩ := h; rfl) (fun cdv A outer s H vs Q E hr h => by
  obtain ⟨h1, h2⟩ := Bool.and_eq_true_iff.mp T.ba_StampError
  obtain ⟨h2, h3⟩ := Bool.and_eq_true_iff.mp h2
  refine ⟨_, pss_cons (ps_expr (pe_oinit (by rfl) T.g_StampError (of_decide_eq_true h1) (of_decide_eq_true h2) h3 T.bv_StampError (pa_cons (pv 0) (pa_cons pe_str pa_nil)))) (pss_one (ps_ost (f := "ring") (pv 0) (pv 1))), ?_⟩
  obtain ⟨a, C, y, rfl, TC, hno, ha, k⟩ := h
  exact ⟨_, rfl, a, C, [_], rfl, (by decide), TC, ha, _, rfl, _, rfl, a, C, rfl, TC, hno, .inl ⟨ha, fun dx h1 h2 => k dx h1 h2⟩⟩)
theorem ok_TooFew___init__ (T : Txt K mg) : FnOk P w K mg base CX0 1 T.f_TooFew___init__ T.d_TooFew___init__ p_TooFew___init__ (spX K "least") := T.F_TooFew___init__.ok sc_TooFew___init__ (fun vs H Q E h => by obtain ⟨_, _, _, rfl, _⟩ := h; rfl) (fun cdv A outer s H vs Q E hr h => by
  obtain ⟨h1, h2⟩ := Bool.and_eq_true_iff.mp T.ba_StampError
  obtain ⟨h2, h3⟩ := Bool.and_eq_true_iff.mp h2
  refine ⟨_, pss_cons (ps_expr (pe_oinit (by rfl) T.g_StampError (of_decide_eq_true h1) (of_decide_eq_true h2) h3 T.bv_StampError (pa_cons (pv 0) (pa_cons pe_str pa_nil)))) (pss_one (ps_ost (f := "least") (pv 0) (pv 1))), ?_⟩
  obtain ⟨a, C, y, rfl, TC, hno, ha, k⟩ := h
  exact ⟨_, rfl, a, C, [_], rfl, (by decide), TC, ha, _, rfl, _, rfl, a, C, rfl, TC, hno, .inl ⟨ha, fun dx h1 h2 => k dx h1 h2⟩⟩)
theorem ok_Barred___init__ (T : Txt K mg) : FnOk P w K mg base CX0 1 T.f_Barred___init__ T.d_Barred___init__ p_Barred___init__ (spX K "by") := T.F_Barred___init__.ok sc_Barred___init__ (fun vs H Q E h => by obtain ⟨_, _, _, rfl, _⟩ := h; rfl) (fun cdv A outer s H vs Q E hr h => by
  obtain ⟨h1, h2⟩ := Bool.and_eq_true_iff.mp T.ba_StampError
  obtain ⟨h2, h3⟩ := Bool.and_eq_true_iff.mp h2
  refine ⟨_, pss_cons (ps_expr (pe_oinit (by rfl) T.g_StampError (of_decide_eq_true h1) (of_decide_eq_true h2) h3 T.bv_StampError (pa_cons (pv 0) (pa_cons pe_str pa_nil)))) (pss_one (ps_ost (f := "by") (pv 0) (pv 1))), ?_⟩
  obtain ⟨a, C, y, rfl, TC, hno, ha, k⟩ := h
  exact ⟨_, rfl, a, C, [_], rfl, (by decide), TC, ha, _, rfl, _, rfl, a, C, rfl, TC, hno, .inl ⟨ha, fun dx h1 h2 => k dx h1 h2⟩⟩)
theorem ok_TooMany___init__ (T : Txt K mg) : FnOk P w K mg base CX0 1 T.f_TooMany___init__ T.d_TooMany___init__ p_TooMany___init__ (spX K "many") := T.F_TooMany___init__.ok sc_TooMany___init__ (fun vs H Q E h => by obtain ⟨_, _, _, rfl, _⟩ := h; rfl) (fun cdv A outer s H vs Q E hr h => by
  obtain ⟨h1, h2⟩ := Bool.and_eq_true_iff.mp T.ba_StampError
  obtain ⟨h2, h3⟩ := Bool.and_eq_true_iff.mp h2
  refine ⟨_, pss_cons (ps_expr (pe_oinit (by rfl) T.g_StampError (of_decide_eq_true h1) (of_decide_eq_true h2) h3 T.bv_StampError (pa_cons (pv 0) (pa_cons pe_str pa_nil)))) (pss_one (ps_ost (f := "many") (pv 0) (pv 1))), ?_⟩
  obtain ⟨a, C, y, rfl, TC, hno, ha, k⟩ := h
  exact ⟨_, rfl, a, C, [_], rfl, (by decide), TC, ha, _, rfl, _, rfl, a, C, rfl, TC, hno, .inl ⟨ha, fun dx h1 h2 => k dx h1 h2⟩⟩)
theorem ok_NoText___init__ (T : Txt K mg) : FnOk P w K mg base CX0 1 T.f_NoText___init__ T.d_NoText___init__ p_NoText___init__ (spX K "at") := T.F_NoText___init__.ok sc_NoText___init__ (fun vs H Q E h => by obtain ⟨_, _, _, rfl, _⟩ := h; rfl) (fun cdv A outer s H vs Q E hr h => by
  obtain ⟨h1, h2⟩ := Bool.and_eq_true_iff.mp T.ba_StampError
  obtain ⟨h2, h3⟩ := Bool.and_eq_true_iff.mp h2
  refine ⟨_, pss_cons (ps_expr (pe_oinit (by rfl) T.g_StampError (of_decide_eq_true h1) (of_decide_eq_true h2) h3 T.bv_StampError (pa_cons (pv 0) (pa_cons pe_str pa_nil)))) (pss_one (ps_ost (f := "at") (pv 0) (pv 1))), ?_⟩
  obtain ⟨a, C, y, rfl, TC, hno, ha, k⟩ := h
  exact ⟨_, rfl, a, C, [_], rfl, (by decide), TC, ha, _, rfl, _, rfl, a, C, rfl, TC, hno, .inl ⟨ha, fun dx h1 h2 => k dx h1 h2⟩⟩)
theorem ok__law_bag (T : Txt K mg) : FnOk P w K mg base CX0 1 T.f__law_bag T.d__law_bag p__law_bag (SpOf K m__law_bag) := fn_ok T.F__law_bag sc__law_bag rfl (by decide) fun cdv A outer s H E hr =>
  (sb_cons (ss_if (st_cmp (op_ltX (hu0 hr)) ans_ltG (se_var (pv 0)) se_int) (sb_one (ss_ret (se_lst (sl_cons (se_neg (se_var (pv 0))) (sl_cons (se_op op_addX ans_addG (se_op op_mulY ans_mulY se_int (se_var (pv 1))) se_int) sl_nil))))) sb_nil)
    (sb_one (ss_ret (se_lst (sl_cons (se_var (pv 0)) (sl_cons (se_op op_mulY ans_mulY se_int (se_var (pv 1))) sl_nil))))))
theorem ok__law_draw (T : Txt K mg) : FnOk P w K mg base CX0 1 T.f__law_draw T.d__law_draw p__law_draw (SpOf K m__law_draw) := fn_ok T.F__law_draw sc__law_draw rfl (by decide) fun cdv A outer s H E hr =>
  (sb_cons (ss_augI ip_add ans_ip (sp_var (pv 0)) se_int se_int)
    (sb_cons (ss_if (st_cmp op_ge ans_geI (se_sub (se_var (pv 0)) se_int) (se_op op_pow ans_powI se_int se_int)) (sb_cons (ss_asg (i := 2) (se_op op_modN ans_modI (se_sub (se_var (pv 0)) se_int) (se_var (pv 1))) sc__law_draw.nd rfl (by first | exact Or.inl rfl | exact Or.inr rfl))
    (sb_cons (ss_setI (se_op op_fdivN ans_divI (se_sub (se_var (pv 0)) se_int) (se_var (pv 1))) (sp_var (pv 0)) se_int)
    (sb_one (ss_ret (se_var (pv 2)))))) sb_nil)
    (sb_cons (ss_asg (i := 3) (se_op op_modN ans_modI (se_op op_addX ans_addG (se_op op_addX ans_addG (se_op op_modN ans_modI (se_sub (se_var (pv 0)) se_int) se_int) (se_op op_mulY ans_mulY se_int (se_sub (se_var (pv 0)) se_int))) se_int) se_int) sc__law_draw.nd rfl (by first | exact Or.inl rfl | exact Or.inr rfl))
    (sb_cons (ss_asg (i := 3) (se_op op_modN ans_modI (se_op op_mulY ans_mulY (se_var (pv 3)) (se_var (pv 3))) se_int) sc__law_draw.nd rfl (by first | exact Or.inl rfl | exact Or.inr rfl))
    (sb_cons (ss_asg (i := 3) (se_op op_modN ans_modI (se_op op_addX ans_addG (se_var (pv 3)) (se_op op_mulY ans_mulY se_int (se_sub (se_var (pv 0)) se_int))) se_int) sc__law_draw.nd rfl (by first | exact Or.inl rfl | exact Or.inr rfl))
    (sb_cons (ss_asg (i := 3) (se_op op_modN ans_modI (se_op op_mulY ans_mulY (se_var (pv 3)) (se_var (pv 3))) se_int) sc__law_draw.nd rfl (by first | exact Or.inl rfl | exact Or.inr rfl))
    (sb_one (ss_ret (se_op op_modN ans_modI (se_op op_fdivN ans_divI (se_var (pv 3)) se_int) (se_var (pv 1)))))))))))
theorem ok__law_marks (T : Txt K mg) : FnOk P w K mg base CX0 1 T.f__law_marks T.d__law_marks p__law_marks (SpOf K m__law_marks) := fn_ok T.F__law_marks sc__law_marks rfl (by decide) fun cdv A outer s H E hr =>
  (sb_cons (ss_asg (i := 1) (se_lst (sl_cons (se_isX (kitTab_ok T.kit_Barred) (by rfl) T.z_isinstance (by rfl) T.g_Barred (se_var (pv 0))) (sl_cons (se_isX (kitTab_ok T.kit_Full) (by rfl) T.z_isinstance (by rfl) T.g_Full (se_var (pv 0))) (sl_cons (se_isX (kitTab_ok T.kit_NoChain) (by rfl) T.z_isinstance (by rfl) T.g_NoChain (se_var (pv 0))) (sl_cons (se_isX (kitTab_ok T.kit_NoName) (by rfl) T.z_isinstance (by rfl) T.g_NoName (se_var (pv 0))) sl_nil))))) sc__law_marks.nd rfl (by first | exact Or.inl rfl | exact Or.inr rfl))
    (sb_cons (ss_asg (i := 1) (se_op op_addX ans_addG (se_var (pv 1)) (se_lst (sl_cons (se_isX (kitTab_ok T.kit_NoNumber) (by rfl) T.z_isinstance (by rfl) T.g_NoNumber (se_var (pv 0))) (sl_cons (se_isX (kitTab_ok T.kit_NoPaper) (by rfl) T.z_isinstance (by rfl) T.g_NoPaper (se_var (pv 0))) (sl_cons (se_isX (kitTab_ok T.kit_NoPile) (by rfl) T.z_isinstance (by rfl) T.g_NoPile (se_var (pv 0))) (sl_cons (se_isX (kitTab_ok T.kit_NoPlan) (by rfl) T.z_isinstance (by rfl) T.g_NoPlan (se_var (pv 0))) sl_nil)))))) sc__law_marks.nd rfl (by first | exact Or.inl rfl | exact Or.inr rfl))
    (sb_cons (ss_asg (i := 1) (se_op op_addX ans_addG (se_var (pv 1)) (se_lst (sl_cons (se_isX (kitTab_ok T.kit_NoRow) (by rfl) T.z_isinstance (by rfl) T.g_NoRow (se_var (pv 0))) (sl_cons (se_isX (kitTab_ok T.kit_NoRule) (by rfl) T.z_isinstance (by rfl) T.g_NoRule (se_var (pv 0))) (sl_cons (se_isX (kitTab_ok T.kit_NoStamp) (by rfl) T.z_isinstance (by rfl) T.g_NoStamp (se_var (pv 0))) (sl_cons (se_isX (kitTab_ok T.kit_NoStep) (by rfl) T.z_isinstance (by rfl) T.g_NoStep (se_var (pv 0))) sl_nil)))))) sc__law_marks.nd rfl (by first | exact Or.inl rfl | exact Or.inr rfl))
    (sb_cons (ss_asg (i := 1) (se_op op_addX ans_addG (se_var (pv 1)) (se_lst (sl_cons (se_isX (kitTab_ok T.kit_NoSteps) (by rfl) T.z_isinstance (by rfl) T.g_NoSteps (se_var (pv 0))) (sl_cons (se_isX (kitTab_ok T.kit_NoText) (by rfl) T.z_isinstance (by rfl) T.g_NoText (se_var (pv 0))) (sl_cons (se_isX (kitTab_ok T.kit_Nothing) (by rfl) T.z_isinstance (by rfl) T.g_Nothing (se_var (pv 0))) (sl_cons (se_isX (kitTab_ok T.kit_NoTold) (by rfl) T.z_isinstance (by rfl) T.g_NoTold (se_var (pv 0))) sl_nil)))))) sc__law_marks.nd rfl (by first | exact Or.inl rfl | exact Or.inr rfl))
    (sb_one (ss_ret (se_op op_addX ans_addG (se_var (pv 1)) (se_lst (sl_cons (se_isX (kitTab_ok T.kit_Ring) (by rfl) T.z_isinstance (by rfl) T.g_Ring (se_var (pv 0))) (sl_cons (se_isX (kitTab_ok T.kit_Taken) (by rfl) T.z_isinstance (by rfl) T.g_Taken (se_var (pv 0))) (sl_cons (se_isX (kitTab_ok T.kit_TooFew) (by rfl) T.z_isinstance (by rfl) T.g_TooFew (se_var (pv 0))) (sl_cons (se_isX (kitTab_ok T.kit_TooMany) (by rfl) T.z_isinstance (by rfl) T.g_TooMany (se_var (pv 0))) sl_nil))))))))))))
theorem ok__law_right (T : Txt K mg) : FnOk P w K mg base CX0 3 T.f__law_right T.d__law_right p__law_right (SpOf K m__law_right) := fn_ok T.F__law_right sc__law_right rfl (by decide) fun cdv A outer s H E hr =>
  (sb_cons (ss_asg (i := 2) (se_lst (sl_cons (se_exv (f := "by") (oexB_ok T.o_Barred) T.n_Barred T.i_Barred T.t_Barred (ok_Barred___init__ T) (hr.mono (by decide)) T.bp_Barred (by rfl) T.g_Barred (se_var (pv 1))) (sl_cons (se_exc1 T.q_Full T.g_Full T.kp_Full (by rfl) (se_var (pv 0))) (sl_cons (se_exc1 T.q_NoChain T.g_NoChain T.kp_NoChain (by rfl) (se_var (pv 0))) (sl_cons (se_exc1 T.q_NoName T.g_NoName T.kp_NoName (by rfl) (se_var (pv 0))) (sl_cons (se_exc1 T.q_NoNumber T.g_NoNumber T.kp_NoNumber (by rfl) (se_var (pv 0))) (sl_cons (se_exc1 T.q_NoPaper T.g_NoPaper T.kp_NoPaper (by rfl) (se_var (pv 0))) (sl_cons (se_exc1 T.q_NoPile T.g_NoPile T.kp_NoPile (by rfl) (se_var (pv 0))) sl_nil)))))))) sc__law_right.nd rfl (by first | exact Or.inl rfl | exact Or.inr rfl))
    (sb_cons (ss_asg (i := 2) (se_op op_addX ans_addG (se_var (pv 2)) (se_lst (sl_cons (se_exc1 T.q_NoPlan T.g_NoPlan T.kp_NoPlan (by rfl) (se_var (pv 0))) (sl_cons (se_exc1 T.q_NoRow T.g_NoRow T.kp_NoRow (by rfl) (se_var (pv 0))) (sl_cons (se_exc1 T.q_NoRule T.g_NoRule T.kp_NoRule (by rfl) (se_var (pv 0))) (sl_cons (se_exc1 T.q_NoStamp T.g_NoStamp T.kp_NoStamp (by rfl) (se_var (pv 0))) (sl_cons (se_exc1 T.q_NoStep T.g_NoStep T.kp_NoStep (by rfl) (se_var (pv 0))) (sl_cons (se_exc1 T.q_NoSteps T.g_NoSteps T.kp_NoSteps (by rfl) (se_var (pv 0))) sl_nil)))))))) sc__law_right.nd rfl (by first | exact Or.inl rfl | exact Or.inr rfl))
    (sb_cons (ss_asg (i := 2) (se_op op_addX ans_addG (se_var (pv 2)) (se_lst (sl_cons (se_exv (f := "at") (oexB_ok T.o_NoText) T.n_NoText T.i_NoText T.t_NoText (ok_NoText___init__ T) (hr.mono (by decide)) T.bp_NoText (by rfl) T.g_NoText (se_var (pv 1))) (sl_cons (se_exc1 T.q_Nothing T.g_Nothing T.kp_Nothing (by rfl) (se_var (pv 0))) (sl_cons (se_exc1 T.q_NoTold T.g_NoTold T.kp_NoTold (by rfl) (se_var (pv 0))) (sl_cons (se_exv (f := "ring") (oexB_ok T.o_Ring) T.n_Ring T.i_Ring T.t_Ring (ok_Ring___init__ T) (hr.mono (by decide)) T.bp_Ring (by rfl) T.g_Ring (se_var (pv 1))) (sl_cons (se_exc1 T.q_Taken T.g_Taken T.kp_Taken (by rfl) (se_var (pv 0))) (sl_cons (se_exv (f := "least") (oexB_ok T.o_TooFew) T.n_TooFew T.i_TooFew T.t_TooFew (ok_TooFew___init__ T) (hr.mono (by decide)) T.bp_TooFew (by rfl) T.g_TooFew (se_var (pv 1))) sl_nil)))))))) sc__law_right.nd rfl (by first | exact Or.inl rfl | exact Or.inr rfl))
    (sb_cons (ss_asg (i := 2) (se_op op_addX ans_addG (se_var (pv 2)) (se_lst (sl_cons (se_exv (f := "many") (oexB_ok T.o_TooMany) T.n_TooMany T.i_TooMany T.t_TooMany (ok_TooMany___init__ T) (hr.mono (by decide)) T.bp_TooMany (by rfl) T.g_TooMany (se_var (pv 1))) sl_nil))) sc__law_right.nd rfl (by first | exact Or.inl rfl | exact Or.inr rfl))
    (sb_cons (ss_for (clr := [3]) PassesOwn.never rfl (si_range1 (by rfl) T.z_range (sl_cons se_int sl_nil) rfl (len_cons len_nil)) (sg_name (i := 3) sc__law_right.nd rfl (by first | exact Or.inl rfl | exact Or.inr rfl)) (sb_cons (ss_if (st_cmp (op_neX (hu64 hr)) ans_ne (se_call (ks := [false]) (M0 := []) (ok__law_marks T) (hr.mono (by decide)) (by rfl) T.m__law_marks T.k__law_marks T.b__law_marks (sa_val (se_sub (se_var (pv 2)) (se_var (pv 3))) sa_nil)) (se_lc (own := [("_law_j", 5)]) rfl sc__law_right.nd (si_range1 (by rfl) T.z_range (sl_cons se_int sl_nil) rfl (len_cons len_nil)) (blkOk_by (N := n__law_right) (sc := defScope s__law_right) (by decide +kernel)) (fun _ _ _ _ _ => (sg_name (i := 5) sc__law_right.nd rfl (by first | exact Or.inl rfl | exact Or.inr rfl))) (fun _ _ _ _ _ => sts_nil) (fun _ _ _ _ _ => (se_cmp (op_eqX (hu64 hr)) ans_eq (se_var (pv 5)) (se_var (pv 3)))))) (sb_one (ss_ret se_bl)) sb_nil)
    (sb_one (ss_if (SW.st (sw_or (st_not (st_val (se_isX (kitTab_ok T.kit_StampError) (by rfl) T.z_isinstance (by rfl) T.g_StampError (se_sub (se_var (pv 2)) (se_var (pv 3)))))) (sw_or1 (st_not (st_val (se_isXT (kitTab_ok T.kit_ValueError) (by rfl) T.z_isinstance (by rfl) T.z_ValueError PyProof.Rows.Boot.«ValueError» (se_sub (se_var (pv 2)) (se_var (pv 3))))))))) (sb_one (ss_ret se_bl)) sb_nil))))
    (sb_cons (ss_asg (i := 4) (se_lst (sl_cons (se_xfd (xfTab_ok T.x_by) (se_exv (f := "by") (oexB_ok T.o_Barred) T.n_Barred T.i_Barred T.t_Barred (ok_Barred___init__ T) (hr.mono (by decide)) T.bp_Barred (by rfl) T.g_Barred (se_var (pv 1)))) (sl_cons (se_xfd (xfTab_ok T.x_by) (se_exk (f := "by") (oexB_ok T.o_Barred) T.n_Barred T.i_Barred T.t_Barred (ok_Barred___init__ T) (hr.mono (by decide)) T.bk_Barred (by rfl) T.g_Barred (se_var (pv 1)))) (sl_cons (se_xfd (xfTab_ok T.x_ring) (se_exv (f := "ring") (oexB_ok T.o_Ring) T.n_Ring T.i_Ring T.t_Ring (ok_Ring___init__ T) (hr.mono (by decide)) T.bp_Ring (by rfl) T.g_Ring (se_var (pv 1)))) (sl_cons (se_xfd (xfTab_ok T.x_ring) (se_exk (f := "ring") (oexB_ok T.o_Ring) T.n_Ring T.i_Ring T.t_Ring (ok_Ring___init__ T) (hr.mono (by decide)) T.bk_Ring (by rfl) T.g_Ring (se_var (pv 1)))) (sl_cons (se_xfd (xfTab_ok T.x_least) (se_exv (f := "least") (oexB_ok T.o_TooFew) T.n_TooFew T.i_TooFew T.t_TooFew (ok_TooFew___init__ T) (hr.mono (by decide)) T.bp_TooFew (by rfl) T.g_TooFew (se_var (pv 1)))) sl_nil)))))) sc__law_right.nd rfl (by first | exact Or.inl rfl | exact Or.inr rfl))
    (sb_cons (ss_asg (i := 4) (se_op op_addX ans_addG (se_var (pv 4)) (se_lst (sl_cons (se_xfd (xfTab_ok T.x_least) (se_exk (f := "least") (oexB_ok T.o_TooFew) T.n_TooFew T.i_TooFew T.t_TooFew (ok_TooFew___init__ T) (hr.mono (by decide)) T.bk_TooFew (by rfl) T.g_TooFew (se_var (pv 1)))) (sl_cons (se_xfd (xfTab_ok T.x_many) (se_exk (f := "many") (oexB_ok T.o_TooMany) T.n_TooMany T.i_TooMany T.t_TooMany (ok_TooMany___init__ T) (hr.mono (by decide)) T.bk_TooMany (by rfl) T.g_TooMany (se_var (pv 1)))) (sl_cons (se_xfd (xfTab_ok T.x_many) (se_exv (f := "many") (oexB_ok T.o_TooMany) T.n_TooMany T.i_TooMany T.t_TooMany (ok_TooMany___init__ T) (hr.mono (by decide)) T.bp_TooMany (by rfl) T.g_TooMany (se_var (pv 1)))) sl_nil))))) sc__law_right.nd rfl (by first | exact Or.inl rfl | exact Or.inr rfl))
    (sb_cons (ss_asg (i := 4) (se_op op_addX ans_addG (se_var (pv 4)) (se_lst (sl_cons (se_xfd (xfTab_ok T.x_at) (se_exk (f := "at") (oexB_ok T.o_NoText) T.n_NoText T.i_NoText T.t_NoText (ok_NoText___init__ T) (hr.mono (by decide)) T.bk_NoText (by rfl) T.g_NoText (se_var (pv 1)))) (sl_cons (se_xfd (xfTab_ok T.x_at) (se_exv (f := "at") (oexB_ok T.o_NoText) T.n_NoText T.i_NoText T.t_NoText (ok_NoText___init__ T) (hr.mono (by decide)) T.bp_NoText (by rfl) T.g_NoText (se_var (pv 1)))) sl_nil)))) sc__law_right.nd rfl (by first | exact Or.inl rfl | exact Or.inr rfl))
    (sb_one (ss_ret (se_and (se_cmp (op_eqX (hu64 hr)) ans_eq (se_var (pv 4)) (se_op op_mulY ans_mulY (se_lst (sl_cons (se_var (pv 1)) sl_nil)) se_int)) (se_one (se_cmp (op_niX (hu65 hr)) ans_niG se_bl (se_call (ks := [false]) (M0 := []) (ok__law_marks T) (hr.mono (by decide)) (by rfl) T.m__law_marks T.k__law_marks T.b__law_marks (sa_val (se_exc1 T.q_StampError T.g_StampError T.kp_StampError (by rfl) (se_var (pv 0))) sa_nil)))))))))))))))
theorem ok_law (T : Txt K mg) : FnOk P w K mg base CX0 4 T.f_law T.d_law p_law (SpOf K m_law) := fn_ok T.F_law sc_law rfl (by decide) fun cdv A outer s H E hr =>
  (sb_cons (ss_asg (i := 1) (se_op op_addX ans_addG (se_slice (se_var (pv 0)) so_none (so_some se_int)) (se_op op_mulY ans_mulY (se_lst (sl_cons se_int sl_nil)) (se_callTy call_int1 ans_int (by rfl) T.z_int PyProof.Rows.boot_int (sl_cons (se_cmp (op_eqX (hu64 hr)) ans_eq (se_var (pv 0)) (se_lst sl_nil)) sl_nil)))) sc_law.nd rfl (by first | exact Or.inl rfl | exact Or.inr rfl))
    (sb_cons (ss_for (clr := [2, 3, 4]) PassesOwn.never rfl (si_range1 (by rfl) T.z_range (sl_cons (se_callB cr_lenX ans_len (by rfl) T.z_len PySem.boot_len (sl_cons (se_var (pv 1)) sl_nil)) sl_nil) rfl (len_cons len_nil)) (sg_name (i := 2) sc_law.nd rfl (by first | exact Or.inl rfl | exact Or.inr rfl)) (sb_cons (ss_asg (i := 3) (se_call (ks := [false, false]) (M0 := []) (ok__law_bag T) (hr.mono (by decide)) (by rfl) T.m__law_bag T.k__law_bag T.b__law_bag (sa_val (se_sub (se_var (pv 1)) (se_var (pv 2))) (sa_val (se_var (pv 2)) sa_nil))) sc_law.nd rfl (by first | exact Or.inl rfl | exact Or.inr rfl))
    (sb_cons (ss_asg (i := 4) (se_op op_mulY ans_mulY (se_sub se_str (se_call (ks := [true, false]) (M0 := [3]) (ok__law_draw T) (hr.mono (by decide)) (by rfl) T.m__law_draw T.k__law_draw T.b__law_draw (sa_slot (pv 3) (sa_val se_int sa_nil)))) (se_call (ks := [true, false]) (M0 := [3]) (ok__law_draw T) (hr.mono (by decide)) (by rfl) T.m__law_draw T.k__law_draw T.b__law_draw (sa_slot (pv 3) (sa_val se_int sa_nil)))) sc_law.nd rfl (by first | exact Or.inl rfl | exact Or.inr rfl))
    (sb_one (ss_if (st_not (st_val (se_call (ks := [false, false]) (M0 := []) (ok__law_right T) (hr.mono (by decide)) (by rfl) T.m__law_right T.k__law_right T.b__law_right (sa_val (se_var (pv 4)) (sa_val (se_call (ks := [true, false]) (M0 := [3]) (ok__law_draw T) (hr.mono (by decide)) (by rfl) T.m__law_draw T.k__law_draw T.b__law_draw (sa_slot (pv 3) (sa_val (se_op op_pow ans_powI se_int se_int) sa_nil))) sa_nil))))) (sb_one (ss_ret se_bl)) sb_nil)))))
    (sb_one (ss_ret se_bl))))
end
theorem all_mk {l : PySem.W.OpenLaw} {w : World} {K : PySem.W.Frag} {h : Heap} {mg : Str → Option Value} {fa : Addr} (X : K.In h) (G : h.Ns mainGlobals mg) (hfa : mg "law" = some (.ref fa))
    {f0 : Addr} {od0 an0 : Option Addr} {sl0 : Array (Option Value)} {oc0 kV0 dc0 pm0 cd0 ct0 : Value} {f1 : Addr} {od1 an1 : Option Addr} {sl1 : Array (Option Value)} {oc1 kV1 dc1 pm1 cd1 ct1 : Value} {f2 : Addr} {od2 an2 : Option Addr} {sl2 : Array (Option Value)} {oc2 kV2 dc2 pm2 cd2 ct2 : Value} {f3 : Addr} {od3 an3 : Option Addr} {sl3 : Array (Option Value)} {oc3 kV3 dc3 pm3 cd3 ct3 : Value} {f4 : Addr} {od4 an4 : Option Addr} {sl4 : Array (Option Value)} {oc4 kV4 dc4 pm4 cd4 ct4 : Value} {f5 : Addr} {od5 an5 : Option Addr} {sl5 : Array (Option Value)} {oc5 kV5 dc5 pm5 cd5 ct5 : Value} {f6 : Addr} {od6 an6 : Option Addr} {sl6 : Array (Option Value)} {oc6 kV6 dc6 pm6 cd6 ct6 : Value} {f7 : Addr} {od7 an7 : Option Addr} {sl7 : Array (Option Value)} {oc7 kV7 dc7 pm7 cd7 ct7 : Value} {f8 : Addr} {od8 an8 : Option Addr} {sl8 : Array (Option Value)} {oc8 kV8 dc8 pm8 cd8 ct8 : Value} {f9 : Addr} {od9 an9 : Option Addr} {sl9 : Array (Option Value)} {oc9 kV9 dc9 pm9 cd9 ct9 : Value}
    (a0 : PySem.W.findIn K (.ref 224) "__init__" = some (some (.ref f0)))
    (i0 : PySem.W.typeIn K (.ref f0) = some (.type "function"))
    (l0 : K.lookup f0 = some ⟨oc0, od0, .func (PySem.W.fnOf "__init__" "Ring.__init__" (defArgs s_Ring___init__) (defBody s_Ring___init__) (defScope s_Ring___init__) .none kV0 dc0 pm0 an0 cd0 ct0), sl0⟩)
    (c0 : PySem.W.codeIn K cd0 "Ring.__init__" = true)
    (k0 : PySem.W.keepIn K (.ref f0) = true)
    (a1 : PySem.W.findIn K (.ref 243) "__init__" = some (some (.ref f1)))
    (i1 : PySem.W.typeIn K (.ref f1) = some (.type "function"))
    (l1 : K.lookup f1 = some ⟨oc1, od1, .func (PySem.W.fnOf "__init__" "TooFew.__init__" (defArgs s_TooFew___init__) (defBody s_TooFew___init__) (defScope s_TooFew___init__) .none kV1 dc1 pm1 an1 cd1 ct1), sl1⟩)
    (c1 : PySem.W.codeIn K cd1 "TooFew.__init__" = true)
    (k1 : PySem.W.keepIn K (.ref f1) = true)
    (a2 : PySem.W.findIn K (.ref 262) "__init__" = some (some (.ref f2)))
    (i2 : PySem.W.typeIn K (.ref f2) = some (.type "function"))
    (l2 : K.lookup f2 = some ⟨oc2, od2, .func (PySem.W.fnOf "__init__" "Barred.__init__" (defArgs s_Barred___init__) (defBody s_Barred___init__) (defScope s_Barred___init__) .none kV2 dc2 pm2 an2 cd2 ct2), sl2⟩)
    (c2 : PySem.W.codeIn K cd2 "Barred.__init__" = true)
    (k2 : PySem.W.keepIn K (.ref f2) = true)
    (a3 : PySem.W.findIn K (.ref 281) "__init__" = some (some (.ref f3)))
    (i3 : PySem.W.typeIn K (.ref f3) = some (.type "function"))
    (l3 : K.lookup f3 = some ⟨oc3, od3, .func (PySem.W.fnOf "__init__" "TooMany.__init__" (defArgs s_TooMany___init__) (defBody s_TooMany___init__) (defScope s_TooMany___init__) .none kV3 dc3 pm3 an3 cd3 ct3), sl3⟩)
    (c3 : PySem.W.codeIn K cd3 "TooMany.__init__" = true)
    (k3 : PySem.W.keepIn K (.ref f3) = true)
    (a4 : PySem.W.findIn K (.ref 300) "__init__" = some (some (.ref f4)))
    (i4 : PySem.W.typeIn K (.ref f4) = some (.type "function"))
    (l4 : K.lookup f4 = some ⟨oc4, od4, .func (PySem.W.fnOf "__init__" "NoText.__init__" (defArgs s_NoText___init__) (defBody s_NoText___init__) (defScope s_NoText___init__) .none kV4 dc4 pm4 an4 cd4 ct4), sl4⟩)
    (c4 : PySem.W.codeIn K cd4 "NoText.__init__" = true)
    (k4 : PySem.W.keepIn K (.ref f4) = true)
    (a5 : PySem.W.nsIn K mainGlobals "_law_bag" = some (some (.ref f5)))
    (l5 : K.lookup f5 = some ⟨oc5, od5, .func (PySem.W.fnOf "_law_bag" "_law_bag" (defArgs s__law_bag) (defBody s__law_bag) (defScope s__law_bag) .none kV5 dc5 pm5 an5 cd5 ct5), sl5⟩)
    (c5 : PySem.W.codeIn K cd5 "_law_bag" = true)
    (k5 : PySem.W.keepIn K (.ref f5) = true)
    (a6 : PySem.W.nsIn K mainGlobals "_law_draw" = some (some (.ref f6)))
    (l6 : K.lookup f6 = some ⟨oc6, od6, .func (PySem.W.fnOf "_law_draw" "_law_draw" (defArgs s__law_draw) (defBody s__law_draw) (defScope s__law_draw) .none kV6 dc6 pm6 an6 cd6 ct6), sl6⟩)
    (c6 : PySem.W.codeIn K cd6 "_law_draw" = true)
    (k6 : PySem.W.keepIn K (.ref f6) = true)
    (a7 : PySem.W.nsIn K mainGlobals "_law_marks" = some (some (.ref f7)))
    (l7 : K.lookup f7 = some ⟨oc7, od7, .func (PySem.W.fnOf "_law_marks" "_law_marks" (defArgs s__law_marks) (defBody s__law_marks) (defScope s__law_marks) .none kV7 dc7 pm7 an7 cd7 ct7), sl7⟩)
    (c7 : PySem.W.codeIn K cd7 "_law_marks" = true)
    (k7 : PySem.W.keepIn K (.ref f7) = true)
    (a8 : PySem.W.nsIn K mainGlobals "_law_right" = some (some (.ref f8)))
    (l8 : K.lookup f8 = some ⟨oc8, od8, .func (PySem.W.fnOf "_law_right" "_law_right" (defArgs s__law_right) (defBody s__law_right) (defScope s__law_right) .none kV8 dc8 pm8 an8 cd8 ct8), sl8⟩)
    (c8 : PySem.W.codeIn K cd8 "_law_right" = true)
    (k8 : PySem.W.keepIn K (.ref f8) = true)
    (a9 : PySem.W.nsIn K mainGlobals "law" = some (some (.ref f9)))
    (l9 : K.lookup f9 = some ⟨oc9, od9, .func (PySem.W.fnOf "law" "law" (defArgs s_law) (defBody s_law) (defScope s_law) .none kV9 dc9 pm9 an9 cd9 ct9), sl9⟩)
    (c9 : PySem.W.codeIn K cd9 "law" = true)
    (k9 : PySem.W.keepIn K (.ref f9) = true)
    (z_ValueError : PySem.W.nsIn K mainGlobals "ValueError" = some none)
    (z_int : PySem.W.nsIn K mainGlobals "int" = some none)
    (z_isinstance : PySem.W.nsIn K mainGlobals "isinstance" = some none)
    (z_len : PySem.W.nsIn K mainGlobals "len" = some none)
    (z_range : PySem.W.nsIn K mainGlobals "range" = some none)
    (g_Barred : PySem.W.nsIn K mainGlobals "Barred" = some (some (.ref a_Barred)))
    (o_Barred : oexB K a_Barred = true)
    (n_Barred : PySem.W.findIn K (.ref a_Barred) "by" = some none)
    (g_Full : PySem.W.nsIn K mainGlobals "Full" = some (some (.ref a_Full)))
    (q_Full : PySem.W.excIn K a_Full [.type "ValueError", .type "Exception", .type "BaseException", .type "object"] "ValueError.__new__" = true)
    (kp_Full : PySem.W.keepIn K (.ref a_Full) = true)
    (g_NoChain : PySem.W.nsIn K mainGlobals "NoChain" = some (some (.ref a_NoChain)))
    (q_NoChain : PySem.W.excIn K a_NoChain [.type "ValueError", .type "Exception", .type "BaseException", .type "object"] "ValueError.__new__" = true)
    (kp_NoChain : PySem.W.keepIn K (.ref a_NoChain) = true)
    (g_NoName : PySem.W.nsIn K mainGlobals "NoName" = some (some (.ref a_NoName)))
    (q_NoName : PySem.W.excIn K a_NoName [.type "ValueError", .type "Exception", .type "BaseException", .type "object"] "ValueError.__new__" = true)
    (kp_NoName : PySem.W.keepIn K (.ref a_NoName) = true)
    (g_NoNumber : PySem.W.nsIn K mainGlobals "NoNumber" = some (some (.ref a_NoNumber)))
    (q_NoNumber : PySem.W.excIn K a_NoNumber [.type "ValueError", .type "Exception", .type "BaseException", .type "object"] "ValueError.__new__" = true)
    (kp_NoNumber : PySem.W.keepIn K (.ref a_NoNumber) = true)
    (g_NoPaper : PySem.W.nsIn K mainGlobals "NoPaper" = some (some (.ref a_NoPaper)))
    (q_NoPaper : PySem.W.excIn K a_NoPaper [.type "ValueError", .type "Exception", .type "BaseException", .type "object"] "ValueError.__new__" = true)
    (kp_NoPaper : PySem.W.keepIn K (.ref a_NoPaper) = true)
    (g_NoPile : PySem.W.nsIn K mainGlobals "NoPile" = some (some (.ref a_NoPile)))
    (q_NoPile : PySem.W.excIn K a_NoPile [.type "ValueError", .type "Exception", .type "BaseException", .type "object"] "ValueError.__new__" = true)
    (kp_NoPile : PySem.W.keepIn K (.ref a_NoPile) = true)
    (g_NoPlan : PySem.W.nsIn K mainGlobals "NoPlan" = some (some (.ref a_NoPlan)))
    (q_NoPlan : PySem.W.excIn K a_NoPlan [.type "ValueError", .type "Exception", .type "BaseException", .type "object"] "ValueError.__new__" = true)
    (kp_NoPlan : PySem.W.keepIn K (.ref a_NoPlan) = true)
    (g_NoRow : PySem.W.nsIn K mainGlobals "NoRow" = some (some (.ref a_NoRow)))
    (q_NoRow : PySem.W.excIn K a_NoRow [.type "ValueError", .type "Exception", .type "BaseException", .type "object"] "ValueError.__new__" = true)
    (kp_NoRow : PySem.W.keepIn K (.ref a_NoRow) = true)
    (g_NoRule : PySem.W.nsIn K mainGlobals "NoRule" = some (some (.ref a_NoRule)))
    (q_NoRule : PySem.W.excIn K a_NoRule [.type "ValueError", .type "Exception", .type "BaseException", .type "object"] "ValueError.__new__" = true)
    (kp_NoRule : PySem.W.keepIn K (.ref a_NoRule) = true)
    (g_NoStamp : PySem.W.nsIn K mainGlobals "NoStamp" = some (some (.ref a_NoStamp)))
    (q_NoStamp : PySem.W.excIn K a_NoStamp [.type "ValueError", .type "Exception", .type "BaseException", .type "object"] "ValueError.__new__" = true)
    (kp_NoStamp : PySem.W.keepIn K (.ref a_NoStamp) = true)
    (g_NoStep : PySem.W.nsIn K mainGlobals "NoStep" = some (some (.ref a_NoStep)))
    (q_NoStep : PySem.W.excIn K a_NoStep [.type "ValueError", .type "Exception", .type "BaseException", .type "object"] "ValueError.__new__" = true)
    (kp_NoStep : PySem.W.keepIn K (.ref a_NoStep) = true)
    (g_NoSteps : PySem.W.nsIn K mainGlobals "NoSteps" = some (some (.ref a_NoSteps)))
    (q_NoSteps : PySem.W.excIn K a_NoSteps [.type "ValueError", .type "Exception", .type "BaseException", .type "object"] "ValueError.__new__" = true)
    (kp_NoSteps : PySem.W.keepIn K (.ref a_NoSteps) = true)
    (g_NoText : PySem.W.nsIn K mainGlobals "NoText" = some (some (.ref a_NoText)))
    (o_NoText : oexB K a_NoText = true)
    (n_NoText : PySem.W.findIn K (.ref a_NoText) "at" = some none)
    (g_NoTold : PySem.W.nsIn K mainGlobals "NoTold" = some (some (.ref a_NoTold)))
    (q_NoTold : PySem.W.excIn K a_NoTold [.type "ValueError", .type "Exception", .type "BaseException", .type "object"] "ValueError.__new__" = true)
    (kp_NoTold : PySem.W.keepIn K (.ref a_NoTold) = true)
    (g_Nothing : PySem.W.nsIn K mainGlobals "Nothing" = some (some (.ref a_Nothing)))
    (q_Nothing : PySem.W.excIn K a_Nothing [.type "ValueError", .type "Exception", .type "BaseException", .type "object"] "ValueError.__new__" = true)
    (kp_Nothing : PySem.W.keepIn K (.ref a_Nothing) = true)
    (g_Ring : PySem.W.nsIn K mainGlobals "Ring" = some (some (.ref a_Ring)))
    (o_Ring : oexB K a_Ring = true)
    (n_Ring : PySem.W.findIn K (.ref a_Ring) "ring" = some none)
    (g_StampError : PySem.W.nsIn K mainGlobals "StampError" = some (some (.ref a_StampError)))
    (q_StampError : PySem.W.excIn K a_StampError [.type "ValueError", .type "Exception", .type "BaseException", .type "object"] "ValueError.__new__" = true)
    (kp_StampError : PySem.W.keepIn K (.ref a_StampError) = true)
    (g_Taken : PySem.W.nsIn K mainGlobals "Taken" = some (some (.ref a_Taken)))
    (q_Taken : PySem.W.excIn K a_Taken [.type "ValueError", .type "Exception", .type "BaseException", .type "object"] "ValueError.__new__" = true)
    (kp_Taken : PySem.W.keepIn K (.ref a_Taken) = true)
    (g_TooFew : PySem.W.nsIn K mainGlobals "TooFew" = some (some (.ref a_TooFew)))
    (o_TooFew : oexB K a_TooFew = true)
    (n_TooFew : PySem.W.findIn K (.ref a_TooFew) "least" = some none)
    (g_TooMany : PySem.W.nsIn K mainGlobals "TooMany" = some (some (.ref a_TooMany)))
    (o_TooMany : oexB K a_TooMany = true)
    (n_TooMany : PySem.W.findIn K (.ref a_TooMany) "many" = some none)
    (ba_StampError : baseB K a_StampError = true)
    (bv_StampError : PySem.W.findCls K (.ref a_StampError) (.type "type") "__init__" = some (.val (.builtin "ValueError.__init__")))
    (kit_Barred : kitTab K (.ref a_Barred) tb_Barred = true)
    (kit_Full : kitTab K (.ref a_Full) tb_Full = true)
    (kit_NoChain : kitTab K (.ref a_NoChain) tb_NoChain = true)
    (kit_NoName : kitTab K (.ref a_NoName) tb_NoName = true)
    (kit_NoNumber : kitTab K (.ref a_NoNumber) tb_NoNumber = true)
    (kit_NoPaper : kitTab K (.ref a_NoPaper) tb_NoPaper = true)
    (kit_NoPile : kitTab K (.ref a_NoPile) tb_NoPile = true)
    (kit_NoPlan : kitTab K (.ref a_NoPlan) tb_NoPlan = true)
    (kit_NoRow : kitTab K (.ref a_NoRow) tb_NoRow = true)
    (kit_NoRule : kitTab K (.ref a_NoRule) tb_NoRule = true)
    (kit_NoStamp : kitTab K (.ref a_NoStamp) tb_NoStamp = true)
    (kit_NoStep : kitTab K (.ref a_NoStep) tb_NoStep = true)
    (kit_NoSteps : kitTab K (.ref a_NoSteps) tb_NoSteps = true)
    (kit_NoText : kitTab K (.ref a_NoText) tb_NoText = true)
    (kit_NoTold : kitTab K (.ref a_NoTold) tb_NoTold = true)
    (kit_Nothing : kitTab K (.ref a_Nothing) tb_Nothing = true)
    (kit_Ring : kitTab K (.ref a_Ring) tb_Ring = true)
    (kit_StampError : kitTab K (.ref a_StampError) tb_StampError = true)
    (kit_Taken : kitTab K (.ref a_Taken) tb_Taken = true)
    (kit_TooFew : kitTab K (.ref a_TooFew) tb_TooFew = true)
    (kit_TooMany : kitTab K (.ref a_TooMany) tb_TooMany = true)
    (kit_ValueError : kitTab K (.type "ValueError") tb_ValueError = true)
    (x_at : xfTab K "at" xt_at = true)
    (x_by : xfTab K "by" xt_by = true)
    (x_least : xfTab K "least" xt_least = true)
    (x_many : xfTab K "many" xt_many = true)
    (x_ring : xfTab K "ring" xt_ring = true)
    : ∃ fd : FuncData, (∀ (s : Shared) (v : Value), BindsTo s fd ⟨[v], []⟩ [("_law_script", v)]) ∧ ∀ base : Heap, K.In base → base.Ns mainGlobals mg → FnOk l.prog w K mg base CX0 4 fa fd ["_law_script"] (SpOf K m_law) := by
  have e := hfa.symm.trans (PySem.W.mg_of X G a9)
  cases e
  let T : Txt K mg := {
    f_Ring___init__ := f0
    d_Ring___init__ := _
    F_Ring___init__ := fun_mk (st := s_Ring___init__) l0 c0 k0
    k_Ring___init__ := k0
    f_TooFew___init__ := f1
    d_TooFew___init__ := _
    F_TooFew___init__ := fun_mk (st := s_TooFew___init__) l1 c1 k1
    k_TooFew___init__ := k1
    f_Barred___init__ := f2
    d_Barred___init__ := _
    F_Barred___init__ := fun_mk (st := s_Barred___init__) l2 c2 k2
    k_Barred___init__ := k2
    f_TooMany___init__ := f3
    d_TooMany___init__ := _
    F_TooMany___init__ := fun_mk (st := s_TooMany___init__) l3 c3 k3
    k_TooMany___init__ := k3
    f_NoText___init__ := f4
    d_NoText___init__ := _
    F_NoText___init__ := fun_mk (st := s_NoText___init__) l4 c4 k4
    k_NoText___init__ := k4
    f__law_bag := f5
    d__law_bag := _
    F__law_bag := fun_mk (st := s__law_bag) l5 c5 k5
    m__law_bag := PySem.W.mg_of X G a5
    k__law_bag := k5
    b__law_bag := (fun_mk (st := s__law_bag) l5 c5 k5).binds (ps := p__law_bag) fun _ _ _ _ _ _ us hl => match us, hl with | [_, _], _ => rfl
    f__law_draw := f6
    d__law_draw := _
    F__law_draw := fun_mk (st := s__law_draw) l6 c6 k6
    m__law_draw := PySem.W.mg_of X G a6
    k__law_draw := k6
    b__law_draw := (fun_mk (st := s__law_draw) l6 c6 k6).binds (ps := p__law_draw) fun _ _ _ _ _ _ us hl => match us, hl with | [_, _], _ => rfl
    f__law_marks := f7
    d__law_marks := _
    F__law_marks := fun_mk (st := s__law_marks) l7 c7 k7
    m__law_marks := PySem.W.mg_of X G a7
    k__law_marks := k7
    b__law_marks := (fun_mk (st := s__law_marks) l7 c7 k7).binds (ps := p__law_marks) fun _ _ _ _ _ _ us hl => match us, hl with | [_], _ => rfl
    f__law_right := f8
    d__law_right := _
    F__law_right := fun_mk (st := s__law_right) l8 c8 k8
    m__law_right := PySem.W.mg_of X G a8
    k__law_right := k8
    b__law_right := (fun_mk (st := s__law_right) l8 c8 k8).binds (ps := p__law_right) fun _ _ _ _ _ _ us hl => match us, hl with | [_, _], _ => rfl
    f_law := fa
    d_law := _
    F_law := fun_mk (st := s_law) l9 c9 k9
    m_law := PySem.W.mg_of X G a9
    k_law := k9
    b_law := (fun_mk (st := s_law) l9 c9 k9).binds (ps := p_law) fun _ _ _ _ _ _ us hl => match us, hl with | [_], _ => rfl
    z_ValueError := PySem.W.mg_none_of X G z_ValueError
    z_int := PySem.W.mg_none_of X G z_int
    z_isinstance := PySem.W.mg_none_of X G z_isinstance
    z_len := PySem.W.mg_none_of X G z_len
    z_range := PySem.W.mg_none_of X G z_range
    g_Barred := PySem.W.mg_of X G g_Barred
    o_Barred := o_Barred
    i_Barred := a2
    t_Barred := i2
    n_Barred := n_Barred
    bp_Barred := fun s self u _ => .of_eq rfl
    bk_Barred := fun s self u _ => .of_eq rfl
    g_Full := PySem.W.mg_of X G g_Full
    q_Full := q_Full
    kp_Full := kp_Full
    g_NoChain := PySem.W.mg_of X G g_NoChain
    q_NoChain := q_NoChain
    kp_NoChain := kp_NoChain
    g_NoName := PySem.W.mg_of X G g_NoName
    q_NoName := q_NoName
    kp_NoName := kp_NoName
    g_NoNumber := PySem.W.mg_of X G g_NoNumber
    q_NoNumber := q_NoNumber
    kp_NoNumber := kp_NoNumber
    g_NoPaper := PySem.W.mg_of X G g_NoPaper
    q_NoPaper := q_NoPaper
    kp_NoPaper := kp_NoPaper
    g_NoPile := PySem.W.mg_of X G g_NoPile
    q_NoPile := q_NoPile
    kp_NoPile := kp_NoPile
    g_NoPlan := PySem.W.mg_of X G g_NoPlan
    q_NoPlan := q_NoPlan
    kp_NoPlan := kp_NoPlan
    g_NoRow := PySem.W.mg_of X G g_NoRow
    q_NoRow := q_NoRow
    kp_NoRow := kp_NoRow
    g_NoRule := PySem.W.mg_of X G g_NoRule
    q_NoRule := q_NoRule
    kp_NoRule := kp_NoRule
    g_NoStamp := PySem.W.mg_of X G g_NoStamp
    q_NoStamp := q_NoStamp
    kp_NoStamp := kp_NoStamp
    g_NoStep := PySem.W.mg_of X G g_NoStep
    q_NoStep := q_NoStep
    kp_NoStep := kp_NoStep
    g_NoSteps := PySem.W.mg_of X G g_NoSteps
    q_NoSteps := q_NoSteps
    kp_NoSteps := kp_NoSteps
    g_NoText := PySem.W.mg_of X G g_NoText
    o_NoText := o_NoText
    i_NoText := a4
    t_NoText := i4
    n_NoText := n_NoText
    bp_NoText := fun s self u _ => .of_eq rfl
    bk_NoText := fun s self u _ => .of_eq rfl
    g_NoTold := PySem.W.mg_of X G g_NoTold
    q_NoTold := q_NoTold
    kp_NoTold := kp_NoTold
    g_Nothing := PySem.W.mg_of X G g_Nothing
    q_Nothing := q_Nothing
    kp_Nothing := kp_Nothing
    g_Ring := PySem.W.mg_of X G g_Ring
    o_Ring := o_Ring
    i_Ring := a0
    t_Ring := i0
    n_Ring := n_Ring
    bp_Ring := fun s self u _ => .of_eq rfl
    bk_Ring := fun s self u _ => .of_eq rfl
    g_StampError := PySem.W.mg_of X G g_StampError
    q_StampError := q_StampError
    kp_StampError := kp_StampError
    g_Taken := PySem.W.mg_of X G g_Taken
    q_Taken := q_Taken
    kp_Taken := kp_Taken
    g_TooFew := PySem.W.mg_of X G g_TooFew
    o_TooFew := o_TooFew
    i_TooFew := a1
    t_TooFew := i1
    n_TooFew := n_TooFew
    bp_TooFew := fun s self u _ => .of_eq rfl
    bk_TooFew := fun s self u _ => .of_eq rfl
    g_TooMany := PySem.W.mg_of X G g_TooMany
    o_TooMany := o_TooMany
    i_TooMany := a3
    t_TooMany := i3
    n_TooMany := n_TooMany
    bp_TooMany := fun s self u _ => .of_eq rfl
    bk_TooMany := fun s self u _ => .of_eq rfl
    ba_StampError := ba_StampError
    bv_StampError := bv_StampError
    kit_Barred := kit_Barred
    kit_Full := kit_Full
    kit_NoChain := kit_NoChain
    kit_NoName := kit_NoName
    kit_NoNumber := kit_NoNumber
    kit_NoPaper := kit_NoPaper
    kit_NoPile := kit_NoPile
    kit_NoPlan := kit_NoPlan
    kit_NoRow := kit_NoRow
    kit_NoRule := kit_NoRule
    kit_NoStamp := kit_NoStamp
    kit_NoStep := kit_NoStep
    kit_NoSteps := kit_NoSteps
    kit_NoText := kit_NoText
    kit_NoTold := kit_NoTold
    kit_Nothing := kit_Nothing
    kit_Ring := kit_Ring
    kit_StampError := kit_StampError
    kit_Taken := kit_Taken
    kit_TooFew := kit_TooFew
    kit_TooMany := kit_TooMany
    kit_ValueError := kit_ValueError
    x_at := x_at
    x_by := x_by
    x_least := x_least
    x_many := x_many
    x_ring := x_ring
  }
  exact ⟨_, fun s v => .of_eq rfl, fun base _ _ => ok_law (P := l.prog) (w := w) (base := base) T⟩
end VS.k93
namespace VS.k93
open PySem L2 VS
theorem cmul_small {i j : Int} (h1 : i.natAbs < 2 ^ 64) (h2 : j.natAbs < 2 ^ 64) : CMulX i j := mulx_ok h1 h2 (by decide)
theorem draw_ok (a b n : Int) (hb : 0 ≤ b) (hb2 : b < 1000000) (hn : 0 < n) (hn2 : n < 1073741824) : ∃ v a', m__law_draw [some (.io, .lst [.int a, .int b]), some (.ro, .int n)] = some (false, .int v, [some (.io, .lst [.int a', .int (b + 1)]), some (.ro, .int n)]) ∧ 0 ≤ v ∧ v < n := by
  have c1 : CMulX 104729 (b + 1) := cmul_small (by decide) (by omega)
  have c2 : CMulX 40692 (b + 1) := cmul_small (by decide) (by omega)
  have n0 : n ≠ 0 := by omega
  have n1 : n.natAbs < 1073741824 := by omega
  by_cases hbig : (1000000000000000000 : Int) ≤ a
  · refine ⟨a.fmod n, a.fdiv n, ?_, Int.fmod_nonneg_of_pos _ hn, Int.fmod_lt_of_pos _ hn⟩
    unfold m__law_draw fnF e__law_draw
    simp [given?, seqF, augIF, varP, getS, getP, ixN, immut, gI, setS, setP, iffF, tst, op2F, subF, varF, getAt, cF, nw, lastOk, geI, powI, CPow, hbig, atI, asgF, putS, isIo, modI, divI, CDivN, n0, n1, setIF, giveS, drops, retF, finF, outE]
  · have f1 : ∀ x m : Int, 0 < m → m < 4294967296 → (x.fmod m).natAbs < 2 ^ 64 := fun x m h1 h2 => by
      have := Int.fmod_nonneg_of_pos x h1
      have := Int.fmod_lt_of_pos x h1
      omega
    have c3 : ∀ x m : Int, 0 < m → m < 4294967296 → CMulX (x.fmod m) (x.fmod m) := fun x m h1 h2 => cmul_small (f1 x m h1 h2) (f1 x m h1 h2)
    have c4 := c3 (a.fmod 2147483629 + 104729 * (b + 1) + 1) 2147483587 (by decide) (by decide)
    have c5 := fun x => c3 x 2147483563 (by decide) (by decide)
    refine ⟨((((((a.fmod 2147483629 + 104729 * (b + 1) + 1).fmod 2147483587 * (a.fmod 2147483629 + 104729 * (b + 1) + 1).fmod 2147483587).fmod 2147483587 + 40692 * (b + 1)).fmod 2147483563 * (((a.fmod 2147483629 + 104729 * (b + 1) + 1).fmod 2147483587 * (a.fmod 2147483629 + 104729 * (b + 1) + 1).fmod 2147483587).fmod 2147483587 + 40692 * (b + 1)).fmod 2147483563).fmod 2147483563).fdiv 8).fmod n, a, ?_, Int.fmod_nonneg_of_pos _ hn, Int.fmod_lt_of_pos _ hn⟩
    unfold m__law_draw fnF e__law_draw
    simp [given?, seqF, augIF, varP, getS, getP, ixN, immut, gI, setS, setP, iffF, tst, op2F, subF, varF, getAt, cF, nw, lastOk, geI, powI, CPow, hbig, atI, asgF, putS, isIo, modI, divI, CDivN, n0, n1, setIF, giveS, drops, retF, finF, outE, addG, addI, orElse, mulY, mulW, c1, c2, c4, c5, nxF]
end VS.k93
namespace VS.k93
open PySem L2 VS
theorem bag_ok (c : Int) (k : Nat) (hk : k < 13) : ∃ a b, m__law_bag [some (.ro, .int c), some (.ro, .int k)] = some (false, .lst [.int a, .int b], [some (.ro, .int c), some (.ro, .int k)]) ∧ 0 ≤ b ∧ b < 1000 := by
  have c1 : CMulX 37 k := cmul_small (by decide) (by omega)
  by_cases h : c < 0
  · refine ⟨-c, 37 * k + 18, ?_, by omega, by omega⟩
    unfold m__law_bag fnF e__law_bag
    simp [given?, seqF, iffF, tst, op2F, varF, cF, nw, lastOk, immut, ltG, orElse, ltI, gI, h, retF, lstF, consL, op1F, negG, addG, addI, mulY, mulW, c1, nilL, finF, outE, mkV, immuts, SZ]
  · refine ⟨c, 37 * k, ?_, by omega, by omega⟩
    unfold m__law_bag fnF e__law_bag
    simp [given?, seqF, iffF, tst, op2F, varF, cF, nw, lastOk, immut, ltG, orElse, ltI, gI, h, retF, lstF, consL, op1F, negG, addG, addI, mulY, mulW, c1, nilL, finF, outE, mkV, immuts, SZ, nxF]
def some20 (x : Str) (i : Int) : List D := [.exc 262 (some ("by", i)), .exc 193 none, .exc 61 none, .exc 169 none, .exc 73 none, .exc 49 none, .exc 37 none, .exc 85 none, .exc 133 none, .exc 145 none, .exc 157 none, .exc 109 none, .exc 121 none, .exc 300 (some ("at", i)), .exc 205 none, .exc 97 none, .exc 224 (some ("ring", i)), .exc 181 none, .exc 243 (some ("least", i)), .exc 281 (some ("many", i))]
def mks (k : Nat) : List D := (List.range 20).map fun j => .bl (decide (j = k))
theorem marks0 (x : Str) (i : Int) : m__law_marks [some (.ro, .exc 193 none)] = some (false, .lst (mks 1), [some (.ro, .exc 193 none)]) := by kernel_rfl
theorem marks1 (x : Str) (i : Int) : m__law_marks [some (.ro, .exc 262 (some ("by", i)))] = some (false, .lst (mks 0), [some (.ro, .exc 262 (some ("by", i)))]) := by kernel_rfl
def body20 : SF := (seqF (iffF (tst (op2F neG [] (calF m__law_marks [false] [] (consV [] (subF [] (varF 2) (varF 3)) nilA)) (lcF [] [5] (.nm 5) (itR (consL [] (cF (.int 20)) nilL)) yesT (op2F eqG [] (varF 5) (varF 3))))) (retF (cF (.bl false))) nxF)
  (iffF (orF (notF (tst (op1F (isX (lk tb_StampError)) (subF [] (varF 2) (varF 3))))) (notF (tst (op1F (isX (lk tb_ValueError)) (subF [] (varF 2) (varF 3)))))) (retF (cF (.bl false))) nxF))
theorem body_ok (x : Str) (i : Int) : body20 [some (.ro, .str x), some (.ro, .int i), some (.own, .lst (some20 x i)), some (.ro, .int 3), none, none] = some (.nx [some (.ro, .str x), some (.ro, .int i), some (.own, .lst (some20 x i)), some (.ro, .int 3), none, none]) := by kernel_rfl
end VS.k93
namespace VS.k93
open PySem L2 VS
def En (x : Str) (i : Int) (n m : Nat) : Env := [some (.ro, .str x), some (.ro, .int i), some (.own, .lst ((some20 x i).take n)), none, if m = 0 then none else some (.own, .lst (List.replicate m (.int i))), none]
theorem right_ok (x : Str) (i : Int) : m__law_right [some (.ro, .str x), some (.ro, .int i)] = some (false, .bl true, [some (.ro, .str x), some (.ro, .int i)]) := by
  have h : e__law_right ([some (.ro, .str x), some (.ro, .int i)] ++ List.replicate (6 - 2) none) = some (.ret (nw (.bl true)) (En x i 20 10)) := by
    unfold e__law_right
    rw [seqF_nx (Γ1 := En x i 7 0) (by kernel_rfl), seqF_nx (Γ1 := En x i 13 0) (by kernel_rfl), seqF_nx (Γ1 := En x i 19 0) (by kernel_rfl), seqF_nx (Γ1 := En x i 20 0) (by kernel_rfl), seqF_nx (Γ1 := En x i 20 0) (by kernel_rfl),
      seqF_nx (Γ1 := En x i 20 5) (by kernel_rfl), seqF_nx (Γ1 := En x i 20 8) (by kernel_rfl), seqF_nx (Γ1 := En x i 20 10) (by kernel_rfl)]
    have e1 : op2F eqG [] (varF 4) (op2F mulY [] (lstF (consL [] (varF 1) nilL)) (cF (.int 10))) (En x i 20 10) = some (nw (.bl (PyData.eqv (.list (List.replicate 10 (.int i))) (.list (List.replicate 10 (.int i))))), En x i 20 10) := by kernel_rfl
    have e2 : PyData.eqv (.list (List.replicate 10 (.int i))) (.list (List.replicate 10 (.int i))) = true := by
      simp [PyData.eqv, PyData.eqvAll, List.replicate]
    rw [e2] at e1
    have e3 : op2F niG [] (cF (.bl true)) (calF m__law_marks [false] [] (consV [] (exc1F a_StampError (varF 0)) nilA)) (En x i 20 10) = some (nw (.bl true), En x i 20 10) := by kernel_rfl
    unfold retF andE blF andF tst
    rw [e1]
    show (match (match (match op2F niG [] (cF (.bl true)) (calF m__law_marks [false] [] (consV [] (exc1F a_StampError (varF 0)) nilA)) (En x i 20 10) with | some (⟨_, _, .bl b⟩, Γ') => some (b, Γ') | _ => none) with | none => none | some (b, Γ') => some (nw (.bl b), Γ')) with | none => none | some (x, Γ1) => some (Out.ret x Γ1)) = _
    rw [e3]
    rfl
  unfold m__law_right fnF
  rw [if_pos ⟨rfl, rfl⟩]
  rw [h]
  kernel_rfl
end VS.k93
namespace VS.k93
open PySem L2 VS
def cells (ns : List Int) : List Int := ns.take 12 ++ if ns = [] then [0] else []
theorem cells_len (ns : List Int) : (cells ns).length ≤ 12 := by
  unfold cells
  rw [List.length_append, List.length_take]
  split
  · rename_i h; subst h; decide
  · simp; omega
def En0 (ns : List Int) : Env := [some (.ro, .frz (dInts ns)), none, none, none, none]
def En1 (ns : List Int) : Env := [some (.ro, .frz (dInts ns)), some (.own, .lst (dInts (cells ns))), none, none, none]
theorem var0 (ns : List Int) : varF 0 (En0 ns) = some (nw (.frz (dInts ns)), En0 ns) := by
  unfold varF En0
  show some (if immuts (dInts ns) = true then _ else _, _) = _
  rw [immuts_dI]
  rfl
theorem step1 (ns : List Int) : asgF 1 (op2F addG [] (sliF (varF 0) noO (someO (cF (.int 12)))) (op2F mulY [] (lstF (consL [] (cF (.int 0)) nilL)) (callF intG (consL [] (op2F eqG [] (varF 0) (lstF nilL)) nilL)))) (En0 ns) = some (.nx (En1 ns)) := by
  have h1 : sliF (varF 0) noO (someO (cF (.int 12))) (En0 ns) = some (nw (.lst (dInts (ns.take 12))), En0 ns) := by
    unfold sliF
    rw [var0]
    show (match cutAt (.frz (dInts ns)) none (some 12) with | none => none | some z => some (if immuts (dInts ns) then nw z else ⟨[], false, z⟩, En0 ns)) = _
    show some (if immuts (dInts ns) then nw (.lst (cutD (dInts ns) none (some 12))) else _, En0 ns) = _
    rw [immuts_dI, if_pos rfl]
    have : cutD (dInts ns) none (some 12) = dInts (ns.take 12) := by
      unfold cutD
      rw [← dI_take]
      have e1 : HT.sIx (dInts ns).length 0 none = 0 := rfl
      rw [e1, List.drop_zero, Nat.sub_zero]
      have e2 : HT.sIx (dInts ns).length (dInts ns).length (some 12) = min 12 (dInts ns).length := by
        unfold HT.sIx
        simp
        try omega
      rw [e2, List.take_eq_take_iff]
      omega
    rw [this]
  have h2 : op2F eqG [] (varF 0) (lstF nilL) (En0 ns) = some (nw (.bl (decide (ns = []))), En0 ns) := op2F_eq (y := nw (.lst [])) (N := []) (var0 ns) (by rfl) rfl (eqG_fI ns [])
  have h3 : callF intG (consL [] (op2F eqG [] (varF 0) (lstF nilL)) nilL) (En0 ns) = some (nw (.int (if ns = [] then 1 else 0)), En0 ns) := by
    unfold callF consL
    rw [h2]
    show (match intG [D.bl (decide (ns = []))] with | none => none | some z => some (nw z, En0 ns)) = _
    by_cases h : ns = []
    · subst h; rfl
    · rw [decide_eq_false h, if_neg h]; rfl
  have h4 : op2F mulY [] (lstF (consL [] (cF (.int 0)) nilL)) (callF intG (consL [] (op2F eqG [] (varF 0) (lstF nilL)) nilL)) (En0 ns) = some (nw (.lst (dInts (if ns = [] then [0] else []))), En0 ns) := by
    refine op2F_eq (x := nw (.lst [.int 0])) (by rfl) h3 rfl ?_
    by_cases h : ns = []
    · rw [if_pos h, if_pos h]; rfl
    · rw [if_neg h, if_neg h]; rfl
  have h5 := op2F_eq (g := addG) (N := []) (z := .lst (dInts (cells ns))) h1 h4 rfl (by
    have hl := cells_len ns
    unfold cells at hl ⊢
    rw [List.length_append] at hl
    rw [dI_app]
    exact addG_lst (by rw [dI_len, dI_len]; unfold SZ; omega) (immuts_dI _) (immuts_dI _))
  unfold asgF
  rw [h5]
  show (match putS 1 (nw (.lst (dInts (cells ns)))) (En0 ns) with | none => none | some Γ2 => some (Out.nx Γ2)) = _
  rfl
theorem pick_ok (v : Int) (h0 : 0 ≤ v) (h1 : v < 4) : ∃ c, getAt (.str "a| ~") (.int v) = some (.str ⟨#[c]⟩) := by
  have : v = 0 ∨ v = 1 ∨ v = 2 ∨ v = 3 := by omega
  rcases this with h | h | h | h <;> subst h <;> exact ⟨_, by rfl⟩
def EnB (ns : List Int) (j : Nat) (a b : Int) : Env := [some (.ro, .frz (dInts ns)), some (.own, .lst (dInts (cells ns))), some (.ro, .int j), some (.own, .lst [.int a, .int b]), none]
theorem drawE (ns : List Int) (j : Nat) (a b n : Int) (fn : EF) (s4 : Slot) (hf : ∀ Γ, fn Γ = some (nw (.int n), Γ)) (hb : 0 ≤ b) (hb2 : b < 1000000) (hn : 0 < n) (hn2 : n < 1073741824) : ∃ v a', calF m__law_draw [true, false] [3] (consS 3 (consV [] fn nilA)) [some (.ro, .frz (dInts ns)), some (.own, .lst (dInts (cells ns))), some (.ro, .int j), some (.own, .lst [.int a, .int b]), s4] =
    some (nw (.int v), [some (.ro, .frz (dInts ns)), some (.own, .lst (dInts (cells ns))), some (.ro, .int j), some (.own, .lst [.int a', .int (b + 1)]), s4]) ∧ 0 ≤ v ∧ v < n := by
  obtain ⟨v, a', e, h1, h2⟩ := draw_ok a b n hb hb2 hn hn2
  refine ⟨v, a', ?_, h1, h2⟩
  have hfs : consS 3 (consV [] fn nilA) [some (.ro, .frz (dInts ns)), some (.own, .lst (dInts (cells ns))), some (.ro, .int j), some (.own, .lst [.int a, .int b]), s4] = some ([.s 3, .v (nw (.int n))], [some (.ro, .frz (dInts ns)), some (.own, .lst (dInts (cells ns))), some (.ro, .int j), some (.own, .lst [.int a, .int b]), s4]) := by
    unfold consS consV
    dsimp only [List.getElem?_cons_succ, List.getElem?_cons_zero]
    rw [hf]
    rfl
  rw [calF_eq hfs (Γc := [some (.io, .lst [.int a, .int b]), some (.ro, .int n)]) rfl (by rfl) e]
  rfl
end VS.k93
namespace VS.k93
open PySem L2 VS
def EnK (ns : List Int) (j : Nat) : Env := [some (.ro, .frz (dInts ns)), some (.own, .lst (dInts (cells ns))), some (.ro, .int j), none, none]
def body : SF := (seqF (asgF 3 (calF m__law_bag [false, false] [] (consV [] (subF [] (varF 1) (varF 2)) (consV [] (varF 2) nilA))))
  (seqF (asgF 4 (op2F mulY [3] (subF [3] (cF (.str "a| ~")) (calF m__law_draw [true, false] [3] (consS 3 (consV [] (cF (.int 4)) nilA)))) (calF m__law_draw [true, false] [3] (consS 3 (consV [] (cF (.int 60)) nilA)))))
  (iffF (notF (tst (calF m__law_right [false, false] [] (consV [3] (varF 4) (consV [] (calF m__law_draw [true, false] [3] (consS 3 (consV [] (op2F powI [] (cF (.int 10)) (cF (.int 9))) nilA))) nilA))))) (retF (cF (.bl false))) nxF)))
theorem getAt_lst {xs : List D} {j : Nat} {d : D} (h : xs[j]? = some d) : getAt (.lst xs) (.int j) = some d := by
  have hj := (List.getElem?_eq_some_iff.mp h).1
  show atI xs (j : Int) = _
  unfold atI ixN
  rw [if_pos (Int.natCast_nonneg _), if_pos (by omega), Int.toNat_natCast]
  exact h
theorem turn_ok (ns : List Int) (j : Nat) (hj : j < (cells ns).length) : ∃ a b x, body (EnK ns j) = some (.nx [some (.ro, .frz (dInts ns)), some (.own, .lst (dInts (cells ns))), some (.ro, .int j), some (.own, .lst [.int a, .int b]), some (.own, .str x)]) := by
  have hl := cells_len ns
  obtain ⟨c, hc⟩ : ∃ c, (cells ns)[j]? = some c := ⟨_, List.getElem?_eq_getElem hj⟩
  obtain ⟨a, b, e1, b0, b1⟩ := bag_ok c j (by omega)
  have hs : subF [] (varF 1) (varF 2) (EnK ns j) = some (nw (.int c), EnK ns j) := by
    unfold subF
    show (match getAt (.lst (dInts (cells ns))) (.int j) with | none => none | some z => some (if immut z then nw z else ⟨[1], false, z⟩, EnK ns j)) = _
    rw [getAt_lst (d := .int c) (by rw [dI_get, hc]; rfl)]
    rfl
  have s1 : asgF 3 (calF m__law_bag [false, false] [] (consV [] (subF [] (varF 1) (varF 2)) (consV [] (varF 2) nilA))) (EnK ns j) = some (.nx [some (.ro, .frz (dInts ns)), some (.own, .lst (dInts (cells ns))), some (.ro, .int j), some (.own, .lst [.int a, .int b]), none]) := by
    have hfs : consV [] (subF [] (varF 1) (varF 2)) (consV [] (varF 2) nilA) (EnK ns j) = some ([.v (nw (.int c)), .v (nw (.int j))], EnK ns j) := by
      unfold consV
      rw [hs]
      rfl
    unfold asgF
    rw [calF_eq hfs (Γc := [some (.ro, .int c), some (.ro, .int j)]) rfl (by rfl) e1]
    rfl
  obtain ⟨v, a2, d1, v0, v1⟩ := drawE ns j a b 4 (cF (.int 4)) none (fun _ => rfl) b0 (by omega) (by decide) (by decide)
  obtain ⟨u, a3, d2, u0, u1⟩ := drawE ns j a2 (b + 1) 60 (cF (.int 60)) none (fun _ => rfl) (by omega) (by omega) (by decide) (by decide)
  obtain ⟨ch, hch⟩ := pick_ok v v0 v1
  have s2 : asgF 4 (op2F mulY [3] (subF [3] (cF (.str "a| ~")) (calF m__law_draw [true, false] [3] (consS 3 (consV [] (cF (.int 4)) nilA)))) (calF m__law_draw [true, false] [3] (consS 3 (consV [] (cF (.int 60)) nilA)))) [some (.ro, .frz (dInts ns)), some (.own, .lst (dInts (cells ns))), some (.ro, .int j), some (.own, .lst [.int a, .int b]), none] =
      some (.nx [some (.ro, .frz (dInts ns)), some (.own, .lst (dInts (cells ns))), some (.ro, .int j), some (.own, .lst [.int a3, .int (b + 1 + 1)]), some (.own, .str (repS ⟨#[ch]⟩ u))]) := by
    have h1 : subF [3] (cF (.str "a| ~")) (calF m__law_draw [true, false] [3] (consS 3 (consV [] (cF (.int 4)) nilA))) [some (.ro, .frz (dInts ns)), some (.own, .lst (dInts (cells ns))), some (.ro, .int j), some (.own, .lst [.int a, .int b]), none] = some (nw (.str ⟨#[ch]⟩), [some (.ro, .frz (dInts ns)), some (.own, .lst (dInts (cells ns))), some (.ro, .int j), some (.own, .lst [.int a2, .int (b + 1)]), none]) := by
      exact subF_eq (x := nw (.str "a| ~")) (z := .str ⟨#[ch]⟩) rfl d1 rfl hch
    unfold asgF
    rw [op2F_eq (N := [3]) (z := .str (repS ⟨#[ch]⟩ u)) h1 d2 (by rfl) (by
      show orElse mulW (orElse mulL mulS) (.str ⟨#[ch]⟩) (.int u) = _
      show mulS (.str ⟨#[ch]⟩) (.int u) = _
      unfold mulS
      exact if_pos ⟨by omega, by omega, by show 1 < 1000; decide⟩)]
    rfl
  obtain ⟨q, a4, d3, q0, q1⟩ := drawE ns j a3 (b + 1 + 1) 1000000000 (op2F powI [] (cF (.int 10)) (cF (.int 9))) (some (.own, .str (repS ⟨#[ch]⟩ u))) (fun _ => rfl) (by omega) (by omega) (by decide) (by decide)
  have s3 : (iffF (notF (tst (calF m__law_right [false, false] [] (consV [3] (varF 4) (consV [] (calF m__law_draw [true, false] [3] (consS 3 (consV [] (op2F powI [] (cF (.int 10)) (cF (.int 9))) nilA))) nilA))))) (retF (cF (.bl false))) nxF) [some (.ro, .frz (dInts ns)), some (.own, .lst (dInts (cells ns))), some (.ro, .int j), some (.own, .lst [.int a3, .int (b + 1 + 1)]), some (.own, .str (repS ⟨#[ch]⟩ u))] =
      some (.nx [some (.ro, .frz (dInts ns)), some (.own, .lst (dInts (cells ns))), some (.ro, .int j), some (.own, .lst [.int a4, .int (b + 1 + 1 + 1)]), some (.own, .str (repS ⟨#[ch]⟩ u))]) := by
    have hfs : consV [3] (varF 4) (consV [] (calF m__law_draw [true, false] [3] (consS 3 (consV [] (op2F powI [] (cF (.int 10)) (cF (.int 9))) nilA))) nilA) [some (.ro, .frz (dInts ns)), some (.own, .lst (dInts (cells ns))), some (.ro, .int j), some (.own, .lst [.int a3, .int (b + 1 + 1)]), some (.own, .str (repS ⟨#[ch]⟩ u))] =
        some ([.v (nw (.str (repS ⟨#[ch]⟩ u))), .v (nw (.int q))], [some (.ro, .frz (dInts ns)), some (.own, .lst (dInts (cells ns))), some (.ro, .int j), some (.own, .lst [.int a4, .int (b + 1 + 1 + 1)]), some (.own, .str (repS ⟨#[ch]⟩ u))]) := by
      exact consV_eq (x := nw (.str (repS ⟨#[ch]⟩ u))) rfl (consV_eq d3 rfl rfl) rfl
    rw [iffF_f (notF_eq (b := true) (tst_eq (calF_eq hfs (Γc := [some (.ro, .str (repS ⟨#[ch]⟩ u)), some (.ro, .int q)]) rfl (by rfl) (right_ok _ q))))]
    rfl
  refine ⟨a4, b + 1 + 1 + 1, repS ⟨#[ch]⟩ u, ?_⟩
  unfold body
  rw [seqF_nx s1, seqF_nx s2]
  exact s3
theorem plain_law (ns : List Int) (h : ns.length ≤ 63) (hb : ∀ z ∈ ns, PySem.Builtin.Int.intBits z ≤ 1048576) : ∃ r Γ', m_law [some (.ro, scr ns)] = some (r, .bl true, Γ') := by
  have hit : itR (consL [] (callF lenG (consL [] (varF 1) nilL)) nilL) (En1 ns) = some (nw (.lst ((List.range (cells ns).length).map fun (i : Nat) => D.int (0 + (i : Int)))), En1 ns) := by
    have hl := cells_len ns
    have h0 : varF 1 (En1 ns) = some (⟨[1], false, .lst (dInts (cells ns))⟩, En1 ns) := rfl
    have h1 : callF lenG (consL [] (varF 1) nilL) (En1 ns) = some (nw (.int (cells ns).length), En1 ns) := callF1_eq h0 rfl (by
      show some (D.int ((dInts (cells ns)).length : Int)) = _
      rw [dI_len])
    have h2 := rng1_eq (cells ns).length (Nat.le_trans hl (by decide))
    exact callF1_eq h1 rfl ((rngG1 _).trans h2)
  obtain ⟨Γ', e, hP⟩ := loopF_inv (t := .nm 2) (body := body) (clr := [2, 3, 4]) (fun _ Γ => Γ = En1 ns) ((List.range (cells ns).length).map fun (i : Nat) => D.int (0 + (i : Int))) 0 (En1 ns) rfl fun j d Γ hj hp => by
    subst hp
    rw [List.getElem?_map] at hj
    obtain ⟨i, hi, rfl⟩ := Option.map_eq_some_iff.mp hj
    obtain ⟨h1, h2⟩ := List.getElem?_eq_some_iff.mp hi
    rw [List.getElem_range] at h2
    subst h2
    rw [List.length_range] at h1
    obtain ⟨a, b, x, e⟩ := turn_ok ns j h1
    exact ⟨EnK ns j, _, by rw [Int.zero_add]; rfl, .inl e, rfl⟩
  have he : e_law (En0 ns) = some (.ret (nw (.bl true)) Γ') := by
    unfold e_law
    rw [seqF_nx (step1 ns)]
    show seqF (forF (.nm 2) (itR (consL [] (callF lenG (consL [] (varF 1) nilL)) nilL)) body [2, 3, 4]) (retF (cF (.bl true))) (En1 ns) = _
    rw [seqF_nx (by rw [forF_eq hit rfl rfl]; exact e)]
    rfl
  refine ⟨false, [some (.ro, scr ns)], ?_⟩
  unfold m_law fnF
  rw [if_pos ⟨rfl, rfl⟩]
  have : ([some (Md.ro, scr ns)] ++ List.replicate (5 - 1) none : Env) = En0 ns := rfl
  rw [this, he]
  rfl
end VS.k93
open PySem PySem.W PyProof.Rows
set_option maxRecDepth 100000 in
set_option maxHeartbeats 0 in
theorem PySem.Challenge.cw_twostamps_k93_refusals_apart_holds : PySem.Challenge.rw_twostamps_k93_refusals_apart.Holds := by
  w_on; o_law; k_head; (case hw => w_witness2)
  k_fill
  refine VS.walk_end (l := PySem.Challenge.rw_twostamps_k93_refusals_apart) (n := 63) (k := 4) (x := "_law_script") rfl (by decide) rfl ⟨rfl, by decide, by decide⟩ (fun w h Y => PySem.W.kIn_of Y) ?F VS.k93.plain_law
  case F =>
    intro w mg fa h KX G hmg
    refine' VS.k93.all_mk KX G hmg ?a0 ?i0 ?l0 ?c0 ?k0 ?a1 ?i1 ?l1 ?c1 ?k1 ?a2 ?i2 ?l2 ?c2 ?k2 ?a3 ?i3 ?l3 ?c3 ?k3 ?a4 ?i4 ?l4 ?c4 ?k4 ?a5 ?l5 ?c5 ?k5 ?a6 ?l6 ?c6 ?k6 ?a7 ?l7 ?c7 ?k7 ?a8 ?l8 ?c8 ?k8 ?a9 ?l9 ?c9 ?k9 ?z_ValueError ?z_int ?z_isinstance ?z_len ?z_range ?g_Barred ?o_Barred ?n_Barred ?g_Full ?q_Full ?kp_Full ?g_NoChain ?q_NoChain ?kp_NoChain ?g_NoName ?q_NoName ?kp_NoName ?g_NoNumber ?q_NoNumber ?kp_NoNumber ?g_NoPaper ?q_NoPaper ?kp_NoPaper ?g_NoPile ?q_NoPile ?kp_NoPile ?g_NoPlan ?q_NoPlan ?kp_NoPlan ?g_NoRow ?q_NoRow ?kp_NoRow ?g_NoRule ?q_NoRule ?kp_NoRule ?g_NoStamp ?q_NoStamp ?kp_NoStamp ?g_NoStep ?q_NoStep ?kp_NoStep ?g_NoSteps ?q_NoSteps ?kp_NoSteps ?g_NoText ?o_NoText ?n_NoText ?g_NoTold ?q_NoTold ?kp_NoTold ?g_Nothing ?q_Nothing ?kp_Nothing ?g_Ring ?o_Ring ?n_Ring ?g_StampError ?q_StampError ?kp_StampError ?g_Taken ?q_Taken ?kp_Taken ?g_TooFew ?o_TooFew ?n_TooFew ?g_TooMany ?o_TooMany ?n_TooMany ?ba_StampError ?bv_StampError ?kit_Barred ?kit_Full ?kit_NoChain ?kit_NoName ?kit_NoNumber ?kit_NoPaper ?kit_NoPile ?kit_NoPlan ?kit_NoRow ?kit_NoRule ?kit_NoStamp ?kit_NoStep ?kit_NoSteps ?kit_NoText ?kit_NoTold ?kit_Nothing ?kit_Ring ?kit_StampError ?kit_Taken ?kit_TooFew ?kit_TooMany ?kit_ValueError ?x_at ?x_by ?x_least ?x_many ?x_ring
    (case a0 => k_is)
    (case i0 => k_is)
    (case l0 => k_is)
    (case c0 => k_is)
    (case k0 => k_is)
    (case a1 => k_is)
    (case i1 => k_is)
    (case l1 => k_is)
    (case c1 => k_is)
    (case k1 => k_is)
    (case a2 => k_is)
    (case i2 => k_is)
    (case l2 => k_is)
    (case c2 => k_is)
    (case k2 => k_is)
    (case a3 => k_is)
    (case i3 => k_is)
    (case l3 => k_is)
    (case c3 => k_is)
    (case k3 => k_is)
    (case a4 => k_is)
    (case i4 => k_is)
    (case l4 => k_is)
    (case c4 => k_is)
    (case k4 => k_is)
    (case a5 => k_is)
    (case l5 => k_is)
    (case c5 => k_is)
    (case k5 => k_is)
    (case a6 => k_is)
    (case l6 => k_is)
    (case c6 => k_is)
    (case k6 => k_is)
    (case a7 => k_is)
    (case l7 => k_is)
    (case c7 => k_is)
    (case k7 => k_is)
    (case a8 => k_is)
    (case l8 => k_is)
    (case c8 => k_is)
    (case k8 => k_is)
    (case a9 => k_is)
    (case l9 => k_is)
    (case c9 => k_is)
    (case k9 => k_is)
    (case z_ValueError => k_is)
    (case z_int => k_is)
    (case z_isinstance => k_is)
    (case z_len => k_is)
    (case z_range => k_is)
    (case g_Barred => k_is)
    (case o_Barred => kernel_rfl)
    (case n_Barred => k_is)
    (case g_Full => k_is)
    (case q_Full => k_exc)
    (case kp_Full => k_is)
    (case g_NoChain => k_is)
    (case q_NoChain => k_exc)
    (case kp_NoChain => k_is)
    (case g_NoName => k_is)
    (case q_NoName => k_exc)
    (case kp_NoName => k_is)
    (case g_NoNumber => k_is)
    (case q_NoNumber => k_exc)
    (case kp_NoNumber => k_is)
    (case g_NoPaper => k_is)
    (case q_NoPaper => k_exc)
    (case kp_NoPaper => k_is)
    (case g_NoPile => k_is)
    (case q_NoPile => k_exc)
    (case kp_NoPile => k_is)
    (case g_NoPlan => k_is)
    (case q_NoPlan => k_exc)
    (case kp_NoPlan => k_is)
    (case g_NoRow => k_is)
    (case q_NoRow => k_exc)
    (case kp_NoRow => k_is)
    (case g_NoRule => k_is)
    (case q_NoRule => k_exc)
    (case kp_NoRule => k_is)
    (case g_NoStamp => k_is)
    (case q_NoStamp => k_exc)
    (case kp_NoStamp => k_is)
    (case g_NoStep => k_is)
    (case q_NoStep => k_exc)
    (case kp_NoStep => k_is)
    (case g_NoSteps => k_is)
    (case q_NoSteps => k_exc)
    (case kp_NoSteps => k_is)
    (case g_NoText => k_is)
    (case o_NoText => kernel_rfl)
    (case n_NoText => k_is)
    (case g_NoTold => k_is)
    (case q_NoTold => k_exc)
    (case kp_NoTold => k_is)
    (case g_Nothing => k_is)
    (case q_Nothing => k_exc)
    (case kp_Nothing => k_is)
    (case g_Ring => k_is)
    (case o_Ring => kernel_rfl)
    (case n_Ring => k_is)
    (case g_StampError => k_is)
    (case q_StampError => k_exc)
    (case kp_StampError => k_is)
    (case g_Taken => k_is)
    (case q_Taken => k_exc)
    (case kp_Taken => k_is)
    (case g_TooFew => k_is)
    (case o_TooFew => kernel_rfl)
    (case n_TooFew => k_is)
    (case g_TooMany => k_is)
    (case o_TooMany => kernel_rfl)
    (case n_TooMany => k_is)
    (case ba_StampError => kernel_rfl)
    (case bv_StampError => k_is)
    (case kit_Barred => kernel_rfl)
    (case kit_Full => kernel_rfl)
    (case kit_NoChain => kernel_rfl)
    (case kit_NoName => kernel_rfl)
    (case kit_NoNumber => kernel_rfl)
    (case kit_NoPaper => kernel_rfl)
    (case kit_NoPile => kernel_rfl)
    (case kit_NoPlan => kernel_rfl)
    (case kit_NoRow => kernel_rfl)
    (case kit_NoRule => kernel_rfl)
    (case kit_NoStamp => kernel_rfl)
    (case kit_NoStep => kernel_rfl)
    (case kit_NoSteps => kernel_rfl)
    (case kit_NoText => kernel_rfl)
    (case kit_NoTold => kernel_rfl)
    (case kit_Nothing => kernel_rfl)
    (case kit_Ring => kernel_rfl)
    (case kit_StampError => kernel_rfl)
    (case kit_Taken => kernel_rfl)
    (case kit_TooFew => kernel_rfl)
    (case kit_TooMany => kernel_rfl)
    (case kit_ValueError => kernel_rfl)
    (case x_at => kernel_rfl)
    (case x_by => kernel_rfl)
    (case x_least => kernel_rfl)
    (case x_many => kernel_rfl)
    (case x_ring => kernel_rfl)
#print axioms PySem.Challenge.cw_twostamps_k93_refusals_apart_holds
