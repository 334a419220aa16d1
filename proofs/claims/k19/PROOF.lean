import PyProof.Rows.All
import Wide.All
import OpenK.AllK
import Wide.FinOn
import HandS.Base
import HandS.Call
import HandS.List
import HandS.Exc
import HandS.ExcOwn
import HandS.Words
import HandS.Flow
import HandS.IsInst
import HandS.Deep
import HandS.TupAny
import HandS.Conv
import HandS.CallLocal
import HandS.Defaults
import HandS.Zip
import HandS.Comp
import HandS.ExcIs
import HandS.TryMany
import HandS.RaiseMore
import HandS.DeepEq
import HandS.TupLe
import HandS.Wide
import HandS.Style
import HandS.Text
import HandS.HeadHook1
import PyProof.ExcBaseAll.ValueError
import HandS.HeadHook2
import HandS.HeadHook3
import HandS.HeadHook4
import HandS.HeadEnd
import HandS.EndBits
import HandS.Sort
import HandS.SortOrd
import HandS.SortRule
import HandS.SortInts
import HandS.TupSets
import HandS.Iter
import KE.KDictZip
import KE.KDictPairs
import HandS.TupMul
import KE.GoesEnum
import PySem.Challenge.RW_ladderofone_k19_across_algebras_below_pl
import Lean
import KE.KStateDown
import HandS.Ends
import HandS.More
import HandS.WordsExc
import HandS.Head0
import HandS.Head1
import HandS.Head2
set_option Elab.async false
set_option linter.all false
set_option maxRecDepth 100000
set_option maxHeartbeats 4000000
/-! EvA: plain values PV, slots, outcomes; how they lie in the abstract heap (Rep, SR, Tr). -/
namespace EV
open PySem PySem.Spec PyProof.Rows L2

/-- plain values: fl a list that is only read (the script, a list of the top), gl a thing of the top by number, dic a dict (keys, values) -/
inductive PV where
  | non | bl (b : Bool) | int (i : Int) | str (x : Str) | tup (xs : List PV) | lst (xs : List PV) | fl (xs : List PV)
  | dic (ks : List Key) (vs : List PV) | ty (n : String) | gl (n : Nat)

/-- a value, or a list that nobody else holds -/
inductive Val where
  | v (p : PV) | f (ps : List PV)
def Val.pv : Val → PV
  | .v p => p
  | .f ps => .lst ps
/-- a slot: empty, a value, a list of one's own (io: handed in, to be changed) -/
inductive Slot where
  | emp | val (p : PV) | own (io : Bool) (ps : List PV)
abbrev Ev := List Slot
/-- an outcome: a value, an exception of class n with what it carries, stuck -/
inductive Out (α : Type) where
  | ok (a : α) (ε : Ev) | exc (n : Nat) (p : PV) (ε : Ev) | stk
/-- keeps simp off what comes behind -/
def Dm {α β : Type} (_ : α → Ev → Out β) : Type := Unit
def Out.bind {α β : Type} (o : Out α) (f : α → Ev → Out β) (_ : Dm f := ()) : Out β := match o with
  | .ok a ε => f a ε
  | .exc n p ε => .exc n p ε
  | .stk => .stk

/-! ### a list, a tuple of the written part -/
def KT (K : PySem.W.Frag) (a : Addr) (xs : List V) : Prop :=
  ∃ (o : Obj) (its : Array Value) (n : Nat), K.lookup a = some o ∧ o.cls = .type "tuple" ∧ o.data = .seq its n ∧ its.size ≤ sizeLine ∧ Vals xs its.toList
def KL (K : PySem.W.Frag) (a : Addr) (xs : List V) : Prop :=
  ∃ (o : Obj) (its : Array Value) (n : Nat), K.lookup a = some o ∧ o.cls = .type "list" ∧ o.dict = none ∧ o.data = .seq its n ∧ its.size ≤ sizeLine ∧ Vals xs its.toList

/-! what a value of the heap is, plainly; A: the addresses it must keep off; G: where the things of the top lie -/
mutual
inductive Rep (K : PySem.W.Frag) (G : Nat → Addr) (A : Addr → Prop) (H : Hp) : V → PV → Prop
  | non : Rep K G A H .non .non
  | bl (b : Bool) : Rep K G A H (.bl b) (.bl b)
  | int (i : Int) : Rep K G A H (.int i) (.int i)
  | str (x : Str) : Rep K G A H (.str x) (.str x)
  | ty (n : String) : Rep K G A H (.ty n) (.ty n)
  | gl (n : Nat) : Rep K G A H (.ref (G n)) (.gl n)
  | tup {a : Addr} {xs : List V} {ps : List PV} : ¬ A a → H a = some (.tup xs) → Reps K G A H xs ps → Rep K G A H (.ref a) (.tup ps)
  | tupK {a : Addr} {xs : List V} {ps : List PV} : KT K a xs → Reps K G A H xs ps → Rep K G A H (.ref a) (.tup ps)
  | lst {a : Addr} {xs : List V} {ps : List PV} : ¬ A a → H a = some (.lst xs) → Reps K G A H xs ps → Rep K G A H (.ref a) (.lst ps)
  | fl {a : Addr} {xs : List V} {ps : List PV} : ¬ A a → Rd H a (.lst xs) → Reps K G A H xs ps → Rep K G A H (.ref a) (.fl ps)
  | flK {a : Addr} {xs : List V} {ps : List PV} : KL K a xs → Reps K G A H xs ps → Rep K G A H (.ref a) (.fl ps)
  | dic {a : Addr} {ks : List Key} {xs : List V} {ps : List PV} : ¬ A a → H a = some (.dK (ks.zip xs)) → ks.length = xs.length → Reps K G A H xs ps → Rep K G A H (.ref a) (.dic ks ps)
inductive Reps (K : PySem.W.Frag) (G : Nat → Addr) (A : Addr → Prop) (H : Hp) : List V → List PV → Prop
  | nil : Reps K G A H [] []
  | cons {x : V} {xs : List V} {p : PV} {ps : List PV} : Rep K G A H x p → Reps K G A H xs ps → Reps K G A H (x :: xs) (p :: ps)
end

/-- from (P, H) to (P', H'): all but P is kept; P' is of P or new -/
structure Tr (P P' : Addr → Prop) (H H' : Hp) : Prop where
  keep : ∀ b o, H b = some o → ¬ P b → H' b = some o
  there : ∀ b, H' b = none → H b = none
  own : ∀ b, P' b → P b ∨ H b = none
theorem Tr.refl {P : Addr → Prop} {H : Hp} : Tr P P H H := ⟨fun _ _ h _ => h, fun _ h => h, fun _ h => .inl h⟩
theorem Tr.trans {P P1 P2 : Addr → Prop} {H H1 H2 : Hp} (a : Tr P P1 H H1) (b : Tr P1 P2 H1 H2) : Tr P P2 H H2 := by
  refine ⟨fun c o h np => ?_, fun c h => a.there c (b.there c h), fun c h => ?_⟩
  · refine b.keep c o (a.keep c o h np) fun q => ?_
    rcases a.own c q with z | z
    · exact np z
    · rw [h] at z; cases z
  · rcases b.own c h with z | z
    · exact a.own c z
    · cases e : H c with
      | none => exact .inr rfl
      | some o =>
        by_cases q : P c
        · exact .inl q
        · rw [a.keep c o e q] at z; cases z

section
variable {K : PySem.W.Frag} {G : Nat → Addr} {A A' : Addr → Prop} {H H' : Hp}
mutual
theorem Rep.mono (hA : ∀ b, A' b → A b ∨ H b = none) (hH : ∀ b o, H b = some o → ¬ A b → H' b = some o) : ∀ {v : V} {p : PV}, Rep K G A H v p → Rep K G A' H' v p
  | _, _, .non => .non
  | _, _, .bl b => .bl b
  | _, _, .int i => .int i
  | _, _, .str x => .str x
  | _, _, .ty n => .ty n
  | _, _, .gl n => .gl n
  | _, _, .tup na h r => by
    refine .tup (fun q => ?_) (hH _ _ h na) (Reps.mono hA hH r)
    rcases hA _ q with z | z
    · exact na z
    · rw [h] at z; cases z
  | _, _, .tupK h r => .tupK h (Reps.mono hA hH r)
  | _, _, .lst na h r => by
    refine .lst (fun q => ?_) (hH _ _ h na) (Reps.mono hA hH r)
    rcases hA _ q with z | z
    · exact na z
    · rw [h] at z; cases z
  | _, _, .fl na h r => by
    refine .fl (fun q => ?_) (h.imp (fun e => hH _ _ e na) fun ⟨o, e⟩ => ⟨o, hH _ _ e na⟩) (Reps.mono hA hH r)
    rcases hA _ q with z | z
    · exact na z
    · rcases h with e | ⟨o, e⟩ <;> (rw [e] at z; cases z)
  | _, _, .flK h r => .flK h (Reps.mono hA hH r)
  | _, _, .dic na h l r => by
    refine .dic (fun q => ?_) (hH _ _ h na) l (Reps.mono hA hH r)
    rcases hA _ q with z | z
    · exact na z
    · rw [h] at z; cases z
theorem Reps.mono (hA : ∀ b, A' b → A b ∨ H b = none) (hH : ∀ b o, H b = some o → ¬ A b → H' b = some o) : ∀ {vs : List V} {ps : List PV}, Reps K G A H vs ps → Reps K G A' H' vs ps
  | _, _, .nil => .nil
  | _, _, .cons r t => .cons (Rep.mono hA hH r) (Reps.mono hA hH t)
end
theorem Reps.length : ∀ {vs : List V} {ps : List PV}, Reps K G A H vs ps → vs.length = ps.length
  | _, _, .nil => rfl
  | _, _, .cons _ t => congrArg Nat.succ (Reps.length t)
theorem Reps.get : ∀ {vs : List V} {ps : List PV} {i : Nat} {p : PV}, Reps K G A H vs ps → ps[i]? = some p → ∃ v, vs[i]? = some v ∧ Rep K G A H v p
  | _, _, _, _, .nil, h => by simp at h
  | _, _, 0, _, .cons r _, h => by simp at h; subst h; exact ⟨_, rfl, r⟩
  | _, _, i + 1, p, .cons _ t, h => by
    obtain ⟨v, h1, h2⟩ := Reps.get (i := i) (p := p) t (by simpa using h)
    exact ⟨v, by simpa using h1, h2⟩
theorem Reps.get' : ∀ {vs : List V} {ps : List PV} {i : Nat} {v : V}, Reps K G A H vs ps → vs[i]? = some v → ∃ p, ps[i]? = some p ∧ Rep K G A H v p
  | _, _, _, _, .nil, h => by simp at h
  | _, _, 0, _, .cons r _, h => by simp at h; subst h; exact ⟨_, rfl, r⟩
  | _, _, i + 1, v, .cons _ t, h => by
    obtain ⟨p, h1, h2⟩ := Reps.get' (i := i) (v := v) t (by simpa using h)
    exact ⟨p, by simpa using h1, h2⟩
theorem Reps.append : ∀ {vs ws : List V} {ps qs : List PV}, Reps K G A H vs ps → Reps K G A H ws qs → Reps K G A H (vs ++ ws) (ps ++ qs)
  | _, _, _, _, .nil, s => s
  | _, _, _, _, .cons r t, s => .cons r (Reps.append t s)
theorem Reps.take : ∀ {vs : List V} {ps : List PV} (n : Nat), Reps K G A H vs ps → Reps K G A H (vs.take n) (ps.take n)
  | _, _, 0, _ => .nil
  | _, _, _ + 1, .nil => .nil
  | _, _, n + 1, .cons r t => .cons r (Reps.take n t)
theorem Reps.drop : ∀ {vs : List V} {ps : List PV} (n : Nat), Reps K G A H vs ps → Reps K G A H (vs.drop n) (ps.drop n)
  | _, _, 0, r => r
  | _, _, _ + 1, .nil => .nil
  | _, _, n + 1, .cons _ t => Reps.drop n t
theorem Reps.set : ∀ {vs : List V} {ps : List PV} {v : V} {p : PV} (i : Nat), Rep K G A H v p → Reps K G A H vs ps → Reps K G A H (vs.set i v) (ps.set i p)
  | _, _, _, _, _, _, .nil => .nil
  | _, _, _, _, 0, r, .cons _ t => .cons r t
  | _, _, _, _, i + 1, r, .cons q t => .cons q (Reps.set i r t)
theorem Reps.eraseIdx : ∀ {vs : List V} {ps : List PV} (i : Nat), Reps K G A H vs ps → Reps K G A H (vs.eraseIdx i) (ps.eraseIdx i)
  | _, _, _, .nil => .nil
  | _, _, 0, .cons _ t => t
  | _, _, i + 1, .cons q t => .cons q (Reps.eraseIdx i t)
theorem Reps.dropLast : ∀ {vs : List V} {ps : List PV}, Reps K G A H vs ps → Reps K G A H vs.dropLast ps.dropLast
  | _, _, .nil => .nil
  | _, _, .cons _ .nil => .nil
  | _, _, .cons q (.cons r t) => .cons q (Reps.dropLast (.cons r t))
theorem Reps.reverse {vs : List V} {ps : List PV} (h : Reps K G A H vs ps) : Reps K G A H vs.reverse ps.reverse := by
  induction vs generalizing ps with
  | nil => cases h; exact .nil
  | cons v vs ih =>
    cases h with
    | cons r t => rw [List.reverse_cons, List.reverse_cons]; exact (ih t).append (.cons r .nil)
theorem Reps.isEmpty {vs : List V} {ps : List PV} (h : Reps K G A H vs ps) : vs.isEmpty = ps.isEmpty := by
  cases h <;> rfl
end

/-! ### the frame -/
/-- what is fixed of a frame: F what its callers own, S0 the lists that it was handed to change, H0 the heap at its entry -/
structure Fix where
  K : PySem.W.Frag
  G : Nat → Addr
  F : Addr → Prop
  S0 : Addr → Prop
  H0 : Hp
  forb : ∀ b, F b → H0 b ≠ none
def OwnAt (ε : Ev) (σ : L2.St) (a : Addr) : Prop := ∃ (i : Nat) (k : Bool) (ps : List PV), ε[i]? = some (Slot.own k ps) ∧ σ[i]? = some (some (V.ref a))
def Fix.A (c : Fix) (T : List Addr) (ε : Ev) (σ : L2.St) (a : Addr) : Prop := c.F a ∨ OwnAt ε σ a ∨ a ∈ T
/-- the state of a frame; T: lists of one's own that are held by no slot -/
structure SR (c : Fix) (T : List Addr) (ε : Ev) (σ : L2.St) (H : Hp) : Prop where
  len : ε.length = σ.length
  val : ∀ (i : Nat) (p : PV), ε[i]? = some (Slot.val p) → ∃ v, σ[i]? = some (some v) ∧ Rep c.K c.G (c.A T ε σ) H v p
  own : ∀ (i : Nat) (k : Bool) (ps : List PV), ε[i]? = some (Slot.own k ps) → ∃ a xs, σ[i]? = some (some (V.ref a)) ∧ H a = some (.lst xs) ∧ Reps c.K c.G (c.A T ε σ) H xs ps ∧ a ∉ T ∧ ((k = false ∧ c.H0 a = none) ∨ (k = true ∧ c.S0 a))
  inj : ∀ (i j : Nat) (k l : Bool) (ps qs : List PV) (a : Addr), ε[i]? = some (Slot.own k ps) → ε[j]? = some (Slot.own l qs) → σ[i]? = some (some (V.ref a)) → σ[j]? = some (some (V.ref a)) → i = j
  tmp : ∀ a ∈ T, (∃ xs, H a = some (.lst xs)) ∧ (c.H0 a = none ∨ c.S0 a)
  fr : ∀ b o, c.H0 b = some o → ¬ c.S0 b → H b = some o
  s0 : ∀ b, c.S0 b → H b ≠ none

section
variable {c : Fix} {T : List Addr} {ε ε' : Ev} {σ : L2.St} {H H' : Hp}
theorem SR.ownTracked (R : SR c T ε σ H) {a : Addr} (h : OwnAt ε σ a) : ∃ xs, H a = some (.lst xs) := by
  obtain ⟨i, k, ps, e, s⟩ := h
  obtain ⟨b, xs, s', h', _⟩ := R.own i k ps e
  rw [s] at s'; cases s'
  exact ⟨xs, h'⟩
theorem SR.ATracked (R : SR c T ε σ H) {a : Addr} (h : c.A T ε σ a) : H a ≠ none := by
  rcases h with h | h | h
  · by_cases q : c.S0 a
    · exact R.s0 a q
    · intro z
      cases e : c.H0 a with
      | none => exact c.forb a h e
      | some o => rw [R.fr a o e q] at z; cases z
  · obtain ⟨xs, e⟩ := R.ownTracked h
    rw [e]; exact fun z => nomatch z
  · obtain ⟨⟨xs, e⟩, _⟩ := R.tmp a h
    rw [e]; exact fun z => nomatch z
/-- new addresses are off all -/
theorem SR.freshA (R : SR c T ε σ H) {a : Addr} (h : H a = none) : ¬ c.A T ε σ a := fun q => R.ATracked q h
theorem SR.fresh0 (R : SR c T ε σ H) {a : Addr} (h : H a = none) : c.H0 a = none := by
  cases e : c.H0 a with
  | none => rfl
  | some o =>
    by_cases q : c.S0 a
    · exact absurd h (R.s0 a q)
    · rw [R.fr a o e q] at h; cases h
/-- all is kept -/
theorem SR.kept (R : SR c T ε σ H) (k : ∀ b o, H b = some o → H' b = some o) : SR c T ε σ H' := by
  refine ⟨R.len, fun i p e => ?_, fun i l ps e => ?_, R.inj, fun a h => ?_, fun b o e q => k b o (R.fr b o e q), fun b h z => ?_⟩
  · obtain ⟨v, s, r⟩ := R.val i p e
    exact ⟨v, s, r.mono (fun _ h => .inl h) fun b o e _ => k b o e⟩
  · obtain ⟨a, xs, s, h, r, n, f⟩ := R.own i _ ps e
    exact ⟨a, xs, s, k _ _ h, r.mono (fun _ h => .inl h) fun b o e _ => k b o e, n, f⟩
  · obtain ⟨⟨xs, e⟩, z⟩ := R.tmp a h
    exact ⟨⟨xs, k _ _ e⟩, z⟩
  · cases e : H b with
    | none => exact R.s0 b h e
    | some o => rw [k b o e] at z; cases z
theorem there_of {H H' : Hp} (k : ∀ b o, H b = some o → H' b = some o) : ∀ b, H' b = none → H b = none := fun b h => by
  cases e : H b with
  | none => rfl
  | some o => rw [k b o e] at h; cases h
theorem keep_upd {p : Addr} {o : HO} (h : H p = none) : ∀ b u, H b = some u → upd H p o b = some u := fun b u e => by
  rw [upd_ne (ne_of_none e h)]; exact e
theorem SR.upd (R : SR c T ε σ H) {p : Addr} {o : HO} (h : H p = none) : SR c T ε σ (upd H p o) := R.kept (keep_upd h)
theorem Tr.upd {P : Addr → Prop} {p : Addr} {o : HO} (h : H p = none) : Tr P P H (L2.upd H p o) := ⟨fun b u e _ => keep_upd h b u e, there_of (keep_upd h), fun _ q => .inl q⟩
theorem Tr.kept {P : Addr → Prop} (k : ∀ b o, H b = some o → H' b = some o) : Tr P P H H' := ⟨fun b u e _ => k b u e, there_of k, fun _ q => .inl q⟩
/-- a value that stays: through a step of the frame -/
theorem Rep.through {T' : List Addr} {σ' : L2.St} {v : V} {p : PV} (t : Tr (OwnAt ε σ) (OwnAt ε' σ') H H') (r : Rep c.K c.G (c.A T ε σ) H v p) (hT : ∀ a ∈ T', a ∈ T ∨ H a = none) : Rep c.K c.G (c.A T' ε' σ') H' v p :=
  r.mono (fun b q => by
    rcases q with q | q | q
    · exact .inl (.inl q)
    · rcases t.own b q with z | z
      · exact .inl (.inr (.inl z))
      · exact .inr z
    · rcases hT b q with z | z
      · exact .inl (.inr (.inr z))
      · exact .inr z) fun b o e n => t.keep b o e fun q => n (.inr (.inl q))
theorem Reps.through {T' : List Addr} {σ' : L2.St} {vs : List V} {ps : List PV} (t : Tr (OwnAt ε σ) (OwnAt ε' σ') H H') (r : Reps c.K c.G (c.A T ε σ) H vs ps) (hT : ∀ a ∈ T', a ∈ T ∨ H a = none) : Reps c.K c.G (c.A T' ε' σ') H' vs ps :=
  r.mono (fun b q => by
    rcases q with q | q | q
    · exact .inl (.inl q)
    · rcases t.own b q with z | z
      · exact .inl (.inr (.inl z))
      · exact .inr z
    · rcases hT b q with z | z
      · exact .inl (.inr (.inr z))
      · exact .inr z) fun b o e n => t.keep b o e fun q => n (.inr (.inl q))
/-- T shrinks -/
theorem SR.less {a : Addr} (R : SR c (a :: T) ε σ H) : SR c T ε σ H := by
  have hA : ∀ b, c.A T ε σ b → c.A (a :: T) ε σ b := fun b h => h.imp id fun h => h.imp id fun h => List.mem_cons_of_mem _ h
  refine ⟨R.len, fun i p e => ?_, fun i k ps e => ?_, R.inj, fun b h => R.tmp b (List.mem_cons_of_mem _ h), R.fr, R.s0⟩
  · obtain ⟨v, s, r⟩ := R.val i p e
    exact ⟨v, s, r.mono (fun b h => .inl (hA b h)) fun b o e _ => e⟩
  · obtain ⟨b, xs, s, h, r, n, f⟩ := R.own i _ ps e
    exact ⟨b, xs, s, h, r.mono (fun b h => .inl (hA b h)) fun b o e _ => e, fun z => n (List.mem_cons_of_mem _ z), f⟩
/-- a list of one's own becomes a value -/
theorem SR.freeze {a : Addr} {xs : List V} {ps : List PV} (R : SR c (a :: T) ε σ H) (na : a ∉ T) (n0 : c.H0 a = none) (h : H a = some (.lst xs)) (r : Reps c.K c.G (c.A (a :: T) ε σ) H xs ps) : SR c T ε σ H ∧ Rep c.K c.G (c.A T ε σ) H (.ref a) (.lst ps) := by
  have hA : ∀ b, c.A T ε σ b → c.A (a :: T) ε σ b := fun b h => h.imp id fun h => h.imp id fun h => List.mem_cons_of_mem _ h
  refine ⟨R.less, .lst (fun q => ?_) h (r.mono (fun b h => .inl (hA b h)) fun b o e _ => e)⟩
  rcases q with q | ⟨i, k, qs, e, s⟩ | q
  · exact c.forb a q n0
  · obtain ⟨b, _, s', _, _, n, _⟩ := R.own i k qs e
    rw [s] at s'; cases s'
    exact n List.mem_cons_self
  · exact na q
end
/-! ### slots are set -/
section
variable {c : Fix} {T : List Addr} {ε : Ev} {σ : L2.St} {H : Hp} {j : Nat}
theorem get_set {α : Type} {l : List α} {i j : Nat} {x y : α} (h : (l.set j x)[i]? = some y) : (i = j ∧ y = x) ∨ (i ≠ j ∧ l[i]? = some y) := by
  by_cases e : i = j
  · subst e
    by_cases hl : i < l.length
    · rw [List.getElem?_set_self hl] at h; cases h; exact .inl ⟨rfl, rfl⟩
    · rw [List.getElem?_eq_none (by simpa using hl)] at h; cases h
  · rw [List.getElem?_set_ne (Ne.symm e)] at h
    exact .inr ⟨e, h⟩
theorem set_get {α : Type} {l : List α} {i j : Nat} {x y : α} (ne : i ≠ j) (h : l[i]? = some y) : (l.set j x)[i]? = some y := by
  rw [List.getElem?_set_ne (Ne.symm ne)]; exact h
theorem OwnAt.val {s : Slot} {v : Option V} {b : Addr} (hs : ∀ k ps, s ≠ .own k ps) (h : OwnAt (ε.set j s) (σ.set j v) b) : OwnAt ε σ b := by
  obtain ⟨i, k, ps, e, z⟩ := h
  rcases get_set e with ⟨_, q⟩ | ⟨ne, q⟩
  · exact absurd q.symm (hs k ps)
  · rw [List.getElem?_set_ne (Ne.symm ne)] at z
    exact ⟨i, k, ps, q, z⟩
theorem OwnAt.val' {s : Slot} {b : Addr} (hs : ∀ k ps, s ≠ .own k ps) (h : OwnAt (ε.set j s) σ b) : OwnAt ε σ b := by
  obtain ⟨i, k, ps, e, z⟩ := h
  rcases get_set e with ⟨_, q⟩ | ⟨ne, q⟩
  · exact absurd q.symm (hs k ps)
  · exact ⟨i, k, ps, q, z⟩
theorem OwnAt.own' {k : Bool} {ps : List PV} {v : Option V} {b : Addr} (h : OwnAt (ε.set j (.own k ps)) (σ.set j v) b) : v = some (.ref b) ∨ OwnAt ε σ b := by
  obtain ⟨i, l, qs, e, z⟩ := h
  rcases get_set e with ⟨rfl, q⟩ | ⟨ne, q⟩
  · rcases get_set z with ⟨_, y⟩ | ⟨ne, _⟩
    · exact .inl y.symm
    · exact absurd rfl ne
  · rw [List.getElem?_set_ne (Ne.symm ne)] at z
    exact .inr ⟨i, l, qs, q, z⟩
/-- a slot takes a value -/
theorem SR.assign (R : SR c T ε σ H) {v : V} {p : PV} (r : Rep c.K c.G (c.A T ε σ) H v p) : SR c T (ε.set j (.val p)) (σ.set j (some v)) H := by
  have hA : ∀ b, c.A T (ε.set j (.val p)) (σ.set j (some v)) b → c.A T ε σ b := fun b h => h.imp id fun h => h.imp (fun q => OwnAt.val (fun _ _ z => by cases z) q) id
  refine ⟨by rw [List.length_set, List.length_set]; exact R.len, fun i q e => ?_, fun i l ps e => ?_, fun i k l1 l2 ps qs a e1 e2 s1 s2 => ?_, R.tmp, R.fr, R.s0⟩
  · rcases get_set e with ⟨rfl, q⟩ | ⟨ne, q⟩
    · cases q
      have hl : i < σ.length := by
        rw [← R.len]
        have := (List.getElem?_eq_some_iff.mp e).1
        simpa using this
      exact ⟨v, by rw [List.getElem?_set_self hl], r.mono (fun b h => .inl (hA b h)) fun b o e _ => e⟩
    · obtain ⟨w, s, r'⟩ := R.val i _ q
      exact ⟨w, set_get ne s, r'.mono (fun b h => .inl (hA b h)) fun b o e _ => e⟩
  · rcases get_set e with ⟨_, q⟩ | ⟨ne, q⟩
    · cases q
    · obtain ⟨a, xs, s, h, r', n, f⟩ := R.own i _ _ q
      exact ⟨a, xs, set_get ne s, h, r'.mono (fun b h => .inl (hA b h)) fun b o e _ => e, n, f⟩
  · rcases get_set e1 with ⟨_, q1⟩ | ⟨n1, q1⟩
    · cases q1
    · rcases get_set e2 with ⟨_, q2⟩ | ⟨n2, q2⟩
      · cases q2
      · rw [List.getElem?_set_ne (Ne.symm n1)] at s1
        rw [List.getElem?_set_ne (Ne.symm n2)] at s2
        exact R.inj i k l1 l2 ps qs a q1 q2 s1 s2
/-- a slot takes a list of one's own -/
theorem SR.assignOwn {io : Bool} {a : Addr} {xs : List V} {ps : List PV} (R : SR c (a :: T) ε σ H) (na : a ∉ T) (hio : (io = false ∧ c.H0 a = none) ∨ (io = true ∧ c.S0 a)) (h : H a = some (.lst xs)) (r : Reps c.K c.G (c.A (a :: T) ε σ) H xs ps) : SR c T (ε.set j (.own io ps)) (σ.set j (some (.ref a))) H := by
  have hA : ∀ b, c.A T (ε.set j (.own io ps)) (σ.set j (some (.ref a))) b → c.A (a :: T) ε σ b := fun b h => by
    rcases h with h | h | h
    · exact .inl h
    · rcases h.own' with z | z
      · cases z; exact .inr (.inr List.mem_cons_self)
      · exact .inr (.inl z)
    · exact .inr (.inr (List.mem_cons_of_mem _ h))
  have off : ∀ (i : Nat) k qs b, ε[i]? = some (Slot.own k qs) → σ[i]? = some (some (V.ref b)) → b ≠ a := fun i k qs b e s z => by
    obtain ⟨b', _, s', _, _, n, _⟩ := R.own i k qs e
    rw [s] at s'; cases s'
    exact n (z ▸ List.mem_cons_self)
  refine ⟨by rw [List.length_set, List.length_set]; exact R.len, fun i q e => ?_, fun i l qs e => ?_, fun i k l1 l2 qs rs b e1 e2 s1 s2 => ?_, fun b h => R.tmp b (List.mem_cons_of_mem _ h), R.fr, R.s0⟩
  · rcases get_set e with ⟨_, q⟩ | ⟨ne, q⟩
    · cases q
    · obtain ⟨w, s, r'⟩ := R.val i _ q
      exact ⟨w, set_get ne s, r'.mono (fun b h => .inl (hA b h)) fun b o e _ => e⟩
  · rcases get_set e with ⟨rfl, q⟩ | ⟨ne, q⟩
    · cases q
      have hl : i < σ.length := by
        rw [← R.len]
        have := (List.getElem?_eq_some_iff.mp e).1
        simpa using this
      exact ⟨a, xs, by rw [List.getElem?_set_self hl], h, r.mono (fun b h => .inl (hA b h)) fun b o e _ => e, na, hio⟩
    · obtain ⟨b, ys, s, h', r', n, f⟩ := R.own i _ _ q
      exact ⟨b, ys, set_get ne s, h', r'.mono (fun b h => .inl (hA b h)) fun b o e _ => e, fun z => n (List.mem_cons_of_mem _ z), f⟩
  · rcases get_set e1 with ⟨x1, q1⟩ | ⟨n1, q1⟩
    · rcases get_set e2 with ⟨x2, q2⟩ | ⟨n2, q2⟩
      · rw [x1, x2]
      · exfalso
        rw [x1] at s1
        rcases get_set s1 with ⟨_, y⟩ | ⟨ne, _⟩
        · cases y
          rw [List.getElem?_set_ne (Ne.symm n2)] at s2
          exact off k _ rs _ q2 s2 rfl
        · exact ne rfl
    · rcases get_set e2 with ⟨x2, q2⟩ | ⟨n2, q2⟩
      · exfalso
        rw [x2] at s2
        rcases get_set s2 with ⟨_, y⟩ | ⟨ne, _⟩
        · cases y
          rw [List.getElem?_set_ne (Ne.symm n1)] at s1
          exact off i _ qs _ q1 s1 rfl
        · exact ne rfl
      · rw [List.getElem?_set_ne (Ne.symm n1)] at s1
        rw [List.getElem?_set_ne (Ne.symm n2)] at s2
        exact R.inj i k _ _ qs rs b q1 q2 s1 s2
/-- a slot is emptied: what stands in it is of no matter -/
theorem SR.clear {σ' : L2.St} (R : SR c T ε σ H) (hl : σ'.length = σ.length) (hs : ∀ i, i ≠ j → σ'[i]? = σ[i]?) : SR c T (ε.set j .emp) σ' H := by
  have hO : ∀ b, OwnAt (ε.set j .emp) σ' b → OwnAt ε σ b := fun b h => by
    obtain ⟨i, k, ps, e, z⟩ := h
    rcases get_set e with ⟨_, q⟩ | ⟨ne, q⟩
    · cases q
    · exact ⟨i, k, ps, q, by rw [← hs i ne]; exact z⟩
  have hA : ∀ b, c.A T (ε.set j .emp) σ' b → c.A T ε σ b := fun b h => h.imp id fun h => h.imp (hO b) id
  refine ⟨by rw [List.length_set, hl]; exact R.len, fun i q e => ?_, fun i l ps e => ?_, fun i k l1 l2 ps qs a e1 e2 s1 s2 => ?_, R.tmp, R.fr, R.s0⟩
  · rcases get_set e with ⟨_, q⟩ | ⟨ne, q⟩
    · cases q
    · obtain ⟨w, s, r'⟩ := R.val i _ q
      exact ⟨w, by rw [hs i ne]; exact s, r'.mono (fun b h => .inl (hA b h)) fun b o e _ => e⟩
  · rcases get_set e with ⟨_, q⟩ | ⟨ne, q⟩
    · cases q
    · obtain ⟨a, xs, s, h, r', n, f⟩ := R.own i _ _ q
      exact ⟨a, xs, by rw [hs i ne]; exact s, h, r'.mono (fun b h => .inl (hA b h)) fun b o e _ => e, n, f⟩
  · rcases get_set e1 with ⟨_, q1⟩ | ⟨n1, q1⟩
    · cases q1
    · rcases get_set e2 with ⟨_, q2⟩ | ⟨n2, q2⟩
      · cases q2
      · exact R.inj i k l1 l2 ps qs a q1 q2 (by rw [← hs i n1]; exact s1) (by rw [← hs k n2]; exact s2)
/-- a list of one's own becomes a value in its slot -/
theorem SR.freezeSlot (R : SR c T ε σ H) {ps : List PV} (e : ε[j]? = some (.own false ps)) {a : Addr} (s : σ[j]? = some (some (.ref a))) :
    SR c T (ε.set j (.val (.lst ps))) σ H ∧ Rep c.K c.G (c.A T (ε.set j (.val (.lst ps))) σ) H (.ref a) (.lst ps) := by
  obtain ⟨a', xs, s', h, r, n, f⟩ := R.own j _ ps e
  rw [s] at s'; cases s'
  have n0 : ¬ c.F a := fun q => by
    rcases f with ⟨_, f⟩ | ⟨f, _⟩
    · exact c.forb a q f
    · cases f
  have hA : ∀ b, c.A T (ε.set j (.val (.lst ps))) σ b → c.A T ε σ b := fun b h => h.imp id fun h => h.imp (fun q => OwnAt.val' (fun _ _ z => by cases z) q) id
  have rr : Rep c.K c.G (c.A T (ε.set j (.val (.lst ps))) σ) H (.ref a) (.lst ps) := by
    refine .lst (fun q => ?_) h (r.mono (fun b h => .inl (hA b h)) fun b o e _ => e)
    rcases q with q | ⟨i, k, qs, e1, s1⟩ | q
    · exact n0 q
    · rcases get_set e1 with ⟨_, z⟩ | ⟨ne, z⟩
      · cases z
      · exact ne (R.inj i j _ _ qs ps a z e s1 s)
    · exact n q
  refine ⟨⟨by rw [List.length_set]; exact R.len, fun i q e' => ?_, fun i l qs e' => ?_, fun i k l1 l2 ps qs a e1 e2 s1 s2 => ?_, R.tmp, R.fr, R.s0⟩, rr⟩
  · rcases get_set e' with ⟨rfl, q⟩ | ⟨ne, q⟩
    · cases q; exact ⟨_, s, rr⟩
    · obtain ⟨w, s, r'⟩ := R.val i _ q
      exact ⟨w, s, r'.mono (fun b h => .inl (hA b h)) fun b o e _ => e⟩
  · rcases get_set e' with ⟨_, q⟩ | ⟨ne, q⟩
    · cases q
    · obtain ⟨a, xs, s, h, r', n, f⟩ := R.own i _ _ q
      exact ⟨a, xs, s, h, r'.mono (fun b h => .inl (hA b h)) fun b o e _ => e, n, f⟩
  · rcases get_set e1 with ⟨_, q1⟩ | ⟨n1, q1⟩
    · cases q1
    · rcases get_set e2 with ⟨_, q2⟩ | ⟨n2, q2⟩
      · cases q2
      · exact R.inj i k l1 l2 ps qs a q1 q2 s1 s2
/-- a list of one's own is changed in its slot -/
theorem SR.change (R : SR c T ε σ H) {io : Bool} {ps qs : List PV} {ys : List V} (e : ε[j]? = some (.own io ps)) {a : Addr} (s : σ[j]? = some (some (.ref a))) (r : Reps c.K c.G (c.A T ε σ) H ys qs) :
    SR c T (ε.set j (.own io qs)) σ (L2.upd H a (.lst ys)) ∧ (∀ b, OwnAt (ε.set j (.own io qs)) σ b → OwnAt ε σ b) := by
  obtain ⟨a', xs', s', h', _, n, f⟩ := R.own j io ps e
  rw [s] at s'; cases s'
  have hO : ∀ b, OwnAt (ε.set j (.own io qs)) σ b → OwnAt ε σ b := fun b h => by
    obtain ⟨i, k, rs, e1, s1⟩ := h
    rcases get_set e1 with ⟨rfl, _⟩ | ⟨_, q⟩
    · exact ⟨i, io, ps, e, s1⟩
    · exact ⟨i, k, rs, q, s1⟩
  have hA : ∀ b, c.A T (ε.set j (.own io qs)) σ b → c.A T ε σ b := fun b h => h.imp id fun h => h.imp (hO b) id
  have own : c.A T ε σ a := .inr (.inl ⟨j, io, ps, e, s⟩)
  have hk : ∀ b o, H b = some o → ¬ c.A T ε σ b → L2.upd H a (.lst ys) b = some o := fun b o hb nb => by
    rw [upd_ne (fun z => nb (by rw [z]; exact own))]; exact hb
  refine ⟨⟨by rw [List.length_set]; exact R.len, fun i q e' => ?_, fun i l rs e' => ?_, fun i k l1 l2 ps1 qs1 b e1 e2 s1 s2 => ?_, fun b hb => ?_, fun b o hb nb => ?_, fun b hb => ?_⟩, hO⟩
  · rcases get_set e' with ⟨_, q⟩ | ⟨ne, q⟩
    · cases q
    · obtain ⟨w, s, r'⟩ := R.val i _ q
      exact ⟨w, s, r'.mono (fun b h => .inl (hA b h)) hk⟩
  · rcases get_set e' with ⟨rfl, q⟩ | ⟨ne, q⟩
    · cases q
      exact ⟨a, ys, s, upd_same, r.mono (fun b h => .inl (hA b h)) hk, n, f⟩
    · obtain ⟨b, xs, s1, h, r', n', f'⟩ := R.own i _ _ q
      have nb : b ≠ a := fun z => ne (R.inj i j _ _ _ _ a q e (by rw [← z]; exact s1) s)
      exact ⟨b, xs, s1, by rw [upd_ne nb]; exact h, r'.mono (fun b h => .inl (hA b h)) hk, n', f'⟩
  · have g1 : ∃ l rs, ε[i]? = some (Slot.own l rs) := by
      rcases get_set e1 with ⟨rfl, _⟩ | ⟨_, q⟩
      · exact ⟨_, _, e⟩
      · exact ⟨_, _, q⟩
    have g2 : ∃ l rs, ε[k]? = some (Slot.own l rs) := by
      rcases get_set e2 with ⟨rfl, _⟩ | ⟨_, q⟩
      · exact ⟨_, _, e⟩
      · exact ⟨_, _, q⟩
    obtain ⟨_, _, g1⟩ := g1
    obtain ⟨_, _, g2⟩ := g2
    exact R.inj i k _ _ _ _ b g1 g2 s1 s2
  · obtain ⟨⟨xs, hx⟩, z⟩ := R.tmp b hb
    refine ⟨⟨xs, ?_⟩, z⟩
    rw [upd_ne (fun z => n (by rw [← z]; exact hb))]; exact hx
  · have nba : b ≠ a := fun z => by
      subst z
      rcases f with ⟨_, f⟩ | ⟨_, f⟩
      · rw [hb] at f; cases f
      · exact nb f
    rw [upd_ne nba]; exact R.fr b o hb nb
  · by_cases z : b = a
    · subst z; rw [upd_same]; exact fun z => nomatch z
    · rw [upd_ne z]; exact R.s0 b hb
end
end EV


set_option Elab.async false
set_option linter.all false
set_option maxRecDepth 100000
set_option maxHeartbeats 4000000
/-! EvB: what expressions and statements come to, plainly. -/
namespace EV
open PySem PySem.Spec PyProof.Rows L2

/-- an operand: a value, or what a slot holds when it is looked at -/
inductive Tok where
  | p (p : PV) | s (j : Nat)
abbrev Den := Ev → Out Val
abbrev BDen := Ev → Out Tok
abbrev TDen := Ev → Out Bool
abbrev ADen := Ev → Out (List PV)
abbrev BADen := Ev → Out (List Tok)
abbrev IDen := Ev → Out (List PV)
def slotV : Option Slot → Option PV
  | some (.val p) => some p
  | some (.own _ ps) => some (.lst ps)
  | _ => none
def resolve (ε : Ev) : Tok → Option PV
  | .p p => some p
  | .s j => slotV ε[j]?
def resolves (ε : Ev) : List Tok → Option (List PV)
  | [] => some []
  | t :: ts => match resolve ε t, resolves ε ts with
    | some p, some ps => some (p :: ps)
    | _, _ => none
/-- a plain answer, or stuck -/
def ret (ε : Ev) : Option Val → Out Val
  | some r => .ok r ε
  | none => .stk

/-! ### expressions -/
def cC (p : PV) : Den := fun ε => .ok (.v p) ε
def cVar (j : Nat) : Den := fun ε => match ε[j]? with
  | some (.val p) => .ok (.v p) ε
  | some (.own false ps) => .ok (.v (.lst ps)) (ε.set j (.val (.lst ps)))
  | _ => .stk
def bVar (j : Nat) : BDen := fun ε => match slotV ε[j]? with
  | some _ => .ok (.s j) ε
  | none => .stk
def bOf (d : Den) : BDen := fun ε => (d ε).bind fun r ε => .ok (.p r.pv) ε
def cOp1 (f : PV → Option Val) (a : BDen) : Den := fun ε => (a ε).bind fun x ε => match resolve ε x with
  | some p => ret ε (f p)
  | none => .stk
def cOp2 (f : PV → PV → Option Val) (a b : BDen) : Den := fun ε => (a ε).bind fun x ε => (b ε).bind fun y ε => match resolve ε x, resolve ε y with
  | some p, some q => ret ε (f p q)
  | _, _ => .stk
/-- a truth out of an answer -/
def asB (ε : Ev) : Option Val → Out Bool
  | some (.v (.bl k)) => .ok k ε
  | _ => .stk
def tOp2 (f : PV → PV → Option Val) (a b : BDen) : TDen := fun ε => (a ε).bind fun x ε => (b ε).bind fun y ε => match resolve ε x, resolve ε y with
  | some p, some q => asB ε (f p q)
  | _, _ => .stk
/-- a op b op' c -/
def tChn (f g : PV → PV → Option Val) (a b c : BDen) : TDen := fun ε => (a ε).bind fun x ε => (b ε).bind fun y ε => match resolve ε x, resolve ε y with
  | some p, some q => (asB ε (f p q)).bind fun k ε => match k with
    | true => (c ε).bind fun z ε => match resolve ε y, resolve ε z with
      | some q, some r => asB ε (g q r)
      | _, _ => .stk
    | false => .ok false ε
  | _, _ => .stk
def cOfT (t : TDen) : Den := fun ε => (t ε).bind fun k ε => .ok (.v (.bl k)) ε
def aNil : ADen := fun ε => .ok [] ε
def aCons (d : Den) (r : ADen) : ADen := fun ε => (d ε).bind fun v ε => (r ε).bind fun ps ε => .ok (v.pv :: ps) ε
def bNil : BADen := fun ε => .ok [] ε
def bCons (d : BDen) (r : BADen) : BADen := fun ε => (d ε).bind fun v ε => (r ε).bind fun ps ε => .ok (v :: ps) ε
def cTup (as : ADen) : Den := fun ε => (as ε).bind fun ps ε => .ok (.v (.tup ps)) ε
def cLst (as : ADen) : Den := fun ε => (as ε).bind fun ps ε => .ok (.f ps) ε
def cBlt (f : List PV → Option Val) (as : BADen) : Den := fun ε => (as ε).bind fun ts ε => match resolves ε ts with
  | some ps => ret ε (f ps)
  | none => .stk
def cIf (t : TDen) (a b : Den) : Den := fun ε => (t ε).bind fun k ε => match k with
  | true => a ε
  | false => b ε

/-! ### truth -/
def truth : PV → Option Bool
  | .non => some false
  | .bl b => some b
  | .int i => some (i != 0)
  | .tup ps => some !ps.isEmpty
  | .lst ps => some !ps.isEmpty
  | .fl ps => some !ps.isEmpty
  | _ => none
def tVal (a : BDen) : TDen := fun ε => (a ε).bind fun x ε => match resolve ε x with
  | some p => (match truth p with
    | some k => .ok k ε
    | none => .stk)
  | none => .stk
def tAnd (a b : TDen) : TDen := fun ε => (a ε).bind fun k ε => match k with
  | true => b ε
  | false => .ok false ε
def tOr (a b : TDen) : TDen := fun ε => (a ε).bind fun k ε => match k with
  | true => .ok true ε
  | false => b ε
def tNot (a : TDen) : TDen := fun ε => (a ε).bind fun k ε => .ok (!k) ε
/-- a or b, a and b, as values -/
def cOrT (a b : Den) : Den := fun ε => (a ε).bind fun r ε => match truth r.pv with
  | some true => .ok r ε
  | some false => b ε
  | none => .stk
def cAndT (a b : Den) : Den := fun ε => (a ε).bind fun r ε => match truth r.pv with
  | some true => b ε
  | some false => .ok r ε
  | none => .stk

/-! ### calls -/
inductive CRes where
  | ok (r : Val) (io : List PV) | exc (n : Nat) (p : PV) | stk
/-- what a call comes to: the def, what is in the list that it may change, its other arguments -/
abbrev CallT := Nat → Option (List PV) → List PV → CRes
def cCall (Φ : CallT) (n : Nat) (as : ADen) : Den := fun ε => (as ε).bind fun ps ε => match Φ n none ps with
  | .ok r _ => .ok r ε
  | .exc m p => .exc m p ε
  | .stk => .stk
def cCallIO (Φ : CallT) (n j : Nat) (as : ADen) : Den := fun ε => (as ε).bind fun ps ε => match ε[j]? with
  | some (.own k qs) => (match Φ n (some qs) ps with
    | .ok r qs' => .ok r (ε.set j (.own k qs'))
    | _ => .stk)
  | _ => .stk
def cCallV (Φ : CallT) (ok : Nat → Bool) (j : Nat) (as : ADen) : Den := fun ε => match ε[j]? with
  | some (.val (.gl n)) => (match ok n with
    | true => cCall Φ n as ε
    | false => .stk)
  | _ => .stk

/-! ### lists of one's own -/
def isOwn : Option Slot → Bool
  | some (.own _ _) => true
  | _ => false
def cPop (j : Nat) : Den := fun ε => match ε[j]? with
  | some (.own k ps) => (match ps[ps.length - 1]? with
    | some p => .ok (.v p) (ε.set j (.own k ps.dropLast))
    | none => .stk)
  | _ => .stk
def onOwn {α : Type} (j : Nat) (d : Ev → Out α) : Ev → Out α := fun ε => match isOwn ε[j]? with
  | true => d ε
  | false => .stk
def cPopAt (j : Nat) (a : BDen) : Den := onOwn j fun ε => (a ε).bind fun t ε => match ε[j]?, resolve ε t with
  | some (.own o ps), some (.int i) => if -(2 ^ 63) ≤ i ∧ i < 2 ^ 63 then (match seqIndex? i ps.length with
    | some k => (match ps[k]? with
      | some p => .ok (.v p) (ε.set j (.own o (ps.eraseIdx k)))
      | none => .stk)
    | none => .stk) else .stk
  | _, _ => .stk
def cAppend (j : Nat) (d : Den) : Den := onOwn j fun ε => (d ε).bind fun r ε => match ε[j]? with
  | some (.own k ps) => if ps.length < sizeLine then .ok (.v .non) (ε.set j (.own k (ps ++ [r.pv]))) else .stk
  | _ => .stk
def cExtend (j : Nat) (a : BDen) : Den := onOwn j fun ε => (a ε).bind fun t ε => match ε[j]?, resolve ε t with
  | some (.own k ps), some (.lst qs) => if ps.length + qs.length ≤ sizeLine then .ok (.v .non) (ε.set j (.own k (ps ++ qs))) else .stk
  | _, _ => .stk

/-! ### slices -/
abbrev PDen := Ev → Out (Option Int)
def pNone : PDen := fun ε => .ok none ε
def pSome (a : BDen) : PDen := fun ε => (a ε).bind fun t ε => match resolve ε t with
  | some (.int i) => .ok (some i) ε
  | _ => .stk
def cSl (f : PV → Option Int → Option Int → Option Val) (a : BDen) (l h : PDen) : Den := fun ε => (a ε).bind fun t ε => (l ε).bind fun l ε => (h ε).bind fun h ε => match resolve ε t with
  | some p => ret ε (f p l h)
  | none => .stk

/-! ### targets -/
inductive Tg where
  | one (j : Nat) | many (js : List Nat)
def setAll : List Nat → List PV → Ev → Option Ev
  | [], [], ε => some ε
  | j :: js, p :: ps, ε => setAll js ps (ε.set j (.val p))
  | _, _, _ => none
def Tg.set (g : Tg) (p : PV) (ε : Ev) : Option Ev := match g with
  | .one j => some (ε.set j (.val p))
  | .many js => (match p with
    | .tup ps => setAll js ps ε
    | _ => none)

/-! ### what is walked -/
def itemsOf : PV → Option (List PV)
  | .tup ps => some ps
  | .lst ps => some ps
  | .fl ps => some ps
  | _ => none
def iRet (ε : Ev) : Option (List PV) → Out (List PV)
  | some ps => .ok ps ε
  | none => .stk
def iSeq (d : Den) : IDen := fun ε => (d ε).bind fun r ε => iRet ε (itemsOf r.pv)
def rangeL (i : Int) (n : Nat) : List PV := (List.range n).map fun (k : Nat) => PV.int (i + (k : Int))
def rangeOf : List PV → Option (List PV)
  | [.int j] => if -(2 ^ 62) ≤ j ∧ j < 2 ^ 62 ∧ j ≤ 2 ^ 24 then some (rangeL 0 j.toNat) else none
  | [.int i, .int j] => if -(2 ^ 62) ≤ i ∧ i < 2 ^ 62 ∧ -(2 ^ 62) ≤ j ∧ j < 2 ^ 62 ∧ j - i ≤ 2 ^ 24 then some (rangeL i (j - i).toNat) else none
  | _ => none
def iRange (as : BADen) : IDen := fun ε => (as ε).bind fun ts ε => match resolves ε ts with
  | some ps => iRet ε (rangeOf ps)
  | none => .stk
/-- list(range(..)) -/
def cLstI (it : IDen) : Den := fun ε => (it ε).bind fun ps ε => .ok (.f ps) ε
def cLR1 (b : BDen) : Den := fun ε => (b ε).bind fun u ε => match resolve ε u with
  | some (.int j) => if -(2 ^ 62) ≤ j ∧ j < 2 ^ 62 ∧ j ≤ 2 ^ 24 then .ok (.f (rangeL 0 j.toNat)) ε else .stk
  | _ => .stk
def cLR2 (a b : BDen) : Den := fun ε => (a ε).bind fun t ε => (b ε).bind fun u ε => match resolve ε t, resolve ε u with
  | some (.int i), some (.int j) => if -(2 ^ 62) ≤ i ∧ i < 2 ^ 62 ∧ -(2 ^ 62) ≤ j ∧ j < 2 ^ 62 ∧ j - i ≤ 2 ^ 24 then .ok (.f (rangeL i (j - i).toNat)) ε else .stk
  | _, _ => .stk
def enumFrom (i : Nat) : List PV → List PV
  | [] => []
  | p :: ps => .tup [.int (i : Int), p] :: enumFrom (i + 1) ps
def enumL (ps : List PV) : List PV := enumFrom 0 ps
def lstOf : PV → Option (List PV)
  | .lst ps => some ps
  | .fl ps => some ps
  | _ => none
def iEnum (d : Den) : IDen := fun ε => (d ε).bind fun r ε => iRet ε ((lstOf r.pv).map enumL)
def zipL : List PV → List PV → List PV
  | p :: ps, q :: qs => .tup [p, q] :: zipL ps qs
  | _, _ => []
def zipOf (p q : PV) : Option (List PV) := match lstOf p, lstOf q with
  | some ps, some qs => some (zipL ps qs)
  | _, _ => (match p, q with
    | .tup ps, .tup qs => some (zipL ps qs)
    | _, _ => none)
def iZip (a b : Den) : IDen := fun ε => (a ε).bind fun r ε => (b ε).bind fun s ε => iRet ε (zipOf r.pv s.pv)

/-! ### comprehensions -/
def wipeE (ε : Ev) : List Nat → Ev
  | [] => ε
  | v :: vs => (wipeE ε vs).set v .emp
def compL (vs : List Nat) (g : Tg) (t : TDen) (e : Den) : List PV → List PV → Ev → Out (List PV)
  | [], acc, ε => .ok acc ε
  | p :: ps, acc, ε => match g.set p ε with
    | none => .stk
    | some ε => (match t ε with
      | .ok true ε => (match e ε with
        | .ok r ε => compL vs g t e ps (acc ++ [r.pv]) (wipeE ε vs)
        | _ => .stk)
      | .ok false ε => compL vs g t e ps acc (wipeE ε vs)
      | _ => .stk)
/-- the slots at vs back to what they were -/
def back (ε0 : Ev) : List Nat → Ev → Ev
  | [], ε => ε
  | v :: vs, ε => (back ε0 vs ε).set v (ε0[v]?.getD .emp)
def cComp (vs : List Nat) (it : IDen) (g : Tg) (t : TDen) (e : Den) : Den := fun ε => (it ε).bind fun ps ε =>
  if vs.any (fun v => isOwn ε[v]?) || !decide (ps.length < sizeLine) then .stk else
  match compL vs g t e ps [] (wipeE ε vs) with
  | .ok acc ε' => .ok (.f acc) (back ε vs ε')
  | _ => .stk
/-- over what a slot holds: a list of one's own is laid aside meanwhile -/
def cCompS (vs : List Nat) (j : Nat) (g : Tg) (t : TDen) (e : Den) : Den := fun ε => match ε[j]? with
  | some (.own k ps) => if vs.any (fun v => isOwn ε[v]? || v == j) || !decide (ps.length < sizeLine) then .stk else
    (match compL vs g t e ps [] (wipeE (ε.set j .emp) vs) with
    | .ok acc ε' => .ok (.f acc) ((back ε vs ε').set j (.own k ps))
    | _ => .stk)
  | some (.val p) => cComp vs (fun ε => iRet ε (itemsOf p)) g t e ε
  | _ => .stk

/-! ### statements -/
inductive Fl where
  | nx | rt (r : Val) | bk | ct
abbrev SDen := Ev → Out Fl
def Val.slot : Val → Slot
  | .v p => .val p
  | .f ps => .own false ps
def sNext : SDen := fun ε => .ok .nx ε
def sBrk : SDen := fun ε => .ok .bk ε
def sCnt : SDen := fun ε => .ok .ct ε
def sSeq (a b : SDen) : SDen := fun ε => (a ε).bind fun f ε => match f with
  | .nx => b ε
  | f => .ok f ε
def sSet (j : Nat) (d : Den) : SDen := fun ε => (d ε).bind fun r ε => .ok .nx (ε.set j r.slot)
def sTup (js : List Nat) (d : BDen) : SDen := fun ε => (d ε).bind fun t ε => match resolve ε t with
  | some p => (match (Tg.many js).set p ε with
    | some ε => .ok .nx ε
    | none => .stk)
  | none => .stk
/-- i, j = a, b -/
def sPar (i j : Nat) (a b : Den) : SDen := fun ε => (a ε).bind fun r ε => (b ε).bind fun s ε => .ok .nx ((ε.set i r.slot).set j s.slot)
def sPut (j : Nat) (i : BDen) (d : Den) : SDen := fun ε => (d ε).bind fun r ε => onOwn j (fun ε => (i ε).bind fun t ε => match ε[j]?, resolve ε t with
  | some (.own o ps), some (.int k) => (match ixN ps.length k with
    | some m => .ok .nx (ε.set j (.own o (ps.set m r.pv)))
    | none => .stk)
  | _, _ => .stk) ε
def sAug (j : Nat) (f : PV → PV → Option Val) (d : BDen) : SDen := fun ε => match slotV ε[j]? with
  | none => .stk
  | some _ => (d ε).bind fun t ε => match slotV ε[j]?, resolve ε t with
    | some p, some q => (match f p q with
      | some r => .ok .nx (ε.set j r.slot)
      | none => .stk)
    | _, _ => .stk
def sDrop (d : Den) : SDen := fun ε => (d ε).bind fun _ ε => .ok .nx ε
def sIf (t : TDen) (a b : SDen) : SDen := fun ε => (t ε).bind fun k ε => match k with
  | true => a ε
  | false => b ε
def sRet (d : Den) : SDen := fun ε => (d ε).bind fun r ε => .ok (.rt r) ε
/-- return of a name: a list of one's own is handed over -/
def sRetV (j : Nat) : SDen := fun ε => match ε[j]? with
  | some (.val p) => .ok (.rt (.v p)) ε
  | some (.own false ps) => .ok (.rt (.f ps)) (ε.set j .emp)
  | _ => .stk
def sRetN : SDen := fun ε => .ok (.rt (.v .non)) ε
def sRaise (n : Nat) : SDen := fun ε => .exc n .non ε
def sWhile (t : TDen) (b : SDen) : Nat → SDen
  | 0 => fun _ => .stk
  | n + 1 => fun ε => (t ε).bind fun k ε => match k with
    | true => (b ε).bind fun f ε => (match f with
      | .nx => sWhile t b n ε
      | .ct => sWhile t b n ε
      | .bk => .ok .nx ε
      | .rt r => .ok (.rt r) ε)
    | false => .ok .nx ε
def forL (g : Tg) (b : SDen) : List PV → SDen
  | [] => fun ε => .ok .nx ε
  | p :: ps => fun ε => match g.set p ε with
    | none => .stk
    | some ε => (b ε).bind fun f ε => (match f with
      | .nx => forL g b ps ε
      | .ct => forL g b ps ε
      | .bk => .ok .nx ε
      | .rt r => .ok (.rt r) ε)
def sFor (it : IDen) (g : Tg) (b : SDen) : SDen := fun ε => (it ε).bind fun ps ε => forL g b ps ε
/-- a clause: the class, whether one of class n is of it, the slot of its name, its suite -/
structure Hd where
  is : Nat → Option Bool
  j : Nat
  s : Nat → PV → SDen
def handle : List Hd → Nat → PV → SDen
  | [], n, p => fun ε => .exc n p ε
  | h :: hs, n, p => match h.is n with
    | some true => fun ε => if h.j < ε.length then (match h.s n p (ε.set h.j .emp) with
      | .ok f ε => .ok f (ε.set h.j .emp)
      | _ => .stk) else .stk
    | some false => handle hs n p
    | none => fun _ => .stk
def sTry (b : SDen) (hs : List Hd) : SDen := fun ε => match b ε with
  | .exc n p ε => handle hs n p ε
  | o => o

/-! ### a def -/
structure FD where
  np : Nat
  io : Bool
  ns : Nat
  body : CallT → SDen
def FD.start (d : FD) (io : Option (List PV)) (ps : List PV) : Option Ev := match d.io, io with
  | true, some qs => if ps.length + 1 = d.np then some (Slot.own true qs :: (ps.map Slot.val ++ List.replicate (d.ns - d.np) Slot.emp)) else none
  | false, none => if ps.length = d.np then some (ps.map Slot.val ++ List.replicate (d.ns - d.np) Slot.emp) else none
  | _, _ => none
def ioOf (d : FD) (r : Val) (ε : Ev) : CRes := match d.io with
  | true => (match ε[(0 : Nat)]? with
    | some (.own true qs) => .ok r qs
    | _ => .stk)
  | false => .ok r []
def FD.run (d : FD) (Φ : CallT) (io : Option (List PV)) (ps : List PV) : CRes := match d.start io ps with
  | none => .stk
  | some ε => (match d.body Φ ε with
    | .ok .nx ε => ioOf d (.v .non) ε
    | .ok (.rt r) ε => ioOf d r ε
    | .ok _ _ => .stk
    | .exc n p _ => (match d.io with
      | true => .stk
      | false => .exc n p)
    | .stk => .stk)
/-- calls, k deep at the most -/
def calls (tab : Nat → Option FD) : Nat → CallT
  | 0 => fun _ _ _ => .stk
  | k + 1 => fun n io ps => match tab n with
    | some d => d.run (calls tab k) io ps
    | none => .stk
end EV


set_option Elab.async false
set_option linter.all false
set_option maxRecDepth 100000
set_option maxHeartbeats 4000000
/-! EvC: the readings, and how they are put together. -/
namespace EV
open PySem PySem.Spec PyProof.Rows L2

/-- a step within an expression: the slots stand, what one owns gets no more -/
structure ET (σ : L2.St) (ε ε' : Ev) (H H' : Hp) : Prop where
  keep : ∀ b o, H b = some o → ¬ OwnAt ε σ b → H' b = some o
  there : ∀ b, H' b = none → H b = none
  own : ∀ b, OwnAt ε' σ b → OwnAt ε σ b
theorem ET.refl {σ : L2.St} {ε : Ev} {H : Hp} : ET σ ε ε H H := ⟨fun _ _ h _ => h, fun _ h => h, fun _ h => h⟩
theorem ET.trans {σ : L2.St} {ε ε1 ε2 : Ev} {H H1 H2 : Hp} (a : ET σ ε ε1 H H1) (b : ET σ ε1 ε2 H1 H2) : ET σ ε ε2 H H2 :=
  ⟨fun c o h n => b.keep c o (a.keep c o h n) fun q => n (a.own c q), fun c h => a.there c (b.there c h), fun c h => a.own c (b.own c h)⟩
theorem ET.tr {σ : L2.St} {ε ε' : Ev} {H H' : Hp} (a : ET σ ε ε' H H') : Tr (OwnAt ε σ) (OwnAt ε' σ) H H' := ⟨a.keep, a.there, fun b h => .inl (a.own b h)⟩
theorem ET.kept {σ : L2.St} {ε : Ev} {H H' : Hp} (k : ∀ b o, H b = some o → H' b = some o) : ET σ ε ε H H' := ⟨fun b o h _ => k b o h, there_of k, fun _ h => h⟩
theorem ET.upd {σ : L2.St} {ε : Ev} {H : Hp} {p : Addr} {o : HO} (h : H p = none) : ET σ ε ε H (L2.upd H p o) := .kept (keep_upd h)

/-- how a result lies -/
def ResR (c : Fix) (T : List Addr) (ε : Ev) (σ : L2.St) (H : Hp) (r : Val) (x : V) : Prop := match r with
  | .v p => SR c T ε σ H ∧ Rep c.K c.G (c.A T ε σ) H x p
  | .f ps => ∃ a xs, x = .ref a ∧ a ∉ T ∧ c.H0 a = none ∧ SR c (a :: T) ε σ H ∧ H a = some (.lst xs) ∧ Reps c.K c.G (c.A (a :: T) ε σ) H xs ps
def TokR (c : Fix) (T : List Addr) (ε : Ev) (σ : L2.St) (H : Hp) (t : Tok) (x : V) : Prop := match t with
  | .p p => Rep c.K c.G (c.A T ε σ) H x p
  | .s j => σ[j]? = some (some x)
def ToksR (c : Fix) (T : List Addr) (ε : Ev) (σ : L2.St) (H : Hp) : List Tok → List V → Prop := Paired fun t x => TokR c T ε σ H t x
/-- what an exception carries -/
def lineN : Str := "line"
def XR (c : Fix) (T : List Addr) (ε : Ev) (σ : L2.St) (p : PV) (d : Option Addr) (H : Hp) : Prop := match p with
  | .non => d = none
  | p => ∃ dd v, d = some dd ∧ H dd = some (.xd [(lineN, v)]) ∧ Rep c.K c.G (c.A T ε σ) H v p
/-- what is wanted of an outcome, seen from the state (T, ε, σ, H) -/
def Fin {α χ : Type} (Rl : List Addr → Ev → Hp → α → χ → Prop) (c : Fix) (W : WX) (T : List Addr) (ε : Ev) (σ : L2.St) (H : Hp) (o : Out α) (Q : χ → Hp → Prop) : Prop := match o with
  | .ok a ε' => ∀ x H', ET σ ε ε' H H' → Rl T ε' H' a x → Q x H'
  | .exc n p ε' => ∀ d H', ET σ ε ε' H H' → SR c T ε' σ H' → XR c T ε' σ p d H' → W (.ref (c.G n)) d σ H'
  | .stk => False
/-- a list that is handed over is new since Hs -/
def New (Hs : Hp) (r : Val) (x : V) : Prop := match r with
  | .v _ => True
  | .f _ => ∀ b, x = .ref b → Hs b = none
theorem New.back {H H1 : Hp} {r : Val} {x : V} (k : ∀ b, H1 b = none → H b = none) (h : New H1 r x) : New H r x := by
  cases r with
  | v p => exact trivial
  | f ps => exact fun b e => k b (h b e)
abbrev RlV (c : Fix) (σ : L2.St) (Hs : Hp) : List Addr → Ev → Hp → Val → V → Prop := fun T ε H r x => ResR c T ε σ H r x ∧ New Hs r x
abbrev RlT (c : Fix) (σ : L2.St) : List Addr → Ev → Hp → Tok → V → Prop := fun T ε H t x => SR c T ε σ H ∧ TokR c T ε σ H t x
abbrev RlB (c : Fix) (σ : L2.St) : List Addr → Ev → Hp → Bool → Bool → Prop := fun T ε H k x => SR c T ε σ H ∧ k = x
abbrev RlA (c : Fix) (σ : L2.St) : List Addr → Ev → Hp → List PV → List V → Prop := fun T ε H ps xs => SR c T ε σ H ∧ Reps c.K c.G (c.A T ε σ) H xs ps
abbrev RlTs (c : Fix) (σ : L2.St) : List Addr → Ev → Hp → List Tok → List V → Prop := fun T ε H ts xs => SR c T ε σ H ∧ ToksR c T ε σ H ts xs
abbrev RlP (c : Fix) (σ : L2.St) : List Addr → Ev → Hp → Option Int → Option Int → Prop := fun T ε H k x => SR c T ε σ H ∧ k = x
def TEof (c : Fix) (W : WX) (d : Den) : TE := fun σ H Q => ∃ T ε, SR c T ε σ H ∧ Fin (RlV c σ H) c W T ε σ H (d ε) Q
def TBof (c : Fix) (W : WX) (d : BDen) : TE := fun σ H Q => ∃ T ε, SR c T ε σ H ∧ Fin (RlT c σ) c W T ε σ H (d ε) Q
def TTof (c : Fix) (W : WX) (d : TDen) : TT := fun σ H Q => ∃ T ε, SR c T ε σ H ∧ Fin (RlB c σ) c W T ε σ H (d ε) Q
def TAof (c : Fix) (W : WX) (d : ADen) : TA := fun σ H Q => ∃ T ε, SR c T ε σ H ∧ Fin (RlA c σ) c W T ε σ H (d ε) Q
def TBAof (c : Fix) (W : WX) (d : BADen) : TA := fun σ H Q => ∃ T ε, SR c T ε σ H ∧ Fin (RlTs c σ) c W T ε σ H (d ε) Q
def TPof (c : Fix) (W : WX) (d : PDen) : TO := fun σ H Q => ∃ T ε, SR c T ε σ H ∧ Fin (RlP c σ) c W T ε σ H (d ε) Q

section
variable {c : Fix} {W : WX} {T : List Addr} {ε ε1 : Ev} {σ : L2.St} {H H1 : Hp} {α β χ ψ : Type} {Ra : List Addr → Ev → Hp → α → χ → Prop} {Rb : List Addr → Ev → Hp → β → ψ → Prop}
theorem Fin.mono {o : Out α} {Q Q' : χ → Hp → Prop} (h : Fin Ra c W T ε σ H o Q) (k : ∀ x H', Q x H' → Q' x H') : Fin Ra c W T ε σ H o Q' := by
  cases o with
  | ok a ε' => exact fun x H' e r => k x H' (h x H' e r)
  | exc n p ε' => exact h
  | stk => exact h
theorem Fin.bind {o : Out α} {f : α → Ev → Out β} {Q : ψ → Hp → Prop} (h : Fin Rb c W T ε σ H (o.bind f) Q) :
    Fin Ra c W T ε σ H o fun x H1 => ∃ a ε1, ET σ ε ε1 H H1 ∧ Ra T ε1 H1 a x ∧ Fin Rb c W T ε σ H (f a ε1) Q := by
  cases o with
  | ok a ε' => exact fun x H' e r => ⟨a, ε', e, r, h⟩
  | exc n p ε' => exact h
  | stk => exact h
theorem Fin.from {o : Out α} {Q : χ → Hp → Prop} (e : ET σ ε ε1 H H1) (h : Fin Ra c W T ε σ H o Q) : Fin Ra c W T ε1 σ H1 o Q := by
  cases o with
  | ok a ε' => exact fun x H' e' r => h x H' (e.trans e') r
  | exc n p ε' => exact fun d H' e' r => h d H' (e.trans e') r
  | stk => exact h
theorem Fin.fromV {o : Out Val} {Q : VK} (e : ET σ ε ε1 H H1) (h : Fin (RlV c σ H) c W T ε σ H o Q) : Fin (RlV c σ H1) c W T ε1 σ H1 o Q := by
  cases o with
  | ok a ε' => exact fun x H' e' r => h x H' (e.trans e') ⟨r.1, r.2.back e.there⟩
  | exc n p ε' => exact fun d H' e' r => h d H' (e.trans e') r
  | stk => exact h
theorem Fin.at {a : α} {Q : χ → Hp → Prop} {ε' : Ev} {x : χ} {H' : Hp} (h : Fin Ra c W T ε σ H (.ok a ε') Q) (e : ET σ ε ε' H H') (r : Ra T ε' H' a x) : Q x H' := h x H' e r
end

section
variable {c : Fix} {T : List Addr} {ε ε' : Ev} {σ : L2.St} {H H' : Hp}
theorem SR.slot (R : SR c T ε σ H) {j : Nat} {p : PV} (h : slotV ε[j]? = some p) : ∃ x, σ[j]? = some (some x) ∧
    ((ε[j]? = some (.val p) ∧ Rep c.K c.G (c.A T ε σ) H x p) ∨ ∃ a xs k ps, ε[j]? = some (.own k ps) ∧ p = .lst ps ∧ x = .ref a ∧ H a = some (.lst xs) ∧ Reps c.K c.G (c.A T ε σ) H xs ps) := by
  cases e : ε[j]? with
  | none => rw [e] at h; cases h
  | some s =>
    rw [e] at h
    cases s with
    | emp => cases h
    | val q =>
      cases h
      obtain ⟨v, s, r⟩ := R.val j p e
      exact ⟨v, s, .inl ⟨rfl, r⟩⟩
    | own k ps =>
      cases h
      obtain ⟨a, xs, s, h, r, _⟩ := R.own j k ps e
      exact ⟨_, s, .inr ⟨a, xs, k, ps, rfl, rfl, rfl, h, r⟩⟩
/-- what an operand is, for one who only reads: a list may be one's own -/
def BRep (c : Fix) (T : List Addr) (ε : Ev) (σ : L2.St) (H : Hp) (x : V) (p : PV) : Prop := Rep c.K c.G (c.A T ε σ) H x p ∨ ∃ a xs ps, p = .lst ps ∧ x = .ref a ∧ H a = some (.lst xs) ∧ Reps c.K c.G (c.A T ε σ) H xs ps
theorem TokR.read (R : SR c T ε σ H) {t : Tok} {x : V} {p : PV} (r : TokR c T ε σ H t x) (h : resolve ε t = some p) : BRep c T ε σ H x p := by
  cases t with
  | p q =>
    cases h
    exact .inl r
  | s j =>
    have h' : slotV ε[j]? = some p := h
    have e : σ[j]? = some (some x) := r
    obtain ⟨y, s, z⟩ := R.slot h'
    rw [e] at s; cases s
    rcases z with ⟨_, z⟩ | ⟨a, xs, _, ps, _, e1, e2, e3, e4⟩
    · exact .inl z
    · exact .inr ⟨a, xs, ps, e1, e2, e3, e4⟩
theorem Rep.et {x : V} {p : PV} (t : ET σ ε ε' H H') (r : Rep c.K c.G (c.A T ε σ) H x p) : Rep c.K c.G (c.A T ε' σ) H' x p := r.through t.tr fun a h => .inl h
theorem Reps.et {xs : List V} {ps : List PV} (t : ET σ ε ε' H H') (r : Reps c.K c.G (c.A T ε σ) H xs ps) : Reps c.K c.G (c.A T ε' σ) H' xs ps := r.through t.tr fun a h => .inl h
end
section
variable {c : Fix} {T : List Addr} {ε ε' : Ev} {σ : L2.St} {H H' : Hp}
theorem TokR.et {t : Tok} {x : V} (e : ET σ ε ε' H H') (r : TokR c T ε σ H t x) : TokR c T ε' σ H' t x := by
  cases t with
  | p q => exact Rep.et e r
  | s j => exact r
theorem ToksR.et {ts : List Tok} {xs : List V} (e : ET σ ε ε' H H') (r : ToksR c T ε σ H ts xs) : ToksR c T ε' σ H' ts xs := Paired.mapP r fun _ _ h => h.et e
end
end EV


set_option Elab.async false
set_option linter.all false
set_option maxRecDepth 100000
set_option maxHeartbeats 4000000
/-! EvD: the rules of expressions. -/
namespace EV
open PySem PySem.Spec PyProof.Rows L2

/-! ### readings of operands -/
section
variable {c : Fix} {K : PySem.W.Frag} {T : List Addr} {ε : Ev} {σ : L2.St} {H : Hp} {x : V}
theorem BRep.int {i : Int} (h : BRep c T ε σ H x (.int i)) : x = .int i := by
  rcases h with h | ⟨a, xs, ps, e, _⟩
  · cases h; rfl
  · cases e
theorem BRep.bl {b : Bool} (h : BRep c T ε σ H x (.bl b)) : x = .bl b := by
  rcases h with h | ⟨a, xs, ps, e, _⟩
  · cases h; rfl
  · cases e
theorem BRep.str {z : Str} (h : BRep c T ε σ H x (.str z)) : x = .str z := by
  rcases h with h | ⟨a, xs, ps, e, _⟩
  · cases h; rfl
  · cases e
theorem BRep.non (h : BRep c T ε σ H x .non) : x = .non := by
  rcases h with h | ⟨a, xs, ps, e, _⟩
  · cases h; rfl
  · cases e
theorem BRep.ty {n : String} (h : BRep c T ε σ H x (.ty n)) : x = .ty n := by
  rcases h with h | ⟨a, xs, ps, e, _⟩
  · cases h; rfl
  · cases e
theorem BRep.gl {n : Nat} (h : BRep c T ε σ H x (.gl n)) : x = .ref (c.G n) := by
  rcases h with h | ⟨a, xs, ps, e, _⟩
  · cases h; rfl
  · cases e
theorem BRep.lst {ps : List PV} (h : BRep c T ε σ H x (.lst ps)) : ∃ a xs, x = .ref a ∧ H a = some (.lst xs) ∧ Reps c.K c.G (c.A T ε σ) H xs ps := by
  rcases h with h | ⟨a, xs, ps, e, e2, e3, e4⟩
  · cases h with
    | lst n h r => exact ⟨_, _, rfl, h, r⟩
  · cases e; exact ⟨a, xs, e2, e3, e4⟩
theorem BRep.tup {ps : List PV} (h : BRep c T ε σ H x (.tup ps)) : ∃ a xs, x = .ref a ∧ SqT c.K H a xs ∧ Reps c.K c.G (c.A T ε σ) H xs ps := by
  rcases h with h | ⟨a, xs, ps, e, _⟩
  · cases h with
    | tup n h r => exact ⟨_, _, rfl, SqT.of h, r⟩
    | tupK h r => exact ⟨_, _, rfl, .inr h, r⟩
  · cases e
theorem BRep.seqL {p : PV} {ps : List PV} (h : BRep c T ε σ H x p) (e : lstOf p = some ps) : ∃ a xs, x = .ref a ∧ SqL c.K H a xs ∧ Reps c.K c.G (c.A T ε σ) H xs ps := by
  cases p with
  | lst qs =>
    cases e
    obtain ⟨a, xs, e1, e2, e3⟩ := h.lst
    exact ⟨a, xs, e1, SqL.of e2, e3⟩
  | fl qs =>
    cases e
    rcases h with h | ⟨a, xs, ps, e, _⟩
    · cases h with
      | fl n h r => exact ⟨_, _, rfl, .inl h, r⟩
      | flK h r => exact ⟨_, _, rfl, .inr h, r⟩
    · cases e
  | _ => cases e
theorem BRep.seq {p : PV} {ps : List PV} (h : BRep c T ε σ H x p) (e : itemsOf p = some ps) : ∃ a xs, x = .ref a ∧ (SqL c.K H a xs ∨ SqT c.K H a xs) ∧ Reps c.K c.G (c.A T ε σ) H xs ps := by
  cases p with
  | tup qs =>
    cases e
    obtain ⟨a, xs, e1, e2, e3⟩ := h.tup
    exact ⟨a, xs, e1, .inr e2, e3⟩
  | lst qs =>
    cases e
    obtain ⟨a, xs, e1, e2, e3⟩ := h.seqL rfl
    exact ⟨a, xs, e1, .inl e2, e3⟩
  | fl qs =>
    cases e
    obtain ⟨a, xs, e1, e2, e3⟩ := h.seqL rfl
    exact ⟨a, xs, e1, .inl e2, e3⟩
  | _ => cases e
end

/-! ### names and constants -/
/-- the value v is p whatever the heap -/
def KRep (c : Fix) (v : V) (p : PV) : Prop := ∀ A H, Rep c.K c.G A H v p
section
variable {X : Cx} {c : Fix} {W : WX} {e : Expr}
theorem te_const {v : V} {p : PV} (h : PE X e (tC v)) (r : KRep c v p) : PE X e (TEof c W (cC p)) := by
  refine ⟨fun pins s σ H Q I hq => h.run pins s σ H Q I ?_⟩
  obtain ⟨T, ε, R, hf⟩ := hq
  exact Fin.at hf .refl ⟨⟨R, r _ _⟩, trivial⟩
theorem te_var {j : Nat} (h : PE X e (tVar j)) : PE X e (TEof c W (cVar j)) := by
  refine ⟨fun pins s σ H Q I hq => h.run pins s σ H Q I ?_⟩
  obtain ⟨T, ε, R, hf⟩ := hq
  unfold cVar at hf
  cases e1 : ε[j]? with
  | none => rw [e1] at hf; exact hf.elim
  | some sl =>
    rw [e1] at hf
    cases sl with
    | emp => exact hf.elim
    | val p =>
      obtain ⟨v, sv, r⟩ := R.val j p e1
      exact ⟨v, sv, Fin.at hf .refl ⟨⟨R, r⟩, trivial⟩⟩
    | own k ps =>
      cases k with
      | true => exact hf.elim
      | false =>
        obtain ⟨a, xs, sv, h1, r, n, f⟩ := R.own j _ ps e1
        obtain ⟨R', r'⟩ := R.freezeSlot e1 sv
        exact ⟨_, sv, Fin.at hf ⟨fun _ _ h _ => h, fun _ h => h, fun b h => OwnAt.val' (fun _ _ z => by cases z) h⟩ ⟨⟨R', r'⟩, trivial⟩⟩
theorem tb_var {j : Nat} (h : PE X e (tVar j)) : PE X e (TBof c W (bVar j)) := by
  refine ⟨fun pins s σ H Q I hq => h.run pins s σ H Q I ?_⟩
  obtain ⟨T, ε, R, hf⟩ := hq
  unfold bVar at hf
  cases e1 : slotV ε[j]? with
  | none => rw [e1] at hf; exact hf.elim
  | some p =>
    rw [e1] at hf
    obtain ⟨v, sv, _⟩ := R.slot e1
    exact ⟨v, sv, Fin.at hf .refl ⟨R, sv⟩⟩
/-- a result becomes a value -/
theorem ResR.val {T : List Addr} {ε : Ev} {σ : L2.St} {H : Hp} {r : Val} {x : V} (h : ResR c T ε σ H r x) : SR c T ε σ H ∧ Rep c.K c.G (c.A T ε σ) H x r.pv := by
  cases r with
  | v p => exact h
  | f ps =>
    obtain ⟨a, xs, rfl, na, n0, R, h1, h2⟩ := h
    exact R.freeze na n0 h1 h2
theorem tb_of {d : Den} (h : PE X e (TEof c W d)) : PE X e (TBof c W (bOf d)) := by
  refine ⟨fun pins s σ H Q I hq => h.run pins s σ H Q I ?_⟩
  obtain ⟨T, ε, R, hf⟩ := hq
  refine ⟨T, ε, R, (Fin.bind hf).mono fun x H1 ⟨r, ε1, e1, ⟨h1, _⟩, h2⟩ => ?_⟩
  exact Fin.at h2 e1 h1.val
end

/-! ### operations of values -/
/-- f tells what the reading r asks -/
def S2 (X : Cx) (c : Fix) (f : PV → PV → Option Val) (r : R2) : Prop := ∀ (T : List Addr) (ε : Ev) (σ : L2.St) (H : Hp) (x y : V) (p q : PV) (res : Val) (Q : VK),
  SR c T ε σ H → BRep c T ε σ H x p → BRep c T ε σ H y q → f p q = some res → (∀ z H', ET σ ε ε H H' → RlV c σ H T ε H' res z → Q z H') → r x y H Q
def S1 (X : Cx) (c : Fix) (f : PV → Option Val) (r : V → Hp → VK → Prop) : Prop := ∀ (T : List Addr) (ε : Ev) (σ : L2.St) (H : Hp) (x : V) (p : PV) (res : Val) (Q : VK),
  SR c T ε σ H → BRep c T ε σ H x p → f p = some res → (∀ z H', ET σ ε ε H H' → RlV c σ H T ε H' res z → Q z H') → r x H Q
section
variable {X : Cx} {c : Fix} {W : WX} {a b e2 : Expr} {da db dc : BDen} {pos : Pos} {f g : PV → PV → Option Val} {r r' : R2}
theorem rd_op2 (hf : S2 X c f r) {σ : L2.St} {H : Hp} {Q : VK} (h : TEof c W (cOp2 f da db) σ H Q) : tOp r (TBof c W da) (TBof c W db) σ H Q := by
  obtain ⟨T, ε, R, h⟩ := h
  refine ⟨T, ε, R, (Fin.bind h).mono fun x H1 ⟨t, ε1, e1, ⟨R1, r1⟩, h1⟩ => ?_⟩
  refine ⟨T, ε1, R1, (Fin.bind (h1.from e1)).mono fun y H2 ⟨u, ε2, e2, ⟨R2, r2⟩, h2⟩ => ?_⟩
  cases p1 : resolve ε2 t with
  | none => rw [p1] at h2; exact h2.elim
  | some p =>
    cases p2 : resolve ε2 u with
    | none => rw [p1, p2] at h2; exact h2.elim
    | some q =>
      rw [p1, p2] at h2
      have h2 : Fin (RlV c σ H) c W T ε1 σ H1 (ret ε2 (f p q)) Q := h2
      cases fr : f p q with
      | none => rw [fr] at h2; exact h2.elim
      | some res =>
        rw [fr] at h2
        exact hf T ε2 σ H2 x y p q res Q R2 ((r1.et e2).read R2 p1) (r2.read R2 p2) fr fun z H' e' r' => Fin.at h2 (e2.trans (ε1 := ε2) e') ⟨r'.1, r'.2.back (e1.trans e2).there⟩
theorem rd_t2 (hf : S2 X c f r) {σ : L2.St} {H : Hp} {Q : Bool → Hp → Prop} (h : TTof c W (tOp2 f da db) σ H Q) : tTest (tOp r (TBof c W da) (TBof c W db)) σ H Q := by
  obtain ⟨T, ε, R, h⟩ := h
  refine ⟨T, ε, R, (Fin.bind h).mono fun x H1 ⟨t, ε1, e1, ⟨R1, r1⟩, h1⟩ => ?_⟩
  refine ⟨T, ε1, R1, (Fin.bind (h1.from e1)).mono fun y H2 ⟨u, ε2, e2, ⟨R2, r2⟩, h2⟩ => ?_⟩
  cases p1 : resolve ε2 t with
  | none => rw [p1] at h2; exact h2.elim
  | some p =>
    cases p2 : resolve ε2 u with
    | none => rw [p1, p2] at h2; exact h2.elim
    | some q =>
      rw [p1, p2] at h2
      have h2 : Fin (RlB c σ) c W T ε1 σ H1 (asB ε2 (f p q)) Q := h2
      cases fr : f p q with
      | none => rw [fr] at h2; exact h2.elim
      | some res =>
        rw [fr] at h2
        cases res with
        | f ps => exact h2.elim
        | v p' =>
          cases p' with
          | bl k =>
            refine hf T ε2 σ H2 x y p q _ _ R2 ((r1.et e2).read R2 p1) (r2.read R2 p2) fr fun z H' e' r' => ?_
            obtain ⟨⟨R', r'⟩, _⟩ := r'
            cases r'
            exact ⟨k, rfl, Fin.at h2 (e2.trans (ε1 := ε2) e') ⟨R', rfl⟩⟩
          | _ => exact h2.elim
theorem te_bin {op : Operator} (ho : OpR X (binaryOp op) r) (hf : S2 X c f r) (ha : PE X a (TBof c W da)) (hb : PE X b (TBof c W db)) : PE X (.BinOp a op b pos) (TEof c W (cOp2 f da db)) :=
  ⟨fun pins s σ H Q I h => (pe_op ho ha hb).run pins s σ H Q I (rd_op2 hf h)⟩
theorem te_cmp {op : CmpOp} (ho : OpR X (compareOp op) r) (hf : S2 X c f r) (ha : PE X a (TBof c W da)) (hb : PE X b (TBof c W db)) (hm : behindInMarks op b = false) : PE X (.Compare a [op] [b] pos) (TEof c W (cOp2 f da db)) :=
  ⟨fun pins s σ H Q I h => (pe_cmpR ho ha hb hm).run pins s σ H Q I (rd_op2 hf h)⟩
theorem tt_cmp {op : CmpOp} (ho : OpR X (compareOp op) r) (hf : S2 X c f r) (ha : PE X a (TBof c W da)) (hb : PE X b (TBof c W db)) (hm : behindInMarks op b = false) : PT X (.Compare a [op] [b] pos) (TTof c W (tOp2 f da db)) :=
  ⟨fun pins s σ H Q I h => (pt_cmpR ho ha hb hm).run pins s σ H Q I (rd_t2 hf h)⟩
theorem rd_chn (hf : S2 X c f r) (hg : S2 X c g r') {σ : L2.St} {H : Hp} {Q : Bool → Hp → Prop} (h : TTof c W (tChn f g da db dc) σ H Q) : tTest (tChain r r' (TBof c W da) (TBof c W db) (TBof c W dc)) σ H Q := by
  obtain ⟨T, ε, R, h⟩ := h
  refine ⟨T, ε, R, (Fin.bind h).mono fun x H1 ⟨t, ε1, e1, ⟨R1, r1⟩, h1⟩ => ?_⟩
  refine ⟨T, ε1, R1, (Fin.bind (h1.from e1)).mono fun y H2 ⟨u, ε2, e2, ⟨R2, r2⟩, h2⟩ => ?_⟩
  cases p1 : resolve ε2 t with
  | none => rw [p1] at h2; exact h2.elim
  | some p =>
    cases p2 : resolve ε2 u with
    | none => rw [p1, p2] at h2; exact h2.elim
    | some q =>
      rw [p1, p2] at h2
      dsimp only at h2
      cases fr : f p q with
      | none => rw [fr] at h2; exact h2.elim
      | some res =>
        rw [fr] at h2
        cases res with
        | f ps => exact h2.elim
        | v p' =>
          cases p' with
          | bl k =>
            refine hf T ε2 σ H2 x y p q _ _ R2 ((r1.et e2).read R2 p1) (r2.read R2 p2) fr fun z H' e' r' => ?_
            obtain ⟨⟨R', r'⟩, _⟩ := r'
            cases r'
            refine ⟨k, rfl, ?_⟩
            cases k with
            | false =>
              rw [if_neg Bool.false_ne_true]
              exact ⟨false, rfl, Fin.at h2 (e2.trans (ε1 := ε2) e') ⟨R', rfl⟩⟩
            | true =>
              rw [if_pos rfl]
              have h3 : Fin (RlB c σ) c W T ε1 σ H1 ((dc ε2).bind fun z ε => match resolve ε u, resolve ε z with
                | some q, some r => asB ε (g q r)
                | _, _ => .stk) Q := h2
              have e3 : ET σ ε1 ε2 H1 H' := e2.trans (ε1 := ε2) e'
              refine ⟨T, ε2, R', (Fin.bind (h3.from e3)).mono fun w H4 ⟨v, ε4, e4, ⟨R4, r4⟩, h4⟩ => ?_⟩
              cases p3 : resolve ε4 u with
              | none => rw [p3] at h4; exact h4.elim
              | some q' =>
                cases p4 : resolve ε4 v with
                | none => rw [p3, p4] at h4; exact h4.elim
                | some q'' =>
                  rw [p3, p4] at h4
                  dsimp only at h4
                  cases gr : g q' q'' with
                  | none => rw [gr] at h4; exact h4.elim
                  | some res2 =>
                    rw [gr] at h4
                    cases res2 with
                    | f ps => exact h4.elim
                    | v p5 =>
                      cases p5 with
                      | bl k2 =>
                        refine hg T ε4 σ H4 y w q' q'' _ _ R4 (((r2.et e').et e4).read R4 p3) (r4.read R4 p4) gr fun z H' e' r' => ?_
                        obtain ⟨⟨R', r'⟩, _⟩ := r'
                        cases r'
                        exact ⟨k2, rfl, Fin.at h4 (e4.trans (ε1 := ε4) e') ⟨R', rfl⟩⟩
                      | _ => exact h4.elim
          | _ => exact h2.elim
theorem tt_chn {op op' : CmpOp} (ho : OpR X (compareOp op) r) (ho' : OpR X (compareOp op') r') (hf : S2 X c f r) (hg : S2 X c g r') (ha : PE X a (TBof c W da)) (hb : PE X b (TBof c W db)) (hc : PE X e2 (TBof c W dc))
    (hm : lastMarks [op, op'] [b, e2] = false) : PT X (.Compare a [op, op'] [b, e2] pos) (TTof c W (tChn f g da db dc)) :=
  ⟨fun pins s σ H Q I h => (pt_chain ho ho' ha hb hc hm).run pins s σ H Q I (rd_chn hf hg h)⟩
/-- .. as a value -/
theorem rd_chnV (hf : S2 X c f r) (hg : S2 X c g r') {σ : L2.St} {H : Hp} {Q : VK} (h : TEof c W (cOfT (tChn f g da db dc)) σ H Q) : tChain r r' (TBof c W da) (TBof c W db) (TBof c W dc) σ H Q := by
  have h2 : TTof c W (tChn f g da db dc) σ H (fun k H' => Q (.bl k) H') := by
    obtain ⟨T, ε, R, h⟩ := h
    refine ⟨T, ε, R, (Fin.bind (Ra := RlB c σ) h).mono fun k H1 ⟨k', ε1, e1, ⟨R1, ek⟩, h1⟩ => ?_⟩
    subst ek
    exact Fin.at h1 e1 ⟨⟨R1, .bl _⟩, trivial⟩
  exact (by
    obtain ⟨T, ε, R, h⟩ := h2
    refine ⟨T, ε, R, (Fin.bind h).mono fun x H1 ⟨t, ε1, e1, ⟨R1, r1⟩, h1⟩ => ?_⟩
    refine ⟨T, ε1, R1, (Fin.bind (h1.from e1)).mono fun y H2 ⟨u, ε2, e2, ⟨R2, r2⟩, h2⟩ => ?_⟩
    cases p1 : resolve ε2 t with
    | none => rw [p1] at h2; exact h2.elim
    | some p =>
      cases p2 : resolve ε2 u with
      | none => rw [p1, p2] at h2; exact h2.elim
      | some q =>
        rw [p1, p2] at h2
        dsimp only at h2
        cases fr : f p q with
        | none => rw [fr] at h2; exact h2.elim
        | some res =>
          rw [fr] at h2
          cases res with
          | f ps => exact h2.elim
          | v p' =>
            cases p' with
            | bl k =>
              refine hf T ε2 σ H2 x y p q _ _ R2 ((r1.et e2).read R2 p1) (r2.read R2 p2) fr fun z H' e' r' => ?_
              obtain ⟨⟨R', r'⟩, _⟩ := r'
              cases r'
              refine ⟨k, rfl, ?_⟩
              cases k with
              | false =>
                rw [if_neg Bool.false_ne_true]
                exact Fin.at (Ra := RlB c σ) (Q := fun k H' => Q (.bl k) H') (x := false) (a := false) h2 (e2.trans (ε1 := ε2) e') ⟨R', rfl⟩
              | true =>
                rw [if_pos rfl]
                have h3 : Fin (RlB c σ) c W T ε1 σ H1 ((dc ε2).bind fun z ε => match resolve ε u, resolve ε z with
                  | some q, some r => asB ε (g q r)
                  | _, _ => .stk) (fun k H' => Q (.bl k) H') := h2
                have e3 : ET σ ε1 ε2 H1 H' := e2.trans (ε1 := ε2) e'
                refine ⟨T, ε2, R', (Fin.bind (h3.from e3)).mono fun w H4 ⟨v, ε4, e4, ⟨R4, r4⟩, h4⟩ => ?_⟩
                cases p3 : resolve ε4 u with
                | none => rw [p3] at h4; exact h4.elim
                | some q' =>
                  cases p4 : resolve ε4 v with
                  | none => rw [p3, p4] at h4; exact h4.elim
                  | some q'' =>
                    rw [p3, p4] at h4
                    dsimp only at h4
                    cases gr : g q' q'' with
                    | none => rw [gr] at h4; exact h4.elim
                    | some res2 =>
                      rw [gr] at h4
                      cases res2 with
                      | f ps => exact h4.elim
                      | v p5 =>
                        cases p5 with
                        | bl k2 =>
                          refine hg T ε4 σ H4 y w q' q'' _ _ R4 (((r2.et e').et e4).read R4 p3) (r4.read R4 p4) gr fun z H' e' r' => ?_
                          obtain ⟨⟨R', r'⟩, _⟩ := r'
                          cases r'
                          exact Fin.at (Ra := RlB c σ) (Q := fun k H' => Q (.bl k) H') (x := k2) (a := k2) h4 (e4.trans (ε1 := ε4) e') ⟨R', rfl⟩
                        | _ => exact h4.elim
            | _ => exact h2.elim)
theorem te_chn {op op' : CmpOp} (ho : OpR X (compareOp op) r) (ho' : OpR X (compareOp op') r') (hf : S2 X c f r) (hg : S2 X c g r') (ha : PE X a (TBof c W da)) (hb : PE X b (TBof c W db)) (hc : PE X e2 (TBof c W dc))
    (hm : lastMarks [op, op'] [b, e2] = false) : PE X (.Compare a [op, op'] [b, e2] pos) (TEof c W (cOfT (tChn f g da db dc))) :=
  ⟨fun pins s σ H Q I h => (pe_chain ho ho' ha hb hc hm).run pins s σ H Q I (rd_chnV hf hg h)⟩
theorem te_un {op : UnaryOp} {f : PV → Option Val} {r : V → Hp → VK → Prop} (ho : UnR X (unaryOp op) r) (hf : S1 X c f r) (ha : PE X a (TBof c W da)) : PE X (.UnaryOp op a pos) (TEof c W (cOp1 f da)) := by
  refine ⟨fun pins s σ H Q I h => (pe_un ho ha).run pins s σ H Q I ?_⟩
  obtain ⟨T, ε, R, h⟩ := h
  refine ⟨T, ε, R, (Fin.bind h).mono fun x H1 ⟨t, ε1, e1, ⟨R1, r1⟩, h1⟩ => ?_⟩
  cases p1 : resolve ε1 t with
  | none => rw [p1] at h1; exact h1.elim
  | some p =>
    rw [p1] at h1
    dsimp only at h1
    cases fr : f p with
    | none => rw [fr] at h1; exact h1.elim
    | some res =>
      rw [fr] at h1
      exact hf T ε1 σ H1 x p res Q R1 (r1.read R1 p1) fr fun z H' e' r' => Fin.at h1 (e1.trans (ε1 := ε1) e') ⟨r'.1, r'.2.back e1.there⟩
end

/-! ### truth, and, or, not, if -/
section
variable {X : Cx} {c : Fix} {W : WX} {a b : Expr} {rest : List Expr} {da db : Den} {ba : BDen} {ta tb : TDen} {pos : Pos}
theorem truth_is (hK : c.K = X.K) {T : List Addr} {ε : Ev} {σ : L2.St} {H : Hp} {x : V} {p : PV} {k : Bool} (r : BRep c T ε σ H x p) (h : truth p = some k) : TruV X.K x H k := by
  cases p with
  | non => cases h; rw [r.non]; rfl
  | bl b => cases h; rw [r.bl]; rfl
  | int i => cases h; rw [r.int]; rfl
  | tup ps =>
    cases h
    obtain ⟨a, xs, rfl, h1, h2⟩ := r.tup
    rw [hK] at h1
    exact .inr (.inl ⟨xs, h1, by rw [h2.isEmpty]⟩)
  | lst ps =>
    cases h
    obtain ⟨a, xs, rfl, h1, h2⟩ := r.seqL rfl
    rw [hK] at h1
    exact .inl ⟨xs, h1, by rw [h2.isEmpty]⟩
  | fl ps =>
    cases h
    obtain ⟨a, xs, rfl, h1, h2⟩ := r.seqL rfl
    rw [hK] at h1
    exact .inl ⟨xs, h1, by rw [h2.isEmpty]⟩
  | _ => cases h
theorem tt_val (hK : c.K = X.K) (ha : PE X a (TBof c W ba)) (he : ∀ whole, isTrue a X.env whole = (do let v ← whole; standAt a.pos; holding [v] (truthy v))) : PT X a (TTof c W (tVal ba)) := by
  refine ⟨fun pins s σ H Q I h => (pt_truth ha he).run pins s σ H Q I ?_⟩
  obtain ⟨T, ε, R, h⟩ := h
  refine ⟨T, ε, R, (Fin.bind h).mono fun x H1 ⟨t, ε1, e1, ⟨R1, r1⟩, h1⟩ => ?_⟩
  cases p1 : resolve ε1 t with
  | none => rw [p1] at h1; exact h1.elim
  | some p =>
    rw [p1] at h1
    dsimp only at h1
    cases k1 : truth p with
    | none => rw [k1] at h1; exact h1.elim
    | some k =>
      rw [k1] at h1
      exact ⟨k, truth_is hK (r1.read R1 p1) k1, Fin.at h1 e1 ⟨R1, rfl⟩⟩
theorem tt_not (ha : PT X a (TTof c W ta)) : PT X (.UnaryOp .Not a pos) (TTof c W (tNot ta)) := by
  refine ⟨fun pins s σ H Q I h => (pt_not ha).run pins s σ H Q I ?_⟩
  obtain ⟨T, ε, R, h⟩ := h
  refine ⟨T, ε, R, (Fin.bind h).mono fun k H1 ⟨k', ε1, e1, ⟨R1, ek⟩, h1⟩ => ?_⟩
  subst ek
  exact Fin.at h1 e1 ⟨R1, rfl⟩
theorem tt_and (ha : PT X a (TTof c W ta)) (hb : PW X (.BoolOp .And (b :: rest) pos) (TTof c W tb)) : PW X (.BoolOp .And (a :: b :: rest) pos) (TTof c W (tAnd ta tb)) := by
  refine ⟨fun wh pins s σ H Q I h => (pw_and ha hb).run wh pins s σ H Q I ?_⟩
  obtain ⟨T, ε, R, h⟩ := h
  refine ⟨T, ε, R, (Fin.bind h).mono fun k H1 ⟨k', ε1, e1, ⟨R1, ek⟩, h1⟩ => ?_⟩
  subst ek
  cases k' with
  | true =>
    rw [if_pos rfl]
    exact ⟨T, ε1, R1, h1.from e1⟩
  | false =>
    rw [if_neg Bool.false_ne_true]
    exact Fin.at h1 e1 ⟨R1, rfl⟩
theorem tt_or (ha : PT X a (TTof c W ta)) (hb : PW X (.BoolOp .Or (b :: rest) pos) (TTof c W tb)) : PW X (.BoolOp .Or (a :: b :: rest) pos) (TTof c W (tOr ta tb)) := by
  refine ⟨fun wh pins s σ H Q I h => (pw_or ha hb).run wh pins s σ H Q I ?_⟩
  obtain ⟨T, ε, R, h⟩ := h
  refine ⟨T, ε, R, (Fin.bind h).mono fun k H1 ⟨k', ε1, e1, ⟨R1, ek⟩, h1⟩ => ?_⟩
  subst ek
  cases k' with
  | false =>
    rw [if_neg Bool.false_ne_true]
    exact ⟨T, ε1, R1, h1.from e1⟩
  | true =>
    rw [if_pos rfl]
    exact Fin.at h1 e1 ⟨R1, rfl⟩
theorem te_if {t : Expr} (ht : PT X t (TTof c W ta)) (ha : PE X a (TEof c W da)) (hb : PE X b (TEof c W db)) : PE X (.IfExp t a b pos) (TEof c W (cIf ta da db)) := by
  refine ⟨fun pins s σ H Q I h => (pe_ifExp ht ha hb).run pins s σ H Q I ?_⟩
  obtain ⟨T, ε, R, h⟩ := h
  refine ⟨T, ε, R, (Fin.bind h).mono fun k H1 ⟨k', ε1, e1, ⟨R1, ek⟩, h1⟩ => ?_⟩
  subst ek
  cases k' with
  | true =>
    rw [if_pos rfl]
    exact ⟨T, ε1, R1, h1.fromV e1⟩
  | false =>
    rw [if_neg Bool.false_ne_true]
    exact ⟨T, ε1, R1, h1.fromV e1⟩
/-- a result, read -/
theorem ResR.bRep {T : List Addr} {ε : Ev} {σ : L2.St} {H : Hp} {r : Val} {x : V} (h : ResR c T ε σ H r x) : BRep c T ε σ H x r.pv := .inl h.val.2
theorem te_orT (hK : c.K = X.K) (ha : PE X a (TEof c W da)) (hb : PE X (.BoolOp .Or (b :: rest) pos) (TEof c W db)) : PE X (.BoolOp .Or (a :: b :: rest) pos) (TEof c W (cOrT da db)) := by
  refine ⟨fun pins s σ H Q I h => (pe_orT ha hb).run pins s σ H Q I ?_⟩
  obtain ⟨T, ε, R, h⟩ := h
  refine ⟨T, ε, R, (Fin.bind h).mono fun x H1 ⟨r, ε1, e1, ⟨r1, n1⟩, h1⟩ => ?_⟩
  cases k1 : truth r.pv with
  | none => rw [k1] at h1; exact h1.elim
  | some k =>
    rw [k1] at h1
    refine ⟨k, truth_is hK r1.bRep k1, ?_⟩
    cases k with
    | true => exact Fin.at h1 e1 ⟨r1, n1⟩
    | false => exact ⟨T, ε1, r1.val.1, Fin.fromV e1 h1⟩
theorem te_andT (hK : c.K = X.K) (ha : PE X a (TEof c W da)) (hb : PE X (.BoolOp .And (b :: rest) pos) (TEof c W db)) : PE X (.BoolOp .And (a :: b :: rest) pos) (TEof c W (cAndT da db)) := by
  refine ⟨fun pins s σ H Q I h => (pe_andT ha hb).run pins s σ H Q I ?_⟩
  obtain ⟨T, ε, R, h⟩ := h
  refine ⟨T, ε, R, (Fin.bind h).mono fun x H1 ⟨r, ε1, e1, ⟨r1, n1⟩, h1⟩ => ?_⟩
  cases k1 : truth r.pv with
  | none => rw [k1] at h1; exact h1.elim
  | some k =>
    rw [k1] at h1
    refine ⟨k, truth_is hK r1.bRep k1, ?_⟩
    cases k with
    | false => exact Fin.at h1 e1 ⟨r1, n1⟩
    | true => exact ⟨T, ε1, r1.val.1, Fin.fromV e1 h1⟩
/-- not x, as a value of a test -/
theorem te_not (ha : PE X a (TEof c W (cOfT ta))) : PE X (.UnaryOp .Not a pos) (TEof c W (cOfT (tNot ta))) := by
  refine ⟨fun pins s σ H Q I h => (pe_not ha).run pins s σ H Q I ?_⟩
  obtain ⟨T, ε, R, h⟩ := h
  refine ⟨T, ε, R, ?_⟩
  have h2 := (Fin.bind (Ra := RlB c σ) h)
  unfold cOfT
  cases o : ta ε with
  | stk => unfold cOfT tNot at h; rw [o] at h; exact h.elim
  | exc n p ε' => unfold cOfT tNot at h; rw [o] at h; exact h
  | ok k ε' =>
    unfold cOfT tNot at h; rw [o] at h
    intro x H' e' r'
    obtain ⟨⟨R', r'⟩, _⟩ := r'
    cases r'
    exact ⟨k, rfl, Fin.at (a := Val.v (.bl (!k))) h e' ⟨⟨R', .bl _⟩, trivial⟩⟩
end
end EV


set_option Elab.async false
set_option linter.all false
set_option maxRecDepth 100000
set_option maxHeartbeats 4000000
/-! EvE: argument lists, displays, subscripts, built-ins, calls, lists of one's own. -/
namespace EV
open PySem PySem.Spec PyProof.Rows L2

/-! ### a new list of one's own -/
section
variable {c : Fix} {T : List Addr} {ε : Ev} {σ : L2.St} {H H' : Hp}
theorem SR.grow (R : SR c T ε σ H) (k : ∀ b o, H b = some o → H' b = some o) {a : Addr} {xs : List V} (n : H a = none) (h : H' a = some (.lst xs)) : a ∉ T ∧ c.H0 a = none ∧ SR c (a :: T) ε σ H' := by
  have nT : a ∉ T := fun z => by
    obtain ⟨⟨ys, e⟩, _⟩ := R.tmp a z
    rw [n] at e; cases e
  have n0 := R.fresh0 n
  have hA : ∀ b, c.A (a :: T) ε σ b → c.A T ε σ b ∨ H b = none := fun b q => by
    rcases q with q | q | q
    · exact .inl (.inl q)
    · exact .inl (.inr (.inl q))
    · rcases List.mem_cons.mp q with e | q
      · exact .inr (e ▸ n)
      · exact .inl (.inr (.inr q))
  refine ⟨nT, n0, R.len, fun i p e => ?_, fun i l ps e => ?_, R.inj, fun b hb => ?_, fun b o e q => k b o (R.fr b o e q), fun b hb => ?_⟩
  · obtain ⟨v, s, r⟩ := R.val i p e
    exact ⟨v, s, r.mono hA fun b o e _ => k b o e⟩
  · obtain ⟨b, ys, s, hb, r, nb, f⟩ := R.own i l ps e
    refine ⟨b, ys, s, k _ _ hb, r.mono hA fun b o e _ => k b o e, fun z => ?_, f⟩
    rcases List.mem_cons.mp z with e | z
    · rw [e, n] at hb; cases hb
    · exact nb z
  · rcases List.mem_cons.mp hb with e | hb
    · rw [e]; exact ⟨⟨xs, h⟩, .inl n0⟩
    · obtain ⟨⟨ys, e⟩, z⟩ := R.tmp b hb
      exact ⟨⟨ys, k _ _ e⟩, z⟩
  · cases e : H b with
    | none => exact absurd e (R.s0 b hb)
    | some o => rw [k b o e]; exact fun z => nomatch z
theorem Reps.grow {vs : List V} {ps : List PV} (r : Reps c.K c.G (c.A T ε σ) H vs ps) (k : ∀ b o, H b = some o → H' b = some o) {a : Addr} (n : H a = none) : Reps c.K c.G (c.A (a :: T) ε σ) H' vs ps :=
  r.mono (fun b q => by
    rcases q with q | q | q
    · exact .inl (.inl q)
    · exact .inl (.inr (.inl q))
    · rcases List.mem_cons.mp q with e | q
      · exact .inr (e ▸ n)
      · exact .inl (.inr (.inr q))) fun b o e _ => k b o e
/-- a new list is a result -/
theorem ResR.newList (R : SR c T ε σ H) {p : Addr} {xs : List V} {ps : List PV} (n : H p = none) (r : Reps c.K c.G (c.A T ε σ) H xs ps) : ResR c T ε σ (L2.upd H p (.lst xs)) (.f ps) (.ref p) := by
  obtain ⟨h1, h2, h3⟩ := R.grow (keep_upd n) n (H' := L2.upd H p (.lst xs)) upd_same
  exact ⟨p, xs, rfl, h1, h2, h3, upd_same, r.grow (keep_upd n) n⟩
/-- a new tuple -/
theorem ResR.newTup (R : SR c T ε σ H) {p : Addr} {xs : List V} {ps : List PV} (n : H p = none) (r : Reps c.K c.G (c.A T ε σ) H xs ps) : ResR c T ε σ (L2.upd H p (.tup xs)) (.v (.tup ps)) (.ref p) := by
  refine ⟨R.upd n, .tup (R.freshA n) upd_same (r.mono (fun _ h => .inl h) fun b o e _ => keep_upd n b o e)⟩
end

/-! ### argument lists -/
section
variable {X : Cx} {c : Fix} {W : WX} {e : Expr} {es : List Expr} {d : Den} {b : BDen} {as : ADen} {bs : BADen} {pos : Pos}
theorem ta_nil : PA X [] (TAof c W aNil) := by
  refine ⟨fun pos pins s σ H Q I h => pa_nil.run pos pins s σ H Q I ?_⟩
  obtain ⟨T, ε, R, h⟩ := h
  exact Fin.at h .refl ⟨R, .nil⟩
theorem ta_cons (ha : PE X e (TEof c W d)) (hr : PA X es (TAof c W as)) (hs : starEach (e :: es) X.env = (false, eval e X.env) :: starEach es X.env) : PA X (e :: es) (TAof c W (aCons d as)) := by
  refine ⟨fun pos pins s σ H Q I h => (pa_cons ha hr hs).run pos pins s σ H Q I ?_⟩
  obtain ⟨T, ε, R, h⟩ := h
  refine ⟨T, ε, R, (Fin.bind h).mono fun x H1 ⟨r, ε1, e1, ⟨r1, _⟩, h1⟩ => ?_⟩
  refine ⟨T, ε1, r1.val.1, (Fin.bind (h1.from e1)).mono fun xs H2 ⟨ps, ε2, e2, ⟨R2, r2⟩, h2⟩ => ?_⟩
  exact Fin.at h2 e2 ⟨R2, .cons (r1.val.2.et e2) r2⟩
theorem tba_nil : PA X [] (TBAof c W bNil) := by
  refine ⟨fun pos pins s σ H Q I h => pa_nil.run pos pins s σ H Q I ?_⟩
  obtain ⟨T, ε, R, h⟩ := h
  exact Fin.at h .refl ⟨R, .nil⟩
theorem tba_cons (ha : PE X e (TBof c W b)) (hr : PA X es (TBAof c W bs)) (hs : starEach (e :: es) X.env = (false, eval e X.env) :: starEach es X.env) : PA X (e :: es) (TBAof c W (bCons b bs)) := by
  refine ⟨fun pos pins s σ H Q I h => (pa_cons ha hr hs).run pos pins s σ H Q I ?_⟩
  obtain ⟨T, ε, R, h⟩ := h
  refine ⟨T, ε, R, (Fin.bind h).mono fun x H1 ⟨r, ε1, e1, ⟨R1, r1⟩, h1⟩ => ?_⟩
  refine ⟨T, ε1, R1, (Fin.bind (h1.from e1)).mono fun xs H2 ⟨ps, ε2, e2, ⟨R2, r2⟩, h2⟩ => ?_⟩
  exact Fin.at h2 e2 ⟨R2, .cons (r1.et e2) r2⟩
/-- so many arguments at the most -/
def Few (as : ADen) : Prop := ∀ ε ps ε', as ε = .ok ps ε' → ps.length ≤ 1000
theorem te_tup {k : Nat} (ha : PA X es (TAof c W as)) (hf : Few as) : PE X (.Tuple es k pos) (TEof c W (cTup as)) := by
  refine ⟨fun pins s σ H Q I h => (pe_tup ha).run pins s σ H Q I ?_⟩
  obtain ⟨T, ε, R, h⟩ := h
  refine ⟨T, ε, R, ?_⟩
  have h' := Fin.bind (Ra := RlA c σ) h
  cases o : as ε with
  | stk => rw [o] at h'; exact h'
  | exc n p ε' => rw [o] at h'; exact h'
  | ok ps ε1 =>
    rw [o] at h'
    intro xs H1 e1 r1
    obtain ⟨ps', ε1', e1', ⟨R1, r1'⟩, h1⟩ := h' xs H1 e1 r1
    have hz : xs.length ≤ sizeLine := by
      rw [r1.2.length]
      exact Nat.le_trans (hf _ _ _ o) (by rw [sizeLine_eq]; decide)
    exact ⟨hz, fun p hp => Fin.at h1 (e1'.trans (ε1 := ε1') (.upd hp)) ⟨ResR.newTup R1 hp r1', trivial⟩⟩
theorem te_lst (ha : PA X es (TAof c W as)) (hf : Few as) : PE X (.List es pos) (TEof c W (cLst as)) := by
  refine ⟨fun pins s σ H Q I h => (pe_lst ha).run pins s σ H Q I ?_⟩
  obtain ⟨T, ε, R, h⟩ := h
  refine ⟨T, ε, R, ?_⟩
  have h' := Fin.bind (Ra := RlA c σ) h
  cases o : as ε with
  | stk => rw [o] at h'; exact h'
  | exc n p ε' => rw [o] at h'; exact h'
  | ok ps ε1 =>
    rw [o] at h'
    intro xs H1 e1 r1
    obtain ⟨ps', ε1', e1', ⟨R1, r1'⟩, h1⟩ := h' xs H1 e1 r1
    have hz : xs.length ≤ sizeLine := by
      rw [r1.2.length]
      exact Nat.le_trans (hf _ _ _ o) (by rw [sizeLine_eq]; decide)
    exact ⟨hz, fun p hp => Fin.at h1 (e1'.trans (ε1 := ε1') (.upd hp)) ⟨ResR.newList R1 hp r1', fun b eb => by cases eb; exact e1'.there _ hp⟩⟩
end

/-! ### built-in functions -/
abbrev BReps (c : Fix) (T : List Addr) (ε : Ev) (σ : L2.St) (H : Hp) : List V → List PV → Prop := Paired fun x p => BRep c T ε σ H x p
theorem ToksR.read {c : Fix} {T : List Addr} {ε : Ev} {σ : L2.St} {H : Hp} (R : SR c T ε σ H) : ∀ {ts : List Tok} {xs : List V} {ps : List PV}, ToksR c T ε σ H ts xs → resolves ε ts = some ps → BReps c T ε σ H xs ps
  | _, _, ps, .nil, h => by cases h; exact .nil
  | t :: ts, _, ps, .cons r q, h => by
    unfold resolves at h
    cases e1 : resolve ε t with
    | none => rw [e1] at h; cases h
    | some p =>
      cases e2 : resolves ε ts with
      | none => rw [e1, e2] at h; cases h
      | some qs =>
        rw [e1, e2] at h
        cases h
        exact .cons (r.read R e1) (ToksR.read R q e2)
def SB (X : Cx) (c : Fix) (f : List PV → Option Val) (r : List V → Hp → VK → Prop) : Prop := ∀ (T : List Addr) (ε : Ev) (σ : L2.St) (H : Hp) (xs : List V) (ps : List PV) (res : Val) (Q : VK),
  SR c T ε σ H → BReps c T ε σ H xs ps → f ps = some res → (∀ z H', ET σ ε ε H H' → RlV c σ H T ε H' res z → Q z H') → r xs H Q
section
variable {X : Cx} {c : Fix} {W : WX} {e : Expr} {es : List Expr} {bs : BADen} {x : Str} {p pos : Pos} {id Ty : String} {f : List PV → Option Val} {r : List V → Hp → VK → Prop}
theorem rd_blt (hf : SB X c f r) {σ : L2.St} {H : Hp} {Q : VK} (h : TEof c W (cBlt f bs) σ H Q) : tCB r (TBAof c W bs) σ H Q := by
  obtain ⟨T, ε, R, h⟩ := h
  refine ⟨T, ε, R, (Fin.bind h).mono fun xs H1 ⟨ts, ε1, e1, ⟨R1, r1⟩, h1⟩ => ?_⟩
  cases p1 : resolves ε1 ts with
  | none => rw [p1] at h1; exact h1.elim
  | some ps =>
    rw [p1] at h1
    dsimp only at h1
    cases fr : f ps with
    | none => rw [fr] at h1; exact h1.elim
    | some res =>
      rw [fr] at h1
      exact hf T ε1 σ H1 xs ps res Q R1 (r1.read R1 p1) fr fun z H' e' r' => Fin.at h1 (e1.trans (ε1 := ε1) e') ⟨r'.1, r'.2.back e1.there⟩
theorem te_blt (hc : CallR X (.builtin id) r) (hf : SB X c f r) (hg : Gl X x) (hm : X.mg x = none) (hv : bootBuiltins x = some (.builtin id)) (ha : PA X (e :: es) (TBAof c W bs)) (hn : x ≠ "__name__") (hdb : (x == ("__debug__" : Str)) = false)
    (he : starEach (e :: es) X.env = (false, eval e X.env) :: starEach es X.env) (hpl : (backTo pos (starEach es X.env)).any (·.1) = false) : PE X (.Call (.Name x p) (e :: es) [] pos) (TEof c W (cBlt f bs)) :=
  ⟨fun pins s σ H Q I h => (pe_callB hc hg hm hv ha hn hdb he hpl).run pins s σ H Q I (rd_blt hf h)⟩
theorem te_bltT (hc : CallR X (.type Ty) r) (hf : SB X c f r) (hg : Gl X x) (hm : X.mg x = none) (hv : bootBuiltins x = some (.type Ty)) (ha : PA X (e :: es) (TBAof c W bs)) (hn : x ≠ "__name__") (hdb : (x == ("__debug__" : Str)) = false)
    (he : starEach (e :: es) X.env = (false, eval e X.env) :: starEach es X.env) (hpl : (backTo pos (starEach es X.env)).any (·.1) = false) : PE X (.Call (.Name x p) (e :: es) [] pos) (TEof c W (cBlt f bs)) :=
  ⟨fun pins s σ H Q I h => (pe_callTy hc hg hm hv ha hn hdb he hpl).run pins s σ H Q I (rd_blt hf h)⟩
end

/-! ### subscripts, slices -/
section
variable {X : Cx} {c : Fix} {W : WX} {a b : Expr} {da db : BDen} {pos p2 : Pos} {f : PV → PV → Option Val} {r : R2}
theorem te_ix (hr : IxR X r) (hf : S2 X c f r) (ha : PE X a (TBof c W da)) (hb : PE X b (TBof c W db)) (hs : PlainIx b) : PE X (.Subscript a b pos) (TEof c W (cOp2 f da db)) :=
  ⟨fun pins s σ H Q I h => (pe_ix hr ha hb hs).run pins s σ H Q I (rd_op2 hf h)⟩
theorem tp_none : PO X none (TPof c W pNone) := by
  refine ⟨fun pins s σ H Q I h => po_none.run pins s σ H Q I ?_⟩
  obtain ⟨T, ε, R, h⟩ := h
  exact Fin.at h .refl ⟨R, rfl⟩
theorem tp_some (ha : PE X a (TBof c W da)) : PO X (some a) (TPof c W (pSome da)) := by
  refine ⟨fun pins s σ H Q I h => (po_some ha).run pins s σ H Q I ?_⟩
  obtain ⟨T, ε, R, h⟩ := h
  refine ⟨T, ε, R, (Fin.bind h).mono fun x H1 ⟨t, ε1, e1, ⟨R1, r1⟩, h1⟩ => ?_⟩
  cases p1 : resolve ε1 t with
  | none => rw [p1] at h1; exact h1.elim
  | some p =>
    rw [p1] at h1
    cases p with
    | int i =>
      have e := (r1.read R1 p1).int
      subst e
      exact ⟨i, rfl, Fin.at h1 e1 ⟨R1, rfl⟩⟩
    | _ => exact h1.elim
def SSl (X : Cx) (c : Fix) (f : PV → Option Int → Option Int → Option Val) (r : V → Option Int → Option Int → Hp → VK → Prop) : Prop := ∀ (T : List Addr) (ε : Ev) (σ : L2.St) (H : Hp) (x : V) (p : PV) (l h : Option Int) (res : Val) (Q : VK),
  SR c T ε σ H → BRep c T ε σ H x p → f p l h = some res → (∀ z H', ET σ ε ε H H' → RlV c σ H T ε H' res z → Q z H') → r x l h H Q
theorem te_sl {f : PV → Option Int → Option Int → Option Val} {r : V → Option Int → Option Int → Hp → VK → Prop} {lo hi : Option Expr} {dl dh : PDen} (hr : SlR X r) (hf : SSl X c f r) (ha : PE X a (TBof c W da)) (hl : PO X lo (TPof c W dl)) (hh : PO X hi (TPof c W dh)) :
    PE X (.Subscript a (.Slice lo hi none p2) pos) (TEof c W (cSl f da dl dh)) := by
  refine ⟨fun pins s σ H Q I h => (pe_slice hr ha hl hh).run pins s σ H Q I ?_⟩
  obtain ⟨T, ε, R, h⟩ := h
  refine ⟨T, ε, R, (Fin.bind h).mono fun x H1 ⟨t, ε1, e1, ⟨R1, r1⟩, h1⟩ => ?_⟩
  refine ⟨T, ε1, R1, (Fin.bind (h1.from e1)).mono fun l H2 ⟨l', ε2, e2, ⟨R2, el⟩, h2⟩ => ?_⟩
  have h2' := h2
  subst el
  refine ⟨T, ε2, R2, (Fin.bind (Fin.from e2 h2)).mono fun u H3 ⟨u', ε3, e3, ⟨R3, eu⟩, h3⟩ => ?_⟩
  subst eu
  cases p1 : resolve ε3 t with
  | none => rw [p1] at h3; exact h3.elim
  | some p =>
    rw [p1] at h3
    dsimp only at h3
    cases fr : f p l' u' with
    | none => rw [fr] at h3; exact h3.elim
    | some res =>
      rw [fr] at h3
      exact hf T ε3 σ H3 x p l' u' res Q R3 (((r1.et e2).et e3).read R3 p1) fr fun z H' e' r' => Fin.at h3 (e3.trans (ε1 := ε3) e') ⟨r'.1, r'.2.back ((e1.trans e2).trans e3).there⟩
end

/-! ### lists of one's own -/
section
variable {c : Fix} {T : List Addr} {ε : Ev} {σ : L2.St} {H H' : Hp} {j : Nat}
/-- a list of one's own is changed, by whoever it is -/
theorem SR.changed (R : SR c T ε σ H) {io : Bool} {ps qs : List PV} {ys : List V} (e : ε[j]? = some (.own io ps)) {a : Addr} (s : σ[j]? = some (some (.ref a))) (hk : ∀ b o, H b = some o → b ≠ a → H' b = some o) (ha : H' a = some (.lst ys))
    (r : Reps c.K c.G (c.A T ε σ) H' ys qs) : SR c T (ε.set j (.own io qs)) σ H' ∧ (∀ b, OwnAt (ε.set j (.own io qs)) σ b → OwnAt ε σ b) := by
  obtain ⟨a', xs', s', h', _, n, f⟩ := R.own j io ps e
  rw [s] at s'; cases s'
  have hO : ∀ b, OwnAt (ε.set j (.own io qs)) σ b → OwnAt ε σ b := fun b h => by
    obtain ⟨i, k, rs, e1, s1⟩ := h
    rcases get_set e1 with ⟨rfl, _⟩ | ⟨_, q⟩
    · exact ⟨i, io, ps, e, s1⟩
    · exact ⟨i, k, rs, q, s1⟩
  have hA : ∀ b, c.A T (ε.set j (.own io qs)) σ b → c.A T ε σ b := fun b h => h.imp id fun h => h.imp (hO b) id
  have own : c.A T ε σ a := .inr (.inl ⟨j, io, ps, e, s⟩)
  have hk' : ∀ b o, H b = some o → ¬ c.A T ε σ b → H' b = some o := fun b o hb nb => hk b o hb fun z => nb (by rw [z]; exact own)
  refine ⟨⟨by rw [List.length_set]; exact R.len, fun i q e' => ?_, fun i l rs e' => ?_, fun i k l1 l2 ps1 qs1 b e1 e2 s1 s2 => ?_, fun b hb => ?_, fun b o hb nb => ?_, fun b hb => ?_⟩, hO⟩
  · rcases get_set e' with ⟨_, q⟩ | ⟨ne, q⟩
    · cases q
    · obtain ⟨w, s, r'⟩ := R.val i _ q
      exact ⟨w, s, r'.mono (fun b h => .inl (hA b h)) hk'⟩
  · rcases get_set e' with ⟨rfl, q⟩ | ⟨ne, q⟩
    · cases q
      exact ⟨a, ys, s, ha, r.mono (fun b h => .inl (hA b h)) fun b o e _ => e, n, f⟩
    · obtain ⟨b, xs, s1, h, r', n', f'⟩ := R.own i _ _ q
      have nb : b ≠ a := fun z => ne (R.inj i j _ _ _ _ a q e (by rw [← z]; exact s1) s)
      exact ⟨b, xs, s1, hk _ _ h nb, r'.mono (fun b h => .inl (hA b h)) hk', n', f'⟩
  · have g1 : ∃ l rs, ε[i]? = some (Slot.own l rs) := by
      rcases get_set e1 with ⟨rfl, _⟩ | ⟨_, q⟩
      · exact ⟨_, _, e⟩
      · exact ⟨_, _, q⟩
    have g2 : ∃ l rs, ε[k]? = some (Slot.own l rs) := by
      rcases get_set e2 with ⟨rfl, _⟩ | ⟨_, q⟩
      · exact ⟨_, _, e⟩
      · exact ⟨_, _, q⟩
    obtain ⟨_, _, g1⟩ := g1
    obtain ⟨_, _, g2⟩ := g2
    exact R.inj i k _ _ _ _ b g1 g2 s1 s2
  · obtain ⟨⟨xs, hx⟩, z⟩ := R.tmp b hb
    exact ⟨⟨xs, hk _ _ hx fun z => n (by rw [← z]; exact hb)⟩, z⟩
  · have nba : b ≠ a := fun z => by
      subst z
      rcases f with ⟨_, f⟩ | ⟨_, f⟩
      · rw [hb] at f; cases f
      · exact nb f
    exact hk _ _ (R.fr b o hb nb) nba
  · by_cases z : b = a
    · subst z; rw [ha]; exact fun z => nomatch z
    · cases e : H b with
      | none => exact absurd e (R.s0 b hb)
      | some o => rw [hk b o e z]; exact fun z => nomatch z
end
section
variable {X : Cx} {c : Fix} {W : WX} {o e : Expr} {es : List Expr} {j : Nat} {d : Den} {b : BDen} {apos cpos : Pos}
theorem there_upd {H : Hp} {a : Addr} {o u : HO} (h : H a = some o) : ∀ b, L2.upd H a u b = none → H b = none := fun b q => by
  by_cases e : b = a
  · rw [e, upd_same] at q; cases q
  · rw [upd_ne e] at q; exact q
theorem tyL {K : PySem.W.Frag} {H : Hp} {a : Addr} {xs : List V} (h : H a = some (.lst xs)) : tyV K "list" (.ref a) H := .inl ⟨rfl, _, SqL.of h⟩
theorem te_pop (ho : PE X o (tVar j)) (hbase : attributeBase o "pop" X.env (eval o X.env) = eval o X.env) (hline : (apos.endLine == cpos.line) = true) : PE X (.Call (.Attribute o "pop" apos) [] [] cpos) (TEof c W (cPop j)) := by
  refine ⟨fun pins s σ H Q I h => (pe_bm0 PySem.F.plainAttrs_list PySem.F.slot_list_pop PySem.F.type_list_pop mt_pop ho hbase hline).run pins s σ H Q I ?_⟩
  obtain ⟨T, ε, R, h⟩ := h
  unfold cPop at h
  cases e1 : ε[j]? with
  | none => rw [e1] at h; exact h.elim
  | some sl =>
    rw [e1] at h
    cases sl with
    | emp => exact h.elim
    | val p => exact h.elim
    | own k ps =>
      dsimp only at h
      obtain ⟨a, xs, sv, ha, r, n, f⟩ := R.own j k ps e1
      cases e2 : ps[ps.length - 1]? with
      | none => rw [e2] at h; exact h.elim
      | some p =>
        rw [e2] at h
        obtain ⟨y, hy, ry⟩ := r.get e2
        obtain ⟨R', hO⟩ := R.change e1 sv r.dropLast
        refine ⟨_, sv, tyL ha, a, xs, y, rfl, rfl, ha, by rw [r.length]; exact hy, ?_⟩
        refine Fin.at h ⟨fun b o hb nb => ?_, there_upd ha, hO⟩ ⟨⟨R', ?_⟩, trivial⟩
        · rw [upd_ne (fun z => nb (by rw [z]; exact ⟨j, k, ps, e1, sv⟩))]; exact hb
        · refine ry.mono (fun b q => .inl (q.imp id fun q => q.imp (hO b) id)) fun b o hb nb => ?_
          rw [upd_ne (fun z => nb (by rw [z]; exact .inr (.inl ⟨j, k, ps, e1, sv⟩)))]; exact hb
theorem own_start {T : List Addr} {ε : Ev} {σ : L2.St} {H : Hp} {α χ : Type} {Ra : List Addr → Ev → Hp → α → χ → Prop} {Q : χ → Hp → Prop} {d : Ev → Out α} (R : SR c T ε σ H) (h : Fin Ra c W T ε σ H (onOwn j d ε) Q) :
    ∃ a xs, σ[j]? = some (some (.ref a)) ∧ H a = some (.lst xs) ∧ Fin Ra c W T ε σ H (d ε) Q := by
  unfold onOwn at h
  cases e1 : ε[j]? with
  | none => rw [e1] at h; exact h.elim
  | some sl =>
    rw [e1] at h
    cases sl with
    | emp => exact h.elim
    | val p => exact h.elim
    | own k ps =>
      obtain ⟨a, xs, sv, ha, _⟩ := R.own j k ps e1
      exact ⟨a, xs, sv, ha, h⟩
theorem te_append (ho : PE X o (tVar j)) (hd : PE X e (TEof c W d)) (hbase : attributeBase o "append" X.env (eval o X.env) = eval o X.env) (hline : (apos.endLine == cpos.line) = true)
    (hs : starEach [e] X.env = (false, eval e X.env) :: starEach [] X.env)
    (hfew : ((backTo cpos (starEach [e] X.env)).all (fun x => !x.1) && (backToKw cpos (keywordEach [] X.env)).all (fun x => x.1.isSome)
      && decide ([e].length + ([] : List Keyword).length + (if ([] : List Keyword).isEmpty then 0 else 1) < 30)) = true) : PE X (.Call (.Attribute o "append" apos) [e] [] cpos) (TEof c W (cAppend j d)) := by
  refine ⟨fun pins s σ H Q I h => (pe_bm PySem.F.plainAttrs_list PySem.F.slot_list_append PySem.F.type_list_append mt_append ho (pa_cons hd pa_nil hs) hbase hfew hline hs rfl).run pins s σ H Q I ?_⟩
  obtain ⟨T, ε, R, h⟩ := h
  obtain ⟨a, xs, sv, ha, h⟩ := own_start R h
  refine ⟨_, sv, tyL ha, T, ε, R, (Fin.bind h).mono fun x H1 ⟨r, ε1, e1, ⟨r1, _⟩, h1⟩ => ?_⟩
  cases e2 : ε1[j]? with
  | none => rw [e2] at h1; exact h1.elim
  | some sl =>
    rw [e2] at h1
    cases sl with
    | emp => exact h1.elim
    | val p => exact h1.elim
    | own k ps =>
      dsimp only at h1
      by_cases hz : ps.length < sizeLine
      · rw [if_pos hz] at h1
        obtain ⟨R1, rx⟩ := r1.val
        obtain ⟨a', ys, sv', ha', ry, _⟩ := R1.own j k ps e2
        rw [sv] at sv'; cases sv'
        obtain ⟨R', hO⟩ := R1.change e2 sv (ry.append (.cons rx .nil))
        refine ⟨a, ys, x, rfl, rfl, ha', by rw [ry.length]; exact hz, ?_⟩
        refine Fin.at h1 (e1.trans ⟨fun b o hb nb => ?_, there_upd ha', hO⟩) ⟨⟨R', .non⟩, trivial⟩
        rw [upd_ne (fun z => nb (by rw [z]; exact ⟨j, k, ps, e2, sv⟩))]; exact hb
      · rw [if_neg hz] at h1; exact h1.elim
theorem te_extend (ho : PE X o (tVar j)) (hd : PE X e (TBof c W b)) (hbase : attributeBase o "extend" X.env (eval o X.env) = eval o X.env) (hline : (apos.endLine == cpos.line) = true)
    (hs : starEach [e] X.env = (false, eval e X.env) :: starEach [] X.env)
    (hfew : ((backTo cpos (starEach [e] X.env)).all (fun x => !x.1) && (backToKw cpos (keywordEach [] X.env)).all (fun x => x.1.isSome)
      && decide ([e].length + ([] : List Keyword).length + (if ([] : List Keyword).isEmpty then 0 else 1) < 30)) = true) : PE X (.Call (.Attribute o "extend" apos) [e] [] cpos) (TEof c W (cExtend j b)) := by
  refine ⟨fun pins s σ H Q I h => (pe_bm PySem.F.plainAttrs_list PySem.F.slot_list_extend PySem.F.type_list_extend mt_extend ho (pa_cons hd pa_nil hs) hbase hfew hline hs rfl).run pins s σ H Q I ?_⟩
  obtain ⟨T, ε, R, h⟩ := h
  obtain ⟨a, xs, sv, ha, h⟩ := own_start R h
  refine ⟨_, sv, tyL ha, T, ε, R, (Fin.bind h).mono fun x H1 ⟨t, ε1, e1, ⟨R1, r1⟩, h1⟩ => ?_⟩
  cases e2 : ε1[j]? with
  | none => rw [e2] at h1; exact h1.elim
  | some sl =>
    rw [e2] at h1
    cases sl with
    | emp => exact h1.elim
    | val p => exact h1.elim
    | own k ps =>
      cases e3 : resolve ε1 t with
      | none => rw [e3] at h1; exact h1.elim
      | some p =>
        rw [e3] at h1
        cases p with
        | lst qs =>
          dsimp only at h1
          by_cases hz : ps.length + qs.length ≤ sizeLine
          · rw [if_pos hz] at h1
            obtain ⟨b, zs, ex, hb, rb⟩ := (r1.read R1 e3).lst
            subst ex
            obtain ⟨a', ys, sv', ha', ry, _⟩ := R1.own j k ps e2
            rw [sv] at sv'; cases sv'
            obtain ⟨R', hO⟩ := R1.change e2 sv (ry.append rb)
            refine ⟨a, b, ys, zs, rfl, rfl, ha', hb, by rw [ry.length, rb.length]; exact hz, ?_⟩
            refine Fin.at h1 (e1.trans ⟨fun b o hb nb => ?_, there_upd ha', hO⟩) ⟨⟨R', .non⟩, trivial⟩
            rw [upd_ne (fun z => nb (by rw [z]; exact ⟨j, k, ps, e2, sv⟩))]; exact hb
          · rw [if_neg hz] at h1; exact h1.elim
        | _ => exact h1.elim
theorem te_popAt (ho : PE X o (tVar j)) (hd : PE X e (TBof c W b)) (hbase : attributeBase o "pop" X.env (eval o X.env) = eval o X.env) (hline : (apos.endLine == cpos.line) = true)
    (hs : starEach [e] X.env = (false, eval e X.env) :: starEach [] X.env)
    (hfew : ((backTo cpos (starEach [e] X.env)).all (fun x => !x.1) && (backToKw cpos (keywordEach [] X.env)).all (fun x => x.1.isSome)
      && decide ([e].length + ([] : List Keyword).length + (if ([] : List Keyword).isEmpty then 0 else 1) < 30)) = true) : PE X (.Call (.Attribute o "pop" apos) [e] [] cpos) (TEof c W (cPopAt j b)) := by
  refine ⟨fun pins s σ H Q I h => (pe_bm PySem.F.plainAttrs_list PySem.F.slot_list_pop PySem.F.type_list_pop mt_popAt ho (pa_cons hd pa_nil hs) hbase hfew hline hs rfl).run pins s σ H Q I ?_⟩
  obtain ⟨T, ε, R, h⟩ := h
  obtain ⟨a, xs, sv, ha, h⟩ := own_start R h
  refine ⟨_, sv, tyL ha, T, ε, R, (Fin.bind h).mono fun x H1 ⟨t, ε1, e1, ⟨R1, r1⟩, h1⟩ => ?_⟩
  cases e2 : ε1[j]? with
  | none => rw [e2] at h1; exact h1.elim
  | some sl =>
    rw [e2] at h1
    cases sl with
    | emp => exact h1.elim
    | val p => exact h1.elim
    | own k ps =>
      cases e3 : resolve ε1 t with
      | none => rw [e3] at h1; exact h1.elim
      | some p =>
        rw [e3] at h1
        cases p with
        | int i =>
          dsimp only at h1
          by_cases hz : -(2 ^ 63) ≤ i ∧ i < 2 ^ 63
          · rw [if_pos hz] at h1
            have ex := (r1.read R1 e3).int
            subst ex
            obtain ⟨a', ys, sv', ha', ry, _⟩ := R1.own j k ps e2
            rw [sv] at sv'; cases sv'
            cases e4 : seqIndex? i ps.length with
            | none => rw [e4] at h1; exact h1.elim
            | some m =>
              rw [e4] at h1
              dsimp only at h1
              cases e5 : ps[m]? with
              | none => rw [e5] at h1; exact h1.elim
              | some p =>
                rw [e5] at h1
                obtain ⟨y, hy, rp⟩ := ry.get e5
                obtain ⟨R', hO⟩ := R1.change e2 sv (ry.eraseIdx m)
                refine ⟨a, ys, i, m, y, rfl, rfl, ha', hz.1, hz.2, by rw [ry.length]; exact e4, hy, ?_⟩
                refine Fin.at h1 (e1.trans ⟨fun b o hb nb => ?_, there_upd ha', hO⟩) ⟨⟨R', ?_⟩, trivial⟩
                · rw [upd_ne (fun z => nb (by rw [z]; exact ⟨j, k, ps, e2, sv⟩))]; exact hb
                · refine rp.mono (fun b q => .inl (q.imp id fun q => q.imp (hO b) id)) fun b o hb nb => ?_
                  rw [upd_ne (fun z => nb (by rw [z]; exact .inr (.inl ⟨j, k, ps, e2, sv⟩)))]; exact hb
          · rw [if_neg hz] at h1; exact h1.elim
        | _ => exact h1.elim
end
end EV


set_option Elab.async false
set_option linter.all false
set_option maxRecDepth 100000
set_option maxHeartbeats 4000000
/-! EvF: calls of the text's own defs. -/
namespace EV
open PySem PySem.Spec PyProof.Rows L2

/-- what one keeps off behind a call: a list that was handed back is new -/
def AR (A : Addr → Prop) (r : Val) (x : V) : Addr → Prop := fun b => A b ∨ match r with
  | .v _ => False
  | .f _ => x = .ref b
/-- how what a call hands back lies -/
def RetR (K : PySem.W.Frag) (G : Nat → Addr) (A : Addr → Prop) (H H' : Hp) (r : Val) (x : V) : Prop := match r with
  | .v p => Rep K G A H' x p
  | .f ps => ∃ a xs, x = .ref a ∧ H a = none ∧ H' a = some (.lst xs) ∧ Reps K G (AR A r x) H' xs ps
def XRA (K : PySem.W.Frag) (G : Nat → Addr) (A : Addr → Prop) (p : PV) (d : Option Addr) (H : Hp) : Prop := match p with
  | .non => d = none
  | p => ∃ dd v, d = some dd ∧ H dd = some (.xd [(lineN, v)]) ∧ Rep K G A H v p
/-- the promise of the n-th def -/
def spOf (K : PySem.W.Frag) (G : Nat → Addr) (Φ : CallT) (n np : Nat) (io : Bool) : Sp := fun vs H Q E => vs.length = np ∧ ∃ A : Addr → Prop, (∀ b, A b → H b ≠ none) ∧ match io with
  | false => ∃ ps, Reps K G A H vs ps ∧ (match Φ n none ps with
    | .ok r _ => ∀ x H', (∀ b o, H b = some o → H' b = some o) → RetR K G A H H' r x → Q x H'
    | .exc m p => ∀ d H', (∀ b o, H b = some o → H' b = some o) → XRA K G A p d H' → E (.ref (G m)) d H'
    | .stk => False)
  | true => ∃ a xs qs ws ps, vs = .ref a :: ws ∧ A a ∧ H a = some (.lst xs) ∧ Reps K G A H xs qs ∧ Reps K G A H ws ps ∧ (match Φ n (some qs) ps with
    | .ok r qs' => ∀ x H' ys, (∀ b o, H b = some o → b ≠ a → H' b = some o) → H' a = some (.lst ys) → Reps K G (AR A r x) H' ys qs' → RetR K G A H H' r x → Q x H'
    | _ => False)
/-- the n-th def may be called -/
structure CallOk (X : Cx) (c : Fix) (Φ : CallT) (k n : Nat) (ps : List Str) (io : Bool) : Prop where
  ex : ∃ fd, FnOk X.prog X.w X.K X.mg X.base (L2.CX X.prog X.w) k (c.G n) fd ps (spOf c.K c.G Φ n ps.length io) ∧ Binds X.K fd ps [] ∧
    ∀ (s : Shared) (ws : List Value), ws.length = ps.length → BindsTo s fd ⟨[], ps.zip ws⟩ (ps.zip ws)
  kp : PySem.W.keepIn X.K (.ref (c.G n)) = true

section
variable {c : Fix} {W : WX} {T : List Addr} {ε : Ev} {σ : L2.St} {H H' : Hp}
theorem XRA.xr {p : PV} {d : Option Addr} (h : XRA c.K c.G (c.A T ε σ) p d H) : XR c T ε σ p d H := by
  cases p <;> exact h
/-- behind a call that changes nothing of ours -/
theorem RetR.res {r : Val} {x : V} (R : SR c T ε σ H) (k : ∀ b o, H b = some o → H' b = some o) (h : RetR c.K c.G (c.A T ε σ) H H' r x) : ResR c T ε σ H' r x := by
  cases r with
  | v p => exact ⟨R.kept k, h⟩
  | f ps =>
    obtain ⟨a, xs, rfl, n, ha, rr⟩ := h
    obtain ⟨h1, h2, h3⟩ := R.grow k n ha
    refine ⟨a, xs, rfl, h1, h2, h3, ha, rr.mono (fun b q => .inl ?_) fun b o e _ => e⟩
    rcases q with q | q | q
    · exact .inl (.inl q)
    · exact .inl (.inr (.inl q))
    · rcases List.mem_cons.mp q with e | q
      · exact .inr (by rw [e])
      · exact .inl (.inr (.inr q))
theorem RetR.new {A : Addr → Prop} {r : Val} {x : V} (h : RetR c.K c.G A H H' r x) : New H r x := by
  cases r with
  | v p => exact trivial
  | f ps =>
    obtain ⟨a, xs, rfl, n, _⟩ := h
    exact fun b e => by cases e; exact n
theorem call_plain {Φ : CallT} {n np : Nat} {vs : List V} {ps : List PV} {Q : VK} (R : SR c T ε σ H) (hl : vs.length = np) (r : Reps c.K c.G (c.A T ε σ) H vs ps)
    (h : Fin (RlV c σ H) c W T ε σ H (match Φ n none ps with
      | .ok r _ => Out.ok r ε
      | .exc m p => .exc m p ε
      | .stk => .stk) Q) : spOf c.K c.G Φ n np false vs H Q (WE W σ) := by
  refine ⟨hl, c.A T ε σ, fun b q => R.ATracked q, ps, r, ?_⟩
  cases e : Φ n none ps with
  | ok r qs =>
    rw [e] at h
    exact fun x H' k hr => Fin.at h (.kept k) ⟨hr.res R k, hr.new⟩
  | exc m p =>
    rw [e] at h
    exact fun d H' k hx => h d H' (.kept k) (R.kept k) (XRA.xr (hx : XRA c.K c.G (c.A T ε σ) p d H'))
  | stk => rw [e] at h; exact h
theorem call_io {Φ : CallT} {n np j : Nat} {k : Bool} {ws : List V} {ps qs : List PV} {a : Addr} {Q : VK} (R : SR c T ε σ H) (hl : ws.length + 1 = np) (r : Reps c.K c.G (c.A T ε σ) H ws ps) (e1 : ε[j]? = some (.own k qs)) (sv : σ[j]? = some (some (.ref a)))
    (h : Fin (RlV c σ H) c W T ε σ H (match Φ n (some qs) ps with
      | .ok r qs' => Out.ok r (ε.set j (.own k qs'))
      | _ => .stk) Q) : spOf c.K c.G Φ n np true (.ref a :: ws) H Q (WE W σ) := by
  obtain ⟨a', xs, sv', ha, rx, nT, f⟩ := R.own j k qs e1
  rw [sv] at sv'; cases sv'
  have own : c.A T ε σ a := .inr (.inl ⟨j, k, qs, e1, sv⟩)
  refine ⟨by rw [List.length_cons]; exact hl, c.A T ε σ, fun b q => R.ATracked q, a, xs, qs, ws, ps, rfl, own, ha, rx, r, ?_⟩
  cases e : Φ n (some qs) ps with
  | ok r qs' =>
    rw [e] at h
    intro x H' ys hk ha' ry hr
    have ry' : Reps c.K c.G (c.A T ε σ) H' ys qs' := ry.mono (fun b q => .inl (.inl q)) fun b o e _ => e
    obtain ⟨R', hO⟩ := R.changed e1 sv hk ha' ry'
    have et : ET σ ε (ε.set j (.own k qs')) H H' := ⟨fun b o hb nb => hk b o hb fun z => nb (by rw [z]; exact ⟨j, k, qs, e1, sv⟩), fun b hb => (by
      cases z : H b with
      | none => rfl
      | some o =>
        by_cases q : b = a
        · rw [q, ha'] at hb; cases hb
        · rw [hk b o z q] at hb; cases hb), hO⟩
    have hA : ∀ b, c.A T (ε.set j (.own k qs')) σ b → c.A T ε σ b := fun b h => h.imp id fun h => h.imp (hO b) id
    refine Fin.at h et ⟨?_, hr.new⟩
    cases r with
    | v p => exact ⟨R', Rep.mono (fun b q => .inl (hA b q)) (fun b o e _ => e) (hr : Rep c.K c.G (c.A T ε σ) H' x p)⟩
    | f rs =>
      obtain ⟨b, zs, rfl, nb, hb, rr⟩ := hr
      have nbT : b ∉ T := fun z => by
        obtain ⟨⟨ys, e⟩, _⟩ := R.tmp b z
        rw [nb] at e; cases e
      have nb0 := R.fresh0 nb
      have nba : b ≠ a := fun z => by rw [z, ha] at nb; cases nb
      have hA2 : ∀ d, c.A (b :: T) (ε.set j (.own k qs')) σ d → AR (c.A T ε σ) (.f rs) (.ref b) d := fun d q => by
        rcases q with q | q | q
        · exact .inl (.inl q)
        · exact .inl (.inr (.inl (hO d q)))
        · rcases List.mem_cons.mp q with e | q
          · exact .inr (by rw [e])
          · exact .inl (.inr (.inr q))
      have hA3 : ∀ d, c.A (b :: T) (ε.set j (.own k qs')) σ d → c.A T ε σ d ∨ H d = none := fun d q => by
        rcases hA2 d q with q | q
        · exact .inl q
        · cases q; exact .inr nb
      have hk' : ∀ b o, H b = some o → ¬ c.A T ε σ b → H' b = some o := fun b o hb nb => hk b o hb fun z => nb (by rw [z]; exact own)
      refine ⟨b, zs, rfl, nbT, nb0, ⟨R'.len, fun i p e => ?_, fun i l ps e => ?_, R'.inj, fun d hd => ?_, R'.fr, R'.s0⟩, hb, rr.mono (fun d q => .inl (hA2 d q)) fun b o e _ => e⟩
      · rcases get_set e with ⟨_, q⟩ | ⟨ne, q⟩
        · cases q
        · obtain ⟨v, s, rv⟩ := R.val i p q
          exact ⟨v, s, rv.mono hA3 hk'⟩
      · rcases get_set e with ⟨rfl, q⟩ | ⟨ne, q⟩
        · cases q
          refine ⟨a, ys, sv, ha', ry.mono (fun d q => .inl (hA2 d q)) fun b o e _ => e, fun z => ?_, f⟩
          rcases List.mem_cons.mp z with e | z
          · exact nba e.symm
          · exact nT z
        · obtain ⟨d, xs, s1, hd, r', n', f'⟩ := R.own i l ps q
          have nd : d ≠ a := fun z => ne (R.inj i j _ _ _ _ a q e1 (by rw [← z]; exact s1) sv)
          refine ⟨d, xs, s1, hk _ _ hd nd, r'.mono hA3 hk', fun z => ?_, f'⟩
          rcases List.mem_cons.mp z with e | z
          · rw [e, nb] at hd; cases hd
          · exact n' z
      · rcases List.mem_cons.mp hd with e | hd
        · rw [e]; exact ⟨⟨zs, hb⟩, .inl nb0⟩
        · exact R'.tmp d hd
  | exc m p => rw [e] at h; exact h
  | stk => rw [e] at h; exact h
end

section
variable {X : Cx} {c : Fix} {W : WX} {Φ : CallT} {k n j i : Nat} {ps : List Str} {x : Str} {p pos np : Pos} {e o : Expr} {es : List Expr} {as : ADen} {kws : List Keyword}
/-- how many arguments -/
def Many (as : ADen) (m : Nat) : Prop := ∀ ε ps ε', as ε = .ok ps ε' → ps.length = m
theorem te_call (C : CallOk X c Φ k n ps false) (tk : Takes X W) (hr : Room k X.A) (hg : Gl X x) (hm : X.mg x = some (.ref (c.G n))) (ha : PA X (e :: es) (TAof c W as)) (hn : Many as ps.length) (hdb : (x == ("__debug__" : Str)) = false)
    (he : starEach (e :: es) X.env = (false, eval e X.env) :: starEach es X.env) (hpl : (backTo pos (starEach es X.env)).any (·.1) = false) : PE X (.Call (.Name x p) (e :: es) [] pos) (TEof c W (cCall Φ n as)) := by
  obtain ⟨fd, F, hb, _⟩ := C.ex
  refine ⟨fun pins s σ H Q I h => (pe_callS F hr hg hm C.kp hb (fun σ => passAt tk σ) ha hdb he hpl).run pins s σ H Q I ?_⟩
  obtain ⟨T, ε, R, h⟩ := h
  refine ⟨T, ε, R, ?_⟩
  have h' := Fin.bind (Ra := RlA c σ) h
  cases o : as ε with
  | stk => rw [o] at h'; exact h'
  | exc n p ε' => rw [o] at h'; exact h'
  | ok qs ε1 =>
    unfold cCall at h
    rw [o] at h
    intro vs H1 e1 r1
    exact call_plain r1.1 (by rw [r1.2.length]; exact hn _ _ _ o) r1.2 (Fin.fromV e1 h)
theorem te_call0 (C : CallOk X c Φ k n [] false) (tk : Takes X W) (hr : Room k X.A) (hg : Gl X x) (hm : X.mg x = some (.ref (c.G n))) (hdb : (x == ("__debug__" : Str)) = false) : PE X (.Call (.Name x p) [] [] pos) (TEof c W (cCall Φ n aNil)) := by
  obtain ⟨fd, F, hb, _⟩ := C.ex
  refine ⟨fun pins s σ H Q I h => ?_⟩
  refine wpAny_Call_Name_kw (ld_glob I hg hm ?_ hdb)
  obtain ⟨T, ε, R, h⟩ := h
  exact PySem.W.callWith_K0 I.kIn C.kp (run_fnS (us := []) (vs := []) (E := WE W) F hr hb (passAt tk σ) I .nil (call_plain R rfl .nil h))
/-- f(e, .., k = v, ..), every parameter written, the keywords in the parameters' order -/
theorem te_callK (C : CallOk X c Φ k n ps false) (tk : Takes X W) (hr : Room k X.A) (hg : Gl X x) (hm : X.mg x = some (.ref (c.G n))) (hdb : (x == ("__debug__" : Str)) = false) (ha : PK X kws (TAof c W as)) (hn : Many as ps.length)
    (hall : (backToKw pos (keywordEach kws X.env)).all (·.1.isSome) = true) (hks : (backToKw pos (keywordEach kws X.env)).filterMap (·.1) = ps)
    (hpl : ((backTo pos (starEach [] X.env)).any (·.1) || (backToKw pos (keywordEach kws X.env)).any (·.1.isNone)) = false) : PE X (.Call (.Name x p) [] kws pos) (TEof c W (cCall Φ n as)) := by
  obtain ⟨fd, F, hb, hk⟩ := C.ex
  refine ⟨fun pins s σ H Q I h => ?_⟩
  refine wpAny_Call_Name_kw (ld_glob I hg hm ?_ hdb)
  refine PySem.W.callWith_KW0 (h₀ := X.base) I.ok.mod.kin C.kp hall ?_ hpl
  obtain ⟨T, ε, R, h⟩ := h
  have h' := Fin.bind (Ra := RlA c σ) h
  have go : ∀ qs ε1, as ε = .ok qs ε1 → ∀ vs H1, ET σ ε ε1 H H1 → RlA c σ T ε1 H1 qs vs → spOf c.K c.G Φ n ps.length false vs H1 Q (WE W σ) := fun qs ε1 o vs H1 e1 r1 => by
    unfold cCall at h
    rw [o] at h
    exact call_plain r1.1 (by rw [r1.2.length]; exact hn _ _ _ o) r1.2 (Fin.fromV e1 h)
  have ht : TAof c W as σ H (fun vs H1 => spOf c.K c.G Φ n ps.length false vs H1 Q (WE W σ)) := by
    refine ⟨T, ε, R, ?_⟩
    cases o : as ε with
    | stk => rw [o] at h'; exact h'
    | exc n p ε' => rw [o] at h'; exact h'
    | ok qs ε1 => exact fun vs H1 e1 r1 => go qs ε1 o vs H1 e1 r1
  refine thn (ha.run pos pins s σ H _ I ht) fun ws s2 ⟨zs, H2, I2, rz, q2⟩ => ⟨I2.kIn, ?_⟩
  rw [hks]
  have hl : ws.length = ps.length := by rw [← rz.length]; exact q2.1
  have b := hk s2 ws hl
  show wpAny _ _ (call (.ref (c.G n)) [] (ps.zip ws)) _ _ s2
  refine wpAny_call (codeAny_mono (F.run X.A X.stack s2 H2 ⟨[], ps.zip ws⟩ ws zs Q (WE W σ) hr I2.env0 b rz q2) fun r s' hq => ?_)
  cases r with
  | error e => exact passAt tk σ pins H2 s2 e s' I2 hq
  | ok fl =>
    cases fl with
    | ret u => exact I2.after hq
    | next => exact False.elim hq
    | brk => exact False.elim hq
    | cont => exact False.elim hq
/-- f(l, e, ..), l a list of one's own that f may change -/
theorem te_callIO (C : CallOk X c Φ k n ps true) (tk : Takes X W) (hr : Room k X.A) (hg : Gl X x) (hm : X.mg x = some (.ref (c.G n))) (hj : PE X o (tVar j)) (ha : PA X es (TAof c W as)) (hn : Many as (ps.length - 1)) (hp : 0 < ps.length) (hdb : (x == ("__debug__" : Str)) = false)
    (he : starEach (o :: es) X.env = (false, eval o X.env) :: starEach es X.env) (hpl : (backTo pos (starEach es X.env)).any (·.1) = false) : PE X (.Call (.Name x p) (o :: es) [] pos) (TEof c W (onOwn j (cCallIO Φ n j as))) := by
  obtain ⟨fd, F, hb, _⟩ := C.ex
  refine ⟨fun pins s σ H Q I h => (pe_callS F hr hg hm C.kp hb (fun σ => passAt tk σ) (pa_cons hj ha he) hdb he hpl).run pins s σ H Q I ?_⟩
  obtain ⟨T, ε, R, h⟩ := h
  obtain ⟨a, xs, sv, ha, h⟩ := own_start R h
  refine ⟨_, sv, T, ε, R, ?_⟩
  have h' := Fin.bind (Ra := RlA c σ) h
  cases o : as ε with
  | stk => rw [o] at h'; exact h'
  | exc n p ε' => rw [o] at h'; exact h'
  | ok qs ε1 =>
    unfold cCallIO at h
    rw [o] at h
    intro vs H1 e1 r1
    have h : Fin (RlV c σ H) c W T ε σ H (match ε1[j]? with
      | some (.own k qs') => (match Φ n (some qs') qs with
        | .ok r qs'' => Out.ok r (ε1.set j (.own k qs''))
        | _ => .stk)
      | _ => .stk) Q := h
    cases e2 : ε1[j]? with
    | none => rw [e2] at h; exact h.elim
    | some sl =>
      rw [e2] at h
      cases sl with
      | emp => exact h.elim
      | val p => exact h.elim
      | own k rs => exact call_io r1.1 (by rw [r1.2.length, hn _ _ _ o]; omega) r1.2 e2 sv (Fin.fromV e1 h)
/-- a name's def is called -/
theorem te_callV {ok : Nat → Bool} (C : ∀ m, ok m = true → ∃ ps, CallOk X c Φ k m ps false ∧ Many as ps.length) (tk : Takes X W) (hr : Room k X.A) (hj : PE X (.Name x p) (tVar j)) (ha : PA X (e :: es) (TAof c W as))
    (he : starEach (e :: es) X.env = (false, eval e X.env) :: starEach es X.env) (hpl : (backTo pos (starEach es X.env)).any (·.1) = false) : PE X (.Call (.Name x p) (e :: es) [] pos) (TEof c W (cCallV Φ ok j as)) := by
  refine ⟨fun pins s σ H Q I h => ?_⟩
  obtain ⟨T, ε, R, h⟩ := h
  unfold cCallV at h
  cases e1 : ε[j]? with
  | none => rw [e1] at h; exact h.elim
  | some sl =>
    rw [e1] at h
    cases sl with
    | emp => exact h.elim
    | own k rs => exact h.elim
    | val q =>
      cases q with
      | gl m =>
        obtain ⟨v, sv, rv⟩ := R.val j _ e1
        cases rv
        have h : Fin (RlV c σ H) c W T ε σ H (match ok m with
          | true => cCall Φ m as ε
          | false => .stk) Q := h
        cases hok : ok m with
        | false => rw [hok] at h; exact h.elim
        | true =>
        rw [hok] at h
        have h : Fin (RlV c σ H) c W T ε σ H (cCall Φ m as ε) Q := h
        refine wpAny_Call_Name_kw (thn (hj.run pins s σ H (fun v H1 => v = .ref (c.G m) ∧ H1 = H) I ⟨_, sv, rfl, rfl⟩) fun u s1 ⟨v, H1, I1, r1, q1⟩ => ?_)
        obtain ⟨rfl, rfl⟩ := q1
        cases r1
        obtain ⟨ps, C, hn⟩ := C m hok
        obtain ⟨fd, F, hb, _⟩ := C.ex
        have ht : TAof c W as σ H1 (fun vs H2 => spOf c.K c.G Φ m ps.length false vs H2 Q (WE W σ)) := by
          refine ⟨T, ε, R, ?_⟩
          unfold cCall at h
          have h' := Fin.bind (Ra := RlA c σ) h
          cases o : as ε with
          | stk => rw [o] at h'; exact h'
          | exc n p ε' => rw [o] at h'; exact h'
          | ok qs ε1 =>
            rw [o] at h
            exact fun vs H1 e1 r1 => call_plain r1.1 (by rw [r1.2.length]; exact hn _ _ _ o) r1.2 (Fin.fromV e1 h)
        refine PySem.W.callWith_K (h₀ := X.base) I.ok.mod.kin C.kp (thn (ha.run pos pins s1 σ _ _ I1 ht) fun us s2 ⟨vs, H2, I2, r, q⟩ => ⟨I2.kIn, ?_⟩) he hpl
        exact run_fnS F hr hb (passAt tk σ) I2 r q
      | _ => exact h.elim
end
end EV


set_option Elab.async false
set_option linter.all false
set_option maxRecDepth 100000
set_option maxHeartbeats 4000000
/-! EvG: statements. -/
namespace EV
open PySem PySem.Spec PyProof.Rows L2

/-- how what is returned lies -/
def RtR (c : Fix) (ε : Ev) (σ : L2.St) (H : Hp) (r : Val) (x : V) : Prop := match r with
  | .v p => SR c [] ε σ H ∧ Rep c.K c.G (c.A [] ε σ) H x p
  | .f ps => ∃ a xs, x = .ref a ∧ c.H0 a = none ∧ SR c [a] ε σ H ∧ H a = some (.lst xs) ∧ Reps c.K c.G (c.A [a] ε σ) H xs ps
def FinS (c : Fix) (W : WX) (ε : Ev) (σ : L2.St) (H : Hp) (o : Out Fl) (D : Ends) : Prop := match o with
  | .ok .nx ε' => ∀ σ' H', Tr (OwnAt ε σ) (OwnAt ε' σ') H H' → SR c [] ε' σ' H' → D.nx σ' H'
  | .ok .bk ε' => ∀ σ' H', Tr (OwnAt ε σ) (OwnAt ε' σ') H H' → SR c [] ε' σ' H' → D.bk σ' H'
  | .ok .ct ε' => ∀ σ' H', Tr (OwnAt ε σ) (OwnAt ε' σ') H H' → SR c [] ε' σ' H' → D.ct σ' H'
  | .ok (.rt r) ε' => ∀ x σ' H', Tr (OwnAt ε σ) (OwnAt ε' σ') H H' → RtR c ε' σ' H' r x → D.rt x H'
  | .exc n p ε' => ∀ d σ' H', Tr (OwnAt ε σ) (OwnAt ε' σ') H H' → SR c [] ε' σ' H' → XR c [] ε' σ' p d H' → W (.ref (c.G n)) d σ' H'
  | .stk => False
def TSof (c : Fix) (W : WX) (s : SDen) : TS := fun D σ H => ∃ ε, SR c [] ε σ H ∧ FinS c W ε σ H (s ε) D

section
variable {c : Fix} {W : WX} {ε ε1 : Ev} {σ σ1 : L2.St} {H H1 : Hp} {D : Ends}
theorem FinS.from {o : Out Fl} (t : Tr (OwnAt ε σ) (OwnAt ε1 σ1) H H1) (h : FinS c W ε σ H o D) : FinS c W ε1 σ1 H1 o D := by
  cases o with
  | ok f ε' =>
    cases f with
    | nx => exact fun σ' H' t' R => h σ' H' (t.trans t') R
    | bk => exact fun σ' H' t' R => h σ' H' (t.trans t') R
    | ct => exact fun σ' H' t' R => h σ' H' (t.trans t') R
    | rt r => exact fun x σ' H' t' R => h x σ' H' (t.trans t') R
  | exc n p ε' => exact fun d σ' H' t' R x => h d σ' H' (t.trans t') R x
  | stk => exact h
theorem FinS.ex {α χ : Type} {Ra : List Addr → Ev → Hp → α → χ → Prop} {o : Out α} {f : α → Ev → Out Fl} (h : FinS c W ε σ H (o.bind f) D) :
    Fin Ra c W [] ε σ H o fun x H1 => ∃ a ε1, ET σ ε ε1 H H1 ∧ Ra [] ε1 H1 a x ∧ FinS c W ε1 σ H1 (f a ε1) D := by
  cases o with
  | ok a ε' => exact fun x H' e r => ⟨a, ε', e, r, FinS.from e.tr h⟩
  | exc n p ε' => exact fun d H' e R x => h d σ H' e.tr R x
  | stk => exact h
theorem SR.put {T : List Addr} {r : Val} {x : V} {j : Nat} (h : ResR c T ε σ H r x) : SR c T (ε.set j r.slot) (σ.set j (some x)) H := by
  cases r with
  | v p => exact h.1.assign h.2
  | f ps =>
    obtain ⟨a, xs, rfl, na, n0, R, h1, h2⟩ := h
    exact R.assignOwn na (.inl ⟨rfl, n0⟩) h1 h2
/-- what one owns once a result is put into a slot -/
theorem OwnAt.put {r : Val} {x : V} {j : Nat} {b : Addr} (h : OwnAt (ε.set j r.slot) (σ.set j (some x)) b) : OwnAt ε σ b ∨ (∃ ps, r = .f ps) ∧ x = .ref b := by
  cases r with
  | v p => exact .inl (OwnAt.val (fun _ _ z => by cases z) h)
  | f ps =>
    rcases OwnAt.own' h with z | z
    · exact .inr ⟨⟨ps, rfl⟩, by cases z; rfl⟩
    · exact .inl z
theorem Tr.put {r : Val} {x : V} {j : Nat} (e : ET σ ε ε1 H H1) (n : New H r x) : Tr (OwnAt ε σ) (OwnAt (ε1.set j r.slot) (σ.set j (some x))) H H1 := by
  refine ⟨e.keep, e.there, fun b q => ?_⟩
  rcases q.put with q2 | ⟨⟨ps, er⟩, q2⟩
  · exact .inl (e.own b q2)
  · subst er; exact .inr (n b q2)
theorem ResR.rt {r : Val} {x : V} (h : ResR c [] ε σ H r x) : RtR c ε σ H r x := by
  cases r with
  | v p => exact h
  | f ps =>
    obtain ⟨a, xs, e, _, n0, R, h1, h2⟩ := h
    exact ⟨a, xs, e, n0, R, h1, h2⟩
/-- a list of one's own leaves its slot -/
theorem SR.hide {T : List Addr} {j : Nat} {k : Bool} {ps : List PV} (R : SR c T ε σ H) (e : ε[j]? = some (.own k ps)) :
    ∃ a xs, σ[j]? = some (some (.ref a)) ∧ a ∉ T ∧ H a = some (.lst xs) ∧ ((k = false ∧ c.H0 a = none) ∨ (k = true ∧ c.S0 a)) ∧ SR c (a :: T) (ε.set j .emp) σ H ∧ Reps c.K c.G (c.A (a :: T) (ε.set j .emp) σ) H xs ps ∧ (∀ b, OwnAt (ε.set j .emp) σ b → OwnAt ε σ b) := by
  obtain ⟨a, xs, s, h, r, n, f⟩ := R.own j k ps e
  have hO : ∀ b, OwnAt (ε.set j .emp) σ b → OwnAt ε σ b := fun b q => OwnAt.val' (fun _ _ z => by cases z) q
  have hA : ∀ b, c.A (a :: T) (ε.set j .emp) σ b → c.A T ε σ b := fun b q => by
    rcases q with q | q | q
    · exact .inl q
    · exact .inr (.inl (hO b q))
    · rcases List.mem_cons.mp q with z | z
      · exact .inr (.inl ⟨j, k, ps, e, by rw [z]; exact s⟩)
      · exact .inr (.inr z)
  have mono : ∀ {v : V} {p : PV}, Rep c.K c.G (c.A T ε σ) H v p → Rep c.K c.G (c.A (a :: T) (ε.set j .emp) σ) H v p := fun r => r.mono (fun b q => .inl (hA b q)) fun b o e _ => e
  refine ⟨a, xs, s, n, h, f, ⟨by rw [List.length_set]; exact R.len, fun i p e' => ?_, fun i l qs e' => ?_, fun i m l1 l2 qs rs b e1 e2 s1 s2 => ?_, fun b hb => ?_, R.fr, R.s0⟩, r.mono (fun b q => .inl (hA b q)) fun b o e _ => e, hO⟩
  · rcases get_set e' with ⟨_, q⟩ | ⟨ne, q⟩
    · cases q
    · obtain ⟨v, sv, rv⟩ := R.val i p q
      exact ⟨v, sv, mono rv⟩
  · rcases get_set e' with ⟨_, q⟩ | ⟨ne, q⟩
    · cases q
    · obtain ⟨b, ys, sb, hb, rb, nb, fb⟩ := R.own i l qs q
      refine ⟨b, ys, sb, hb, rb.mono (fun b q => .inl (hA b q)) fun b o e _ => e, fun z => ?_, fb⟩
      rcases List.mem_cons.mp z with z | z
      · exact ne (R.inj i j _ _ _ _ a q e (by rw [← z]; exact sb) s)
      · exact nb z
  · rcases get_set e1 with ⟨_, q1⟩ | ⟨n1, q1⟩
    · cases q1
    · rcases get_set e2 with ⟨_, q2⟩ | ⟨n2, q2⟩
      · cases q2
      · exact R.inj i m l1 l2 qs rs b q1 q2 s1 s2
  · rcases List.mem_cons.mp hb with z | z
    · rw [z]; exact ⟨⟨xs, h⟩, f.imp (fun f => f.2) fun f => f.2⟩
    · exact R.tmp b z
end

/-! ### small statements -/
section
variable {X : Cx} {c : Fix} {W : WX} {st : Stmt} {rest : List Stmt} {s t : SDen} {e tg : Expr} {d : Den} {b : BDen} {tt : TDen} {pos pos' : Pos} {j : Nat}
theorem ts_nil : PSs X [] (TSof c W sNext) := by
  refine ⟨fun pins s σ H D I h => pss_nil.run pins s σ H D I ?_⟩
  obtain ⟨ε, R, h⟩ := h
  exact h σ H .refl R
theorem FinS.seq {ε : Ev} {σ : L2.St} {H : Hp} {D : Ends} (h : FinS c W ε σ H (sSeq s t ε) D) : FinS c W ε σ H (s ε) { D with nx := TSof c W t D } := by
  unfold sSeq at h
  cases o : s ε with
  | ok f ε' =>
    rw [o] at h
    cases f with
    | nx => exact fun σ' H' t' R => ⟨ε', R, FinS.from t' h⟩
    | bk => exact h
    | ct => exact h
    | rt r => exact h
  | exc n p ε' => rw [o] at h; exact h
  | stk => rw [o] at h; exact h
theorem ts_cons (h1 : PS X st (TSof c W s)) (h2 : PSs X rest (TSof c W t)) : PSs X (st :: rest) (TSof c W (sSeq s t)) := by
  refine ⟨fun pins s0 σ H D I h => (pss_cons h1 h2).run pins s0 σ H D I ?_⟩
  obtain ⟨ε, R, h⟩ := h
  exact ⟨ε, R, h.seq⟩
theorem ts_pass : PS X (.Pass pos) (TSof c W sNext) := by
  refine ⟨fun pins s σ H D I h => ps_pass.run pins s σ H D I ?_⟩
  obtain ⟨ε, R, h⟩ := h
  exact h σ H .refl R
theorem ts_break : PS X (.Break pos) (TSof c W sBrk) := by
  refine ⟨fun pins s σ H D I h => ps_break.run pins s σ H D I ?_⟩
  obtain ⟨ε, R, h⟩ := h
  exact h σ H .refl R
theorem ts_cont : PS X (.Continue pos) (TSof c W sCnt) := by
  refine ⟨fun pins s σ H D I h => ps_continue.run pins s σ H D I ?_⟩
  obtain ⟨ε, R, h⟩ := h
  exact h σ H .refl R
theorem ts_drop (he : PE X e (TEof c W d)) (hs : swapsWith e none pos.line X.env = pure false) : PS X (.Expr e pos) (TSof c W (sDrop d)) := by
  refine ⟨fun pins s σ H D I h => (ps_expr he hs).run pins s σ H D I ?_⟩
  obtain ⟨ε, R, h⟩ := h
  refine ⟨[], ε, R, (FinS.ex h).mono fun x H1 ⟨r, ε1, e1, ⟨r1, n1⟩, h1⟩ => ?_⟩
  exact h1 σ H1 .refl r1.val.1
theorem ts_ret (he : PE X e (TEof c W d)) : PS X (.Return (some e) pos) (TSof c W (sRet d)) := by
  refine ⟨fun pins s σ H D I h => (ps_ret he).run pins s σ H D I ?_⟩
  obtain ⟨ε, R, h⟩ := h
  refine ⟨[], ε, R, (FinS.ex h).mono fun x H1 ⟨r, ε1, e1, ⟨r1, n1⟩, h1⟩ => ?_⟩
  exact h1 x σ H1 .refl r1.rt
theorem ts_retV (he : PE X e (tVar j)) : PS X (.Return (some e) pos) (TSof c W (sRetV j)) := by
  refine ⟨fun pins s σ H D I h => (ps_ret he).run pins s σ H D I ?_⟩
  obtain ⟨ε, R, h⟩ := h
  unfold sRetV at h
  cases e1 : ε[j]? with
  | none => rw [e1] at h; exact h.elim
  | some sl =>
    rw [e1] at h
    cases sl with
    | emp => exact h.elim
    | val p =>
      obtain ⟨v, sv, rv⟩ := R.val j p e1
      exact ⟨v, sv, h v σ H .refl ⟨R, rv⟩⟩
    | own k ps =>
      cases k with
      | true => exact h.elim
      | false =>
        obtain ⟨a, xs, sv, na, ha, f, R', r', hO⟩ := R.hide e1
        exact ⟨_, sv, h _ σ H ⟨fun b o h _ => h, fun _ h => h, fun b q => .inl (hO b q)⟩ ⟨a, xs, rfl, (f.resolve_right fun z => by cases z.1).2, R', ha, r'⟩⟩
theorem ts_retN : PS X (.Return none pos) (TSof c W sRetN) := by
  refine ⟨fun pins s σ H D I h => ps_retN.run pins s σ H D I ?_⟩
  obtain ⟨ε, R, h⟩ := h
  exact h .non σ H .refl ⟨R, .non⟩
theorem ts_if {a b : List Stmt} (hc : PT X e (TTof c W tt)) (ha : PSs X a (TSof c W s)) (hb : PSs X b (TSof c W t)) : PS X (.If e a b pos) (TSof c W (sIf tt s t)) := by
  refine ⟨fun pins s0 σ H D I h => (ps_if hc ha hb).run pins s0 σ H D I ?_⟩
  obtain ⟨ε, R, h⟩ := h
  refine ⟨[], ε, R, (FinS.ex h).mono fun k H1 ⟨k', ε1, e1, ⟨R1, ek⟩, h1⟩ => ?_⟩
  subst ek
  cases k' with
  | true => rw [if_pos rfl]; exact ⟨ε1, R1, h1⟩
  | false => rw [if_neg Bool.false_ne_true]; exact ⟨ε1, R1, h1⟩
theorem ts_set {x : Str} (he : PE X e (TEof c W d)) (hN : X.N.Nodup) (hi : X.N[j]? = some x) (hx : Loc X.env.scope x) (hf : X.fn x = true ∨ X.env.scope.names.lookup x = some .local) (hs : swapsWith e (some (.Name x pos')) pos.line X.env = pure false) :
    PS X (.Assign [.Name x pos'] e pos) (TSof c W (sSet j d)) := by
  refine ⟨fun pins s0 σ H D I h => (ps_set hN hi hx he hs hf).run pins s0 σ H D I ?_⟩
  obtain ⟨ε, R, h⟩ := h
  have R0 := R
  refine ⟨[], ε, R, ?_⟩
  unfold sSet at h
  cases o : d ε with
  | stk => rw [o] at h; exact h
  | exc n p ε' => rw [o] at h; exact fun dd H' e R x => h dd σ H' e.tr R x
  | ok r ε1 =>
    rw [o] at h
    exact fun x H1 e1 r1 => h (σ.set j (some x)) H1 (Tr.put e1 r1.2) (SR.put r1.1)
/-- i, j = a, b -/
theorem ts_par {i : Nat} {x y : Str} {a b : Expr} {da db : Den} {px py pt pt2 : Pos} {kt k2 : Nat} (hc : X.calm = true) (hN : X.N.Nodup) (hi : X.N[i]? = some x) (hj : X.N[j]? = some y) (hij : i ≠ j)
    (hx : X.env.scope.names.lookup x = some .local) (hy : X.env.scope.names.lookup y = some .local) (ha : PE X a (TEof c W da)) (hb : PE X b (TEof c W db))
    (sa : starEach [a, b] X.env = (false, eval a X.env) :: starEach [b] X.env) (sb : starEach [b] X.env = (false, eval b X.env) :: starEach [] X.env)
    (hw : swappedStores [.Tuple [.Name x px, .Name y py] kt pt] (.Tuple [a, b] k2 pt2) X.env = pure (some [x, y])) :
    PS X (.Assign [.Tuple [.Name x px, .Name y py] kt pt] (.Tuple [a, b] k2 pt2) pos) (TSof c W (sPar i j da db)) := by
  refine ⟨fun pins s0 σ H D I h => (ps_par hc hN hi hj hij hx hy (pa_cons ha (pa_cons hb pa_nil sb) sa) hw).run pins s0 σ H D I ?_⟩
  obtain ⟨ε, R, h⟩ := h
  refine ⟨[], ε, R, ?_⟩
  unfold sPar at h
  cases oa : da ε with
  | stk => rw [oa] at h; exact h
  | exc n p ε' => rw [oa] at h; exact fun dd H' e R x => h dd σ H' e.tr R x
  | ok r ε1 =>
    rw [oa] at h
    rintro x1 H1 e1 ⟨r1, n1⟩
    have fin : ∀ {s : Val} {ε2 : Ev} {y1 : V} {H2 : Hp}, db ε1 = .ok s ε2 → ET σ ε1 ε2 H1 H2 → New H1 s y1 → SR c [] ((ε2.set i r.slot).set j s.slot) ((σ.set i (some x1)).set j (some y1)) H2 → D.nx ((σ.set i (some x1)).set j (some y1)) H2 := fun {s ε2 y1 H2} o e2 n2 R' => by
      have h : FinS c W ε σ H ((db ε1).bind fun s ε => .ok .nx ((ε.set i r.slot).set j s.slot)) D := h
      rw [o] at h
      refine h _ H2 ⟨(e1.trans e2).keep, (e1.trans e2).there, fun b q => ?_⟩ R'
      rcases q.put with q2 | ⟨⟨ps, er⟩, q2⟩
      · rcases q2.put with q3 | ⟨⟨ps, er⟩, q3⟩
        · exact .inl ((e1.trans e2).own b q3)
        · subst er; exact .inr (n1 b q3)
      · subst er; exact .inr (e1.there b (n2 b q2))
    have exc : ∀ n p ε', db ε1 = .exc n p ε' → ∀ d H', ET σ ε1 ε' H1 H' → SR c [] ε' σ H' → XR c [] ε' σ p d H' → W (.ref (c.G n)) d σ H' := fun n p ε' o d H' e2 R' x' => by
      have h : FinS c W ε σ H ((db ε1).bind fun s ε => .ok .nx ((ε.set i r.slot).set j s.slot)) D := h
      rw [o] at h
      exact h d σ H' (e1.trans e2).tr R' x'
    have stk : db ε1 ≠ .stk := fun o => by
      have h : FinS c W ε σ H ((db ε1).bind fun s ε => .ok .nx ((ε.set i r.slot).set j s.slot)) D := h
      rw [o] at h
      exact h
    have comm : ∀ {α : Type} (l : List α) (u v : α), (l.set i u).set j v = (l.set j v).set i u := fun l u v => List.set_comm _ _ hij
    cases r with
    | v p =>
      refine ⟨[], ε1, r1.1, ?_⟩
      cases ob : db ε1 with
      | stk => exact (stk ob).elim
      | exc n p ε' => exact exc _ _ _ ob
      | ok s ε2 =>
        rintro y1 H2 e2 ⟨r2, n2⟩
        refine ⟨_, _, rfl, fin ob e2 n2 ?_⟩
        have R3 := SR.put (j := j) r2
        rw [comm, comm]
        refine R3.assign (r1.2.mono (fun b q => ?_) fun b o hb nb => e2.keep b o hb fun q => nb (.inr (.inl q)))
        rcases q with q | q | q
        · exact .inl (.inl q)
        · rcases q.put with q2 | ⟨⟨ps, er⟩, q2⟩
          · exact .inl (.inr (.inl (e2.own b q2)))
          · subst er; exact .inr (n2 b q2)
        · cases q
    | f ps =>
      obtain ⟨a, xs, rfl, na, n0, R1, ha, rr⟩ := r1
      refine ⟨[a], ε1, R1, ?_⟩
      cases ob : db ε1 with
      | stk => exact (stk ob).elim
      | exc n p ε' =>
        intro d H' e2 R' x'
        refine exc _ _ _ ob d H' e2 R'.less ?_
        cases p with
        | non => exact x'
        | _ =>
          obtain ⟨dd, v, q1, q2, q3⟩ := x'
          exact ⟨dd, v, q1, q2, q3.mono (fun b q => .inl (q.imp id fun q => q.imp id fun q => by cases q)) fun b o e _ => e⟩
      | ok s ε2 =>
        rintro y1 H2 e2 ⟨r2, n2⟩
        have noa : ¬ OwnAt ε1 σ a := fun ⟨i', k', qs, e', s'⟩ => by
          obtain ⟨b, _, s2, _, _, nb, _⟩ := R1.own i' k' qs e'
          rw [s'] at s2; cases s2
          exact nb List.mem_cons_self
        have ha2 := e2.keep a _ ha noa
        refine ⟨_, _, rfl, fin ob e2 n2 ?_⟩
        have R3 := SR.put (j := j) r2
        rw [comm, comm]
        refine R3.assignOwn (List.not_mem_nil) (.inl ⟨rfl, n0⟩) ha2 (rr.mono (fun b q => ?_) fun b o hb nb => e2.keep b o hb fun q => nb (.inr (.inl q)))
        rcases q with q | q | q
        · exact .inl (.inl q)
        · rcases q.put with q2 | ⟨⟨ps, er⟩, q2⟩
          · exact .inl (.inr (.inl (e2.own b q2)))
          · subst er; exact .inr (n2 b q2)
        · exact .inl (.inr (.inr q))
/-! ### targets -/
def gNames : List Nat → TGs
  | [] => gNil
  | j :: js => gCons (gName j) (gNames js)
/-- the slots of a target -/
def Tg.js : Tg → List Nat
  | .one j => [j]
  | .many js => js
def TGof (c : Fix) (g : Tg) : TG := fun v σ H Q => ∃ T ε p ε', SR c T ε σ H ∧ Rep c.K c.G (c.A T ε σ) H v p ∧ g.set p ε = some ε' ∧
  ∀ σ', SR c T ε' σ' H → (∀ b, OwnAt ε' σ' b → OwnAt ε σ b) → σ'.length = σ.length → (∀ i, i ∉ g.js → σ'[i]? = σ[i]?) → Q σ' H
theorem tg_one (h : PG X tg (gName j)) : PG X tg (TGof c (.one j)) := by
  refine ⟨fun pins s σ H v u Q I r hq => h.run pins s σ H v u Q I r ?_⟩
  obtain ⟨T, ε, p, ε', R, rv, e, k⟩ := hq
  cases e
  refine k _ (R.assign rv) (fun b q => OwnAt.val (fun _ _ z => by cases z) q) (by rw [List.length_set]) fun i hi => ?_
  rw [List.getElem?_set_ne (fun z => hi (by rw [z]; exact List.mem_cons_self))]
theorem names_set {Q : L2.St → Hp → Prop} {T : List Addr} {H : Hp} : ∀ (js : List Nat) (xs : List V) (ps : List PV) (ε ε' : Ev) (σ : L2.St), SR c T ε σ H → Reps c.K c.G (c.A T ε σ) H xs ps → setAll js ps ε = some ε' →
    (∀ σ', SR c T ε' σ' H → (∀ b, OwnAt ε' σ' b → OwnAt ε σ b) → σ'.length = σ.length → (∀ i, i ∉ js → σ'[i]? = σ[i]?) → Q σ' H) → gNames js xs σ H Q
  | [], xs, ps, ε, ε', σ, R, r, e, k => by
    cases ps with
    | nil =>
      cases r
      cases e
      exact ⟨rfl, k σ R (fun _ q => q) rfl fun _ _ => rfl⟩
    | cons p ps => cases e
  | j :: js, xs, ps, ε, ε', σ, R, r, e, k => by
    cases ps with
    | nil => cases e
    | cons p ps =>
      cases r with
      | @cons x xs _ _ rx rs =>
        have e : setAll js ps (ε.set j (.val p)) = some ε' := e
        have hO : ∀ b, OwnAt (ε.set j (.val p)) (σ.set j (some x)) b → OwnAt ε σ b := fun b q => OwnAt.val (fun _ _ z => by cases z) q
        have hA : ∀ b, c.A T (ε.set j (.val p)) (σ.set j (some x)) b → c.A T ε σ b := fun b q => q.imp id fun q => q.imp (hO b) id
        refine ⟨x, xs, rfl, names_set js xs ps _ ε' _ (R.assign rx) (rs.mono (fun b q => .inl (hA b q)) fun b o e _ => e) e fun σ' R' hO' hl hs => k σ' R' (fun b q => hO b (hO' b q)) (by rw [hl, List.length_set]) fun i hi => ?_⟩
        rw [hs i (fun z => hi (List.mem_cons_of_mem _ z)), List.getElem?_set_ne (fun z => hi (by rw [z]; exact List.mem_cons_self))]
theorem setAll_len : ∀ {js : List Nat} {ps : List PV} {ε ε' : Ev}, setAll js ps ε = some ε' → ps.length = js.length
  | [], [], _, _, _ => rfl
  | [], _ :: _, _, _, h => by cases h
  | _ :: _, [], _, _, h => by cases h
  | j :: js, p :: ps, ε, ε', h => congrArg Nat.succ (setAll_len (js := js) (ps := ps) h)
theorem tg_many {es : List Expr} {k : Nat} {js : List Nat} (hK : c.K = X.K) (hc : X.calm = true) (h : PGs X es (gNames js)) (hn : (assignEach es X.env).length = js.length) (hst : (assignEach es X.env).findIdx? (·.1) = none) : PG X (.Tuple es k pos) (TGof c (.many js)) := by
  refine ⟨fun pins s σ H v u Q I r hq => (pg_tup hc h hn hst).run pins s σ H v u Q I r ?_⟩
  obtain ⟨T, ε, p, ε', R, rv, e, k⟩ := hq
  cases p with
  | tup ps =>
    obtain ⟨a, xs, ea, hs, rs⟩ := BRep.tup (.inl rv)
    rw [hK] at hs
    exact ⟨a, xs, ea, hs, by rw [rs.length]; exact setAll_len e, names_set js xs ps ε ε' σ R rs e k⟩
  | _ => cases e
theorem ts_tup {js : List Nat} (he : PE X e (TBof c W b)) (hg : PG X tg (TGof c (.many js))) (hs : swapsWithSole [tg] e pos.line X.env = pure false) (hw : swappedStores [tg] e X.env = pure none) (h1 : (assignEach [tg] X.env).map (·.2) = [assign tg X.env]) :
    PS X (.Assign [tg] e pos) (TSof c W (sTup js b)) := by
  refine ⟨fun pins s0 σ H D I h => (ps_asg he hg hs hw h1).run pins s0 σ H D I ?_⟩
  obtain ⟨ε, R, h⟩ := h
  refine ⟨[], ε, R, (FinS.ex h).mono fun x H1 ⟨t, ε1, e1, ⟨R1, r1⟩, h1⟩ => ?_⟩
  cases p1 : resolve ε1 t with
  | none => rw [p1] at h1; exact h1.elim
  | some p =>
    rw [p1] at h1
    dsimp only at h1
    cases p2 : (Tg.many js).set p ε1 with
    | none => rw [p2] at h1; exact h1.elim
    | some ε2 =>
      rw [p2] at h1
      have rp : Rep c.K c.G (c.A [] ε1 σ) H1 x p := by
        rcases r1.read R1 p1 with q | ⟨_, _, ps, ep, _⟩
        · exact q
        · subst ep; cases p2
      exact ⟨[], ε1, p, ε2, R1, rp, p2, fun σ' R' hO hl _ => h1 σ' H1 ⟨fun b o h _ => h, fun _ h => h, fun b q => .inl (hO b q)⟩ R'⟩
/-- l[i] = e -/
theorem ts_put {o i : Expr} {di : BDen} (he : PE X e (TEof c W d)) (ho : PE X o (tVar j)) (hi : PE X i (TBof c W di))
    (ha : ∀ v, assign (.Subscript o i pos') X.env v = (do
      let ov ← holding [v] (eval o X.env)
      let iv ← holding [v, ov] (eval i X.env)
      standAt pos'
      holding [v, ov, iv] (setItem ov iv v)
      release [v, ov, iv] []))
    (hs : swapsWithSole [.Subscript o i pos'] e pos.line X.env = pure false) (hw : swappedStores [.Subscript o i pos'] e X.env = pure none) (h1 : (assignEach [.Subscript o i pos'] X.env).map (·.2) = [assign (.Subscript o i pos') X.env]) :
    PS X (.Assign [.Subscript o i pos'] e pos) (TSof c W (sPut j di d)) := by
  refine ⟨fun pins s0 σ H D I h => (ps_asg he (pg_sub ho hi set_list ha) hs hw h1).run pins s0 σ H D I ?_⟩
  obtain ⟨ε, R, h⟩ := h
  refine ⟨[], ε, R, (FinS.ex h).mono fun x H1 ⟨r, ε1, e1, ⟨r1, n1⟩, h1⟩ => ?_⟩
  obtain ⟨R1, rx⟩ := r1.val
  have h1 : FinS c W ε1 σ H1 (onOwn j (fun ε => (di ε).bind fun t ε => match ε[j]?, resolve ε t with
    | some (.own o ps), some (.int k) => (match ixN ps.length k with
      | some m => .ok .nx (ε.set j (.own o (ps.set m r.pv)))
      | none => .stk)
    | _, _ => .stk) ε1) D := h1
  unfold onOwn at h1
  cases ew : ε1[j]? with
  | none => rw [ew] at h1; exact h1.elim
  | some sl =>
    rw [ew] at h1
    cases sl with
    | emp => exact h1.elim
    | val p => exact h1.elim
    | own k0 ps0 =>
      obtain ⟨a, xs, sv, ha', _⟩ := R1.own j k0 ps0 ew
      have h1 : FinS c W ε1 σ H1 ((di ε1).bind fun t ε => match ε[j]?, resolve ε t with
        | some (.own o ps), some (.int k) => (match ixN ps.length k with
          | some m => .ok .nx (ε.set j (.own o (ps.set m r.pv)))
          | none => .stk)
        | _, _ => .stk) D := h1
      refine ⟨_, sv, [], ε1, R1, (FinS.ex h1).mono fun y H2 ⟨t, ε2, e2, ⟨R2, r2⟩, h2⟩ => ?_⟩
      cases e3 : ε2[j]? with
      | none => rw [e3] at h2; exact h2.elim
      | some sl =>
        rw [e3] at h2
        cases sl with
        | emp => exact h2.elim
        | val p => exact h2.elim
        | own k ps =>
          cases e4 : resolve ε2 t with
          | none => rw [e4] at h2; exact h2.elim
          | some p =>
            rw [e4] at h2
            cases p with
            | int i =>
              dsimp only at h2
              cases e5 : ixN ps.length i with
              | none => rw [e5] at h2; exact h2.elim
              | some m =>
                rw [e5] at h2
                have ey := (r2.read R2 e4).int
                subst ey
                obtain ⟨a', ys, sv', ha2, ry, _⟩ := R2.own j k ps e3
                rw [sv] at sv'; cases sv'
                obtain ⟨R', hO⟩ := R2.change e3 sv (ry.set m (rx.et e2))
                refine ⟨a, ys, i, m, rfl, rfl, ha2, by rw [ry.length]; exact e5, ?_⟩
                refine h2 σ _ ⟨fun b o hb nb => ?_, there_upd ha2, fun b q => .inl (hO b q)⟩ R'
                rw [upd_ne (fun z => nb (by rw [z]; exact ⟨j, k, ps, e3, sv⟩))]; exact hb
            | _ => exact h2.elim
/-- a name op= e -/
theorem ts_aug {x : Str} {op : Operator} {f : PV → PV → Option Val} {r : R2} (hN : X.N.Nodup) (hi : X.N[j]? = some x) (hx : Loc X.env.scope x) (he : PE X e (TBof c W b)) (ho : OpR X (inplaceOp op) r) (hf : S2 X c f r) (hfn : X.fn x = true ∨ X.env.scope.names.lookup x = some .local) :
    PS X (.AugAssign (.Name x pos') op e pos) (TSof c W (sAug j f b)) := by
  refine ⟨fun pins s0 σ H D I h => (ps_aug hN hi hx he ho hfn).run pins s0 σ H D I ?_⟩
  obtain ⟨ε, R, h⟩ := h
  unfold sAug at h
  cases e0 : slotV ε[j]? with
  | none => rw [e0] at h; exact h.elim
  | some p0 =>
    rw [e0] at h
    obtain ⟨xv, sv, _⟩ := R.slot e0
    refine ⟨xv, sv, [], ε, R, (FinS.ex h).mono fun y H1 ⟨t, ε1, e1, ⟨R1, r1⟩, h1⟩ => ?_⟩
    cases p1 : slotV ε1[j]? with
    | none => rw [p1] at h1; exact h1.elim
    | some p =>
      cases p2 : resolve ε1 t with
      | none => rw [p1, p2] at h1; exact h1.elim
      | some q =>
        rw [p1, p2] at h1
        dsimp only at h1
        cases fr : f p q with
        | none => rw [fr] at h1; exact h1.elim
        | some res =>
          rw [fr] at h1
          refine hf [] ε1 σ H1 xv y p q res _ R1 (TokR.read (t := .s j) R1 (show TokR c [] ε1 σ H1 (.s j) xv from sv) p1) (r1.read R1 p2) fr fun z H' e' r' => ?_
          exact h1 _ H' (Tr.put e' r'.2) (SR.put r'.1)
/-- while -/
theorem ts_while {body : List Stmt} {fuel : Nat} (hp : PassesOwn (model X.prog X.w) X.A X.env X.xe) (hc : PT X e (TTof c W tt)) (hb : PSs X body (TSof c W s)) : PS X (.While e body [] pos) (TSof c W (sWhile tt s fuel)) := by
  refine ⟨fun pins s0 σ H D I h => (ps_while hp hc hb).run pins s0 σ H D I ?_⟩
  obtain ⟨ε, R, h⟩ := h
  refine ⟨fun m σ' H' => ∃ ε', SR c [] ε' σ' H' ∧ FinS c W ε' σ' H' (sWhile tt s m ε') D, ⟨fuel, ε, R, h⟩, ?_⟩
  rintro m σ1 H1 ⟨ε1, R1, h1⟩
  cases m with
  | zero => exact h1.elim
  | succ m =>
    have h1 : FinS c W ε1 σ1 H1 ((tt ε1).bind fun k ε => match k with
      | true => (s ε).bind fun f ε => (match f with
        | .nx => sWhile tt s m ε
        | .ct => sWhile tt s m ε
        | .bk => .ok .nx ε
        | .rt r => .ok (.rt r) ε)
      | false => .ok .nx ε) D := h1
    refine ⟨[], ε1, R1, (FinS.ex h1).mono fun k H2 ⟨k', ε2, e2, ⟨R2, ek⟩, h2⟩ => ?_⟩
    subst ek
    cases k' with
    | false =>
      rw [if_neg Bool.false_ne_true]
      exact h2 σ1 H2 .refl R2
    | true =>
      rw [if_pos rfl]
      refine ⟨fun σ' H' => ∃ ε', SR c [] ε' σ' H' ∧ FinS c W ε' σ' H' (sWhile tt s m ε') D, fun σ' H' q => ⟨m, Nat.lt_succ_self m, q⟩, ε2, R2, ?_⟩
      dsimp only at h2
      cases o : s ε2 with
      | stk => rw [o] at h2; exact h2
      | exc n p ε' => rw [o] at h2; exact h2
      | ok f ε' =>
        rw [o] at h2
        cases f with
        | nx => exact fun σ' H' t' R' => ⟨ε', R', FinS.from t' h2⟩
        | ct => exact fun σ' H' t' R' => ⟨ε', R', FinS.from t' h2⟩
        | bk => exact h2
        | rt r => exact h2
end
end EV


set_option Elab.async false
set_option linter.all false
set_option maxRecDepth 100000
set_option maxHeartbeats 4000000
/-! EvH: what is walked; for; comprehensions. -/
namespace EV
open PySem PySem.Spec PyProof.Rows L2

/-- what a walk leans on: it stays -/
abbrev SrcT := List Addr → Ev → L2.St → Hp → Prop
def SrcOk (c : Fix) (S : SrcT) : Prop := ∀ (T T' : List Addr) (ε ε' : Ev) (σ σ' : L2.St) (H H' : Hp), SR c T ε σ H → Tr (OwnAt ε σ) (OwnAt ε' σ') H H' → (∀ a ∈ T', a ∈ T ∨ H a = none) → (∀ a ∈ T, a ∈ T') → S T ε σ H → S T' ε' σ' H'
/-- values -/
def Frz (c : Fix) (vs : List V) (srcs : List PV) : SrcT := fun T ε σ H => Reps c.K c.G (c.A T ε σ) H vs srcs
theorem frz_ok {c : Fix} {vs : List V} {srcs : List PV} : SrcOk c (Frz c vs srcs) := fun _ _ _ _ _ _ _ _ _ t h1 _ r => Reps.through t r h1
/-- a list of one's own that is laid aside -/
def Hid (c : Fix) (a : Addr) (its : List PV) : SrcT := fun T ε σ H => a ∈ T ∧ ∃ xs, H a = some (.lst xs) ∧ Reps c.K c.G (c.A T ε σ) H xs its
theorem SR.notOwn {c : Fix} {T : List Addr} {ε : Ev} {σ : L2.St} {H : Hp} (R : SR c T ε σ H) {a : Addr} (h : a ∈ T) : ¬ OwnAt ε σ a := fun ⟨i, k, ps, e, s⟩ => by
  obtain ⟨b, _, s', _, _, n, _⟩ := R.own i k ps e
  rw [s] at s'; cases s'
  exact n h
theorem hid_ok {c : Fix} {a : Addr} {its : List PV} : SrcOk c (Hid c a its) := fun _ _ _ _ _ _ _ _ R t h1 h2 ⟨ha, xs, e, r⟩ => ⟨h2 a ha, xs, t.keep a _ e (R.notOwn ha), Reps.through t r h1⟩
/-- a new list that is laid aside may be written -/
def SrcWr (c : Fix) (S : SrcT) : Prop := ∃ off : Addr → Prop, (∀ T ε σ H D, SR c T ε σ H → S T ε σ H → H D = none → off D) ∧
  ∀ T ε σ H D ys, SR c T ε σ H → S T ε σ H → D ∈ T → off D → S T ε σ (upd H D (.lst ys))
theorem wr_keep {c : Fix} {T : List Addr} {ε : Ev} {σ : L2.St} {H : Hp} {D : Addr} {ys : List V} (hD : D ∈ T) : ∀ b o, H b = some o → ¬ c.A T ε σ b → upd H D (.lst ys) b = some o := fun b o h n => by
  rw [upd_ne (fun z => n (by rw [z]; exact .inr (.inr hD)))]; exact h
theorem frz_wr {c : Fix} {vs : List V} {srcs : List PV} : SrcWr c (Frz c vs srcs) :=
  ⟨fun _ => True, fun _ _ _ _ _ _ _ _ => trivial, fun _ _ _ _ _ _ _ r hD _ => Reps.mono (fun _ h => .inl h) (wr_keep hD) r⟩
theorem hid_wr {c : Fix} {a : Addr} {its : List PV} : SrcWr c (Hid c a its) :=
  ⟨fun D => D ≠ a, fun _ _ _ _ _ _ ⟨_, xs, e, _⟩ hD z => (by rw [z, e] at hD; cases hD), fun _ _ _ _ _ _ _ ⟨ha, xs, e, r⟩ hD n => ⟨ha, xs, (by rw [upd_ne (Ne.symm n)]; exact e), Reps.mono (fun _ h => .inl h) (wr_keep hD) r⟩⟩
/-- any list that is laid aside may be written -/
def SrcW2 (c : Fix) (S : SrcT) : Prop := ∀ T ε σ H D ys, SR c T ε σ H → S T ε σ H → D ∈ T → S T ε σ (upd H D (.lst ys))
theorem frz_w2 {c : Fix} {vs : List V} {srcs : List PV} : SrcW2 c (Frz c vs srcs) := fun _ _ _ _ _ _ _ r hD => Reps.mono (fun _ h => .inl h) (wr_keep hD) r
/-- the walk J yields the items its, as long as what it leans on stands -/
structure ItS (c : Fix) (J : It) (its : List PV) (S : SrcT) : Prop where
  go : ∀ (T : List Addr) (ε : Ev) (σ : L2.St) (H : Hp) (i : Nat), SR c T ε σ H → S T ε σ H → i < its.length → J.go i H
  yld : ∀ (T : List Addr) (ε : Ev) (σ : L2.St) (H : Hp) (i : Nat) (p : PV) (x : V) (H' : Hp), SR c T ε σ H → S T ε σ H → its[i]? = some p → J.yld i H x H' →
    (∀ b o, H b = some o → H' b = some o) ∧ Rep c.K c.G (c.A T ε σ) H' x p
  stop : ∀ (T : List Addr) (ε : Ev) (σ : L2.St) (H : Hp) (i : Nat), SR c T ε σ H → S T ε σ H → its.length ≤ i → J.stop i H
  ok : SrcOk c S
  wr : SrcWr c S
abbrev RlI (c : Fix) (σ : L2.St) : List Addr → Ev → Hp → List PV → It → Prop := fun T ε H its J => SR c T ε σ H ∧ ∃ S : SrcT, S T ε σ H ∧ ItS c J its S ∧ SrcW2 c S
def TIof (c : Fix) (W : WX) (it : IDen) : TI := fun σ H R => ∃ T ε, SR c T ε σ H ∧ Fin (RlI c σ) c W T ε σ H (it ε) R

section
variable {c : Fix} {K : PySem.W.Frag} {its : List PV} {a b : Addr}
theorem Rep.list {A : Addr → Prop} {H : Hp} {x : V} {p : PV} (r : Rep c.K c.G A H x p) (e : lstOf p = some its) : ∃ a xs, x = .ref a ∧ SqL c.K H a xs ∧ Reps c.K c.G A H xs its := by
  cases p with
  | lst qs => cases e; cases r with | lst n h r => exact ⟨_, _, rfl, SqL.of h, r⟩
  | fl qs =>
    cases e
    cases r with
    | fl n h r => exact ⟨_, _, rfl, .inl h, r⟩
    | flK h r => exact ⟨_, _, rfl, .inr h, r⟩
  | _ => cases e
theorem Rep.tupl {A : Addr → Prop} {H : Hp} {x : V} (r : Rep c.K c.G A H x (.tup its)) : ∃ a xs, x = .ref a ∧ SqT c.K H a xs ∧ Reps c.K c.G A H xs its := by
  cases r with
  | tup n h r => exact ⟨_, _, rfl, SqT.of h, r⟩
  | tupK h r => exact ⟨_, _, rfl, .inr h, r⟩
theorem one_src {A : Addr → Prop} {H : Hp} {v : V} {p : PV} (r : Reps c.K c.G A H [v] [p]) : Rep c.K c.G A H v p := by
  cases r with | cons r _ => exact r
theorem its_list {p : PV} (e : lstOf p = some its) : ItS c (Itl c.K a) its (Frz c [.ref a] [p]) := by
  refine ⟨fun T ε σ H i R r hi => ?_, fun T ε σ H i q x H' R r hq y => ?_, fun T ε σ H i R r hi => ?_, frz_ok, frz_wr⟩
  · obtain ⟨b, xs, eb, hs, rs⟩ := (one_src r).list e
    cases eb
    have : i < xs.length := by rw [rs.length]; exact hi
    exact ⟨xs, xs[i], hs, by simp [this]⟩
  · obtain ⟨b, xs, eb, hs, rs⟩ := (one_src r).list e
    cases eb
    obtain ⟨eH, y⟩ := y
    subst eH
    obtain ⟨w, hw, rw'⟩ := rs.get hq
    have e2 := y xs hs
    rw [hw] at e2; cases e2
    exact ⟨fun _ _ h => h, rw'⟩
  · obtain ⟨b, xs, eb, hs, rs⟩ := (one_src r).list e
    cases eb
    exact ⟨xs, hs, by rw [rs.length]; exact hi⟩
theorem its_tup : ItS c (Itt c.K a) its (Frz c [.ref a] [.tup its]) := by
  refine ⟨fun T ε σ H i R r hi => ?_, fun T ε σ H i q x H' R r hq y => ?_, fun T ε σ H i R r hi => ?_, frz_ok, frz_wr⟩
  · obtain ⟨b, xs, eb, hs, rs⟩ := (one_src r).tupl
    cases eb
    have : i < xs.length := by rw [rs.length]; exact hi
    exact ⟨xs, xs[i], hs, by simp [this]⟩
  · obtain ⟨b, xs, eb, hs, rs⟩ := (one_src r).tupl
    cases eb
    obtain ⟨eH, y⟩ := y
    subst eH
    obtain ⟨w, hw, rw'⟩ := rs.get hq
    have e2 := y xs hs
    rw [hw] at e2; cases e2
    exact ⟨fun _ _ h => h, rw'⟩
  · obtain ⟨b, xs, eb, hs, rs⟩ := (one_src r).tupl
    cases eb
    exact ⟨xs, hs, by rw [rs.length]; exact hi⟩
theorem its_range {lo : Int} {n : Nat} : ItS c (Itr lo n) (rangeL lo n) (Frz c [] []) := by
  have hl : (rangeL lo n).length = n := by unfold rangeL; rw [List.length_map, List.length_range]
  refine ⟨fun T ε σ H i R r hi => by rw [hl] at hi; exact hi, fun T ε σ H i q x H' R r hq y => ?_, fun T ε σ H i R r hi => by rw [hl] at hi; exact hi, frz_ok, frz_wr⟩
  obtain ⟨eH, ex⟩ := y
  subst eH ex
  refine ⟨fun _ _ h => h, ?_⟩
  have hi : i < n := by
    have := (List.getElem?_eq_some_iff.mp hq).1
    rw [hl] at this; exact this
  unfold rangeL at hq
  rw [List.getElem?_map, List.getElem?_range hi] at hq
  cases hq
  exact .int _
theorem enumFrom_get : ∀ (ps : List PV) (k i : Nat) (q : PV), (enumFrom k ps)[i]? = some q → ∃ p, ps[i]? = some p ∧ q = .tup [.int ((k + i : Nat) : Int), p]
  | [], _, _, _, h => by simp [enumFrom] at h
  | p :: ps, k, 0, q, h => by
    simp only [enumFrom, List.getElem?_cons_zero, Option.some.injEq] at h
    exact ⟨p, by simp, by rw [← h]; simp⟩
  | p :: ps, k, i + 1, q, h => by
    simp only [enumFrom, List.getElem?_cons_succ] at h
    obtain ⟨p', h1, h2⟩ := enumFrom_get ps (k + 1) i q h
    exact ⟨p', by simpa using h1, by rw [h2]; congr 3; omega⟩
theorem enumFrom_len : ∀ (ps : List PV) (k : Nat), (enumFrom k ps).length = ps.length
  | [], _ => rfl
  | _ :: ps, k => congrArg Nat.succ (enumFrom_len ps (k + 1))
theorem zipL_get : ∀ (ps qs : List PV) (i : Nat) (q : PV), (zipL ps qs)[i]? = some q → ∃ p p', ps[i]? = some p ∧ qs[i]? = some p' ∧ q = .tup [p, p']
  | [], _, _, _, h => by simp [zipL] at h
  | _ :: _, [], _, _, h => by simp [zipL] at h
  | p :: ps, p' :: qs, 0, q, h => by
    simp only [zipL, List.getElem?_cons_zero, Option.some.injEq] at h
    exact ⟨p, p', by simp, by simp, h.symm⟩
  | p :: ps, p' :: qs, i + 1, q, h => by
    simp only [zipL, List.getElem?_cons_succ] at h
    obtain ⟨u, v, h1, h2, h3⟩ := zipL_get ps qs i q h
    exact ⟨u, v, by simpa using h1, by simpa using h2, h3⟩
theorem zipL_len : ∀ (ps qs : List PV), (zipL ps qs).length = min ps.length qs.length
  | [], _ => by simp [zipL]
  | _ :: _, [] => by simp [zipL]
  | _ :: ps, _ :: qs => by simp only [zipL, List.length_cons]; rw [zipL_len ps qs]; omega
/-- a new pair -/
theorem new_pair {T : List Addr} {ε : Ev} {σ : L2.St} {H : Hp} {p : Addr} {x y : V} {u v : PV} (R : SR c T ε σ H) (n : H p = none) (rx : Rep c.K c.G (c.A T ε σ) H x u) (ry : Rep c.K c.G (c.A T ε σ) H y v) :
    (∀ b o, H b = some o → L2.upd H p (.tup [x, y]) b = some o) ∧ Rep c.K c.G (c.A T ε σ) (L2.upd H p (.tup [x, y])) (.ref p) (.tup [u, v]) :=
  ⟨keep_upd n, .tup (R.freshA n) upd_same (.cons (rx.mono (fun _ h => .inl h) fun b o e _ => keep_upd n b o e) (.cons (ry.mono (fun _ h => .inl h) fun b o e _ => keep_upd n b o e) .nil))⟩
theorem its_enum {p : PV} (e : lstOf p = some its) : ItS c (Ite c.K a) (enumL its) (Frz c [.ref a] [p]) := by
  have hl : (enumL its).length = its.length := enumFrom_len its 0
  refine ⟨fun T ε σ H i R r hi => ?_, fun T ε σ H i q x H' R r hq y => ?_, fun T ε σ H i R r hi => ?_, frz_ok, frz_wr⟩
  · obtain ⟨b, xs, eb, hs, rs⟩ := (one_src r).list e
    cases eb
    have : i < xs.length := by rw [rs.length, ← hl]; exact hi
    exact ⟨xs, xs[i], hs, by simp [this]⟩
  · obtain ⟨b, xs, eb, hs, rs⟩ := (one_src r).list e
    cases eb
    obtain ⟨P, z, ex, n, eH, y⟩ := y
    subst ex eH
    obtain ⟨p', hp', eq⟩ := enumFrom_get its 0 i q hq
    obtain ⟨w, hw, rw'⟩ := rs.get hp'
    have e2 := y xs hs
    rw [hw] at e2; cases e2
    subst eq
    have := new_pair R n (.int (i : Int)) rw'
    simpa using this
  · obtain ⟨b, xs, eb, hs, rs⟩ := (one_src r).list e
    cases eb
    exact ⟨xs, hs, by rw [rs.length, ← hl]; exact hi⟩
theorem two_src {A : Addr → Prop} {H : Hp} {v w : V} {p q : PV} (r : Reps c.K c.G A H [v, w] [p, q]) : Rep c.K c.G A H v p ∧ Rep c.K c.G A H w q := by
  cases r with | cons r s => cases s with | cons s _ => exact ⟨r, s⟩
theorem its_zip {p q : PV} {jts : List PV} (e1 : lstOf p = some its) (e2 : lstOf q = some jts) : ItS c (Itz c.K a b) (zipL its jts) (Frz c [.ref a, .ref b] [p, q]) := by
  have hl := zipL_len its jts
  refine ⟨fun T ε σ H i R r hi => ?_, fun T ε σ H i u x H' R r hq y => ?_, fun T ε σ H i R r hi => ?_, frz_ok, frz_wr⟩
  · obtain ⟨a', xs, eb, hs, rs⟩ := (two_src r).1.list e1
    cases eb
    obtain ⟨b', ys, eb, hs', rs'⟩ := (two_src r).2.list e2
    cases eb
    have h1 : i < xs.length := by rw [rs.length]; omega
    have h2 : i < ys.length := by rw [rs'.length]; omega
    exact ⟨xs, ys, xs[i], ys[i], hs, hs', by simp [h1], by simp [h2]⟩
  · obtain ⟨a', xs, eb, hs, rs⟩ := (two_src r).1.list e1
    cases eb
    obtain ⟨b', ys, eb, hs', rs'⟩ := (two_src r).2.list e2
    cases eb
    obtain ⟨P, z, z', ex, n, eH, y1, y2⟩ := y
    subst ex eH
    obtain ⟨p', q', hp', hq', eq⟩ := zipL_get its jts i u hq
    obtain ⟨w, hw, rw'⟩ := rs.get hp'
    obtain ⟨w2, hw2, rw2⟩ := rs'.get hq'
    have e2 := y1 xs hs
    rw [hw] at e2; cases e2
    have e3 := y2 ys hs'
    rw [hw2] at e3; cases e3
    subst eq
    exact new_pair R n rw' rw2
  · obtain ⟨a', xs, eb, hs, rs⟩ := (two_src r).1.list e1
    cases eb
    obtain ⟨b', ys, eb, hs', rs'⟩ := (two_src r).2.list e2
    cases eb
    refine ⟨xs, ys, hs, hs', ?_⟩
    rw [rs.length, rs'.length]
    omega
theorem its_zipT {jts : List PV} : ItS c (RZ.ItzT c.K a b) (zipL its jts) (Frz c [.ref a, .ref b] [.tup its, .tup jts]) := by
  have hl := zipL_len its jts
  refine ⟨fun T ε σ H i R r hi => ?_, fun T ε σ H i u x H' R r hq y => ?_, fun T ε σ H i R r hi => ?_, frz_ok, frz_wr⟩
  · obtain ⟨a', xs, eb, hs, rs⟩ := (two_src r).1.tupl
    cases eb
    obtain ⟨b', ys, eb, hs', rs'⟩ := (two_src r).2.tupl
    cases eb
    have h1 : i < xs.length := by rw [rs.length]; omega
    have h2 : i < ys.length := by rw [rs'.length]; omega
    exact ⟨xs, ys, xs[i], ys[i], hs, hs', by simp [h1], by simp [h2]⟩
  · obtain ⟨a', xs, eb, hs, rs⟩ := (two_src r).1.tupl
    cases eb
    obtain ⟨b', ys, eb, hs', rs'⟩ := (two_src r).2.tupl
    cases eb
    obtain ⟨P, z, z', ex, n, eH, y1, y2⟩ := y
    subst ex eH
    obtain ⟨p', q', hp', hq', eq⟩ := zipL_get its jts i u hq
    obtain ⟨w, hw, rw'⟩ := rs.get hp'
    obtain ⟨w2, hw2, rw2⟩ := rs'.get hq'
    have e2 := y1 xs hs
    rw [hw] at e2; cases e2
    have e3 := y2 ys hs'
    rw [hw2] at e3; cases e3
    subst eq
    exact new_pair R n rw' rw2
  · obtain ⟨a', xs, eb, hs, rs⟩ := (two_src r).1.tupl
    cases eb
    obtain ⟨b', ys, eb, hs', rs'⟩ := (two_src r).2.tupl
    cases eb
    refine ⟨xs, ys, hs, hs', ?_⟩
    rw [rs.length, rs'.length]
    omega
end

/-! ### the rules of what is walked -/
/-- just n arguments -/
def BMany (bs : BADen) (n : Nat) : Prop := ∀ ε ts ε', bs ε = .ok ts ε' → ts.length = n
section
variable {X : Cx} {c : Fix} {W : WX} {e e2 tg : Expr} {es : List Expr} {d d2 : Den} {bs : BADen} {p pos tpos : Pos}
theorem ti_seq (hK : c.K = X.K) (he : PE X e (TEof c W d)) : PI X tg e (TIof c W (iSeq d)) := by
  refine ⟨fun pins s σ H R I h => ?_⟩
  obtain ⟨T, ε, R0, h⟩ := h
  have h' := Fin.bind (Ra := RlV c σ H) h
  refine thn (he.run pins s σ H _ I ⟨T, ε, R0, h'⟩) fun v s1 ⟨x, H1, I1, rv, r, ε1, e1, ⟨r1, _⟩, h1⟩ => ?_
  obtain ⟨R1, rp⟩ := r1.val
  have fresh : ∀ b ∈ [s1.heap.objs.size], FpOk X pins H1 b := fun b hb => by
    have e : b = s1.heap.objs.size := by simpa using hb
    subst e
    exact I1.fpOk (Nat.le_refl _) (I1.hok.fresh (Nat.le_refl _))
  cases ep : itemsOf r.pv with
  | none => rw [ep] at h1; exact h1.elim
  | some its =>
    rw [ep] at h1
    by_cases hL : lstOf r.pv = some its
    · obtain ⟨a, xs, rfl, hs, rs⟩ := Rep.list rp hL
      cases rv
      rw [hK] at hs
      obtain ⟨us, _, pl, _⟩ := I1.list hs
      refine wpAny_pyIter_list pl.isList ?_
      exact ⟨s1.heap.objs.size, [s1.heap.objs.size], _, _, H1, rfl, I1.kept (t' := s1.toks) fun b o e => Heap.get?_push_of_some _ e, turn_list a _, ⟨_, Heap.get?_push_size _ rfl, rfl, rfl⟩, fresh,
        Fin.at h1 e1 ⟨R1, Frz c [.ref a] [r.pv], .cons rp .nil, hK ▸ its_list hL, frz_w2⟩⟩
    · have ht : r.pv = .tup its := by
        cases q : r.pv with
        | tup ps => rw [q] at ep; cases ep; rfl
        | lst ps => rw [q] at ep hL; exact absurd ep hL
        | fl ps => rw [q] at ep hL; exact absurd ep hL
        | _ => rw [q] at ep; cases ep
      rw [ht] at rp
      obtain ⟨a, xs, rfl, hs, rs⟩ := Rep.tupl rp
      cases rv
      rw [hK] at hs
      obtain ⟨us, _, pl, _⟩ := I1.tuple hs
      refine wpAny_pyIter_tuple (show s1.heap.IsTuple a us.toArray from pl) ?_
      exact ⟨s1.heap.objs.size, [s1.heap.objs.size], _, _, H1, rfl, I1.kept (t' := s1.toks) fun b o e => Heap.get?_push_of_some _ e, turn_tuple a _, ⟨_, Heap.get?_push_size _ rfl, rfl, rfl⟩, fresh,
        Fin.at h1 e1 ⟨R1, Frz c [.ref a] [.tup its], .cons rp .nil, hK ▸ its_tup, frz_w2⟩⟩
theorem ti_range1 (hg : Gl X "range") (hm : X.mg "range" = none) (ha : PA X [e] (TBAof c W bs)) (hn : BMany bs 1) (hs : starEach [e] X.env = [(false, eval e X.env)]) : PI X tg (.Call (.Name "range" p) [e] [] pos) (TIof c W (iRange bs)) := by
  refine ⟨fun pins s σ H R I h => (pi_range1 hg hm ha hs).run pins s σ H R I ?_⟩
  obtain ⟨T, ε, R0, h⟩ := h
  refine ⟨T, ε, R0, ?_⟩
  have h' := Fin.bind (Ra := RlTs c σ) h
  cases ob : bs ε with
  | stk => rw [ob] at h'; exact h'
  | exc n p ε' => rw [ob] at h'; exact h'
  | ok ts ε1 =>
    rw [ob] at h'
    intro xs H1 e1 r1
    obtain ⟨ts', ε1', e1', ⟨R1, r1'⟩, h1⟩ := h' xs H1 e1 r1
    have hl : ts.length = 1 := hn _ _ _ ob
    cases p1 : resolves ε1' ts' with
    | none => rw [p1] at h1; exact h1.elim
    | some ps =>
      rw [p1] at h1
      have rr := r1'.read R1 p1
      have hx : xs.length = 1 := by rw [← Paired.length r1.2]; exact hl
      have hp : ps.length = 1 := by rw [← Paired.length rr]; exact hx
      obtain ⟨q, rfl⟩ : ∃ q, ps = [q] := by
        cases ps with
        | nil => cases hp
        | cons q qs => cases qs with
          | nil => exact ⟨q, rfl⟩
          | cons _ _ => simp at hp
      cases rr with
      | @cons x _ xs' _ rx rt =>
        cases rt
        cases q with
        | int j =>
          have ex := BRep.int rx
          subst ex
          have h1 : Fin (RlI c σ) c W T ε σ H (iRet ε1' (if -(2 ^ 62) ≤ j ∧ j < 2 ^ 62 ∧ j ≤ 2 ^ 24 then some (rangeL 0 j.toNat) else none)) R := h1
          by_cases hz : -(2 ^ 62) ≤ j ∧ j < 2 ^ 62 ∧ j ≤ 2 ^ 24
          · rw [if_pos hz] at h1
            exact ⟨j, rfl, hz.1, hz.2.1, Fin.at h1 e1' ⟨R1, Frz c [] [], .nil, its_range, frz_w2⟩⟩
          · rw [if_neg hz] at h1; exact h1.elim
        | _ => exact h1.elim
theorem ti_range2 (hg : Gl X "range") (hm : X.mg "range" = none) (ha : PA X [e, e2] (TBAof c W bs)) (hn : BMany bs 2) (hs : starEach [e, e2] X.env = [(false, eval e X.env), (false, eval e2 X.env)]) (hs2 : starEach [e2] X.env = [(false, eval e2 X.env)]) :
    PI X tg (.Call (.Name "range" p) [e, e2] [] pos) (TIof c W (iRange bs)) := by
  refine ⟨fun pins s σ H R I h => (pi_range2 hg hm ha hs hs2).run pins s σ H R I ?_⟩
  obtain ⟨T, ε, R0, h⟩ := h
  refine ⟨T, ε, R0, ?_⟩
  have h' := Fin.bind (Ra := RlTs c σ) h
  cases ob : bs ε with
  | stk => rw [ob] at h'; exact h'
  | exc n p ε' => rw [ob] at h'; exact h'
  | ok ts ε1 =>
    rw [ob] at h'
    intro xs H1 e1 r1
    obtain ⟨ts', ε1', e1', ⟨R1, r1'⟩, h1⟩ := h' xs H1 e1 r1
    have hl : ts.length = 2 := hn _ _ _ ob
    cases p1 : resolves ε1' ts' with
    | none => rw [p1] at h1; exact h1.elim
    | some ps =>
      rw [p1] at h1
      have rr := r1'.read R1 p1
      have hx : xs.length = 2 := by rw [← Paired.length r1.2]; exact hl
      have hp : ps.length = 2 := by rw [← Paired.length rr]; exact hx
      obtain ⟨q, q', rfl⟩ : ∃ q q', ps = [q, q'] := by
        cases ps with
        | nil => cases hp
        | cons q qs => cases qs with
          | nil => simp at hp
          | cons q' qs => cases qs with
            | nil => exact ⟨q, q', rfl⟩
            | cons _ _ => simp at hp
      cases rr with
      | @cons x _ xs' _ rx rt =>
        cases rt with
        | @cons y _ ys _ ry rt =>
        cases rt
        cases q with
        | int i =>
          cases q' with
          | int j =>
            have ex := BRep.int rx
            have ey := BRep.int ry
            subst ex ey
            have h1 : Fin (RlI c σ) c W T ε σ H (iRet ε1' (if -(2 ^ 62) ≤ i ∧ i < 2 ^ 62 ∧ -(2 ^ 62) ≤ j ∧ j < 2 ^ 62 ∧ j - i ≤ 2 ^ 24 then some (rangeL i (j - i).toNat) else none)) R := h1
            by_cases hz : -(2 ^ 62) ≤ i ∧ i < 2 ^ 62 ∧ -(2 ^ 62) ≤ j ∧ j < 2 ^ 62 ∧ j - i ≤ 2 ^ 24
            · rw [if_pos hz] at h1
              exact ⟨i, j, rfl, ⟨hz.1, hz.2.1, hz.2.2.1, hz.2.2.2.1⟩, Fin.at h1 e1' ⟨R1, Frz c [] [], .nil, its_range, frz_w2⟩⟩
            · rw [if_neg hz] at h1; exact h1.elim
          | _ => exact h1.elim
        | _ => exact h1.elim
theorem ti_enum {elts : List Expr} {kk : Nat} (hK : c.K = X.K) (hg : Gl X "enumerate") (hm : X.mg "enumerate" = none) (he : PE X e (TEof c W d)) (hs : starEach [e] X.env = (false, eval e X.env) :: starEach [] X.env) :
    PI X (.Tuple elts kk tpos) (.Call (.Name "enumerate" p) [e] [] pos) (TIof c W (iEnum d)) := by
  refine ⟨fun pins s σ H R I h => (pi_enum hg hm (pa_cons he pa_nil hs) hs).run pins s σ H R I ?_⟩
  obtain ⟨T, ε, R0, h⟩ := h
  refine ⟨T, ε, R0, (Fin.bind h).mono fun x H1 ⟨r, ε1, e1, ⟨r1, _⟩, h1⟩ => ?_⟩
  obtain ⟨R1, rp⟩ := r1.val
  cases ep : lstOf r.pv with
  | none => rw [ep] at h1; exact h1.elim
  | some its =>
    rw [ep] at h1
    obtain ⟨a, xs, rfl, hs', rs⟩ := Rep.list rp ep
    rw [hK] at hs'
    exact ⟨a, xs, rfl, hs', Fin.at h1 e1 ⟨R1, Frz c [.ref a] [r.pv], .cons rp .nil, hK ▸ its_enum ep, frz_w2⟩⟩
theorem ti_zip {elts : List Expr} {kk : Nat} (hK : c.K = X.K) (hg : Gl X "zip") (hm : X.mg "zip" = none) (he : PE X e (TEof c W d)) (he2 : PE X e2 (TEof c W d2)) (hs : starEach [e, e2] X.env = (false, eval e X.env) :: starEach [e2] X.env) (hs2 : starEach [e2] X.env = (false, eval e2 X.env) :: starEach [] X.env)
    (hpl : (backTo pos (starEach [e2] X.env)).any (·.1) = false) : PI X (.Tuple elts kk tpos) (.Call (.Name "zip" p) [e, e2] [] pos) (TIof c W (iZip d d2)) := by
  refine ⟨fun pins s σ H R I h => (RZ.pi_zipA hg hm (pa_cons he (pa_cons he2 pa_nil hs2) hs) hs hpl).run pins s σ H R I ?_⟩
  obtain ⟨T, ε, R0, h⟩ := h
  refine ⟨T, ε, R0, (Fin.bind h).mono fun x H1 ⟨r, ε1, e1, ⟨r1, _⟩, h1⟩ => ?_⟩
  obtain ⟨R1, rp⟩ := r1.val
  refine ⟨T, ε1, R1, (Fin.bind (Ra := RlV c σ H1) (h1.from e1)).mono fun y H2 ⟨r2, ε2, e2, ⟨q2, _⟩, h2⟩ => ?_⟩
  obtain ⟨R2, rp2⟩ := q2.val
  have rp' := rp.et e2
  have fin : ∀ its, zipOf r.pv r2.pv = some its → ∀ J, (∃ S : SrcT, S T ε2 σ H2 ∧ ItS c J its S ∧ SrcW2 c S) → R J H2 := fun its ez J q => by
    have h2 : Fin (RlI c σ) c W T ε1 σ H1 (iRet ε2 (zipOf r.pv r2.pv)) R := h2
    rw [ez] at h2
    exact Fin.at h2 e2 ⟨R2, q⟩
  have some_ : zipOf r.pv r2.pv ≠ none := fun ez => by
    have h2 : Fin (RlI c σ) c W T ε1 σ H1 (iRet ε2 (zipOf r.pv r2.pv)) R := h2
    rw [ez] at h2
    exact h2
  cases ea : lstOf r.pv with
  | some ia =>
    cases eb : lstOf r2.pv with
    | some ib =>
      have ez : zipOf r.pv r2.pv = some (zipL ia ib) := by unfold zipOf; rw [ea, eb]
      obtain ⟨a, xs, rfl, hs', rs⟩ := Rep.list rp' ea
      obtain ⟨b, ys, rfl, hs2', rs2⟩ := Rep.list rp2 eb
      rw [hK] at hs' hs2'
      exact ⟨a, b, xs, ys, rfl, .inl ⟨hs', hs2', fin _ ez _ ⟨Frz c [.ref a, .ref b] [r.pv, r2.pv], .cons rp' (.cons rp2 .nil), hK ▸ its_zip ea eb, frz_w2⟩⟩⟩
    | none =>
      exfalso
      refine some_ ?_
      unfold zipOf; rw [ea, eb]
      cases q : r.pv with
      | tup ps => rw [q] at ea; cases ea
      | _ => rfl
  | none =>
    cases q : r.pv with
    | tup ps =>
      cases q2 : r2.pv with
      | tup qs =>
        have ez : zipOf r.pv r2.pv = some (zipL ps qs) := by rw [q, q2]; rfl
        rw [q] at rp'
        rw [q2] at rp2
        obtain ⟨a, xs, rfl, hs', rs⟩ := Rep.tupl rp'
        obtain ⟨b, ys, rfl, hs2', rs2⟩ := Rep.tupl rp2
        rw [hK] at hs' hs2'
        exact ⟨a, b, xs, ys, rfl, .inr ⟨hs', hs2', fin _ ez _ ⟨Frz c [.ref a, .ref b] [.tup ps, .tup qs], .cons rp' (.cons rp2 .nil), hK ▸ its_zipT, frz_w2⟩⟩⟩
      | _ => exact (some_ (by rw [q, q2]; rfl)).elim
    | _ => exact (some_ (by unfold zipOf; rw [ea, q])).elim
end

/-! ### for -/
section
variable {X : Cx} {c : Fix} {W : WX} {iter tg : Expr} {body : List Stmt} {it : IDen} {g : Tg} {s : SDen} {pos : Pos}
theorem ts_for (hp : PassesOwn (model X.prog X.w) X.A X.env X.xe) (hc : X.calm = true) (hi : PI X tg iter (TIof c W it)) (hg : PG X tg (TGof c g)) (hb : PSs X body (TSof c W s)) (hs : ∀ x, foldedSetIterable iter X.env x = pure x) :
    PS X (.For tg iter body [] pos) (TSof c W (sFor it g s)) := by
  refine ⟨fun pins s0 σ H D I h => (ps_for hp hc hi hg hb hs).run pins s0 σ H D I ?_⟩
  obtain ⟨ε, R, h⟩ := h
  refine ⟨[], ε, R, (FinS.ex h).mono fun J H1 ⟨its, ε1, e1, ⟨R1, Sr, rs, S, _⟩, h1⟩ => ?_⟩
  refine ⟨fun i m σ' H' => ∃ ε', SR c [] ε' σ' H' ∧ Sr [] ε' σ' H' ∧ m = its.length - i ∧ FinS c W ε' σ' H' (forL g s (its.drop i) ε') D, ⟨_, ε1, R1, rs, rfl, by rw [List.drop_zero]; exact h1⟩, ?_⟩
  rintro i m σ2 H2 ⟨ε2, R2, rs2, rfl, h2⟩
  by_cases hlt : i < its.length
  · refine .inr ⟨S.go [] ε2 σ2 H2 i R2 rs2 hlt, fun σ' H' => ∃ ε', SR c [] ε' σ' H' ∧ Sr [] ε' σ' H' ∧ FinS c W ε' σ' H' (forL g s (its.drop (i + 1)) ε') D,
      fun σ' H' ⟨ε', a, b, d⟩ => ⟨its.length - (i + 1), by omega, ε', a, b, rfl, d⟩, fun x H3 y => ?_⟩
    have hget : its[i]? = some its[i] := by simp [hlt]
    obtain ⟨k3, rx⟩ := S.yld [] ε2 σ2 H2 i _ x H3 R2 rs2 hget y
    have R3 := R2.kept k3
    have tr3 : Tr (OwnAt ε2 σ2) (OwnAt ε2 σ2) H2 H3 := .kept k3
    rw [List.drop_eq_getElem_cons hlt] at h2
    have h2 : FinS c W ε2 σ2 H2 (match g.set its[i] ε2 with
      | none => .stk
      | some ε => (s ε).bind fun f ε => (match f with
        | .nx => forL g s (its.drop (i + 1)) ε
        | .ct => forL g s (its.drop (i + 1)) ε
        | .bk => .ok .nx ε
        | .rt r => .ok (.rt r) ε)) D := h2
    cases eg : g.set its[i] ε2 with
    | none => rw [eg] at h2; exact h2.elim
    | some ε4 =>
      rw [eg] at h2
      refine ⟨[], ε2, its[i], ε4, R3, rx, eg, fun σ4 R4 hO hl _ => ?_⟩
      have tr4 : Tr (OwnAt ε2 σ2) (OwnAt ε4 σ4) H2 H3 := tr3.trans ⟨fun b o h _ => h, fun _ h => h, fun b q => .inl (hO b q)⟩
      have h4 := FinS.from tr4 h2
      have rs4 : Sr [] ε4 σ4 H3 := S.ok [] [] _ _ _ _ _ _ R2 tr4 (fun a h => .inl h) (fun a h => h) rs2
      refine ⟨ε4, R4, ?_⟩
      dsimp only at h4
      cases o : s ε4 with
      | stk => rw [o] at h4; exact h4
      | exc n p ε' => rw [o] at h4; exact h4
      | ok f ε' =>
        rw [o] at h4
        cases f with
        | nx => exact fun σ' H' t' R' => ⟨ε', R', S.ok [] [] _ _ _ _ _ _ R4 t' (fun a h => .inl h) (fun a h => h) rs4, FinS.from t' h4⟩
        | ct => exact fun σ' H' t' R' => ⟨ε', R', S.ok [] [] _ _ _ _ _ _ R4 t' (fun a h => .inl h) (fun a h => h) rs4, FinS.from t' h4⟩
        | bk => exact h4
        | rt r => exact h4
  · have hd : its.drop i = [] := List.drop_eq_nil_of_le (by omega)
    rw [hd] at h2
    exact .inl ⟨S.stop [] ε2 σ2 H2 i R2 rs2 (by omega), h2 σ2 H2 .refl R2⟩
end
end EV


set_option Elab.async false
set_option linter.all false
set_option maxRecDepth 100000
set_option maxHeartbeats 4000000
/-! EvI: comprehensions. -/
namespace EV
open PySem PySem.Spec PyProof.Rows L2

/-! ### wiping slots -/
theorem wipe_get (σ : L2.St) (i : Nat) : ∀ vs : List Nat, (wipe σ vs)[i]? = if i ∈ vs then σ[i]?.map (fun _ => none) else σ[i]?
  | [] => by simp [wipe]
  | v :: vs => by
    have ih := wipe_get σ i vs
    show ((wipe σ vs).set v none)[i]? = _
    by_cases e : i = v
    · subst e
      rw [if_pos List.mem_cons_self]
      by_cases hl : i < σ.length
      · rw [List.getElem?_set_self (by rw [wipe_length]; exact hl), List.getElem?_eq_getElem hl]; rfl
      · rw [List.getElem?_eq_none (by rw [List.length_set, wipe_length]; omega), List.getElem?_eq_none (by omega)]; rfl
    · rw [List.getElem?_set_ne (Ne.symm e), ih]
      by_cases hm : i ∈ vs
      · rw [if_pos hm, if_pos (List.mem_cons_of_mem _ hm)]
      · rw [if_neg hm, if_neg (fun z => (List.mem_cons.mp z).elim e hm)]
theorem wipeE_get (ε : Ev) (i : Nat) : ∀ vs : List Nat, (wipeE ε vs)[i]? = if i ∈ vs then ε[i]?.map (fun _ => Slot.emp) else ε[i]?
  | [] => by simp [wipeE]
  | v :: vs => by
    have ih := wipeE_get ε i vs
    have hlen : (wipeE ε vs).length = ε.length := by
      clear ih
      induction vs with
      | nil => rfl
      | cons w ws ih => show ((wipeE ε ws).set w .emp).length = _; rw [List.length_set, ih]
    show ((wipeE ε vs).set v .emp)[i]? = _
    by_cases e : i = v
    · subst e
      rw [if_pos List.mem_cons_self]
      by_cases hl : i < ε.length
      · rw [List.getElem?_set_self (by rw [hlen]; exact hl), List.getElem?_eq_getElem hl]; rfl
      · rw [List.getElem?_eq_none (by rw [List.length_set, hlen]; omega), List.getElem?_eq_none (by omega)]; rfl
    · rw [List.getElem?_set_ne (Ne.symm e), ih]
      by_cases hm : i ∈ vs
      · rw [if_pos hm, if_pos (List.mem_cons_of_mem _ hm)]
      · rw [if_neg hm, if_neg (fun z => (List.mem_cons.mp z).elim e hm)]
theorem back_get (ε0 ε : Ev) (i : Nat) (hl : ε0.length = ε.length) : ∀ vs : List Nat, (back ε0 vs ε)[i]? = if i ∈ vs then ε0[i]? else ε[i]?
  | [] => by simp [back]
  | v :: vs => by
    have ih := back_get ε0 ε i hl vs
    have hlen : (back ε0 vs ε).length = ε.length := by
      clear ih
      induction vs with
      | nil => rfl
      | cons w ws ih => show ((back ε0 ws ε).set w _).length = _; rw [List.length_set, ih]
    show ((back ε0 vs ε).set v (ε0[v]?.getD .emp))[i]? = _
    by_cases e : i = v
    · subst e
      rw [if_pos List.mem_cons_self]
      by_cases h : i < ε.length
      · rw [List.getElem?_set_self (by rw [hlen]; exact h), List.getElem?_eq_getElem (by omega)]; rfl
      · rw [List.getElem?_eq_none (by rw [List.length_set, hlen]; omega), List.getElem?_eq_none (by omega)]
    · rw [List.getElem?_set_ne (Ne.symm e), ih]
      by_cases hm : i ∈ vs
      · rw [if_pos hm, if_pos (List.mem_cons_of_mem _ hm)]
      · rw [if_neg hm, if_neg (fun z => (List.mem_cons.mp z).elim e hm)]
theorem back_len (ε0 ε : Ev) : ∀ vs : List Nat, (back ε0 vs ε).length = ε.length
  | [] => rfl
  | v :: vs => by show ((back ε0 vs ε).set v _).length = _; rw [List.length_set, back_len ε0 ε vs]
theorem wipe_same {σ σ2 : L2.St} {vs : List Nat} (hl : σ2.length = (wipe σ vs).length) (h : ∀ i, i ∉ vs → σ2[i]? = (wipe σ vs)[i]?) : wipe σ2 vs = wipe σ vs := by
  have hl' : σ2.length = σ.length := by rw [hl, wipe_length]
  refine List.ext_getElem? fun i => ?_
  rw [wipe_get, wipe_get]
  by_cases hm : i ∈ vs
  · rw [if_pos hm, if_pos hm]
    by_cases hi : i < σ.length
    · rw [List.getElem?_eq_getElem hi, List.getElem?_eq_getElem (by omega)]; rfl
    · rw [List.getElem?_eq_none (by omega), List.getElem?_eq_none (by omega)]
  · rw [if_neg hm, if_neg hm, h i hm, wipe_get, if_neg hm]
section
variable {c : Fix} {T : List Addr} {ε : Ev} {σ : L2.St} {H : Hp}
theorem SR.wipe (R : SR c T ε σ H) : ∀ vs : List Nat, SR c T (wipeE ε vs) (L2.wipe σ vs) H
  | [] => R
  | v :: vs => SR.clear (j := v) (SR.wipe R vs) (by show ((L2.wipe σ vs).set v none).length = _; rw [List.length_set]) fun i hi => by
    show ((L2.wipe σ vs).set v none)[i]? = _
    rw [List.getElem?_set_ne (Ne.symm hi)]
theorem OwnAt.wipe {vs : List Nat} {b : Addr} (h : OwnAt (wipeE ε vs) (L2.wipe σ vs) b) : OwnAt ε σ b := by
  obtain ⟨i, k, ps, e, s⟩ := h
  rw [wipeE_get] at e
  rw [wipe_get] at s
  by_cases hm : i ∈ vs
  · rw [if_pos hm] at e
    cases q : ε[i]? with
    | none => rw [q] at e; cases e
    | some x => rw [q] at e; cases e
  · rw [if_neg hm] at e s
    exact ⟨i, k, ps, e, s⟩
/-- a list that is laid aside is changed -/
theorem SR.tmpWrite (R : SR c T ε σ H) {a : Addr} (ha : a ∈ T) {ys : List V} : SR c T ε σ (L2.upd H a (.lst ys)) := by
  have hA : c.A T ε σ a := .inr (.inr ha)
  have hk : ∀ b o, H b = some o → ¬ c.A T ε σ b → L2.upd H a (.lst ys) b = some o := fun b o hb nb => by
    rw [upd_ne (fun z => nb (by rw [z]; exact hA))]; exact hb
  obtain ⟨_, ha0⟩ := R.tmp a ha
  refine ⟨R.len, fun i p e => ?_, fun i k ps e => ?_, R.inj, fun b hb => ?_, fun b o hb nb => ?_, fun b hb => ?_⟩
  · obtain ⟨v, s, r⟩ := R.val i p e
    exact ⟨v, s, r.mono (fun _ h => .inl h) hk⟩
  · obtain ⟨b, xs, s, h, r, n, f⟩ := R.own i k ps e
    exact ⟨b, xs, s, by rw [upd_ne (fun z => n (by rw [z]; exact ha))]; exact h, r.mono (fun _ h => .inl h) hk, n, f⟩
  · by_cases z : b = a
    · rw [z]; exact ⟨⟨ys, upd_same⟩, ha0⟩
    · obtain ⟨⟨xs, e⟩, q⟩ := R.tmp b hb
      exact ⟨⟨xs, by rw [upd_ne z]; exact e⟩, q⟩
  · have z : b ≠ a := fun z => by
      subst z
      rcases ha0 with q | q
      · rw [hb] at q; cases q
      · exact nb q
    rw [upd_ne z]; exact R.fr b o hb nb
  · by_cases z : b = a
    · rw [z, upd_same]; exact fun q => nomatch q
    · rw [upd_ne z]; exact R.s0 b hb
end

/-- no exception leaves a block -/
abbrev W0 : WX := fun _ _ _ _ => False
def tTrue : TDen := fun ε => .ok true ε
theorem tts_nil {X : Cx} {c : Fix} : PTs X [] (TTof c W0 tTrue) := by
  refine ⟨fun pins s σ H Q I h => pts_nil.run pins s σ H Q I ?_⟩
  obtain ⟨T, ε, R, h⟩ := h
  exact Fin.at h .refl ⟨R, rfl⟩
theorem tts_one {X : Cx} {c : Fix} {e : Expr} {t : TDen} (h : PT X e (TTof c W0 t)) : PTs X [e] (TTof c W0 t) := pts_one h

/-- what a block's turns keep, seen from its start (ε1, σ, H1) -/
structure EW (σ : L2.St) (ε1 ε' : Ev) (σ' : L2.St) (H1 H' : Hp) : Prop where
  keep : ∀ b o, H1 b = some o → ¬ OwnAt ε1 σ b → H' b = some o
  there : ∀ b, H' b = none → H1 b = none
  own : ∀ b, OwnAt ε' σ' b → OwnAt ε1 σ b
theorem EW.step {σ σ' σ2 : L2.St} {ε1 ε' ε2 : Ev} {H1 H' H2 : Hp} (a : EW σ ε1 ε' σ' H1 H') (k : ∀ b o, H' b = some o → ¬ OwnAt ε' σ' b → H2 b = some o) (t : ∀ b, H2 b = none → H' b = none) (o : ∀ b, OwnAt ε2 σ2 b → OwnAt ε' σ' b) : EW σ ε1 ε2 σ2 H1 H2 :=
  ⟨fun b u h n => k b u (a.keep b u h n) fun q => n (a.own b q), fun b h => a.there b (t b h), fun b q => a.own b (o b q)⟩
theorem EW.tr {σ σ' : L2.St} {ε1 ε' : Ev} {H1 H' : Hp} (a : EW σ ε1 ε' σ' H1 H') : Tr (OwnAt ε1 σ) (OwnAt ε' σ') H1 H' := ⟨a.keep, a.there, fun b q => .inl (a.own b q)⟩

/-- the turns of a block: D the new list, J the walk over its, from (ε1, σ, H1) on -/
theorem comp_turns {c : Fix} {T : List Addr} {ε1 εF : Ev} {σ : L2.St} {H1 : Hp} {vs : List Nat} {g : Tg} {t : TDen} {e : Den} {its accF : List PV} {J : It} {S : SrcT} {D : Addr} {Qd : Hp → Prop}
    (R1 : SR c T ε1 σ H1) (s1 : S T ε1 σ H1) (I : ItS c J its S) (hg : ∀ i ∈ g.js, i ∈ vs) (hz : its.length < sizeLine) (hD : H1 D = none)
    (hc : compL vs g t e its [] (wipeE ε1 vs) = .ok accF εF)
    (fin : ∀ H', EW σ ε1 εF (wipe σ vs) H1 H' → SR c (D :: T) εF (wipe σ vs) H' → (∃ xs, H' D = some (.lst xs) ∧ Reps c.K c.G (c.A (D :: T) εF (wipe σ vs)) H' xs accF) → Qd H') :
    ∃ Wm : Nat → Nat → Hp → Prop, (∃ m, Wm 0 m (upd H1 D (.lst []))) ∧ ∀ i m H, Wm i m H →
      (J.stop i H ∧ Qd H) ∨ (J.go i H ∧ ∃ Nx : Hp → Prop, (∀ H', Nx H' → ∃ m', m' < m ∧ Wm (i + 1) m' H') ∧ ∀ x H', J.yld i H x H' → TGof c g x (wipe σ vs) H' fun σ2 H2 => wipe σ2 vs = wipe σ vs ∧ TTof c W0 t σ2 H2 fun b H3 =>
        if b = true then TEof c W0 e σ2 H3 fun y H4 => ∃ acc, H4 D = some (.lst acc) ∧ acc.length < sizeLine ∧ Nx (upd H4 D (.lst (acc ++ [y]))) else Nx H3) := by
  obtain ⟨off, hoff, hwr⟩ := I.wr
  have offD : off D := hoff _ _ _ _ _ R1 s1 hD
  let In : Nat → Hp → Prop := fun i H' => ∃ ε' acc xs, SR c (D :: T) ε' (wipe σ vs) H' ∧ H' D = some (.lst xs) ∧ Reps c.K c.G (c.A (D :: T) ε' (wipe σ vs)) H' xs acc ∧ S (D :: T) ε' (wipe σ vs) H' ∧ i ≤ its.length ∧ acc.length ≤ i ∧
    compL vs g t e (its.drop i) acc ε' = .ok accF εF ∧ EW σ ε1 ε' (wipe σ vs) H1 H'
  have start : In 0 (upd H1 D (.lst [])) := by
    obtain ⟨h1, h2, h3⟩ := R1.grow (keep_upd hD) hD (H' := upd H1 D (.lst [])) (xs := []) upd_same
    have ew : EW σ ε1 (wipeE ε1 vs) (wipe σ vs) H1 (upd H1 D (.lst [])) := ⟨fun b o h _ => keep_upd hD b o h, there_of (keep_upd hD), fun b q => q.wipe⟩
    exact ⟨wipeE ε1 vs, [], [], h3.wipe vs, upd_same, .nil, I.ok T (D :: T) _ _ _ _ _ _ R1 ew.tr (fun a h => by
      rcases List.mem_cons.mp h with z | z
      · rw [z]; exact .inr hD
      · exact .inl z) (fun a h => List.mem_cons_of_mem _ h) s1, Nat.zero_le _, Nat.le_refl _, by rw [List.drop_zero]; exact hc, ew⟩
  refine ⟨fun i m H => m = its.length - i ∧ In i H, ⟨_, rfl, start⟩, ?_⟩
  rintro i m H ⟨rfl, ε2, acc, xs, R2, hDx, rx, s2, hi, hacc, hcl, ew⟩
  by_cases hlt : i < its.length
  · refine .inr ⟨I.go _ _ _ _ i R2 s2 hlt, In (i + 1), fun H' q => ⟨its.length - (i + 1), by omega, rfl, q⟩, fun x H3 y => ?_⟩
    have hget : its[i]? = some its[i] := by simp [hlt]
    obtain ⟨k3, rp⟩ := I.yld _ _ _ _ i _ x H3 R2 s2 hget y
    have R3 := R2.kept k3
    rw [List.drop_eq_getElem_cons hlt] at hcl
    unfold compL at hcl
    cases eg : g.set its[i] ε2 with
    | none => rw [eg] at hcl; cases hcl
    | some ε4 =>
      rw [eg] at hcl
      dsimp only at hcl
      refine ⟨D :: T, ε2, its[i], ε4, R3, rp, eg, fun σ4 R4 hO hl hs => ?_⟩
      have hw : wipe σ4 vs = wipe σ vs := wipe_same hl fun i hi => hs i fun z => hi (hg i z)
      have ew4 : EW σ ε1 ε4 σ4 H1 H3 := ew.step (fun b o h _ => k3 b o h) (there_of k3) hO
      refine ⟨hw, D :: T, ε4, R4, ?_⟩
      -- what is kept up to a later point of the turn
      have later : ∀ {ε5 : Ev} {H5 : Hp}, SR c (D :: T) ε5 σ4 H5 → ET σ4 ε4 ε5 H3 H5 → EW σ ε1 ε5 σ4 H1 H5 ∧ H5 D = some (.lst xs) ∧ Reps c.K c.G (c.A (D :: T) ε5 σ4) H5 xs acc ∧ S (D :: T) ε5 σ4 H5 := fun {ε5 H5} R5 e5 => by
        have t4 : Tr (OwnAt ε2 (wipe σ vs)) (OwnAt ε4 σ4) H H3 := ⟨fun b o h _ => k3 b o h, there_of k3, fun b q => .inl (hO b q)⟩
        have t5 := t4.trans e5.tr
        exact ⟨ew4.step e5.keep e5.there e5.own, e5.keep D _ (k3 D _ hDx) (R4.notOwn List.mem_cons_self), rx.through t5 fun a h => .inl h, I.ok _ _ _ _ _ _ _ _ R2 t5 (fun a h => .inl h) (fun a h => h) s2⟩
      cases et : t ε4 with
      | stk => rw [et] at hcl; cases hcl
      | exc n p ε' => rw [et] at hcl; cases hcl
      | ok k ε5 =>
        rw [et] at hcl
        intro b H5 e5 ⟨R5, ek⟩
        subst ek
        obtain ⟨ew5, hD5, rx5, s5⟩ := later R5 e5
        cases k with
        | false =>
          rw [if_neg Bool.false_ne_true]
          dsimp only at hcl
          have t6 : Tr (OwnAt ε5 σ4) (OwnAt (wipeE ε5 vs) (wipe σ vs)) H5 H5 := ⟨fun b o h _ => h, fun _ h => h, fun b q => .inl (by rw [← hw] at q; exact q.wipe)⟩
          refine ⟨wipeE ε5 vs, acc, xs, by rw [← hw]; exact R5.wipe vs, hD5, rx5.through t6 fun a h => .inl h, I.ok _ _ _ _ _ _ _ _ R5 t6 (fun a h => .inl h) (fun a h => h) s5, hlt, Nat.le_succ_of_le hacc, hcl, ew5.step (fun b o h _ => h) (fun _ h => h) fun b q => by rw [← hw] at q; exact q.wipe⟩
        | true =>
          rw [if_pos rfl]
          dsimp only at hcl
          refine ⟨D :: T, ε5, R5, ?_⟩
          cases ee : e ε5 with
          | stk => rw [ee] at hcl; cases hcl
          | exc n p ε' => rw [ee] at hcl; cases hcl
          | ok r ε6 =>
            rw [ee] at hcl
            intro y H6 e6 ⟨r6, _⟩
            obtain ⟨R6, ry⟩ := r6.val
            obtain ⟨ew6, hD6, rx6, s6⟩ := later R6 (e5.trans e6)
            have hlx : xs.length < sizeLine := by
              rw [rx6.length]
              omega
            refine ⟨xs, hD6, hlx, ?_⟩
            have nD : ¬ OwnAt ε6 σ4 D := R6.notOwn List.mem_cons_self
            have k7 : ∀ b o, H6 b = some o → ¬ c.A (D :: T) ε6 σ4 b → upd H6 D (.lst (xs ++ [y])) b = some o := fun b o h n => by
              rw [upd_ne (fun z => n (by rw [z]; exact .inr (.inr List.mem_cons_self)))]; exact h
            have a7 : ∀ b, c.A (D :: T) (wipeE ε6 vs) (wipe σ vs) b → c.A (D :: T) ε6 σ4 b ∨ H6 b = none := fun b q => .inl (q.imp id fun q => q.imp (fun q => by rw [← hw] at q; exact q.wipe) id)
            refine ⟨wipeE ε6 vs, acc ++ [r.pv], xs ++ [y], by rw [← hw]; exact (R6.tmpWrite List.mem_cons_self).wipe vs, upd_same, (rx6.append (.cons ry .nil)).mono a7 k7, ?_, hlt, by rw [List.length_append]; exact Nat.succ_le_succ hacc, hcl, ?_⟩
            · have s7 := hwr _ _ _ _ _ (xs ++ [y]) R6 s6 List.mem_cons_self offD
              have t7 : Tr (OwnAt ε6 σ4) (OwnAt (wipeE ε6 vs) (wipe σ vs)) (upd H6 D (.lst (xs ++ [y]))) (upd H6 D (.lst (xs ++ [y]))) := ⟨fun b o h _ => h, fun _ h => h, fun b q => .inl (by rw [← hw] at q; exact q.wipe)⟩
              exact I.ok _ _ _ _ _ _ _ _ (R6.tmpWrite List.mem_cons_self) t7 (fun a h => .inl h) (fun a h => h) s7
            · refine ⟨fun b o h n => ?_, fun b h => ?_, fun b q => ew6.own b (by rw [← hw] at q; exact q.wipe)⟩
              · have z := ew6.keep b o h n
                rw [upd_ne (fun q => by rw [q, hD] at h; cases h)]; exact z
              · by_cases q : b = D
                · rw [q, upd_same] at h; cases h
                · rw [upd_ne q] at h; exact ew6.there b h
  · have hd : its.drop i = [] := List.drop_eq_nil_of_le (by omega)
    rw [hd] at hcl
    unfold compL at hcl
    cases hcl
    exact .inl ⟨I.stop _ _ _ _ i R2 s2 (by omega), fin H ew R2 ⟨xs, hDx, rx⟩⟩

/-- no slot of vs holds a list of one's own -/
def NoOwn (ε : Ev) (vs : List Nat) : Prop := ∀ i ∈ vs, isOwn ε[i]? = false
theorem NoOwn.no {ε : Ev} {vs : List Nat} (h : NoOwn ε vs) {i : Nat} {k : Bool} {ps : List PV} (hi : i ∈ vs) (e : ε[i]? = some (.own k ps)) : False := by
  have := h i hi
  rw [e] at this; cases this
section
variable {c : Fix} {T : List Addr} {ε1 εF : Ev} {σ : L2.St} {H1 H' : Hp} {vs : List Nat} {D : Addr}
theorem back_own (hn : NoOwn ε1 vs) (hl : ε1.length = εF.length) {b : Addr} (h : OwnAt (back ε1 vs εF) σ b) : OwnAt εF (wipe σ vs) b := by
  obtain ⟨i, k, ps, e, s⟩ := h
  rw [back_get _ _ _ hl] at e
  by_cases hm : i ∈ vs
  · rw [if_pos hm] at e; exact (hn.no hm e).elim
  · rw [if_neg hm] at e
    exact ⟨i, k, ps, e, by rw [wipe_get, if_neg hm]; exact s⟩
/-- behind a block: the slots of its names are what they were -/
theorem SR.back (R1 : SR c T ε1 σ H1) (RF : SR c (D :: T) εF (L2.wipe σ vs) H') (hn : NoOwn ε1 vs) (hD : H1 D = none) (ew : EW σ ε1 εF (L2.wipe σ vs) H1 H') :
    SR c (D :: T) (EV.back ε1 vs εF) σ H' ∧ (∀ b, c.A (D :: T) (EV.back ε1 vs εF) σ b → c.A (D :: T) εF (L2.wipe σ vs) b) ∧ ET σ ε1 (EV.back ε1 vs εF) H1 H' := by
  have hl : ε1.length = εF.length := by rw [R1.len, RF.len, wipe_length]
  have hA : ∀ b, c.A (D :: T) (EV.back ε1 vs εF) σ b → c.A (D :: T) εF (L2.wipe σ vs) b := fun b q => q.imp id fun q => q.imp (back_own hn hl) id
  have hE : ET σ ε1 (EV.back ε1 vs εF) H1 H' := ⟨ew.keep, ew.there, fun b q => ew.own b (back_own hn hl q)⟩
  refine ⟨⟨by rw [back_len, RF.len, wipe_length], fun i p e => ?_, fun i k ps e => ?_, fun i j k l ps qs a e1 e2 s1 s2 => ?_, RF.tmp, RF.fr, RF.s0⟩, hA, hE⟩
  · rw [back_get _ _ _ hl] at e
    by_cases hm : i ∈ vs
    · rw [if_pos hm] at e
      obtain ⟨v, s, r⟩ := R1.val i p e
      refine ⟨v, s, r.mono (fun b q => ?_) fun b o h n => ew.keep b o h fun q => n (.inr (.inl q))⟩
      rcases q with q | q | q
      · exact .inl (.inl q)
      · exact .inl (.inr (.inl (hE.own b q)))
      · rcases List.mem_cons.mp q with z | z
        · rw [z]; exact .inr hD
        · exact .inl (.inr (.inr z))
    · rw [if_neg hm] at e
      obtain ⟨v, s, r⟩ := RF.val i p e
      rw [wipe_get, if_neg hm] at s
      exact ⟨v, s, r.mono (fun b q => .inl (hA b q)) fun b o e _ => e⟩
  · rw [back_get _ _ _ hl] at e
    by_cases hm : i ∈ vs
    · rw [if_pos hm] at e; exact (hn.no hm e).elim
    · rw [if_neg hm] at e
      obtain ⟨a, xs, s, h, r, n, f⟩ := RF.own i k ps e
      rw [wipe_get, if_neg hm] at s
      exact ⟨a, xs, s, h, r.mono (fun b q => .inl (hA b q)) fun b o e _ => e, n, f⟩
  · rw [back_get _ _ _ hl] at e1 e2
    by_cases hm : i ∈ vs
    · rw [if_pos hm] at e1; exact (hn.no hm e1).elim
    · by_cases hm2 : j ∈ vs
      · rw [if_pos hm2] at e2; exact (hn.no hm2 e2).elim
      · rw [if_neg hm] at e1
        rw [if_neg hm2] at e2
        exact RF.inj i j k l ps qs a e1 e2 (by rw [wipe_get, if_neg hm]; exact s1) (by rw [wipe_get, if_neg hm2]; exact s2)
end
theorem any_false {ε : Ev} {vs : List Nat} (h : vs.any (fun v => isOwn ε[v]?) = false) : NoOwn ε vs := fun i hi => by
  rw [List.any_eq_false] at h
  have := h i hi
  cases q : isOwn ε[i]? with
  | false => rfl
  | true => rw [q] at this; exact absurd rfl this
section
variable {X : Cx} {c : Fix} {W : WX} {elt tg iter : Expr} {ifs : List Expr} {scope : Scope} {own : List (Str × Nat)} {pos : Pos} {it : IDen} {g : Tg} {t : TDen} {e : Den}
theorem comp_core {σ : L2.St} {H H1 : Hp} {Q : VK} {vs : List Nat} {T : List Addr} {ε ε1 : Ev} {its : List PV} {J : It} {S : SrcT} (hj : ∀ i ∈ g.js, i ∈ vs) (R1 : SR c T ε1 σ H1) (s1 : S T ε1 σ H1) (hI : ItS c J its S) (e1 : ET σ ε ε1 H H1)
    (h1 : Fin (RlV c σ H) c W T ε σ H (if vs.any (fun v => isOwn ε1[v]?) || !decide (its.length < sizeLine) then .stk else
      match compL vs g t e its [] (wipeE ε1 vs) with
      | .ok acc ε' => .ok (.f acc) (back ε1 vs ε')
      | _ => .stk) Q) (D : Addr) (hD : H1 D = none) :
    ∃ Wm : Nat → Nat → Hp → Prop, (∃ m, Wm 0 m (upd H1 D (.lst []))) ∧ ∀ i m H, Wm i m H →
      (J.stop i H ∧ Q (.ref D) H) ∨ (J.go i H ∧ ∃ Nx : Hp → Prop, (∀ H', Nx H' → ∃ m', m' < m ∧ Wm (i + 1) m' H') ∧ ∀ x H', J.yld i H x H' → TGof c g x (wipe σ vs) H' fun σ2 H2 => wipe σ2 vs = wipe σ vs ∧ TTof c W0 t σ2 H2 fun b H3 =>
        if b = true then TEof c W0 e σ2 H3 fun y H4 => ∃ acc, H4 D = some (.lst acc) ∧ acc.length < sizeLine ∧ Nx (upd H4 D (.lst (acc ++ [y]))) else Nx H3) := by
  by_cases hb : (vs.any (fun v => isOwn ε1[v]?) || !decide (its.length < sizeLine)) = true
  · rw [if_pos hb] at h1; exact h1.elim
  · rw [if_neg hb] at h1
    have hb : (vs.any (fun v => isOwn ε1[v]?) || !decide (its.length < sizeLine)) = false := by
      cases q : (vs.any (fun v => isOwn ε1[v]?) || !decide (its.length < sizeLine)) with
      | false => rfl
      | true => exact absurd q hb
    rw [Bool.or_eq_false_iff] at hb
    obtain ⟨hb1, hb2⟩ := hb
    have hz : its.length < sizeLine := by simpa using hb2
    have hn := any_false hb1
    cases ec : compL vs g t e its [] (wipeE ε1 vs) with
    | stk => rw [ec] at h1; exact h1.elim
    | exc n p ε' => rw [ec] at h1; exact h1.elim
    | ok acc εF =>
      rw [ec] at h1
      refine comp_turns (Qd := fun H' => Q (.ref D) H') R1 s1 hI hj hz hD ec fun H' ew RF ⟨xs, hx, rx⟩ => ?_
      obtain ⟨R', hA, hE⟩ := R1.back RF hn hD ew
      have dT : D ∉ T := fun z => by
        obtain ⟨⟨ys, q⟩, _⟩ := R1.tmp D z
        rw [hD] at q; cases q
      refine Fin.at h1 (e1.trans hE) ⟨⟨D, xs, rfl, dT, R1.fresh0 hD, R', hx, rx.mono (fun b q => .inl (hA b q)) fun b o e _ => e⟩, fun b q => ?_⟩
      cases q
      exact e1.there D hD
theorem rd_comp {σ : L2.St} {H : Hp} {Q : VK} {vs : List Nat} (hj : ∀ i ∈ g.js, i ∈ vs) (h : TEof c W (cComp vs it g t e) σ H Q) : tLc (TIof c W it) (TGof c g) (TTof c W0 t) (TEof c W0 e) vs σ H Q := by
  obtain ⟨T, ε, R, h⟩ := h
  exact ⟨T, ε, R, (Fin.bind (Ra := RlI c σ) h).mono fun J H1 ⟨its, ε1, e1, ⟨R1, S, s1, hI, _⟩, h1⟩ D hD => comp_core hj R1 s1 hI e1 h1 D hD⟩
theorem te_comp (hc : X.calm = true) (hN : X.N.Nodup) (hi : PI X tg iter (TIof c W it)) (ok : BlkOk X.N X.env.scope scope own) (hj : ∀ i ∈ g.js, i ∈ own.map (·.2))
    (hg : ∀ (s : Shared) (H : Hp) (C : Addr) (cl : List (Str × Addr)) (fp : List Addr), PG (X.blk s H scope (compEnvC scope cl C X.env) fp) tg (TGof c g)) (ht : ∀ (s : Shared) (H : Hp) (C : Addr) (cl : List (Str × Addr)) (fp : List Addr), PTs (X.blk s H scope (compEnvC scope cl C X.env) fp) ifs (TTof c W0 t))
    (he : ∀ (s : Shared) (H : Hp) (C : Addr) (cl : List (Str × Addr)) (fp : List Addr), PE (X.blk s H scope (compEnvC scope cl C X.env) fp) elt (TEof c W0 e)) (hs : ∀ x, foldedSetIterable iter X.env x = pure x) :
    PE X (.ListComp elt [⟨tg, iter, ifs, 0⟩] scope pos) (TEof c W (cComp (own.map (·.2)) it g t e)) :=
  ⟨fun pins s σ H Q I h => (pe_lc hc hN hi ok hg ht he hs).run pins s σ H Q I (rd_comp hj h)⟩
end
end EV


set_option Elab.async false
set_option linter.all false
set_option maxRecDepth 100000
set_option maxHeartbeats 4000000
/-! EvJ: comprehensions over a slot. -/
namespace EV
open PySem PySem.Spec PyProof.Rows L2

theorem SR.perm {c : Fix} {T T' : List Addr} {ε : Ev} {σ : L2.St} {H : Hp} (R : SR c T ε σ H) (h1 : ∀ a, a ∈ T → a ∈ T') (h2 : ∀ a, a ∈ T' → a ∈ T) : SR c T' ε σ H := by
  have hA : ∀ b, c.A T' ε σ b → c.A T ε σ b := fun b h => h.imp id fun h => h.imp id (h2 b)
  refine ⟨R.len, fun i p e => ?_, fun i k ps e => ?_, R.inj, fun b h => R.tmp b (h2 b h), R.fr, R.s0⟩
  · obtain ⟨v, s, r⟩ := R.val i p e
    exact ⟨v, s, r.mono (fun b h => .inl (hA b h)) fun b o e _ => e⟩
  · obtain ⟨b, xs, s, h, r, n, f⟩ := R.own i _ ps e
    exact ⟨b, xs, s, h, r.mono (fun b h => .inl (hA b h)) fun b o e _ => e, fun z => n (h2 b z), f⟩
theorem its_hid {c : Fix} {a : Addr} {its : List PV} : ItS c (Itl c.K a) its (Hid c a its) := by
  refine ⟨fun T ε σ H i R r hi => ?_, fun T ε σ H i q x H' R r hq y => ?_, fun T ε σ H i R r hi => ?_, hid_ok, hid_wr⟩
  · obtain ⟨_, xs, hs, rs⟩ := r
    have : i < xs.length := by rw [rs.length]; exact hi
    exact ⟨xs, xs[i], SqL.of hs, by simp [this]⟩
  · obtain ⟨_, xs, hs, rs⟩ := r
    obtain ⟨eH, y⟩ := y
    subst eH
    obtain ⟨w, hw, rw'⟩ := rs.get hq
    have e2 := y xs (SqL.of hs)
    rw [hw] at e2; cases e2
    exact ⟨fun _ _ h => h, rw'⟩
  · obtain ⟨_, xs, hs, rs⟩ := r
    exact ⟨xs, SqL.of hs, by rw [rs.length]; exact hi⟩
/-- what is walked: what stands in a slot -/
def tiSlot (c : Fix) (W : WX) (j : Nat) : TI := fun σ H R => ∃ T ε, SR c T ε σ H ∧ match ε[j]? with
  | some (.own k ps) => ∀ a, σ[j]? = some (some (.ref a)) → R (Itl c.K a) H
  | some (.val p) => Fin (RlI c σ) c W T ε σ H (iRet ε (itemsOf p)) R
  | _ => False
section
variable {X : Cx} {c : Fix} {W : WX} {elt tg iter : Expr} {ifs : List Expr} {scope : Scope} {own : List (Str × Nat)} {pos : Pos} {j : Nat} {g : Tg} {t : TDen} {e : Den}
theorem pi_slot (hK : c.K = X.K) (hj : PE X iter (tVar j)) : PI X tg iter (tiSlot c W j) := by
  refine ⟨fun pins s σ H R I h => ?_⟩
  obtain ⟨T, ε, R0, h⟩ := h
  cases e1 : ε[j]? with
  | none => rw [e1] at h; exact h.elim
  | some sl =>
    rw [e1] at h
    cases sl with
    | emp => exact h.elim
    | val p =>
      refine (ti_seq (c := c) (W := W) hK (te_var hj)).run pins s σ H R I ⟨T, ε, R0, ?_⟩
      unfold iSeq cVar
      rw [e1]
      exact h
    | own k ps =>
      obtain ⟨a, xs, sv, hx, _⟩ := R0.own j k ps e1
      exact (pi_list hj).run pins s σ H R I ⟨_, sv, a, rfl, ⟨xs, SqL.of hx⟩, hK ▸ h a sv⟩
theorem rd_compS {σ : L2.St} {H : Hp} {Q : VK} {vs : List Nat} (hj : ∀ i ∈ g.js, i ∈ vs) (h : TEof c W (cCompS vs j g t e) σ H Q) : tLc (tiSlot c W j) (TGof c g) (TTof c W0 t) (TEof c W0 e) vs σ H Q := by
  obtain ⟨T, ε, R, h⟩ := h
  refine ⟨T, ε, R, ?_⟩
  unfold cCompS at h
  cases e1 : ε[j]? with
  | none => rw [e1] at h; exact h.elim
  | some sl =>
    rw [e1] at h
    cases sl with
    | emp => exact h.elim
    | val p =>
      show Fin (RlI c σ) c W T ε σ H (iRet ε (itemsOf p)) _
      have h : Fin (RlV c σ H) c W T ε σ H (cComp vs (fun ε => iRet ε (itemsOf p)) g t e ε) Q := h
      unfold cComp at h
      cases ep : itemsOf p with
      | none => rw [ep] at h; exact h.elim
      | some its =>
        rw [ep] at h
        exact fun J H1 e2 ⟨R1, S, s1, hI, _⟩ D hD => comp_core hj R1 s1 hI e2 h D hD
    | own k ps =>
      show ∀ a, σ[j]? = some (some (.ref a)) → _
      intro a sa D hD
      have h : Fin (RlV c σ H) c W T ε σ H (if vs.any (fun v => isOwn ε[v]? || v == j) || !decide (ps.length < sizeLine) then .stk else
        (match compL vs g t e ps [] (wipeE (ε.set j .emp) vs) with
        | .ok acc ε' => .ok (.f acc) ((back ε vs ε').set j (.own k ps))
        | _ => .stk)) Q := h
      by_cases hb : (vs.any (fun v => isOwn ε[v]? || v == j) || !decide (ps.length < sizeLine)) = true
      · rw [if_pos hb] at h; exact h.elim
      · rw [if_neg hb] at h
        have hb : (vs.any (fun v => isOwn ε[v]? || v == j) || !decide (ps.length < sizeLine)) = false := by
          cases q : (vs.any (fun v => isOwn ε[v]? || v == j) || !decide (ps.length < sizeLine)) with
          | false => rfl
          | true => exact absurd q hb
        rw [Bool.or_eq_false_iff] at hb
        obtain ⟨hb1, hb2⟩ := hb
        have hz : ps.length < sizeLine := by simpa using hb2
        have hjv : j ∉ vs := fun z => by
          rw [List.any_eq_false] at hb1
          have := hb1 j z
          simp at this
        have hn : NoOwn (ε.set j .emp) vs := fun i hi => by
          rw [List.any_eq_false] at hb1
          have q := hb1 i hi
          have ne : i ≠ j := fun z => hjv (z ▸ hi)
          rw [List.getElem?_set_ne (Ne.symm ne)]
          cases q2 : isOwn ε[i]? with
          | false => rfl
          | true => rw [q2] at q; exact absurd rfl q
        cases ec : compL vs g t e ps [] (wipeE (ε.set j .emp) vs) with
        | stk => rw [ec] at h; exact h.elim
        | exc n p ε' => rw [ec] at h; exact h.elim
        | ok acc εF =>
          rw [ec] at h
          obtain ⟨a', xs, sv, na, hx, hf, R1, rx, hO⟩ := R.hide e1
          rw [sa] at sv; cases sv
          have da : D ≠ a := fun z => by rw [z, hx] at hD; cases hD
          refine comp_turns (Qd := fun H' => Q (.ref D) H') R1 (S := Hid c a ps) ⟨List.mem_cons_self, xs, hx, rx⟩ its_hid hj hz hD ec fun H' ew RF ⟨zs, hzs, rz⟩ => ?_
          obtain ⟨R', hA, hE⟩ := R1.back RF hn hD ew
          obtain ⟨_, ys, hy, ry⟩ := hid_ok (c := c) (a := a) (its := ps) _ (D :: a :: T) _ _ _ _ _ _ R1 hE.tr (fun b hb => by
            rcases List.mem_cons.mp hb with z | z
            · exact .inr (by rw [z]; exact hD)
            · exact .inl z) (fun b hb => List.mem_cons_of_mem _ hb) ⟨List.mem_cons_self, xs, hx, rx⟩
          have dT : D ∉ T := fun z => by
            obtain ⟨⟨ys, q⟩, _⟩ := R.tmp D z
            rw [hD] at q; cases q
          have aD : a ∉ D :: T := fun z => by
            rcases List.mem_cons.mp z with z | z
            · exact da z.symm
            · exact na z
          have R2 : SR c (a :: D :: T) (EV.back (ε.set j .emp) vs εF) σ H' := R'.perm (fun b hb => by
            rcases List.mem_cons.mp hb with z | z
            · exact List.mem_cons_of_mem _ (by rw [z]; exact List.mem_cons_self)
            · rcases List.mem_cons.mp z with z | z
              · rw [z]; exact List.mem_cons_self
              · exact List.mem_cons_of_mem _ (List.mem_cons_of_mem _ z)) (fun b hb => by
            rcases List.mem_cons.mp hb with z | z
            · exact List.mem_cons_of_mem _ (by rw [z]; exact List.mem_cons_self)
            · rcases List.mem_cons.mp z with z | z
              · rw [z]; exact List.mem_cons_self
              · exact List.mem_cons_of_mem _ (List.mem_cons_of_mem _ z))
          have hA2 : ∀ b, c.A (a :: D :: T) (EV.back (ε.set j .emp) vs εF) σ b → c.A (D :: a :: T) (EV.back (ε.set j .emp) vs εF) σ b := fun b q => q.imp id fun q => q.imp id fun hb => by
            rcases List.mem_cons.mp hb with z | z
            · exact List.mem_cons_of_mem _ (by rw [z]; exact List.mem_cons_self)
            · rcases List.mem_cons.mp z with z | z
              · rw [z]; exact List.mem_cons_self
              · exact List.mem_cons_of_mem _ (List.mem_cons_of_mem _ z)
          have ry2 : Reps c.K c.G (c.A (a :: D :: T) (EV.back (ε.set j .emp) vs εF) σ) H' ys ps := ry.mono (fun b q => .inl (hA2 b q)) fun b o e _ => e
          have R3 := R2.assignOwn (j := j) aD hf hy ry2
          have eσ : σ.set j (some (.ref a)) = σ := by
            refine List.ext_getElem? fun i => ?_
            by_cases z : i = j
            · subst z
              rw [sa, List.getElem?_set_self (List.getElem?_eq_some_iff.mp sa).1]
            · rw [List.getElem?_set_ne (Ne.symm z)]
          rw [eσ] at R3
          have eε : (EV.back (ε.set j .emp) vs εF).set j (.own k ps) = (EV.back ε vs εF).set j (.own k ps) := by
            refine List.ext_getElem? fun i => ?_
            have l1 : (ε.set j .emp).length = εF.length := by rw [R1.len, RF.len, wipe_length]
            have l2 : ε.length = εF.length := by rw [← l1, List.length_set]
            by_cases z : i = j
            · subst z
              by_cases q : i < εF.length
              · rw [List.getElem?_set_self (by rw [back_len]; exact q), List.getElem?_set_self (by rw [back_len]; exact q)]
              · rw [List.getElem?_eq_none (by rw [List.length_set, back_len]; omega), List.getElem?_eq_none (by rw [List.length_set, back_len]; omega)]
            · rw [List.getElem?_set_ne (Ne.symm z), List.getElem?_set_ne (Ne.symm z), back_get _ _ _ l1, back_get _ _ _ l2, List.getElem?_set_ne (Ne.symm z)]
          rw [eε] at R3
          have hA3 : ∀ b, c.A (D :: T) ((EV.back ε vs εF).set j (.own k ps)) σ b → c.A (D :: a :: T) (EV.back (ε.set j .emp) vs εF) σ b := fun b q => by
            rw [← eε, ← eσ] at q
            rcases q with q | q | q
            · exact .inl q
            · rcases q.own' with z | z
              · cases z; exact .inr (.inr (List.mem_cons_of_mem _ List.mem_cons_self))
              · exact .inr (.inl z)
            · rcases List.mem_cons.mp q with z | z
              · exact .inr (.inr (by rw [z]; exact List.mem_cons_self))
              · exact .inr (.inr (List.mem_cons_of_mem _ (List.mem_cons_of_mem _ z)))
          refine Fin.at h ⟨fun b o hb nb => hE.keep b o hb fun q => nb (hO b q), hE.there, fun b q => ?_⟩ ⟨⟨D, zs, rfl, dT, R1.fresh0 hD, R3, hzs, rz.mono (fun b q => .inl (hA b (hA3 b q))) fun b o e _ => e⟩, fun b q => ?_⟩
          · rw [← eε, ← eσ] at q
            rcases q.own' with z | z
            · cases z; exact ⟨j, k, ps, e1, sa⟩
            · exact hO b (hE.own b z)
          · cases q; exact hD
theorem te_compS (hK : c.K = X.K) (hc : X.calm = true) (hN : X.N.Nodup) (hi : PE X iter (tVar j)) (ok : BlkOk X.N X.env.scope scope own) (hj : ∀ i ∈ g.js, i ∈ own.map (·.2))
    (hg : ∀ (s : Shared) (H : Hp) (C : Addr) (cl : List (Str × Addr)) (fp : List Addr), PG (X.blk s H scope (compEnvC scope cl C X.env) fp) tg (TGof c g)) (ht : ∀ (s : Shared) (H : Hp) (C : Addr) (cl : List (Str × Addr)) (fp : List Addr), PTs (X.blk s H scope (compEnvC scope cl C X.env) fp) ifs (TTof c W0 t))
    (he : ∀ (s : Shared) (H : Hp) (C : Addr) (cl : List (Str × Addr)) (fp : List Addr), PE (X.blk s H scope (compEnvC scope cl C X.env) fp) elt (TEof c W0 e)) (hs : ∀ x, foldedSetIterable iter X.env x = pure x) :
    PE X (.ListComp elt [⟨tg, iter, ifs, 0⟩] scope pos) (TEof c W (cCompS (own.map (·.2)) j g t e)) :=
  ⟨fun pins s σ H Q I h => (pe_lc hc hN (pi_slot (W := W) hK hi) ok hg ht he hs).run pins s σ H Q I (rd_compS hj h)⟩
end
end EV


set_option Elab.async false
set_option linter.all false
set_option maxRecDepth 100000
set_option maxHeartbeats 4000000
/-! EvK: a block stored at once, lists of ranges, keywords, raise, try. -/
namespace EV
open PySem PySem.Spec PyProof.Rows L2

section
variable {X : Cx} {c : Fix} {W : WX} {e : Expr} {d : Den} {j : Nat}
theorem rd_set {σ : L2.St} {H : Hp} {D : Ends} (h : TSof c W (sSet j d) D σ H) : TEof c W d σ H (fun x H1 => D.nx (σ.set j (some x)) H1) := by
  obtain ⟨ε, R, h⟩ := h
  refine ⟨[], ε, R, ?_⟩
  unfold sSet at h
  cases o : d ε with
  | stk => rw [o] at h; exact h
  | exc n p ε' => rw [o] at h; exact fun dd H' e R x => h dd σ H' e.tr R x
  | ok r ε1 =>
    rw [o] at h
    exact fun x H1 e1 r1 => h (σ.set j (some x)) H1 (Tr.put e1 r1.2) (SR.put r1.1)
variable {elt tg iter : Expr} {ifs : List Expr} {scope : Scope} {own : List (Str × Nat)} {pos spos py : Pos} {it : IDen} {g : Tg} {t : TDen} {el : Den} {y : Str} {i : Nat}
theorem ts_setLc (hc : X.calm = true) (hN : X.N.Nodup) (hy : X.N[i]? = some y) (hyl : X.env.scope.names.lookup y = some .local) (hsw : swapsWith (.ListComp elt [⟨tg, iter, ifs, 0⟩] scope pos) (some (.Name y py)) spos.line X.env = pure true)
    (hi : PI X tg iter (TIof c W it)) (ok : BlkOk X.N X.env.scope scope own) (hj : ∀ i ∈ g.js, i ∈ own.map (·.2))
    (hg : ∀ (s : Shared) (H : Hp) (C : Addr) (cl : List (Str × Addr)) (fp : List Addr), PG (X.blk s H scope (compEnvC scope cl C X.env) fp) tg (TGof c g)) (ht : ∀ (s : Shared) (H : Hp) (C : Addr) (cl : List (Str × Addr)) (fp : List Addr), PTs (X.blk s H scope (compEnvC scope cl C X.env) fp) ifs (TTof c W0 t))
    (he : ∀ (s : Shared) (H : Hp) (C : Addr) (cl : List (Str × Addr)) (fp : List Addr), PE (X.blk s H scope (compEnvC scope cl C X.env) fp) elt (TEof c W0 el)) (hs : ∀ x, foldedSetIterable iter X.env x = pure x) :
    PS X (.Assign [.Name y py] (.ListComp elt [⟨tg, iter, ifs, 0⟩] scope pos) spos) (TSof c W (sSet i (cComp (own.map (·.2)) it g t el))) :=
  ⟨fun pins s σ H D I h => (ps_setLc hc hN hy hyl hsw hi ok hg ht he hs).run pins s σ H D I (rd_comp hj (rd_set h))⟩
theorem ts_setLcS {j : Nat} (hK : c.K = X.K) (hc : X.calm = true) (hN : X.N.Nodup) (hy : X.N[i]? = some y) (hyl : X.env.scope.names.lookup y = some .local) (hsw : swapsWith (.ListComp elt [⟨tg, iter, ifs, 0⟩] scope pos) (some (.Name y py)) spos.line X.env = pure true)
    (hi : PE X iter (tVar j)) (ok : BlkOk X.N X.env.scope scope own) (hj : ∀ i ∈ g.js, i ∈ own.map (·.2))
    (hg : ∀ (s : Shared) (H : Hp) (C : Addr) (cl : List (Str × Addr)) (fp : List Addr), PG (X.blk s H scope (compEnvC scope cl C X.env) fp) tg (TGof c g)) (ht : ∀ (s : Shared) (H : Hp) (C : Addr) (cl : List (Str × Addr)) (fp : List Addr), PTs (X.blk s H scope (compEnvC scope cl C X.env) fp) ifs (TTof c W0 t))
    (he : ∀ (s : Shared) (H : Hp) (C : Addr) (cl : List (Str × Addr)) (fp : List Addr), PE (X.blk s H scope (compEnvC scope cl C X.env) fp) elt (TEof c W0 el)) (hs : ∀ x, foldedSetIterable iter X.env x = pure x) :
    PS X (.Assign [.Name y py] (.ListComp elt [⟨tg, iter, ifs, 0⟩] scope pos) spos) (TSof c W (sSet i (cCompS (own.map (·.2)) j g t el))) :=
  ⟨fun pins s σ H D I h => (ps_setLc hc hN hy hyl hsw (pi_slot (W := W) hK hi) ok hg ht he hs).run pins s σ H D I (rd_compS hj (rd_set h))⟩
end

/-! ### list(range(..)) -/
section
variable {X : Cx} {c : Fix} {W : WX} {a b : Expr} {da db : BDen} {p p2 pos pos2 : Pos}
theorem reps_rg {K : PySem.W.Frag} {G : Nat → Addr} {A : Addr → Prop} {H : Hp} (i : Int) : ∀ l : List Nat, Reps K G A H (l.map fun k => V.int (i + (k : Nat))) (l.map fun (k : Nat) => PV.int (i + (k : Int)))
  | [] => .nil
  | _ :: l => .cons (.int _) (reps_rg i l)
theorem te_lr1 (hc : X.calm = true) (hg : Gl X "list") (hm : X.mg "list" = none) (hg2 : Gl X "range") (hm2 : X.mg "range" = none) (ha : PE X a (TBof c W da))
    (na : starEach [a] X.env = (false, eval a X.env) :: starEach [] X.env) (nb : starEach [.Call (.Name "range" p2) [a] [] pos2] X.env = (false, eval (.Call (.Name "range" p2) [a] [] pos2) X.env) :: starEach [] X.env) :
    PE X (.Call (.Name "list" p) [.Call (.Name "range" p2) [a] [] pos2] [] pos) (TEof c W (cLR1 da)) := by
  refine ⟨fun pins s σ H Q I h => (pe_listRg hc hg hm (prg_1 hg2 hm2 ha na) nb).run pins s σ H Q I ?_⟩
  obtain ⟨T, ε, R, h⟩ := h
  refine ⟨T, ε, R, (Fin.bind h).mono fun x H1 ⟨t, ε1, e1, ⟨R1, r1⟩, h1⟩ => ?_⟩
  cases p1 : resolve ε1 t with
  | none => rw [p1] at h1; exact h1.elim
  | some q =>
    rw [p1] at h1
    cases q with
    | int j =>
      have hx := BRep.int (r1.read R1 p1)
      subst hx
      have h1 : Fin (RlV c σ H) c W T ε σ H (if -(2 ^ 62) ≤ j ∧ j < 2 ^ 62 ∧ j ≤ 2 ^ 24 then .ok (.f (rangeL 0 j.toNat)) ε1 else .stk) Q := h1
      by_cases hz : -(2 ^ 62) ≤ j ∧ j < 2 ^ 62 ∧ j ≤ 2 ^ 24
      · rw [if_pos hz] at h1
        refine ⟨j, rfl, ⟨by omega, by omega, hz.1, hz.2.1, by omega⟩, fun q hq => Fin.at h1 (e1.trans (.upd hq)) ⟨ResR.newList R1 hq ?_, fun b eb => ?_⟩⟩
        · have := reps_rg (K := c.K) (G := c.G) (A := c.A T ε1 σ) (H := H1) 0 (List.range j.toNat)
          unfold rgV
          rw [show (j - 0).toNat = j.toNat by rw [Int.sub_zero]]
          exact this
        · cases eb; exact e1.there q hq
      · rw [if_neg hz] at h1; exact h1.elim
    | _ => exact h1.elim
theorem te_lr2 (hc : X.calm = true) (hg : Gl X "list") (hm : X.mg "list" = none) (hg2 : Gl X "range") (hm2 : X.mg "range" = none) (ha : PE X a (TBof c W da)) (hb : PE X b (TBof c W db))
    (na : starEach [a, b] X.env = (false, eval a X.env) :: starEach [b] X.env) (na2 : starEach [b] X.env = (false, eval b X.env) :: starEach [] X.env) (hp : (backTo pos2 (starEach [b] X.env)).any (·.1) = false)
    (nb : starEach [.Call (.Name "range" p2) [a, b] [] pos2] X.env = (false, eval (.Call (.Name "range" p2) [a, b] [] pos2) X.env) :: starEach [] X.env) :
    PE X (.Call (.Name "list" p) [.Call (.Name "range" p2) [a, b] [] pos2] [] pos) (TEof c W (cLR2 da db)) := by
  refine ⟨fun pins s σ H Q I h => (pe_listRg hc hg hm (prg_2 hg2 hm2 ha hb na na2 hp) nb).run pins s σ H Q I ?_⟩
  obtain ⟨T, ε, R, h⟩ := h
  refine ⟨T, ε, R, (Fin.bind h).mono fun x H1 ⟨t, ε1, e1, ⟨R1, r1⟩, h1⟩ => ?_⟩
  refine ⟨T, ε1, R1, (Fin.bind (h1.from e1)).mono fun y H2 ⟨u, ε2, e2, ⟨R2, r2⟩, h2⟩ => ?_⟩
  cases p1 : resolve ε2 t with
  | none => rw [p1] at h2; exact h2.elim
  | some q =>
    cases p2 : resolve ε2 u with
    | none =>
      rw [p1, p2] at h2
      cases q <;> exact h2.elim
    | some q2 =>
      rw [p1, p2] at h2
      cases q with
      | int i =>
        cases q2 with
        | int j =>
          have hx := BRep.int ((r1.et e2).read R2 p1)
          have hy := BRep.int (r2.read R2 p2)
          subst hx hy
          have h2 : Fin (RlV c σ H) c W T ε1 σ H1 (if -(2 ^ 62) ≤ i ∧ i < 2 ^ 62 ∧ -(2 ^ 62) ≤ j ∧ j < 2 ^ 62 ∧ j - i ≤ 2 ^ 24 then .ok (.f (rangeL i (j - i).toNat)) ε2 else .stk) Q := h2
          by_cases hz : -(2 ^ 62) ≤ i ∧ i < 2 ^ 62 ∧ -(2 ^ 62) ≤ j ∧ j < 2 ^ 62 ∧ j - i ≤ 2 ^ 24
          · rw [if_pos hz] at h2
            refine ⟨i, j, rfl, rfl, ⟨hz.1, hz.2.1, hz.2.2.1, hz.2.2.2.1, by omega⟩, fun q hq => Fin.at h2 (e2.trans (.upd hq)) ⟨ResR.newList R2 hq (reps_rg i _), fun b eb => ?_⟩⟩
            cases eb; exact (e1.trans e2).there q hq
          · rw [if_neg hz] at h2; exact h2.elim
        | _ => exact h2.elim
      | _ => cases q2 <;> exact h2.elim
end

/-! ### keywords -/
section
variable {X : Cx} {c : Fix} {W : WX} {e : Expr} {d : Den} {as : ADen} {nm : Option Str} {kpos : Pos} {kws : List Keyword}
theorem tk_nil : PK X [] (TAof c W aNil) := by
  refine ⟨fun pos pins s σ H Q I h => pk_nil.run pos pins s σ H Q I ?_⟩
  obtain ⟨T, ε, R, h⟩ := h
  exact Fin.at h .refl ⟨R, .nil⟩
theorem tk_cons (ha : PE X e (TEof c W d)) (hr : PK X kws (TAof c W as)) : PK X (⟨nm, e, kpos⟩ :: kws) (TAof c W (aCons d as)) := by
  refine ⟨fun pos pins s σ H Q I h => (pk_cons ha hr).run pos pins s σ H Q I ?_⟩
  obtain ⟨T, ε, R, h⟩ := h
  refine ⟨T, ε, R, (Fin.bind h).mono fun x H1 ⟨r, ε1, e1, ⟨r1, _⟩, h1⟩ => ?_⟩
  refine ⟨T, ε1, r1.val.1, (Fin.bind (h1.from e1)).mono fun xs H2 ⟨ps, ε2, e2, ⟨R2, r2⟩, h2⟩ => ?_⟩
  exact Fin.at h2 e2 ⟨R2, .cons (r1.val.2.et e2) r2⟩
end

/-! ### raise -/
section
variable {X : Cx} {c : Fix} {W : WX} {n : Nat} {bmB : List Value} {B newId initId : String} {x : Str} {p pos pos' : Pos}
/-- X() -/
theorem pmk_own0 {C : Addr} (F : ExcBaseFacts B newId initId bmB) (q : PySem.W.excIn X.K C bmB newId = true) (gC : X.mg x = some (.ref C)) (kC : PySem.W.keepIn X.K (.ref C) = true) (r : Raises X (.ref C)) (hg : Gl X x) (hdb : (x == ("__debug__" : Str)) = false) :
    PMk X (.Call (.Name x p) [] [] pos) (fun _ H Q => Q (.ref C) none H) := fun pins s σ H Q I h => by
  refine wpAny_Call_Name_kw (ld_glob I hg gC (PySem.W.callWith_K0 I.kIn kC ?_) hdb)
  obtain ⟨bm, N, nm, qn, bs, hdct, sn, sub, ab, col, dd, k0, k1, k2, k3, k5, mN, hC, hN, hni, T⟩ := exc_obj I.kIn q
  exact wpAny_call_exc_subT F T hC hN hni (fun h' e hm => mk_of I hm r h (I.hok.gone hm.new)) (by show 0 ≤ sizeLine; rw [sizeLine_eq]; omega)
theorem ts_raise (hc : X.calm = true) (tk : Takes X W) (F : ExcBaseFacts B newId initId bmB) (q : PySem.W.excIn X.K (c.G n) bmB newId = true) (gC : X.mg x = some (.ref (c.G n))) (kC : PySem.W.keepIn X.K (.ref (c.G n)) = true) (r : Raises X (.ref (c.G n))) (hg : Gl X x)
    (hdb : (x == ("__debug__" : Str)) = false) : PS X (.Raise (some (.Call (.Name x p) [] [] pos)) none pos') (TSof c W (sRaise n)) := by
  refine ⟨fun pins s σ H D I h => (ps_raise hc tk (pmk_own0 F q gC kC r hg hdb)).run pins s σ H D I ?_⟩
  obtain ⟨ε, R, h⟩ := h
  exact h none σ H .refl R rfl
end

/-! ### try with named clauses -/
/-- behind a suite its name is gone -/
def Ends.behind (i : Nat) (D : Ends) : Ends := { nx := fun σ H => D.nx (σ.set i none) H, rt := D.rt, bk := fun σ H => D.bk (σ.set i none) H, ct := fun σ H => D.ct (σ.set i none) H }
/-- a clause: its class, the slot of its name, what its suite does -/
structure Cl where
  c : Value
  i : Nat
  ts : Addr → Value → Option Addr → TS
def wCl (K : PySem.W.Frag) (Wout : WX) (D : Ends) : List Cl → WX
  | [] => Wout
  | l :: r => fun cls d σ H => ∃ b, PySem.W.exmOne K cls l.c = some b ∧ (b = true → ∀ a, H a = none → l.ts a cls d (Ends.behind l.i D) (σ.set l.i (some (.ref a))) H) ∧ (b = false → wCl K Wout D r cls d σ H)
inductive ClsOk (X : Cx) : List ExceptHandler → List Cl → Prop
  | nil : ClsOk X [] []
  | cons {x n : Str} {l : Cl} {b₀ : Stmt} {suite : List Stmt} {np hp : Pos} {hs : List ExceptHandler} {r : List Cl} : X.N[l.i]? = some n → X.env.kindOf n = some .local → Names X x l.c →
      (∀ (a : Addr) (oe : Obj) (cls : Value) (d : Option Addr) (pn : List (Addr × Obj)), PySem.W.exmOne X.K cls l.c = some true → Zc cls d oe → (∃ vs, oe.data = .fields vs) → PSs (X.suite a ((a, oe) :: pn)) (b₀ :: suite) (l.ts a cls d)) →
      ClsOk X hs r → ClsOk X (.ExceptHandler (some (.Name x np)) (some n) (b₀ :: suite) hp :: hs) (l :: r)
section
variable {X : Cx} {Wout : WX} {D : Ends}
/-- an exception of the body, over the frames of X -/
structure Aloft (X : Cx) (B : Heap) (sI : Shared) (pins : List (Addr × Obj)) (σ : L2.St) (H : Hp) (a : Addr) (cls : Value) (d : Option Addr) (s : Shared) : Prop where
  J : Inv X pins σ H sI
  nb : ∀ b o, sI.heap.get? b = some o → b ∉ frs X.stack → B.get? b = some o
  up : sI.heap.UpToSlots s.heap
  fl : HandSPX.FlyingZ B (X.env :: X.outer) a (Zc cls d) s.heap
  na : H a = none
  os : s.os = sI.os
  ag : AllBare s.gens
section
variable {B : Heap} {sI s : Shared} {pins : List (Addr × Obj)} {σ : L2.St} {H : Hp} {a : Addr} {cls : Value} {d : Option Addr}
theorem Aloft.inv (x : Aloft X B sI pins σ H a cls d s) : Inv X pins σ H s := x.J.landed x.nb x.fl.1 x.up x.os x.ag
theorem Aloft.off (x : Aloft X B sI pins σ H a cls d s) : a ∉ frs (X.env :: X.outer) := fun hm => by
  obtain ⟨oe, vs, he, _, hd⟩ := x.fl.there
  obtain ⟨_, o', e', hnf⟩ := x.fl.2.2.1.mem hm
  rw [he] at e'; cases e'
  exact hnf _ hd
theorem Aloft.suite (x : Aloft X B sI pins σ H a cls d s) (hf : X.env.frame = some X.env.locals) : ∃ oe, s.heap.get? a = some oe ∧ Zc cls d oe ∧ (∃ vs, oe.data = .fields vs) ∧ Inv (X.suite a ((a, oe) :: (X.pn ++ pins))) [] σ H s := by
  obtain ⟨oe, vs, he, hz, hd⟩ := x.fl.there
  refine ⟨oe, he, hz, ⟨vs, hd⟩, x.inv.suite he hd x.na (fun z => ?_) fun hm => ?_⟩
  · exact x.off (List.mem_filterMap.mpr ⟨X.env, List.mem_cons_self, by rw [hf, z]⟩)
  · obtain ⟨e, he, q⟩ := List.mem_filterMap.mp hm
    exact x.off (List.mem_filterMap.mpr ⟨e, List.mem_cons_of_mem _ he, q⟩)
/-- no clause took it -/
theorem Aloft.on (x : Aloft X B sI pins σ H a cls d s) (hs : X.stack = X.env :: X.outer) (hf : X.env.frame = some X.env.locals) (tk : Takes X Wout) (w : Wout cls d σ H) {Q : Flow → Shared → Prop} : wpAny (model X.prog X.w) X.A (handleBy (.ref a) X.env []) Q X.xe s := by
  refine wpAny_handleBy_nil ?_
  obtain ⟨_, _, _, oe, vs, T, oT, _, he, _, hd, h1, _⟩ := id x.fl
  unfold PySem.passOn
  refine wpAny_bind (wpAny_field he hd h1 ?_)
  rw [if_neg (show ¬ ((Value.ref T == Value.none) = true) from by simp)]
  have fin : wpAny (model X.prog X.w) X.A (setFlight (.ref a) X.env.frame) (fun _ s4 => wpAny (model X.prog X.w) X.A (throw (.ref a) : Sem Flow) Q X.xe s4) X.xe s := by
    rw [hf]
    exact HandSPX.setFlight_upZ x.fl fun h4 held up4 => wpAny_throw (tk _ _ ⟨a, B, sI, pins, σ, H, cls, d, rfl, x.J, x.nb, x.up.trans up4, .inr (.inr (by rw [hs]; exact held)), x.na, x.os, x.ag, w⟩)
  first
    | exact wpAny_bind (wpAny_pure (wpAny_bind fin))
    | exact wpAny_bind fin
/-- one clause after the other -/
theorem Aloft.clauses (x : Aloft X B sI pins σ H a cls d s) (hs : X.stack = X.env :: X.outer) (hf : X.env.frame = some X.env.locals) (hN : X.N.Nodup) (tk : Takes X Wout) {hds : List ExceptHandler} {ls : List Cl} (ok : ClsOk X hds ls) (w : wCl X.K Wout D ls cls d σ H) :
    wpAny (model X.prog X.w) X.A (handleBy (.ref a) X.env hds) (SP X pins D) X.xe s := by
  induction ok with
  | nil => exact x.on hs hf tk w
  | @cons y n l b₀ suite np hp hds2 r hi hl hc hsu _ ih =>
    obtain ⟨b, hb, hy, hn⟩ := w
    obtain ⟨oe, he, hz, _, S⟩ := x.suite hf
    refine wpAny_handleBy_cons (codeAny_handlers_test ?_) (by intro q; cases q)
    have ty : PySem.W.Looks (model X.prog X.w) s.heap (typeOf (.ref a)) cls := fun A Q E s k q => wpAny_typeOf_ref (k _ _ he) (by rw [hz.1]; exact q)
    have is := PySem.W.exm_one (M := model X.prog X.w) x.inv.kIn ty hb
    have seen : ∀ {Q : Value → Shared → Prop} {E : Value → Shared → Prop}, Q l.c s → wpAny (model X.prog X.w) (X.A.mark (some (.ref a))) (eval (.Name y np) X.env) Q E s := fun {Q E} q => by
      obtain ⟨hg, hdbg, hm | ⟨hm, hv, hnn⟩⟩ := hc
      · exact ld_glob (X := X.suite a ((a, oe) :: (X.pn ++ pins))) S hg hm q hdbg
      · exact ld_blt (X := X.suite a ((a, oe) :: (X.pn ++ pins))) S hg hm hv q hnn hdbg
    refine seen (is.here ?_)
    cases b with
    | false => exact ih (hn rfl)
    | true =>
      refine codeAny_handlers_suite_as (HandSPX.lands_againZ x.fl fun h4 fl4 up4 => ?_)
      have x4 : Aloft X B sI pins σ H a cls d { s with heap := h4 } := ⟨x.J, x.nb, x.up.trans up4, fl4, x.na, x.os, x.ag⟩
      obtain ⟨oe4, he4, hz4, hd4, S4⟩ := x4.suite hf
      refine store_ok (X := X.suite a ((a, oe4) :: (X.pn ++ pins))) (v := .ref a) S4 hN hi (.inl hl) rfl (fun s5 S5 => ?_) (.inr hl)
      refine wpAny_mono ((hsu a oe4 cls d (X.pn ++ pins) hb hz4 hd4).run [] s5 _ H _ S5 (hy rfl a x.na)) (fun f s6 out => ?_) (fun _ _ z => z.elim)
      have away : ∀ {σ6 : L2.St} {H6 : Hp} {Q : Shared → Prop}, Inv (X.suite a ((a, oe4) :: (X.pn ++ pins))) [] σ6 H6 s6 → (∀ s7, Inv X pins (σ6.set l.i none) H6 s7 → Q s7) → wpAny (model X.prog X.w) X.A (do bindName X.env n .none; unbindBehindTheSuite X.env n hp) (fun _ s7 => Q s7) X.xe s6 :=
        fun S6 hq => gone_ok (S6.unsuite x.J.ok) hN hi hl hq
      cases f with
      | next => obtain ⟨σ6, H6, S6, q⟩ := out; exact away S6 fun s7 J7 => ⟨_, _, J7, q⟩
      | brk => obtain ⟨σ6, H6, S6, q⟩ := out; exact away S6 fun s7 J7 => ⟨_, _, J7, q⟩
      | cont => obtain ⟨σ6, H6, S6, q⟩ := out; exact away S6 fun s7 J7 => ⟨_, _, J7, q⟩
      | ret u => obtain ⟨v, σ6, H6, S6, r6, q⟩ := out; exact away S6 fun s7 J7 => ⟨_, _, _, J7, r6, q⟩
end
/-- try: body, its clauses named -/
theorem ps_tryN {body : List Stmt} {h₀ : ExceptHandler} {hds : List ExceptHandler} {ls : List Cl} {tb : WX → TS} {pos : Pos} (hs : X.stack = X.env :: X.outer) (hf : X.env.frame = some X.env.locals) (hN : X.N.Nodup) (tk : Takes X Wout)
    (hb : ∀ (W : WX) (pn : List (Addr × Obj)) (xe : Value → Shared → Prop), Takes (X.tr pn xe) W → PassesOwn (model X.prog X.w) X.A X.env xe → PSs (X.tr pn xe) body (tb W)) (ok : ClsOk X (h₀ :: hds) ls) :
    PS X (.Try body (h₀ :: hds) [] [] pos) (fun D σ H => tb (wCl X.K Wout D ls) D σ H) := by
  refine ⟨fun pins s σ H D I h => wpAny_Try_except ?_⟩
  have ok0 := I.ok
  have body_ := (hb (wCl X.K Wout D ls) (X.pn ++ pins) (fun e s₁ => wpAny (model X.prog X.w) X.A (noteFrame e X.env) (fun _ s₂ => wpAny (model X.prog X.w) X.A (setFlight e none) (fun _ s₃ => wpAny (model X.prog X.w) X.A (handleBy e X.env (h₀ :: hds)) (SP X pins D) X.xe s₃) X.xe s₂) X.xe s₁)
    (fun u s' xx => by
      obtain ⟨a, B, sI, pins', σ', H', cls, d, rfl, J', nb, up, sky, na, os, ag, w⟩ := xx
      refine Sky.land Zc.steady (by rw [ok0.frames, hs]) hf (by rw [← hs]; exact sky) fun h3 fl3 up3 => ?_
      have y : Aloft X B sI pins σ' H' a cls d { s' with heap := h3 } := ⟨J'.ofTry ok0, nb, up.trans up3, fl3, na, os, ag⟩
      exact y.clauses hs hf hN tk ok w) PassesOwn.looking).run [] s σ H D (I.toTry _) h
  refine wpAny_mono body_ (fun f s1 out => ?_) (fun e s1 he => he)
  cases f with
  | next => obtain ⟨σ', H', J', q⟩ := out; exact wpAny_execs_nil ⟨σ', H', J'.ofTry ok0, q⟩
  | brk => obtain ⟨σ', H', J', q⟩ := out; exact ⟨σ', H', J'.ofTry ok0, q⟩
  | cont => obtain ⟨σ', H', J', q⟩ := out; exact ⟨σ', H', J'.ofTry ok0, q⟩
  | ret u => obtain ⟨v, σ', H', J', r, q⟩ := out; exact ⟨v, σ', H', J'.ofTry ok0, r, q⟩
end

section
variable {c : Fix} {ε : Ev} {σ : L2.St} {H : Hp} {j : Nat}
/-- a slot is emptied, whatever then stands in it -/
theorem clear_own {σ' : L2.St} (hs : ∀ i, i ≠ j → σ'[i]? = σ[i]?) {b : Addr} (q : OwnAt (ε.set j .emp) σ' b) : OwnAt ε σ b := by
  obtain ⟨i, k, ps, e, z⟩ := q
  rcases get_set e with ⟨_, q⟩ | ⟨ne, q⟩
  · cases q
  · exact ⟨i, k, ps, q, by rw [← hs i ne]; exact z⟩
theorem set_off (v : Option V) : ∀ i, i ≠ j → (σ.set j v)[i]? = σ[i]? := fun i ne => List.getElem?_set_ne (Ne.symm ne)
theorem SR.clearTo {T : List Addr} (R : SR c T ε σ H) (v : Option V) : SR c T (ε.set j .emp) (σ.set j v) H := R.clear (by rw [List.length_set]) (set_off v)
theorem Tr.clearTo (v : Option V) : Tr (OwnAt ε σ) (OwnAt (ε.set j .emp) (σ.set j v)) H H := ⟨fun _ _ h _ => h, fun _ h => h, fun b q => .inl (clear_own (set_off v) q)⟩
theorem A.clearTo {T : List Addr} (v : Option V) {b : Addr} (q : c.A T (ε.set j .emp) (σ.set j v) b) : c.A T ε σ b := q.imp id fun q => q.imp (clear_own (set_off v)) id
theorem RtR.clearTo {r : Val} {x : V} (h : RtR c ε σ H r x) (v : Option V) : RtR c (ε.set j .emp) (σ.set j v) H r x := by
  cases r with
  | v p => exact ⟨h.1.clearTo v, Rep.mono (fun b q => .inl (A.clearTo v q)) (fun b o e _ => e) h.2⟩
  | f ps =>
    obtain ⟨a, xs, e, n0, R, h1, h2⟩ := h
    exact ⟨a, xs, e, n0, R.clearTo v, h1, Reps.mono (fun b q => .inl (A.clearTo v q)) (fun b o e _ => e) h2⟩
theorem XR.clearTo {T : List Addr} {p : PV} {d : Option Addr} (h : XR c T ε σ p d H) (v : Option V) : XR c T (ε.set j .emp) (σ.set j v) p d H := by
  cases p with
  | non => exact h
  | _ =>
    obtain ⟨dd, w, q1, q2, q3⟩ := h
    exact ⟨dd, w, q1, q2, Rep.mono (fun b q => .inl (A.clearTo v q)) (fun b o e _ => e) q3⟩
end
/-- what a clause does -/
def tsOf (c : Fix) (h : Hd) : Addr → Value → Option Addr → TS := fun a cls d D σ H => ∃ ε k p, cls = .ref (c.G k) ∧ h.is k = some true ∧ SR c [] ε σ H ∧ ε[h.j]? = some .emp ∧ σ[h.j]? = some (some (.ref a)) ∧ XR c [] ε σ p d H ∧ FinS c W0 ε σ H (h.s k p ε) D
def clOf (c : Fix) (h : Hd × Value) : Cl := ⟨h.2, h.1.j, tsOf c h.1⟩
section
variable {X : Cx} {c : Fix} {W : WX} {b : SDen}
theorem rd_handle {K : PySem.W.Frag} {D : Ends} {n : Nat} {p : PV} {ε ε' : Ev} {σ σ' : L2.St} {H H' : Hp} {d : Option Addr} (t : Tr (OwnAt ε σ) (OwnAt ε' σ') H H') (R : SR c [] ε' σ' H') (x : XR c [] ε' σ' p d H') :
    ∀ hs : List (Hd × Value), (∀ h ∈ hs, ∀ k b, h.1.is k = some b → PySem.W.exmOne K (.ref (c.G k)) h.2 = some b) → FinS c W ε σ H (handle (hs.map (·.1)) n p ε') D → wCl K W D (hs.map (clOf c)) (.ref (c.G n)) d σ' H'
  | [], _, h => h d σ' H' t R x
  | (h, v) :: hs, ok, q => by
    have hm := ok (h, v) List.mem_cons_self
    have q : FinS c W ε σ H ((match h.is n with
      | some true => fun (ε : Ev) => if h.j < ε.length then (match h.s n p (ε.set h.j .emp) with
        | .ok f ε => Out.ok f (ε.set h.j .emp)
        | _ => .stk) else .stk
      | some false => handle (hs.map Prod.fst) n p
      | none => fun _ => .stk) ε') D := q
    show ∃ b, PySem.W.exmOne K (.ref (c.G n)) v = some b ∧ _
    cases e : h.is n with
    | none => rw [e] at q; exact q.elim
    | some k =>
      rw [e] at q
      refine ⟨k, hm n k e, fun hk a ha => ?_, fun hk => ?_⟩
      · subst hk
        by_cases hj : h.j < ε'.length
        case neg => simp only [if_neg hj] at q; exact q.elim
        simp only [if_pos hj] at q
        refine ⟨ε'.set h.j .emp, n, p, rfl, e, R.clearTo _, List.getElem?_set_self hj, List.getElem?_set_self (by rw [← R.len]; exact hj), x.clearTo _, ?_⟩
        have t2 : Tr (OwnAt ε σ) (OwnAt (ε'.set h.j .emp) (σ'.set h.j (some (.ref a)))) H H' := t.trans (Tr.clearTo _)
        cases o : h.s n p (ε'.set h.j .emp) with
        | stk => rw [o] at q; exact q.elim
        | exc m p' ε3 => rw [o] at q; exact q.elim
        | ok f ε3 =>
          rw [o] at q
          cases f with
          | nx => exact fun σ3 H3 t3 R3 => q (σ3.set h.j none) H3 ((t2.trans t3).trans (Tr.clearTo _)) (R3.clearTo _)
          | bk => exact fun σ3 H3 t3 R3 => q (σ3.set h.j none) H3 ((t2.trans t3).trans (Tr.clearTo _)) (R3.clearTo _)
          | ct => exact fun σ3 H3 t3 R3 => q (σ3.set h.j none) H3 ((t2.trans t3).trans (Tr.clearTo _)) (R3.clearTo _)
          | rt r => exact fun y σ3 H3 t3 r3 => q y (σ3.set h.j none) H3 ((t2.trans t3).trans (Tr.clearTo _)) (r3.clearTo _)
      · subst hk
        exact rd_handle t R x hs (fun h hm => ok h (List.mem_cons_of_mem _ hm)) q
theorem rd_try {K : PySem.W.Frag} {D : Ends} {σ : L2.St} {H : Hp} (hs : List (Hd × Value)) (ok : ∀ h ∈ hs, ∀ k b, h.1.is k = some b → PySem.W.exmOne K (.ref (c.G k)) h.2 = some b) (q : TSof c W (sTry b (hs.map (·.1))) D σ H) : TSof c (wCl K W D (hs.map (clOf c))) b D σ H := by
  obtain ⟨ε, R, q⟩ := q
  refine ⟨ε, R, ?_⟩
  unfold sTry at q
  cases o : b ε with
  | stk => rw [o] at q; exact q
  | ok f ε' =>
    rw [o] at q
    cases f <;> exact q
  | exc n p ε' =>
    rw [o] at q
    exact fun d σ' H' t R' x => rd_handle t R' x hs ok q
variable {body : List Stmt} {h₀ : ExceptHandler} {hds : List ExceptHandler} {pos : Pos}
theorem ts_try (hs : List (Hd × Value)) (hst : X.stack = X.env :: X.outer) (hf : X.env.frame = some X.env.locals) (hN : X.N.Nodup) (tk : Takes X W) (is : ∀ h ∈ hs, ∀ k b, h.1.is k = some b → PySem.W.exmOne X.K (.ref (c.G k)) h.2 = some b)
    (hb : ∀ (W : WX) (pn : List (Addr × Obj)) (xe : Value → Shared → Prop), Takes (X.tr pn xe) W → PassesOwn (model X.prog X.w) X.A X.env xe → PSs (X.tr pn xe) body (TSof c W b)) (ok : ClsOk X (h₀ :: hds) (hs.map (clOf c))) :
    PS X (.Try body (h₀ :: hds) [] [] pos) (TSof c W (sTry b (hs.map (·.1)))) :=
  ⟨fun pins s σ H D I h => (ps_tryN hst hf hN tk hb ok).run pins s σ H D I (rd_try hs is h)⟩
end
end EV


set_option Elab.async false
set_option linter.all false
set_option maxRecDepth 100000
set_option maxHeartbeats 4000000
/-! EvL: what the operations and the built-in functions say of plain values. -/
namespace EV
open PySem PySem.Spec PyProof.Rows L2

/-! ### plain values as data -/
mutual
def PV.pd : PV → Option PyData
  | .non => some .none
  | .bl b => some (.bool b)
  | .int i => some (.int i)
  | .str x => some (.str x)
  | .tup ps => (PV.pds ps).map .tuple
  | .lst ps => (PV.pds ps).map .list
  | .fl ps => (PV.pds ps).map .list
  | _ => none
def PV.pds : List PV → Option (List PyData)
  | [] => some []
  | p :: ps => match PV.pd p, PV.pds ps with
    | some d, some ds => some (d :: ds)
    | _, _ => none
end
section
variable {K : PySem.W.Frag} {G : Nat → Addr} {A : Addr → Prop} {H : Hp}
mutual
theorem Rep.dp : ∀ {x : V} {p : PV} {d : PyData}, Rep K G A H x p → PV.pd p = some d → Dp K H x d
  | _, _, _, .non, h => by unfold PV.pd at h; cases h; exact .non
  | _, _, _, .bl b, h => by unfold PV.pd at h; cases h; exact .bl b
  | _, _, _, .int i, h => by unfold PV.pd at h; cases h; exact .int i
  | _, _, _, .str z, h => by unfold PV.pd at h; cases h; exact .str z
  | _, _, _, .ty n, h => by unfold PV.pd at h; cases h
  | _, _, _, .gl n, h => by unfold PV.pd at h; cases h
  | _, _, _, .dic _ _ _ _, h => by unfold PV.pd at h; cases h
  | _, .tup ps, _, .tup na e r, h => by
    unfold PV.pd at h
    obtain ⟨ds, h1, rfl⟩ := Option.map_eq_some_iff.mp h
    exact .tup (.inl (.inl e)) (Reps.dp r h1)
  | _, .tup ps, _, .tupK e r, h => by
    unfold PV.pd at h
    obtain ⟨ds, h1, rfl⟩ := Option.map_eq_some_iff.mp h
    exact .tup (.inr e) (Reps.dp r h1)
  | _, .lst ps, _, .lst na e r, h => by
    unfold PV.pd at h
    obtain ⟨ds, h1, rfl⟩ := Option.map_eq_some_iff.mp h
    exact .lst (.inl (.inl e)) (Reps.dp r h1)
  | _, .fl ps, _, .fl na e r, h => by
    unfold PV.pd at h
    obtain ⟨ds, h1, rfl⟩ := Option.map_eq_some_iff.mp h
    exact .lst (.inl e) (Reps.dp r h1)
  | _, .fl ps, _, .flK e r, h => by
    unfold PV.pd at h
    obtain ⟨ds, h1, rfl⟩ := Option.map_eq_some_iff.mp h
    exact .lst (.inr e) (Reps.dp r h1)
theorem Reps.dp : ∀ {xs : List V} {ps : List PV} {ds : List PyData}, Reps K G A H xs ps → PV.pds ps = some ds → DpAll K H xs ds
  | _, _, _, .nil, h => by unfold PV.pds at h; cases h; exact .nil
  | _, _, ds, .cons (p := p) (ps := ps) r t, h => by
    unfold PV.pds at h
    cases e1 : PV.pd p with
    | none => rw [e1] at h; cases h
    | some d =>
      cases e2 : PV.pds ps with
      | none => rw [e1, e2] at h; cases h
      | some es =>
        rw [e1, e2] at h
        cases h
        exact .cons (Rep.dp r e1) (Reps.dp t e2)
end
end
theorem BRep.dp {c : Fix} {T : List Addr} {ε : Ev} {σ : L2.St} {H : Hp} {x : V} {p : PV} {d : PyData} (h : BRep c T ε σ H x p) (e : PV.pd p = some d) : Dp c.K H x d := by
  rcases h with h | ⟨a, xs, ps, rfl, rfl, h1, h2⟩
  · exact h.dp e
  · unfold PV.pd at e
    obtain ⟨ds, e1, rfl⟩ := Option.map_eq_some_iff.mp e
    exact .lst (.inl (.inl h1)) (h2.dp e1)

/-! ### == != in -/
def datas (p q : PV) : Option (PyData × PyData) := match PV.pd p, PV.pd q with
  | some d, some e => if SeqAt.shaped d && SeqAt.shaped e then some (d, e) else none
  | _, _ => none
theorem datas_get {p q : PV} {d e : PyData} (h : datas p q = some (d, e)) : PV.pd p = some d ∧ PV.pd q = some e ∧ SeqAt.shaped d = true ∧ SeqAt.shaped e = true := by
  unfold datas at h
  cases e1 : PV.pd p with
  | none => rw [e1] at h; cases h
  | some d' =>
    cases e2 : PV.pd q with
    | none => rw [e1, e2] at h; cases h
    | some e' =>
      rw [e1, e2] at h
      dsimp only at h
      by_cases z : (SeqAt.shaped d' && SeqAt.shaped e') = true
      · rw [if_pos z] at h
        cases h
        rw [Bool.and_eq_true] at z
        exact ⟨rfl, rfl, z.1, z.2⟩
      · rw [if_neg z] at h; cases h
def fEq (p q : PV) : Option Val := (datas p q).map fun d => .v (.bl (PyData.eqv d.1 d.2))
def fNe (p q : PV) : Option Val := (datas p q).map fun d => .v (.bl (!PyData.eqv d.1 d.2))
def fIn (p q : PV) : Option Val := (datas p q).bind fun d => match d.2 with
  | .list ds => some (.v (.bl (ds.any fun z => PyData.eqv z d.1)))
  | .tuple ds => some (.v (.bl (ds.any fun z => PyData.eqv z d.1)))
  | _ => none
def fNotIn (p q : PV) : Option Val := (datas p q).bind fun d => match d.2 with
  | .list ds => some (.v (.bl (!ds.any fun z => PyData.eqv z d.1)))
  | .tuple ds => some (.v (.bl (!ds.any fun z => PyData.eqv z d.1)))
  | _ => none
section
variable {X : Cx} {c : Fix}
/-- a value without a heap of its own is handed over -/
theorem giveV {T : List Addr} {ε : Ev} {σ : L2.St} {H : Hp} {p : PV} {x : V} {Q : VK} (R : SR c T ε σ H) (k : ∀ z H', ET σ ε ε H H' → RlV c σ H T ε H' (.v p) z → Q z H') (r : Rep c.K c.G (c.A T ε σ) H x p) : Q x H := k x H .refl ⟨⟨R, r⟩, trivial⟩
/-- a new list -/
theorem giveL {T : List Addr} {ε : Ev} {σ : L2.St} {H : Hp} {xs : List V} {ps : List PV} {Q : VK} (R : SR c T ε σ H) (k : ∀ z H', ET σ ε ε H H' → RlV c σ H T ε H' (.f ps) z → Q z H') (r : Reps c.K c.G (c.A T ε σ) H xs ps) (a : Addr) (h : H a = none) : Q (.ref a) (upd H a (.lst xs)) :=
  k _ _ (.upd h) ⟨ResR.newList R h r, fun b e => by cases e; exact h⟩
/-- a new tuple -/
theorem giveT {T : List Addr} {ε : Ev} {σ : L2.St} {H : Hp} {xs : List V} {ps : List PV} {Q : VK} (R : SR c T ε σ H) (k : ∀ z H', ET σ ε ε H H' → RlV c σ H T ε H' (.v (.tup ps)) z → Q z H') (r : Reps c.K c.G (c.A T ε σ) H xs ps) (a : Addr) (h : H a = none) : Q (.ref a) (upd H a (.tup xs)) :=
  k _ _ (.upd h) ⟨ResR.newTup R h r, trivial⟩
theorem s_eq : S2 X c fEq (rEqD c.K) := fun T ε σ H x y p q res Q R rx ry h k => by
  obtain ⟨⟨d, e⟩, h1, rfl⟩ := Option.map_eq_some_iff.mp h
  obtain ⟨e1, e2, s1, s2⟩ := datas_get h1
  exact ⟨d, e, rx.dp e1, ry.dp e2, s1, s2, giveV R k (.bl _)⟩
theorem s_ne : S2 X c fNe (rNeD c.K) := fun T ε σ H x y p q res Q R rx ry h k => by
  obtain ⟨⟨d, e⟩, h1, rfl⟩ := Option.map_eq_some_iff.mp h
  obtain ⟨e1, e2, s1, s2⟩ := datas_get h1
  exact ⟨d, e, rx.dp e1, ry.dp e2, s1, s2, giveV R k (.bl _)⟩
/-- x in t, t a tuple -/
def rInT (K : PySem.W.Frag) : R2 := fun x y H Q => ∃ d ds, Dp K H x d ∧ Dp K H y (.tuple ds) ∧ SeqAt.shaped d = true ∧ SeqAt.shaped (.tuple ds) = true ∧ Q (.bl (ds.any fun z => PyData.eqv z d)) H
def rNotInT (K : PySem.W.Frag) : R2 := fun x y H Q => ∃ d ds, Dp K H x d ∧ Dp K H y (.tuple ds) ∧ SeqAt.shaped d = true ∧ SeqAt.shaped (.tuple ds) = true ∧ Q (.bl (!ds.any fun z => PyData.eqv z d)) H
theorem op_inT (hu : X.A.units + 65 < cLine) : OpR X (compareOp .In) (rInT X.K) := fun pins s σ H x y v u Q I rx ry h => by
  obtain ⟨d, ds, hd, he, sd, se, q⟩ := h
  obtain ⟨as, r1⟩ := Dp.reads I d x v hd rx
  obtain ⟨bs, r2⟩ := Dp.reads I (.tuple ds) y u he ry
  exact SeqAt.in_tuple_reads r2 r1 (SeqAt.canLay_of_shaped se) (SeqAt.canLay_of_shaped sd) (room_in_shaped sd hu) ⟨.bl _, H, I, rfl, q⟩
theorem op_notInT (hu : X.A.units + 65 < cLine) : OpR X (compareOp .NotIn) (rNotInT X.K) := fun pins s σ H x y v u Q I rx ry h => by
  obtain ⟨d, ds, hd, he, sd, se, q⟩ := h
  obtain ⟨as, r1⟩ := Dp.reads I d x v hd rx
  obtain ⟨bs, r2⟩ := Dp.reads I (.tuple ds) y u he ry
  exact SeqAt.notIn_tuple_reads r2 r1 (SeqAt.canLay_of_shaped se) (SeqAt.canLay_of_shaped sd) (room_in_shaped sd hu) ⟨.bl _, H, I, rfl, q⟩
def rInB (K : PySem.W.Frag) : R2 := fun x y H Q => rInD K x y H Q ∨ rInT K x y H Q
def rNotInB (K : PySem.W.Frag) : R2 := fun x y H Q => rNotInD K x y H Q ∨ rNotInT K x y H Q
theorem op_inB (hu : X.A.units + 65 < cLine) : OpR X (compareOp .In) (rInB X.K) := (op_inD hu).or (op_inT hu)
theorem op_notInB (hu : X.A.units + 65 < cLine) : OpR X (compareOp .NotIn) (rNotInB X.K) := (op_notInD hu).or (op_notInT hu)
theorem s_in : S2 X c fIn (rInB c.K) := fun T ε σ H x y p q res Q R rx ry h k => by
  obtain ⟨⟨d, e⟩, h1, h2⟩ := Option.bind_eq_some_iff.mp h
  obtain ⟨e1, e2, s1, s2⟩ := datas_get h1
  cases e with
  | list ds => cases h2; exact .inl ⟨d, ds, rx.dp e1, ry.dp e2, s1, s2, giveV R k (.bl _)⟩
  | tuple ds => cases h2; exact .inr ⟨d, ds, rx.dp e1, ry.dp e2, s1, s2, giveV R k (.bl _)⟩
  | _ => cases h2
theorem s_notIn : S2 X c fNotIn (rNotInB c.K) := fun T ε σ H x y p q res Q R rx ry h k => by
  obtain ⟨⟨d, e⟩, h1, h2⟩ := Option.bind_eq_some_iff.mp h
  obtain ⟨e1, e2, s1, s2⟩ := datas_get h1
  cases e with
  | list ds => cases h2; exact .inl ⟨d, ds, rx.dp e1, ry.dp e2, s1, s2, giveV R k (.bl _)⟩
  | tuple ds => cases h2; exact .inr ⟨d, ds, rx.dp e1, ry.dp e2, s1, s2, giveV R k (.bl _)⟩
  | _ => cases h2

/-! ### is None -/
def isNon : PV → Bool
  | .non => true
  | _ => false
def fIs (p q : PV) : Option Val := if isNon q then some (.v (.bl (isNon p))) else none
def fIsNot (p q : PV) : Option Val := if isNon q then some (.v (.bl (!isNon p))) else none
theorem BRep.isNon {T : List Addr} {ε : Ev} {σ : L2.St} {H : Hp} {x : V} {p : PV} (h : BRep c T ε σ H x p) : decide (x = .non) = EV.isNon p := by
  rcases h with h | ⟨a, xs, ps, rfl, rfl, h1, h2⟩
  · cases h <;> rfl
  · rfl
theorem isNon_eq {p : PV} (h : isNon p = true) : p = .non := by
  cases p <;> first | rfl | cases h
def rIsNone : R2 := fun x y H Q => y = .non ∧ Q (.bl (decide (x = .non))) H
def rNotNone : R2 := fun x y H Q => y = .non ∧ Q (.bl (!decide (x = .non))) H
theorem s_is : S2 X c fIs rIsNone := fun T ε σ H x y p q res Q R rx ry h k => by
  unfold fIs at h
  by_cases z : isNon q = true
  · rw [if_pos z] at h
    cases h
    have := isNon_eq z
    subst this
    exact ⟨ry.non, by rw [rx.isNon]; exact giveV R k (.bl _)⟩
  · rw [if_neg z] at h; cases h
theorem s_isNot : S2 X c fIsNot rNotNone := fun T ε σ H x y p q res Q R rx ry h k => by
  unfold fIsNot at h
  by_cases z : isNon q = true
  · rw [if_pos z] at h
    cases h
    have := isNon_eq z
    subst this
    exact ⟨ry.non, by rw [rx.isNon]; exact giveV R k (.bl _)⟩
  · rw [if_neg z] at h; cases h
end

/-! ### < <= > >= -/
def b2n (b : Bool) : Int := if b then 1 else 0
theorem le_bb {prog : Program} {w : World} {A : Around} {s : Shared} (a b : Bool) : Ob.RcOp .LtE A s (.bool a) (.bool b) (decide (b2n a ≤ b2n b)) := fun prog w E Q h => by
  refine wpAny_richCompare_same (op := .LtE) (T := "bool") rfl rfl PySem.F.slot_bool_le ?_
  refine wpAny_call_entry PySem.F.slot_bool_le rfl PySem.F.entry_int_le ?_ (PySem.F.args_int_le_2 _ _)
  cases a <;> cases b <;> exact wpAny_pure ⟨_, rfl, by simp, h⟩
def leP (i : Int) (a : Bool) (j : Int) (b : Bool) : Bool := if i = j then decide (b2n a ≤ b2n b) else decide (i ≤ j)
def rLeP (K : PySem.W.Frag) : R2 := fun x y H Q => ∃ (p q : Addr) (i : Int) (a : Bool) (j : Int) (b : Bool), x = .ref p ∧ y = .ref q ∧ SqT K H p [.int i, .bl a] ∧ SqT K H q [.int j, .bl b] ∧ Q (.bl (leP i a j b)) H
section
variable {X : Cx} {c : Fix}
theorem op_leP (hu : X.A.units < cLine) : OpR X (compareOp .LtE) (rLeP X.K) := fun pins s σ H x y v u Q I rx ry h => by
  obtain ⟨p, q, i, a, j, b, rfl, rfl, hp, hq, k⟩ := h
  cases rx
  cases ry
  obtain ⟨its, r1, p1, _⟩ := I.tuple hp
  obtain ⟨its2, r2, p2, _⟩ := I.tuple hq
  obtain ⟨u1, u2, rfl, ⟨t1, rfl⟩, e2⟩ := vals2 r1
  obtain ⟨w1, w2, rfl, ⟨t3, rfl⟩, e4⟩ := vals2 r2
  obtain rfl : u2 = .bool a := e2
  obtain rfl : w2 = .bool b := e4
  have R := Ob.RcOp.tuples_le (A := X.A) (s := s) (e := fun n => if n = 0 then decide (i = j) else decide (a = b)) (r := fun n => if n = 0 then decide (i ≤ j) else decide (b2n a ≤ b2n b)) p1 p2 hu (fun n h1 h2 => by
    have h1 : n < 2 := h1
    match n, h1 with
    | 0, _ => 
      have z : (i == j) = decide (i = j) := by
        by_cases q : i = j
        · rw [decide_eq_true q]; exact beq_iff_eq.mpr q
        · rw [decide_eq_false q]; exact beq_eq_false_iff_ne.mpr q
      show SeqAt.EqAt _ _ _ _ (decide (i = j))
      rw [← z]
      exact SeqAt.EqAt.int_int _ _ _ _
    | 1, _ =>
      show SeqAt.EqAt _ _ _ _ (decide (a = b))
      have z : (a == b) = decide (a = b) := by cases a <;> cases b <;> rfl
      rw [← z]
      exact SeqAt.EqAt.bool_bool _ _) (fun n h1 h2 _ => by
    have h1 : n < 2 := h1
    match n, h1 with
    | 0, _ => exact Ob.RcOp.le_int _ _ _ _
    | 1, _ => exact le_bb (prog := X.prog) (w := X.w) _ _)
  have e : Ob.lexAt (fun n => if n = 0 then decide (i = j) else decide (a = b)) (fun n => if n = 0 then decide (i ≤ j) else decide (b2n a ≤ b2n b)) (decide (2 ≤ 2)) 0 (min 2 2) = leP i a j b := by
    show (if decide (i = j) = true then (if decide (a = b) = true then decide (2 ≤ 2) else decide (b2n a ≤ b2n b)) else decide (i ≤ j)) = _
    unfold leP
    by_cases z : i = j
    · rw [if_pos z, if_pos (decide_eq_true z)]
      by_cases z2 : a = b
      · subst z2; simp
      · rw [if_neg (by simpa using z2)]
    · rw [if_neg z, if_neg (by simpa using z)]
  exact R X.prog X.w X.xe (EP X pins σ Q) (by
    show EP X pins σ Q (.bool (Ob.lexAt _ _ (decide (2 ≤ 2)) 0 (min 2 2))) s
    rw [e]
    exact ⟨.bl _, H, I, rfl, k⟩)
def fLe : PV → PV → Option Val
  | .int i, .int j => some (.v (.bl (decide (i ≤ j))))
  | .tup [.int i, .bl a], .tup [.int j, .bl b] => some (.v (.bl (leP i a j b)))
  | _, _ => none
def fLt : PV → PV → Option Val
  | .int i, .int j => some (.v (.bl (decide (i < j))))
  | _, _ => none
def fGe : PV → PV → Option Val
  | .int i, .int j => some (.v (.bl (decide (j ≤ i))))
  | _, _ => none
def fGt : PV → PV → Option Val
  | .int i, .int j => some (.v (.bl (decide (j < i))))
  | _, _ => none
def rLeB (K : PySem.W.Frag) : R2 := fun x y H Q => rI0 (fun i j => .bl (decide (i ≤ j))) x y H Q ∨ rLeP K x y H Q
theorem op_leB (hu : X.A.units < cLine) : OpR X (compareOp .LtE) (rLeB X.K) := op_le.or (op_leP hu)
theorem Reps.ib {K : PySem.W.Frag} {G : Nat → Addr} {A : Addr → Prop} {H : Hp} {xs : List V} {i : Int} {a : Bool} (h : Reps K G A H xs [.int i, .bl a]) : xs = [.int i, .bl a] := by
  cases h with
  | cons h1 h2 => cases h2 with
    | cons h3 h4 => cases h4; cases h1; cases h3; rfl
theorem s_le : S2 X c fLe (rLeB c.K) := fun T ε σ H x y p q res Q R rx ry h k => by
  unfold fLe at h
  split at h
  · cases h
    exact .inl ⟨_, _, rx.int, ry.int, giveV R k (.bl _)⟩
  · cases h
    obtain ⟨a1, xs1, rfl, s1, r1⟩ := rx.tup
    obtain ⟨a2, xs2, rfl, s2, r2⟩ := ry.tup
    obtain rfl := r1.ib
    obtain rfl := r2.ib
    exact .inr ⟨_, _, _, _, _, _, rfl, rfl, s1, s2, giveV R k (.bl _)⟩
  · cases h
theorem s_lt : S2 X c fLt (rI0 fun i j => .bl (decide (i < j))) := fun T ε σ H x y p q res Q R rx ry h k => by
  unfold fLt at h
  split at h
  · cases h; exact ⟨_, _, rx.int, ry.int, giveV R k (.bl _)⟩
  · cases h
theorem s_ge : S2 X c fGe (rI0 fun i j => .bl (decide (j ≤ i))) := fun T ε σ H x y p q res Q R rx ry h k => by
  unfold fGe at h
  split at h
  · cases h; exact ⟨_, _, rx.int, ry.int, giveV R k (.bl _)⟩
  · cases h
theorem s_gt : S2 X c fGt (rI0 fun i j => .bl (decide (j < i))) := fun T ε σ H x y p q res Q R rx ry h k => by
  unfold fGt at h
  split at h
  · cases h; exact ⟨_, _, rx.int, ry.int, giveV R k (.bl _)⟩
  · cases h

/-! ### + - * // % ** -/
def fAdd : PV → PV → Option Val
  | .int i, .int j => some (.v (.int (i + j)))
  | .lst ps, .lst qs => if ps.length + qs.length ≤ sizeLine then some (.f (ps ++ qs)) else none
  | .tup ps, .tup qs => if ps.length + qs.length ≤ sizeLine then some (.v (.tup (ps ++ qs))) else none
  | .str a, .str b => if a.length + b.length ≤ sizeLine then some (.v (.str (a ++ b))) else none
  | _, _ => none
def rAddS : R2 := fun x y H Q => ∃ i j, x = .str i ∧ y = .str j ∧ i.length + j.length ≤ sizeLine ∧ Q (.str (i ++ j)) H
def rAddB (K : PySem.W.Frag) : R2 := fun x y H Q => rI0 (fun i j => .int (i + j)) x y H Q ∨ (rCat x y H Q ∨ (rCatA K x y H Q ∨ rAddS x y H Q))
theorem op_addB : OpR X (binaryOp .Add) (rAddB X.K) := op_add.or (op_cat.or (op_catA.or op_add_str))
theorem s_add : S2 X c fAdd (rAddB c.K) := fun T ε σ H x y p q res Q R rx ry h k => by
  unfold fAdd at h
  split at h
  · cases h; exact .inl ⟨_, _, rx.int, ry.int, giveV R k (.int _)⟩
  · split at h
    · cases h
      rename_i ps qs hz
      obtain ⟨a1, xs1, rfl, s1, r1⟩ := rx.lst
      obtain ⟨a2, xs2, rfl, s2, r2⟩ := ry.lst
      exact .inr (.inl ⟨_, _, _, _, rfl, rfl, s1, s2, by rw [r1.length, r2.length]; exact hz, giveL R k (r1.append r2)⟩)
    · cases h
  · split at h
    · cases h
      rename_i ps qs hz
      obtain ⟨a1, xs1, e1, s1, r1⟩ := rx.tup
      obtain ⟨a2, xs2, e2, s2, r2⟩ := ry.tup
      have tx : Rep c.K c.G (c.A T ε σ) H x (.tup ps) := by
        rcases rx with r | ⟨_, _, _, e, _⟩
        · exact r
        · cases e
      have ty : Rep c.K c.G (c.A T ε σ) H y (.tup qs) := by
        rcases ry with r | ⟨_, _, _, e, _⟩
        · exact r
        · cases e
      subst e1 e2
      refine .inr (.inr (.inl ⟨_, _, _, _, rfl, rfl, s1, s2, by rw [r1.length, r2.length]; exact hz, fun e => ?_, fun _ e => ?_, fun _ _ => giveT R k (r1.append r2)⟩))
      · subst e
        cases r1
        exact giveV R k ty
      · subst e
        cases r2
        rw [List.append_nil] at k
        exact giveV R k tx
    · cases h
  · split at h
    · cases h
      rename_i hz
      exact .inr (.inr (.inr ⟨_, _, rx.str, ry.str, hz, giveV R k (.str _)⟩))
    · cases h
  · cases h
def fSub : PV → PV → Option Val
  | .int i, .int j => some (.v (.int (i - j)))
  | _, _ => none
instance (i j : Int) : Decidable (CMul i j) := by unfold CMul; infer_instance
instance (i j : Int) : Decidable (CMulW i j) := by unfold CMulW; infer_instance
instance (i j : Int) : Decidable (CDiv i j) := by unfold CDiv; infer_instance
instance (i j : Int) : Decidable (CDivW i j) := by unfold CDivW; infer_instance
instance (i j : Int) : Decidable (CPow i j) := by unfold CPow; infer_instance
def fMul : PV → PV → Option Val
  | .int i, .int j => if CMul i j then some (.v (.int (i * j))) else none
  | _, _ => none
def fDiv : PV → PV → Option Val
  | .int i, .int j => if CDiv i j then some (.v (.int (i / j))) else none
  | _, _ => none
def fMod : PV → PV → Option Val
  | .int i, .int j => if 0 < j then some (.v (.int (i % j))) else none
  | _, _ => none
def fPow : PV → PV → Option Val
  | .int i, .int j => if CPow i j then some (.v (.int (i ^ j.toNat))) else none
  | _, _ => none
theorem s_sub : S2 X c fSub (rI0 fun i j => .int (i - j)) := fun T ε σ H x y p q res Q R rx ry h k => by
  unfold fSub at h
  split at h
  · cases h; exact ⟨_, _, rx.int, ry.int, giveV R k (.int _)⟩
  · cases h
theorem s_mul : S2 X c fMul (rI CMul fun i j => .int (i * j)) := fun T ε σ H x y p q res Q R rx ry h k => by
  unfold fMul at h
  split at h
  · split at h
    · cases h; rename_i z; exact ⟨_, _, rx.int, ry.int, z, giveV R k (.int _)⟩
    · cases h
  · cases h
theorem s_div : S2 X c fDiv (rI CDiv fun i j => .int (i / j)) := fun T ε σ H x y p q res Q R rx ry h k => by
  unfold fDiv at h
  split at h
  · split at h
    · cases h; rename_i z; exact ⟨_, _, rx.int, ry.int, z, giveV R k (.int _)⟩
    · cases h
  · cases h
theorem s_mod : S2 X c fMod (rI (fun _ j => 0 < j) fun i j => .int (i % j)) := fun T ε σ H x y p q res Q R rx ry h k => by
  unfold fMod at h
  split at h
  · split at h
    · cases h; rename_i z; exact ⟨_, _, rx.int, ry.int, z, giveV R k (.int _)⟩
    · cases h
  · cases h
theorem s_pow : S2 X c fPow (rI CPow fun i j => .int (i ^ j.toNat)) := fun T ε σ H x y p q res Q R rx ry h k => by
  unfold fPow at h
  split at h
  · split at h
    · cases h; rename_i z; exact ⟨_, _, rx.int, ry.int, z, giveV R k (.int _)⟩
    · cases h
  · cases h
def fNeg : PV → Option Val
  | .int i => some (.v (.int (-i)))
  | _ => none
theorem s_neg : S1 X c fNeg (rU fun i => .int (-i)) := fun T ε σ H x p res Q R rx h k => by
  unfold fNeg at h
  split at h
  · cases h; exact ⟨_, rx.int, giveV R k (.int _)⟩
  · cases h

/-! ### a[i], a[i:j] -/
def fIx : PV → PV → Option Val
  | .tup ps, .int i => (atI ps i).map .v
  | .lst ps, .int i => (atI ps i).map .v
  | .fl ps, .int i => (atI ps i).map .v
  | .str z, .int i => if z.length ≤ sizeLine then (atI z.cps.toList i).map fun c => .v (.str ⟨#[c]⟩) else none
  | _, _ => none
theorem Reps.atI {K : PySem.W.Frag} {G : Nat → Addr} {A : Addr → Prop} {H : Hp} {xs : List V} {ps : List PV} {i : Int} {p : PV} (h : Reps K G A H xs ps) (e : L2.atI ps i = some p) : ∃ v, L2.atI xs i = some v ∧ Rep K G A H v p := by
  unfold L2.atI at e ⊢
  rw [h.length]
  cases q : ixN ps.length i with
  | none => rw [q] at e; cases e
  | some j =>
    rw [q] at e
    exact h.get e
theorem s_ix : S2 X c fIx (rIx c.K) := fun T ε σ H x y p q res Q R rx ry h k => by
  unfold fIx at h
  split at h
  · obtain ⟨w, e, rfl⟩ := Option.map_eq_some_iff.mp h
    obtain ⟨a1, xs1, rfl, s1, r1⟩ := rx.tup
    obtain ⟨v, e1, rv⟩ := r1.atI e
    exact .inr (.inl ⟨_, _, _, _, rfl, ry.int, s1, e1, giveV R k rv⟩)
  · obtain ⟨w, e, rfl⟩ := Option.map_eq_some_iff.mp h
    obtain ⟨a1, xs1, rfl, s1, r1⟩ := rx.seqL rfl
    obtain ⟨v, e1, rv⟩ := r1.atI e
    exact .inl ⟨_, _, _, _, rfl, ry.int, s1, e1, giveV R k rv⟩
  · obtain ⟨w, e, rfl⟩ := Option.map_eq_some_iff.mp h
    obtain ⟨a1, xs1, rfl, s1, r1⟩ := rx.seqL rfl
    obtain ⟨v, e1, rv⟩ := r1.atI e
    exact .inl ⟨_, _, _, _, rfl, ry.int, s1, e1, giveV R k rv⟩
  · split at h
    · rename_i hz
      obtain ⟨w, e, rfl⟩ := Option.map_eq_some_iff.mp h
      exact .inr (.inr ⟨_, _, _, rx.str, ry.int, hz, e, giveV R k (.str _)⟩)
    · cases h
  · cases h
def cutP (ps : List PV) (lo hi : Option Int) : List PV := (ps.drop (HT.sIx ps.length 0 lo)).take (HT.sIx ps.length ps.length hi - HT.sIx ps.length 0 lo)
theorem Reps.cut {K : PySem.W.Frag} {G : Nat → Addr} {A : Addr → Prop} {H : Hp} {xs : List V} {ps : List PV} (h : Reps K G A H xs ps) (lo hi : Option Int) : Reps K G A H (cutV xs lo hi) (cutP ps lo hi) := by
  unfold cutV cutP
  rw [h.length]
  exact (h.drop _).take _
def fSl : PV → Option Int → Option Int → Option Val
  | .lst ps, lo, hi => some (.f (cutP ps lo hi))
  | .fl ps, lo, hi => some (.f (cutP ps lo hi))
  | .tup ps, lo, hi => some (.v (.tup (cutP ps lo hi)))
  | .str z, lo, hi => if z.length ≤ sizeLine then some (.v (.str (cutS z lo hi))) else none
  | _, _, _ => none
def rSl (K : PySem.W.Frag) : V → Option Int → Option Int → Hp → VK → Prop := fun x lo hi H Q => rSlL K x lo hi H Q ∨ (rSlA K x lo hi H Q ∨ rSlS x lo hi H Q)
theorem sl_all : SlR X (rSl X.K) := sl_list.or (sl_tupA.or sl_str)
theorem s_sl : SSl X c fSl (rSl c.K) := fun T ε σ H x p lo hi res Q R rx h k => by
  cases p with
  | fl ps =>
    cases h
    obtain ⟨a1, xs1, rfl, s1, r1⟩ := rx.seqL rfl
    exact .inl ⟨_, _, rfl, s1, giveL R k (r1.cut _ _)⟩
  | lst ps =>
    cases h
    obtain ⟨a1, xs1, rfl, s1, r1⟩ := rx.seqL rfl
    exact .inl ⟨_, _, rfl, s1, giveL R k (r1.cut _ _)⟩
  | tup ps =>
    cases h
    obtain ⟨a1, xs1, e1, s1, r1⟩ := rx.tup
    have tx : Rep c.K c.G (c.A T ε σ) H x (.tup ps) := by
      rcases rx with r | ⟨_, _, _, e, _⟩
      · exact r
      · cases e
    subst e1
    refine .inr (.inl ⟨_, _, rfl, s1, fun e => ?_, fun _ => giveT R k (r1.cut _ _)⟩)
    have : cutP ps lo hi = ps := by
      unfold cutP
      rw [← r1.length, e.1, e.2, List.drop_zero, Nat.sub_zero, List.take_of_length_le (Nat.le_of_eq r1.length.symm)]
    rw [this] at k
    exact giveV R k tx
  | str z =>
    have h : (if z.length ≤ sizeLine then some (Val.v (.str (cutS z lo hi))) else none) = some res := h
    by_cases hz : z.length ≤ sizeLine
    · rw [if_pos hz] at h
      cases h
      exact .inr (.inr ⟨_, rx.str, hz, giveV R k (.str _)⟩)
    · rw [if_neg hz] at h; cases h
  | _ => cases h
end
end EV


set_option Elab.async false
set_option linter.all false
set_option maxRecDepth 100000
set_option maxHeartbeats 4000000
/-! EvM: the built-in functions. -/
namespace EV
open PySem PySem.Spec PyProof.Rows L2

section
variable {X : Cx} {c : Fix} {T : List Addr} {ε : Ev} {σ : L2.St} {H : Hp}
theorem BReps.one {xs : List V} {p : PV} (h : BReps c T ε σ H xs [p]) : ∃ x, xs = [x] ∧ BRep c T ε σ H x p := by
  cases h with | cons r t => cases t; exact ⟨_, rfl, r⟩
theorem BReps.two {xs : List V} {p q : PV} (h : BReps c T ε σ H xs [p, q]) : ∃ x y, xs = [x, y] ∧ BRep c T ε σ H x p ∧ BRep c T ε σ H y q := by
  cases h with | cons r t => cases t with | cons r2 t2 => cases t2; exact ⟨_, _, rfl, r, r2⟩

/-! ### len, abs, max, min, int -/
def fLen : List PV → Option Val
  | [.str z] => if z.length ≤ sizeLine then some (.v (.int z.length)) else none
  | [.tup ps] => some (.v (.int ps.length))
  | [.lst ps] => some (.v (.int ps.length))
  | [.fl ps] => some (.v (.int ps.length))
  | _ => none
def rLenB (K : PySem.W.Frag) : List V → Hp → VK → Prop := fun xs H Q => ∃ x n, xs = [x] ∧ LenV K x H n ∧ Q (.int n) H
theorem s_len : SB X c fLen (rLenB c.K) := fun T ε σ H xs ps res Q R rx h k => by
  unfold fLen at h
  split at h
  · split at h
    · cases h
      rename_i hz
      obtain ⟨x, rfl, r⟩ := rx.one
      exact ⟨x, _, rfl, by rw [r.str]; exact ⟨hz, rfl⟩, giveV R k (.int _)⟩
    · cases h
  · cases h
    obtain ⟨x, rfl, r⟩ := rx.one
    obtain ⟨a, ys, rfl, s1, r1⟩ := r.tup
    exact ⟨_, _, rfl, .inr ⟨ys, s1, r1.length.symm⟩, giveV R k (.int _)⟩
  · cases h
    obtain ⟨x, rfl, r⟩ := rx.one
    obtain ⟨a, ys, rfl, s1, r1⟩ := r.seqL rfl
    exact ⟨_, _, rfl, .inl ⟨ys, s1, r1.length.symm⟩, giveV R k (.int _)⟩
  · cases h
    obtain ⟨x, rfl, r⟩ := rx.one
    obtain ⟨a, ys, rfl, s1, r1⟩ := r.seqL rfl
    exact ⟨_, _, rfl, .inl ⟨ys, s1, r1.length.symm⟩, giveV R k (.int _)⟩
  · cases h
def fAbs : List PV → Option Val
  | [.int i] => some (.v (.int (if i < 0 then -i else i)))
  | _ => none
def rAbs : List V → Hp → VK → Prop := fun xs H Q => ∃ i, xs = [.int i] ∧ Q (.int (if i < 0 then -i else i)) H
theorem s_abs : SB X c fAbs rAbs := fun T ε σ H xs ps res Q R rx h k => by
  unfold fAbs at h
  split at h
  · cases h
    obtain ⟨x, rfl, r⟩ := rx.one
    exact ⟨_, by rw [r.int], giveV R k (.int _)⟩
  · cases h
def fMax : List PV → Option Val
  | [.int i, .int j] => some (.v (.int (if j > i then j else i)))
  | _ => none
def rMaxI : List V → Hp → VK → Prop := fun xs H Q => ∃ i j, xs = [.int i, .int j] ∧ Q (.int (if j > i then j else i)) H
theorem s_max : SB X c fMax rMaxI := fun T ε σ H xs ps res Q R rx h k => by
  unfold fMax at h
  split at h
  · cases h
    obtain ⟨x, y, rfl, r, r2⟩ := rx.two
    exact ⟨_, _, by rw [r.int, r2.int], giveV R k (.int _)⟩
  · cases h
def fMin : List PV → Option Val
  | [.int i, .int j] => some (.v (.int (if j < i then j else i)))
  | _ => none
def rMinI : List V → Hp → VK → Prop := fun xs H Q => ∃ i j, xs = [.int i, .int j] ∧ Q (.int (if j < i then j else i)) H
theorem s_min : SB X c fMin rMinI := fun T ε σ H xs ps res Q R rx h k => by
  unfold fMin at h
  split at h
  · cases h
    obtain ⟨x, y, rfl, r, r2⟩ := rx.two
    exact ⟨_, _, by rw [r.int, r2.int], giveV R k (.int _)⟩
  · cases h
def fInt : List PV → Option Val
  | [.int i] => some (.v (.int i))
  | [.bl b] => some (.v (.int (if b then 1 else 0)))
  | _ => none
def rInt : List V → Hp → VK → Prop := fun xs H Q => (∃ i, xs = [.int i] ∧ Q (.int i) H) ∨ ∃ k, xs = [.bl k] ∧ Q (.int (if k then 1 else 0)) H
theorem s_int : SB X c fInt rInt := fun T ε σ H xs ps res Q R rx h k => by
  unfold fInt at h
  split at h
  · cases h
    obtain ⟨x, rfl, r⟩ := rx.one
    exact .inl ⟨_, by rw [r.int], giveV R k (.int _)⟩
  · cases h
    obtain ⟨x, rfl, r⟩ := rx.one
    exact .inr ⟨_, by rw [r.bl], giveV R k (.int _)⟩
  · cases h

/-! ### list, tuple -/
def fList : List PV → Option Val
  | [p] => (itemsOf p).map .f
  | _ => none
def rListB (K : PySem.W.Frag) : List V → Hp → VK → Prop := fun xs H Q => ∃ p ys, xs = [.ref p] ∧ (SqL K H p ys ∨ SqT K H p ys) ∧ ∀ l, H l = none → Q (.ref l) (upd H l (.lst ys))
theorem s_list : SB X c fList (rListB c.K) := fun T ε σ H xs ps res Q R rx h k => by
  unfold fList at h
  split at h
  · obtain ⟨its, e, rfl⟩ := Option.map_eq_some_iff.mp h
    obtain ⟨x, rfl, r⟩ := rx.one
    obtain ⟨a, ys, rfl, s1, r1⟩ := r.seq e
    exact ⟨a, ys, rfl, s1, giveL R k r1⟩
  · cases h
def fTuple : List PV → Option Val
  | [.lst ps] => some (.v (.tup ps))
  | [.fl ps] => some (.v (.tup ps))
  | [.tup ps] => some (.v (.tup ps))
  | _ => none
def rTupB (K : PySem.W.Frag) : List V → Hp → VK → Prop := fun xs H Q => ∃ p ys, xs = [.ref p] ∧ ((SqL K H p ys ∧ ∀ l, H l = none → Q (.ref l) (upd H l (.tup ys))) ∨ (SqT K H p ys ∧ Q (.ref p) H))
theorem BRep.tupRep {x : V} {ps : List PV} (h : BRep c T ε σ H x (.tup ps)) : Rep c.K c.G (c.A T ε σ) H x (.tup ps) := by
  rcases h with r | ⟨_, _, _, e, _⟩
  · exact r
  · cases e
theorem s_tuple : SB X c fTuple (rTupB c.K) := fun T ε σ H xs ps res Q R rx h k => by
  unfold fTuple at h
  split at h
  · cases h
    obtain ⟨x, rfl, r⟩ := rx.one
    obtain ⟨a, ys, rfl, s1, r1⟩ := r.seqL rfl
    exact ⟨a, ys, rfl, .inl ⟨s1, giveT R k r1⟩⟩
  · cases h
    obtain ⟨x, rfl, r⟩ := rx.one
    obtain ⟨a, ys, rfl, s1, r1⟩ := r.seqL rfl
    exact ⟨a, ys, rfl, .inl ⟨s1, giveT R k r1⟩⟩
  · cases h
    obtain ⟨x, rfl, r⟩ := rx.one
    have tx := r.tupRep
    obtain ⟨a, ys, rfl, s1, r1⟩ := r.tup
    exact ⟨a, ys, rfl, .inr ⟨s1, giveV R k tx⟩⟩
  · cases h

/-! ### all, any -/
def bools : List PV → Option (List Bool)
  | [] => some []
  | .bl b :: ps => (bools ps).map (b :: ·)
  | _ => none
theorem Reps.bools {K : PySem.W.Frag} {G : Nat → Addr} {A : Addr → Prop} {H : Hp} : ∀ {xs : List V} {ps : List PV} {bs : List Bool}, Reps K G A H xs ps → EV.bools ps = some bs → xs = bs.map V.bl
  | _, _, bs, .nil, h => by cases h; rfl
  | _, _, bs, .cons r t, h => by
    unfold EV.bools at h
    split at h
    · rename_i e; cases e
    · rename_i e
      cases e
      obtain ⟨cs, e1, rfl⟩ := Option.map_eq_some_iff.mp h
      cases r
      rw [Reps.bools t e1]
      rfl
    · cases h
def fAll : List PV → Option Val
  | [p] => (lstOf p).bind fun ps => (bools ps).map fun bs => .v (.bl (bs.all id))
  | _ => none
def fAny : List PV → Option Val
  | [p] => (lstOf p).bind fun ps => (bools ps).map fun bs => .v (.bl (bs.any id))
  | _ => none
theorem s_all : SB X c fAll (rAll c.K) := fun T ε σ H xs ps res Q R rx h k => by
  unfold fAll at h
  split at h
  · obtain ⟨its, e, h⟩ := Option.bind_eq_some_iff.mp h
    obtain ⟨bs, e2, rfl⟩ := Option.map_eq_some_iff.mp h
    obtain ⟨x, rfl, r⟩ := rx.one
    obtain ⟨a, ys, rfl, s1, r1⟩ := r.seqL e
    rw [r1.bools e2] at s1
    exact ⟨a, bs, rfl, s1, giveV R k (.bl _)⟩
  · cases h
theorem s_any : SB X c fAny (rAny c.K) := fun T ε σ H xs ps res Q R rx h k => by
  unfold fAny at h
  split at h
  · obtain ⟨its, e, h⟩ := Option.bind_eq_some_iff.mp h
    obtain ⟨bs, e2, rfl⟩ := Option.map_eq_some_iff.mp h
    obtain ⟨x, rfl, r⟩ := rx.one
    obtain ⟨a, ys, rfl, s1, r1⟩ := r.seqL e
    rw [r1.bools e2] at s1
    exact ⟨a, bs, rfl, s1, giveV R k (.bl _)⟩
  · cases h

/-! ### isinstance -/
def tyP : PV → Option String
  | .non => some "NoneType"
  | .bl _ => some "bool"
  | .int _ => some "int"
  | .str _ => some "str"
  | .tup _ => some "tuple"
  | .lst _ => some "list"
  | .fl _ => some "list"
  | .dic _ _ => some "dict"
  | _ => none
theorem BRep.tyX {x : V} {p : PV} {t : String} (h : BRep c T ε σ H x p) (e : tyP p = some t) : TyX c.K H x (.type t) := by
  rcases h with h | ⟨a, xs, ps, rfl, rfl, h1, h2⟩
  · cases h with
    | non => cases e; exact .base .non
    | bl b => cases e; exact .base (.bl b)
    | int i => cases e; exact .base (.int i)
    | str z => cases e; exact .base (.str z)
    | ty n => cases e
    | gl n => cases e
    | tup na h r => cases e; exact .base (.tup h)
    | tupK h r => cases e; obtain ⟨o, its, n, h1, h2, _⟩ := h; exact .kTuple h1 h2
    | lst na h r => cases e; exact .base (.lst h)
    | fl na h r =>
      cases e
      rcases h with h | ⟨o, h⟩
      · exact .base (.lst h)
      · exact .base (.frz h)
    | flK h r => cases e; obtain ⟨o, its, n, h1, h2, _⟩ := h; exact .kList h1 h2
    | dic na h l r => cases e; exact .base (.dK h)
  · cases e; exact .base (.lst h1)
def tysOf : List PV → Option (List String)
  | [] => some []
  | .ty n :: ps => (tysOf ps).map (n :: ·)
  | _ => none
def kitAnyS (t : String) : List String → Option Bool
  | [] => some false
  | n :: ns => match kitB t n with
    | some true => some true
    | some false => kitAnyS t ns
    | none => none
theorem Reps.tys {K : PySem.W.Frag} {G : Nat → Addr} {A : Addr → Prop} {H : Hp} : ∀ {cs : List V} {ps : List PV} {ns : List String}, Reps K G A H cs ps → tysOf ps = some ns → cs = ns.map V.ty
  | _, _, _, .nil, h => by cases h; rfl
  | _, _, _, .cons r t, h => by
    unfold tysOf at h
    split at h
    · rename_i e; cases e
    · rename_i e
      cases e
      obtain ⟨ms, e1, rfl⟩ := Option.map_eq_some_iff.mp h
      cases r
      rw [Reps.tys t e1]
      rfl
    · cases h
theorem cls_tys : ∀ ns : List String, Paired ClsV (ns.map V.ty) (ns.map Value.type)
  | [] => .nil
  | n :: ns => .cons (.ty n) (cls_tys ns)
theorem kitAny_s {K : PySem.W.Frag} {t : String} : ∀ {ns : List String} {b : Bool}, kitAnyS t ns = some b → PySem.W.kitAny K (.type t) (ns.map Value.type) = some b
  | [], b, h => by cases h; rfl
  | n :: ns, b, h => by
    unfold kitAnyS at h
    cases e : kitB t n with
    | none => rw [e] at h; cases h
    | some k =>
      rw [e] at h
      cases k with
      | true =>
        cases h
        show (match PySem.W.kitOne K (.type t) (.type n) with
          | some true => some true
          | some false => PySem.W.kitAny K (.type t) (ns.map Value.type)
          | none => none) = some true
        rw [kit_ty e]
      | false => exact kitAny_cons (kit_ty e) (fun _ => kitAny_s h) (fun z => by cases z)
theorem vals_tys : ∀ {ns : List String} {us : List Value}, Vals (ns.map V.ty) us → us = ns.map Value.type
  | [], _, .nil => rfl
  | n :: ns, _, .cons r t => by rw [vals_tys t]; rw [show _ = Value.type n from r]; rfl
def fIsi : List PV → Option Val
  | [p, .ty n] => (tyP p).bind fun t => (kitB t n).map fun b => .v (.bl b)
  | [p, .tup cs] => (tysOf cs).bind fun ns => (tyP p).bind fun t => (kitAnyS t ns).map fun b => .v (.bl b)
  | _ => none
def rIsiB (K : PySem.W.Frag) : List V → Hp → VK → Prop := fun xs H Q => rIsi K xs H Q ∨ (rIsiT K xs H Q ∨ rIsiK K xs H Q)
theorem call_isiB : CallR X (.builtin "isinstance") (rIsiB X.K) := call_isi.or (call_isiT.or call_isiK)
theorem s_isi : SB X c fIsi (rIsiB c.K) := fun T ε σ H xs ps res Q R rx h k => by
  unfold fIsi at h
  split at h
  · obtain ⟨t, e1, h⟩ := Option.bind_eq_some_iff.mp h
    obtain ⟨b, e2, rfl⟩ := Option.map_eq_some_iff.mp h
    obtain ⟨x, y, rfl, r, r2⟩ := rx.two
    obtain rfl := r2.ty
    exact .inl ⟨x, _, _, _, b, rfl, .ty _, r.tyX e1, kit_ty e2, giveV R k (.bl _)⟩
  · obtain ⟨ns, e0, h⟩ := Option.bind_eq_some_iff.mp h
    obtain ⟨t, e1, h⟩ := Option.bind_eq_some_iff.mp h
    obtain ⟨b, e2, rfl⟩ := Option.map_eq_some_iff.mp h
    obtain ⟨x, y, rfl, r, r2⟩ := rx.two
    have r3 := r2.tupRep
    cases r3 with
    | tup na e q =>
      rw [q.tys e0] at e
      exact .inr (.inl ⟨x, _, _, _, _, b, rfl, e, cls_tys ns, r.tyX e1, kitAny_s e2, giveV R k (.bl _)⟩)
    | tupK e q =>
      obtain ⟨⟨oc, od, dt, sl⟩, its, n, h1, h2, h3, _, h4⟩ := e
      rw [q.tys e0] at h4
      have h5 := vals_tys h4
      dsimp only at h2 h3
      subst h2 h3
      exact .inr (.inr ⟨x, _, od, its.toList, n, sl, _, b, rfl, by rw [h1, Array.toArray_toList], r.tyX e1, by rw [h5]; exact kitAny_s e2, giveV R k (.bl _)⟩)
  · cases h
theorem kit_tab : kitB "int" "int" = some true ∧ kitB "bool" "int" = some true ∧ kitB "str" "int" = some false ∧ kitB "tuple" "int" = some false ∧ kitB "list" "int" = some false ∧ kitB "NoneType" "int" = some false ∧ kitB "dict" "int" = some false := by decide +kernel
theorem kit_tab2 : kitB "int" "bool" = some false ∧ kitB "bool" "bool" = some true ∧ kitB "str" "bool" = some false ∧ kitB "tuple" "bool" = some false ∧ kitB "list" "bool" = some false ∧ kitB "NoneType" "bool" = some false ∧ kitB "dict" "bool" = some false := by decide +kernel
theorem kit_tab3 : kitB "int" "str" = some false ∧ kitB "bool" "str" = some false ∧ kitB "str" "str" = some true ∧ kitB "tuple" "str" = some false ∧ kitB "list" "str" = some false ∧ kitB "NoneType" "str" = some false ∧ kitB "dict" "str" = some false := by decide +kernel
theorem kit_tab4 : kitB "int" "tuple" = some false ∧ kitB "bool" "tuple" = some false ∧ kitB "str" "tuple" = some false ∧ kitB "tuple" "tuple" = some true ∧ kitB "list" "tuple" = some false ∧ kitB "NoneType" "tuple" = some false ∧ kitB "dict" "tuple" = some false := by decide +kernel
theorem kit_tab5 : kitB "int" "list" = some false ∧ kitB "bool" "list" = some false ∧ kitB "str" "list" = some false ∧ kitB "tuple" "list" = some false ∧ kitB "list" "list" = some true ∧ kitB "NoneType" "list" = some false ∧ kitB "dict" "list" = some false := by decide +kernel
end

/-! ### {k: v, ..}.get(a, b), k and v ints -/
def dispV (kvs : List (Int × Int)) : List (Key × V) := kvs.map fun kv => (.inl kv.1, V.int kv.2)
def cGetC (kvs : List (Int × Int)) (a : BDen) (b : Den) : Den := fun ε => (a ε).bind fun t ε => (b ε).bind fun r ε => match resolve ε t with
  | some (.int i) => (match valV (mergeK [] (dispV kvs)) (.inl i) with
    | some (.int v) => .ok (.v (.int v)) ε
    | none => .ok (.v r.pv) ε
    | _ => .stk)
  | _ => .stk
def trsC (kvs : List (Int × Int)) : List (TE × TE) := kvs.map fun kv => (tC (.int kv.1), tC (.int kv.2))
theorem tPairs_const {σ : L2.St} {H : Hp} : ∀ {kvs : List (Int × Int)} {Q : List (V × V) → Hp → Prop}, Q ((dispV kvs).map fun kv => (kV kv.1, kv.2)) H → tPairs (trsC kvs) σ H Q
  | [], Q, h => h
  | kv :: kvs, Q, h => tPairs_const (kvs := kvs) h
section
variable {X : Cx} {c : Fix} {W : WX} {a b : Expr} {da : BDen} {db : Den} {kvs : List (Int × Int)} {keys : List (Option Expr)} {values : List Expr} {dpos apos cpos : Pos}
theorem te_getC (hu : X.A.units + 1 < cLine) (hd : PPs X dpos keys values (trsC kvs)) (hall : keys.all (·.isSome) = true) (hl : keys.length = values.length) (h0 : keys ≠ []) (h15 : keys.length ≤ 15) (h15' : kvs.length ≤ 15) (ha : PE X a (TBof c W da)) (hb : PE X b (TEof c W db))
    (m : M2 X (.Dict keys values dpos) "get" apos a b cpos) : PE X (.Call (.Attribute (.Dict keys values dpos) "get" apos) [a, b] [] cpos) (TEof c W (cGetC kvs da db)) := by
  refine ⟨fun pins s σ H Q I h => (pe_dget2 hu (pe_disp hd hall hl h0 h15) ha hb m).run pins s σ H Q I fun p hp => tPairs_const ⟨upd_same, dispV kvs, rfl, by unfold dispV; rw [List.length_map]; exact h15', p, rfl, .inl ⟨_, .inl upd_same⟩, ?_⟩⟩
  obtain ⟨T, ε, R, h⟩ := h
  have n0 : upd H p (.dK []) p ≠ none := by rw [upd_same]; exact fun z => nomatch z
  have k0 : ∀ b o, H b = some o → upd (upd H p (.dK [])) p (.dK (mergeK [] (dispV kvs))) b = some o := fun b o e => by
    rw [upd_ne (ne_of_none e hp), upd_ne (ne_of_none e hp)]; exact e
  have h' := Fin.from (ET.kept k0) h
  refine ⟨T, ε, R.kept k0, (Fin.bind h').mono fun y H2 ⟨t, ε1, e1, ⟨R1, r1⟩, h1⟩ => ?_⟩
  refine ⟨T, ε1, R1, (Fin.bind (h1.from e1)).mono fun z H3 ⟨r, ε2, e2, ⟨r2, _⟩, h2⟩ => ?_⟩
  obtain ⟨R2, rz⟩ := r2.val
  have at1 : upd (upd H p (.dK [])) p (.dK (mergeK [] (dispV kvs))) p = some (.dK (mergeK [] (dispV kvs))) := upd_same
  have at2 := e1.keep p _ at1 fun q => by
    obtain ⟨xs, e⟩ := (R.kept k0).ownTracked q
    rw [at1] at e; cases e
  have at3 := e2.keep p _ at2 fun q => by
    obtain ⟨xs, e⟩ := R1.ownTracked q
    rw [at2] at e; cases e
  cases p1 : resolve ε2 t with
  | none => rw [p1] at h2; exact h2.elim
  | some q =>
    rw [p1] at h2
    cases q with
    | int i =>
      have ey := BRep.int ((r1.et e2).read R2 p1)
      subst ey
      refine ⟨valV (mergeK [] (dispV kvs)) (.inl i), .inl ⟨_, .inl i, .inl at3, rfl, rfl⟩, ?_⟩
      have h2 : Fin (RlV c σ H) c W T ε1 σ H2 (match valV (mergeK [] (dispV kvs)) (.inl i) with
        | some (.int v) => Out.ok (Val.v (.int v)) ε2
        | none => .ok (.v r.pv) ε2
        | _ => .stk) Q := h2
      cases ev : valV (mergeK [] (dispV kvs)) (.inl i) with
      | none => rw [ev] at h2; exact Fin.at h2 e2 ⟨⟨R2, rz⟩, trivial⟩
      | some v =>
        rw [ev] at h2
        cases v with
        | int v => exact Fin.at h2 e2 ⟨⟨R2, .int v⟩, trivial⟩
        | _ => exact h2.elim
    | _ => exact h2.elim
end
end EV


set_option Elab.async false
set_option linter.all false
set_option maxRecDepth 100000
set_option maxHeartbeats 4000000
/-! EvN: a def keeps its promise. -/
namespace EV
open PySem PySem.Spec PyProof.Rows L2

theorem start_get {N : List Str} {vs : List V} {i : Nat} {v : V} (h : vs[i]? = some v) : (L2.start N vs)[i]? = some (some v) := by
  unfold L2.start
  have hl := (List.getElem?_eq_some_iff.mp h).1
  rw [List.getElem?_append_left (by rw [List.length_map]; exact hl), List.getElem?_map, h]
  rfl
/-- the slots at the entry -/
def slots0 (ss : List Slot) (n : Nat) : Ev := ss ++ List.replicate n Slot.emp
theorem slots0_get {ss : List Slot} {n i : Nat} {s : Slot} (h : (slots0 ss n)[i]? = some s) : ss[i]? = some s ∨ s = .emp := by
  unfold slots0 at h
  by_cases q : i < ss.length
  · rw [List.getElem?_append_left q] at h; exact .inl h
  · rw [List.getElem?_append_right (by omega)] at h
    obtain ⟨_, e⟩ := List.getElem?_eq_some_iff.mp h
    rw [List.getElem_replicate] at e
    exact .inr e.symm
section
variable {K : PySem.W.Frag} {G : Nat → Addr} {A : Addr → Prop} {H : Hp} {N : List Str} {vs : List V} {ps : List PV}
theorem entry_plain (hA : ∀ b, A b → H b ≠ none) (r : Reps K G A H vs ps) (hl : vs.length ≤ N.length) :
    SR ⟨K, G, A, fun _ => False, H, hA⟩ [] (slots0 (ps.map .val) (N.length - vs.length)) (L2.start N vs) H := by
  have no : ∀ b, ¬ OwnAt (slots0 (ps.map .val) (N.length - vs.length)) (L2.start N vs) b := fun b ⟨i, k, qs, e, _⟩ => by
    rcases slots0_get e with e | e
    · rw [List.getElem?_map] at e
      obtain ⟨q, _, e⟩ := Option.map_eq_some_iff.mp e
      cases e
    · cases e
  have hA' : ∀ b, Fix.A ⟨K, G, A, fun _ => False, H, hA⟩ [] (slots0 (ps.map .val) (N.length - vs.length)) (L2.start N vs) b → A b := fun b q => by
    rcases q with q | q | q
    · exact q
    · exact absurd q (no b)
    · cases q
  refine ⟨?_, fun i p e => ?_, fun i k qs e => ?_, fun i j k l ps qs a e1 _ _ _ => ?_, fun a h => (by cases h), fun b o e _ => e, fun b h => h.elim⟩
  · unfold slots0 L2.start
    rw [List.length_append, List.length_append, List.length_map, List.length_map, List.length_replicate, List.length_replicate, r.length]
  · rcases slots0_get e with e | e
    · rw [List.getElem?_map] at e
      obtain ⟨q, e1, e2⟩ := Option.map_eq_some_iff.mp e
      cases e2
      obtain ⟨v, h1, h2⟩ := r.get e1
      exact ⟨v, start_get h1, h2.mono (fun b q => .inl (hA' b q)) fun b o e _ => e⟩
    · cases e
  · rcases slots0_get e with e | e
    · rw [List.getElem?_map] at e
      obtain ⟨q, _, e⟩ := Option.map_eq_some_iff.mp e
      cases e
    · cases e
  · rcases slots0_get e1 with e | e
    · rw [List.getElem?_map] at e
      obtain ⟨q, _, e⟩ := Option.map_eq_some_iff.mp e
      cases e
    · cases e
theorem entry_io {a : Addr} {xs : List V} {qs : List PV} (hA : ∀ b, A b → H b ≠ none) (ha : A a) (hx : H a = some (.lst xs)) (rq : Reps K G A H xs qs) (r : Reps K G A H vs ps) (hl : vs.length + 1 ≤ N.length) :
    SR ⟨K, G, A, fun b => b = a, H, hA⟩ [] (slots0 (.own true qs :: ps.map .val) (N.length - (vs.length + 1))) (L2.start N (.ref a :: vs)) H := by
  have own0 : ∀ (i : Nat) (k : Bool) (us : List PV), (slots0 (.own true qs :: ps.map .val) (N.length - (vs.length + 1)))[i]? = some (Slot.own k us) → i = 0 ∧ k = true ∧ us = qs := fun i k us e => by
    rcases slots0_get e with e | e
    · cases i with
      | zero =>
        rw [List.getElem?_cons_zero] at e
        cases e
        exact ⟨rfl, rfl, rfl⟩
      | succ i =>
        rw [List.getElem?_cons_succ, List.getElem?_map] at e
        obtain ⟨q, _, e⟩ := Option.map_eq_some_iff.mp e
        cases e
    · cases e
  have st0 : (L2.start N (.ref a :: vs))[(0 : Nat)]? = some (some (V.ref a)) := start_get rfl
  have hA' : ∀ b, Fix.A ⟨K, G, A, fun b => b = a, H, hA⟩ [] (slots0 (.own true qs :: ps.map .val) (N.length - (vs.length + 1))) (L2.start N (.ref a :: vs)) b → A b := fun b q => by
    rcases q with q | ⟨i, k, us, e, s⟩ | q
    · exact q
    · obtain ⟨rfl, _, _⟩ := own0 i k us e
      rw [st0] at s
      cases s
      exact ha
    · cases q
  refine ⟨?_, fun i p e => ?_, fun i k us e => ?_, fun i j k l ps qs b e1 e2 _ _ => ?_, fun a h => (by cases h), fun b o e _ => e, fun b h => by rw [h, hx]; exact fun z => nomatch z⟩
  · unfold slots0 L2.start
    simp only [List.length_append, List.length_cons, List.length_map, List.length_replicate]
    rw [r.length]
  · rcases slots0_get e with e | e
    · cases i with
      | zero => rw [List.getElem?_cons_zero] at e; cases e
      | succ i =>
        rw [List.getElem?_cons_succ, List.getElem?_map] at e
        obtain ⟨q, e1, e2⟩ := Option.map_eq_some_iff.mp e
        cases e2
        obtain ⟨v, h1, h2⟩ := r.get e1
        exact ⟨v, start_get (by rw [List.getElem?_cons_succ]; exact h1), h2.mono (fun b q => .inl (hA' b q)) fun b o e _ => e⟩
    · cases e
  · obtain ⟨rfl, rfl, rfl⟩ := own0 i k us e
    exact ⟨a, xs, st0, hx, rq.mono (fun b q => .inl (hA' b q)) fun b o e _ => e, by simp, .inr ⟨rfl, rfl⟩⟩
  · rw [(own0 i _ _ e1).1, (own0 j _ _ e2).1]
/-- how what is returned lies, seen from outside -/
theorem RtR.out {S0 : Addr → Prop} {hA : ∀ b, A b → H b ≠ none} {ε : Ev} {σ : L2.St} {H' : Hp} {r : Val} {x : V} (h : RtR ⟨K, G, A, S0, H, hA⟩ ε σ H' r x) : RetR K G A H H' r x := by
  cases r with
  | v p => exact Rep.mono (fun b q => .inl (.inl q)) (fun b o e _ => e) h.2
  | f ps =>
    obtain ⟨a, xs, rfl, n, R, h1, h2⟩ := h
    refine ⟨a, xs, rfl, n, h1, h2.mono (fun b q => .inl ?_) fun b o e _ => e⟩
    rcases q with q | q
    · exact .inl q
    · cases q; exact .inr (.inr List.mem_cons_self)
theorem RtR.sr {c : Fix} {ε : Ev} {σ : L2.St} {H' : Hp} {r : Val} {x : V} (h : RtR c ε σ H' r x) : SR c [] ε σ H' := by
  cases r with
  | v p => exact h.1
  | f ps => obtain ⟨a, xs, _, _, R, _⟩ := h; exact R.less
end
/-- at a def's entry -/
theorem run_plain {c : Fix} {Φ : CallT} {d : FD} {ps : List PV} (hio : d.io = false) (h : d.run Φ none ps ≠ .stk) : ∃ ε, d.start none ps = some ε ∧ ε = slots0 (ps.map .val) (d.ns - d.np) ∧ ps.length = d.np := by
  unfold FD.run at h
  unfold FD.start at h ⊢
  rw [hio] at h ⊢
  by_cases z : ps.length = d.np
  · exact ⟨_, by dsimp only; rw [if_pos z]; rfl, rfl, z⟩
  · dsimp only at h; rw [if_neg z] at h; exact absurd rfl h
theorem run_io {Φ : CallT} {d : FD} {ps qs : List PV} (hio : d.io = true) (h : d.run Φ (some qs) ps ≠ .stk) : ∃ ε, d.start (some qs) ps = some ε ∧ ε = slots0 (.own true qs :: ps.map .val) (d.ns - d.np) ∧ ps.length + 1 = d.np := by
  unfold FD.run at h
  unfold FD.start at h ⊢
  rw [hio] at h ⊢
  by_cases z : ps.length + 1 = d.np
  · exact ⟨_, by dsimp only; rw [if_pos z]; rfl, rfl, z⟩
  · dsimp only at h; rw [if_neg z] at h; exact absurd rfl h
theorem def_ok {P : Program} {w : World} {K : PySem.W.Frag} {G : Nat → Addr} {mg : Str → Option Value} {base : Heap} {x qual : Str} {params : Arguments} {body : List Stmt} {scope : Scope} {f : Addr} {fd : FuncData} {N ps : List Str} {d : FD} {Φ Φ' : CallT} {n k : Nat}
    (F : FunD K x qual params body scope [] [] f fd) (S : FnScope N ps scope) (hnp : d.np = ps.length) (hns : d.ns = N.length)
    (walk : ∀ (cdv : Value) (A : Around) (outer : List Env) (s : Shared) (H : Hp) (E : XK) (c : Fix), c.K = K → c.G = G → Room k (A.deeper (envOfC qual scope s.heap.objs.size f cdv)) →
      PSs (cxOf (L2.CX P w) P w K mg base N qual scope f cdv A outer s H E) body (TSof c (fun cls d _ H => E cls d H) (d.body Φ)))
    (hrun : ∀ io ps, Φ' n io ps = d.run Φ io ps) : FnOk P w K mg base (L2.CX P w) (k + 1) f fd ps (spOf K G Φ' n ps.length d.io) := by
  have hNl : ps.length ≤ N.length := by have := congrArg List.length S.pre; rw [List.length_take] at this; omega
  refine F.ok S (fun vs H Q E h => h.1) fun cdv A outer s H vs Q E hr h => ?_
  obtain ⟨hl, B, hB, h⟩ := h
  cases hio : d.io with
  | false =>
    rw [hio] at h
    obtain ⟨qs, r, h⟩ := h
    rw [hrun] at h
    obtain ⟨ε, e1, e2, e3⟩ := run_plain (c := ⟨K, G, B, fun _ => False, H, hB⟩) hio (fun z => by rw [z] at h; exact h)
    refine ⟨_, walk cdv A outer s H E ⟨K, G, B, fun _ => False, H, hB⟩ rfl rfl hr, slots0 (qs.map .val) (N.length - vs.length), entry_plain hB r (by omega), ?_⟩
    have e4 : ε = slots0 (qs.map .val) (N.length - vs.length) := by rw [e2, hns, hnp, hl]
    rw [← e4]
    unfold FD.run at h
    rw [e1] at h
    dsimp only at h
    have kp : ∀ {ε' : Ev} {σ' : L2.St} {H' : Hp}, SR ⟨K, G, B, fun _ => False, H, hB⟩ [] ε' σ' H' → ∀ b o, H b = some o → H' b = some o := fun R b o e => R.fr b o e fun z => z
    cases ob : d.body Φ ε with
    | stk => rw [ob] at h; exact h
    | exc m p ε' =>
      rw [ob] at h
      dsimp only at h
      rw [hio] at h
      intro dd σ' H' t R x
      refine h dd H' (kp R) ?_
      cases p with
      | non => exact x
      | _ =>
        obtain ⟨d2, v, q1, q2, q3⟩ := x
        exact ⟨d2, v, q1, q2, Rep.mono (fun b q => .inl (.inl q)) (fun b o e _ => e) q3⟩
    | ok fl ε' =>
      rw [ob] at h
      cases fl with
      | nx =>
        dsimp only at h
        unfold ioOf at h
        rw [hio] at h
        exact fun σ' H' t R => h .non H' (kp R) .non
      | rt r =>
        dsimp only at h
        unfold ioOf at h
        rw [hio] at h
        exact fun x σ' H' t rr => h x H' (kp rr.sr) rr.out
      | bk => exact h.elim
      | ct => exact h.elim
  | true =>
    rw [hio] at h
    obtain ⟨a, xs, us, ws, qs, rfl, ha, hx, ru, r, h⟩ := h
    rw [hrun] at h
    obtain ⟨ε, e1, e2, e3⟩ := run_io (Φ := Φ) (qs := us) (ps := qs) hio (fun z => by rw [z] at h; exact h)
    rw [List.length_cons] at hl
    refine ⟨_, walk cdv A outer s H E ⟨K, G, B, fun b => b = a, H, hB⟩ rfl rfl hr, slots0 (.own true us :: qs.map .val) (N.length - (ws.length + 1)), entry_io hB ha hx ru r (by omega), ?_⟩
    have e4 : ε = slots0 (.own true us :: qs.map .val) (N.length - (ws.length + 1)) := by rw [e2, hns, hnp, hl]
    rw [← e4]
    unfold FD.run at h
    rw [e1] at h
    dsimp only at h
    have own : ∀ {T : List Addr} {ε' : Ev} {σ' : L2.St} {H' : Hp} {qs' : List PV}, SR ⟨K, G, B, fun b => b = a, H, hB⟩ T ε' σ' H' → ε'[(0 : Nat)]? = some (.own true qs') →
        ∃ ys, H' a = some (.lst ys) ∧ Reps K G (Fix.A ⟨K, G, B, fun b => b = a, H, hB⟩ T ε' σ') H' ys qs' ∧ ∀ b o, H b = some o → b ≠ a → H' b = some o := fun {T ε' σ' H' qs'} R e0 => by
      obtain ⟨a', ys, s1, h1, r1, _, hf⟩ := R.own 0 true qs' e0
      have ea : a' = a := by
        rcases hf with ⟨z, _⟩ | ⟨_, z⟩
        · cases z
        · exact z
      subst ea
      exact ⟨ys, h1, r1, fun b o e ne => R.fr b o e ne⟩
    have fin : ∀ {ε' : Ev} {σ' : L2.St} {H' : Hp} {rv : Val} {x : V}, RtR ⟨K, G, B, fun b => b = a, H, hB⟩ ε' σ' H' rv x → (match ioOf d rv ε' with
        | .ok r qs' => ∀ x H' ys, (∀ b o, H b = some o → b ≠ a → H' b = some o) → H' a = some (.lst ys) → Reps K G (AR B r x) H' ys qs' → RetR K G B H H' r x → Q x H'
        | _ => False) → Q x H' := fun {ε' σ' H' rv x} rr h => by
      unfold ioOf at h
      rw [hio] at h
      dsimp only at h
      cases e0 : ε'[(0 : Nat)]? with
      | none => rw [e0] at h; exact h.elim
      | some sl =>
        rw [e0] at h
        cases sl with
        | emp => exact h.elim
        | val p => exact h.elim
        | own k qs' =>
          cases k with
          | false => exact h.elim
          | true =>
            have out := rr.out
            cases rv with
            | v p =>
              obtain ⟨ys, h1, r1, kk⟩ := own rr.1 e0
              exact h x H' ys kk h1 (r1.mono (fun b q => .inl (by
                rcases q with q | q
                · exact .inl q
                · exact q.elim)) fun b o e _ => e) out
            | f zs =>
              obtain ⟨b, us', rfl, _, R, _⟩ := rr
              obtain ⟨ys, h1, r1, kk⟩ := own R e0
              exact h _ H' ys kk h1 (r1.mono (fun d q => .inl (by
                rcases q with q | q
                · exact .inl q
                · cases q; exact .inr (.inr List.mem_cons_self))) fun b o e _ => e) out
    cases ob : d.body Φ ε with
    | stk => rw [ob] at h; exact h
    | exc m p ε' =>
      rw [ob] at h
      dsimp only at h
      rw [hio] at h
      exact h.elim
    | ok fl ε' =>
      rw [ob] at h
      cases fl with
      | nx => exact fun σ' H' t R => fin (rv := .v .non) ⟨R, .non⟩ h
      | rt r => exact fun x σ' H' t rr => fin rr h
      | bk => exact h.elim
      | ct => exact h.elim
end EV


set_option Elab.async false
set_option linter.all false
set_option maxRecDepth 100000
set_option maxHeartbeats 4000000
/-! EvO: the rules once more, with what is seen of the text left to rfl. -/
namespace EV
open PySem PySem.Spec PyProof.Rows L2

def fIAdd : PV → PV → Option Val
  | .int i, .int j => some (.v (.int (i + j)))
  | _, _ => none
/-- what the rules ask of a context -/
structure Good (X : Cx) (c : Fix) (W : WX) (k : Nat) : Prop where
  K : c.K = X.K
  tk : Takes X W
  hr : Room k X.A
  calm : X.calm = true
  nd : X.N.Nodup
  po : PassesOwn (model X.prog X.w) X.A X.env X.xe
theorem Good.u65 {X : Cx} {c : Fix} {W : WX} {k : Nat} (g : Good X c W k) : X.A.units + 65 < cLine := by have := g.hr.un; omega
theorem Good.u1 {X : Cx} {c : Fix} {W : WX} {k : Nat} (g : Good X c W k) : X.A.units + 1 < cLine := by have := g.hr.un; omega
theorem Good.blk {X : Cx} {c : Fix} {W : WX} {k : Nat} (g : Good X c W k) {s : Shared} {H : Hp} {scope : Scope} {cenv : Env} {fp : List Addr} : Good (X.blk s H scope cenv fp) c W0 k :=
  ⟨g.K, takes_none5, g.hr, g.calm, g.nd, PassesOwn.never⟩
theorem Good.tr {X : Cx} {c : Fix} {W W' : WX} {k : Nat} (g : Good X c W k) {pn : List (Addr × Obj)} {xe : Value → Shared → Prop} (tk : Takes (X.tr pn xe) W') (po : PassesOwn (model X.prog X.w) X.A X.env xe) : Good (X.tr pn xe) c W' k :=
  ⟨g.K, tk, g.hr, g.calm, g.nd, po⟩
/-- a def may be called, k deep -/
structure COk (P : Program) (w : World) (K : PySem.W.Frag) (mg : Str → Option Value) (base : Heap) (G : Nat → Addr) (Φ : CallT) (k n : Nat) (ps : List Str) (io : Bool) : Prop where
  ex : ∃ fd, FnOk P w K mg base (L2.CX P w) k (G n) fd ps (spOf K G Φ n ps.length io) ∧ Binds K fd ps [] ∧
    ∀ (s : Shared) (ws : List Value), ws.length = ps.length → BindsTo s fd ⟨[], ps.zip ws⟩ (ps.zip ws)
  kp : PySem.W.keepIn K (.ref (G n)) = true
theorem COk.at {X : Cx} {c : Fix} {Φ : CallT} {k n : Nat} {ps : List Str} {io : Bool} (hK : c.K = X.K) (C : COk X.prog X.w X.K X.mg X.base c.G Φ k n ps io) : CallOk X c Φ k n ps io :=
  ⟨by rw [hK]; exact C.ex, C.kp⟩

theorem few_nil : Few aNil := fun ε ps ε' h => by cases h; exact Nat.zero_le _
theorem many_nil : Many aNil 0 := fun ε ps ε' h => by cases h; rfl
theorem many_cons {d : Den} {as : ADen} {m : Nat} (h : Many as m) : Many (aCons d as) (m + 1) := fun ε ps ε' e => by
  unfold aCons at e
  cases o : d ε with
  | stk => rw [o] at e; cases e
  | exc n p ε1 => rw [o] at e; cases e
  | ok r ε1 =>
    rw [o] at e
    have e : ((as ε1).bind fun ps ε => Out.ok (r.pv :: ps) ε) = .ok ps ε' := e
    cases o2 : as ε1 with
    | stk => rw [o2] at e; cases e
    | exc n p ε2 => rw [o2] at e; cases e
    | ok qs ε2 =>
      rw [o2] at e
      cases e
      exact congrArg Nat.succ (h _ _ _ o2)
theorem Many.few {as : ADen} {m : Nat} (h : Many as m) (hm : m ≤ 1000) : Few as := fun ε ps ε' e => by rw [h _ _ _ e]; exact hm
theorem bmany_nil : BMany bNil 0 := fun ε ps ε' h => by cases h; rfl
theorem bmany_cons {d : BDen} {as : BADen} {m : Nat} (h : BMany as m) : BMany (bCons d as) (m + 1) := fun ε ps ε' e => by
  unfold bCons at e
  cases o : d ε with
  | stk => rw [o] at e; cases e
  | exc n p ε1 => rw [o] at e; cases e
  | ok r ε1 =>
    rw [o] at e
    have e : ((as ε1).bind fun ps ε => Out.ok (r :: ps) ε) = .ok ps ε' := e
    cases o2 : as ε1 with
    | stk => rw [o2] at e; cases e
    | exc n p ε2 => rw [o2] at e; cases e
    | ok qs ε2 =>
      rw [o2] at e
      cases e
      exact congrArg Nat.succ (h _ _ _ o2)
/-- arguments, with their number -/
structure PAn (X : Cx) (c : Fix) (W : WX) (es : List Expr) (as : ADen) (n : Nat) : Prop where
  p : PA X es (TAof c W as)
  m : Many as n
structure PBn (X : Cx) (c : Fix) (W : WX) (es : List Expr) (bs : BADen) (n : Nat) : Prop where
  p : PA X es (TBAof c W bs)
  m : BMany bs n
structure PKn (X : Cx) (c : Fix) (W : WX) (kws : List Keyword) (as : ADen) (n : Nat) : Prop where
  p : PK X kws (TAof c W as)
  m : Many as n

section
variable {X : Cx} {c : Fix} {W : WX} {k n i j : Nat} {x : Str} {e a b f : Expr} {es rest : List Expr} {d da db dc : Den} {ba bb bc : BDen} {ta tb : TDen} {as : ADen} {bs : BADen} {p pos pos' apos cpos p2 : Pos} {kws : List Keyword} {Φ : CallT} {ps : List Str}
/-! names -/
def visB (sc : Scope) (x : Str) : Bool := match sc.names.lookup x with
  | some .local => true
  | some .cell => true
  | some .free => true
  | _ => false
theorem vis_of {sc : Scope} (h : visB sc x = true) : Vis sc x := by
  unfold visB at h
  unfold Vis
  split at h
  · exact .inl (by assumption)
  · exact .inr (.inl (by assumption))
  · exact .inr (.inr (by assumption))
  · cases h
def locB (sc : Scope) (x : Str) : Bool := match sc.names.lookup x with
  | some .local => true
  | some .cell => true
  | _ => false
theorem loc_of {sc : Scope} (h : locB sc x = true) : L2.Loc sc x := by
  unfold locB at h
  unfold L2.Loc
  split at h
  · exact .inl (by assumption)
  · exact .inr (by assumption)
  · cases h
theorem nv (hN : X.N[j]? = some x := by rfl) (hv : visB X.env.scope x = true := by rfl) (hd : (x == ("__debug__" : Str)) = false := by rfl) (hc : (x == ("__classdict__" : Str)) = false := by rfl) : PE X (.Name x pos) (tVar j) := pe_var hN (vis_of hv) hd hc
theorem eV (h : PE X e (tVar j)) : PE X e (TEof c W (cVar j)) := te_var h
theorem bV (h : PE X e (tVar j)) : PE X e (TBof c W (bVar j)) := tb_var h
theorem bO (h : PE X e (TEof c W d)) : PE X e (TBof c W (bOf d)) := tb_of h
theorem eI {i : Int} {j : Nat} : PE X (.Constant (.int i) j pos) (TEof c W (cC (.int i))) := te_const pe_int fun _ _ => .int i
theorem eS {j : Nat} : PE X (.Constant (.str x) j pos) (TEof c W (cC (.str x))) := te_const pe_str fun _ _ => .str x
theorem eB {t : Bool} {j : Nat} : PE X (.Constant (.bool t) j pos) (TEof c W (cC (.bl t))) := te_const pe_bl fun _ _ => .bl t
theorem eN {j : Nat} : PE X (.Constant .none j pos) (TEof c W (cC .non)) := te_const pe_non fun _ _ => .non
/-- a def, a class of the top, as a value -/
theorem eG (hm : X.mg x = some (.ref (c.G n))) (hg : Gl X x := by rfl) (hd : (x == ("__debug__" : Str)) = false := by rfl) : PE X (.Name x pos) (TEof c W (cC (.gl n))) := te_const (pe_glob (v := .ref (c.G n)) hg hm rfl hd) fun _ _ => .gl n
/-- a built-in type as a value -/
theorem eT {ty : String} (hm : X.mg x = none) (hv : bootBuiltins x = some (.type ty)) (hg : Gl X x := by rfl) (hn : x ≠ "__name__" := by decide) (hd : (x == ("__debug__" : Str)) = false := by rfl) : PE X (.Name x pos) (TEof c W (cC (.ty ty))) :=
  te_const (pe_bltn (v := .ty ty) hg hm hv rfl hn hd) fun _ _ => .ty ty
/-- a constant of the top -/
def CstAt (K : PySem.W.Frag) (G : Nat → Addr) (mg : Str → Option Value) (x : Str) (p : PV) : Prop := ∃ v u, mg x = some u ∧ RelV v u ∧ ∀ A H, Rep K G A H v p
theorem eC {q : PV} (hK : c.K = X.K) (h : CstAt X.K c.G X.mg x q) (hg : Gl X x := by rfl) (hd : (x == ("__debug__" : Str)) = false := by rfl) : PE X (.Name x pos) (TEof c W (cC q)) := by
  obtain ⟨v, u, hm, r, hr⟩ := h
  exact te_const (pe_glob hg hm r hd) fun A H => by rw [hK]; exact hr A H

/-! operators -/
def OpS (X : Cx) (c : Fix) (h : Value → Value → Sem Value) (f : PV → PV → Option Val) : Prop := ∃ r, OpR X h r ∧ S2 X c f r
theorem oAdd (hK : c.K = X.K) : OpS X c (binaryOp .Add) fAdd := ⟨_, op_addB, hK ▸ s_add⟩
theorem oSub : OpS X c (binaryOp .Sub) fSub := ⟨_, op_sub, s_sub⟩
theorem oMul : OpS X c (binaryOp .Mult) fMul := ⟨_, op_mul, s_mul⟩
theorem oDiv : OpS X c (binaryOp .FloorDiv) fDiv := ⟨_, op_fdiv, s_div⟩
theorem oMod : OpS X c (binaryOp .Mod) fMod := ⟨_, op_mod, s_mod⟩
theorem oPow : OpS X c (binaryOp .Pow) fPow := ⟨_, op_pow, s_pow⟩
theorem oIAdd : OpS X c (inplaceOp .Add) fIAdd := ⟨_, iop_add, fun T ε σ H x y p q res Q R rx ry h k => by
  unfold fIAdd at h
  split at h
  · cases h; exact ⟨_, _, rx.int, ry.int, giveV R k (.int _)⟩
  · cases h⟩
theorem oEq (g : Good X c W k) : OpS X c (compareOp .Eq) fEq := ⟨_, op_eqD (by have := g.u65; omega), g.K ▸ s_eq⟩
theorem oNe (g : Good X c W k) : OpS X c (compareOp .NotEq) fNe := ⟨_, op_neD (by have := g.u65; omega), g.K ▸ s_ne⟩
theorem oIn (g : Good X c W k) : OpS X c (compareOp .In) fIn := ⟨_, op_inB g.u65, g.K ▸ s_in⟩
theorem oNotIn (g : Good X c W k) : OpS X c (compareOp .NotIn) fNotIn := ⟨_, op_notInB g.u65, g.K ▸ s_notIn⟩
theorem oIs : OpS X c (compareOp .Is) fIs := ⟨_, op_isN, s_is⟩
theorem oIsNot : OpS X c (compareOp .IsNot) fIsNot := ⟨_, op_notN, s_isNot⟩
theorem oLe (g : Good X c W k) : OpS X c (compareOp .LtE) fLe := ⟨_, op_leB (by have := g.u65; omega), g.K ▸ s_le⟩
theorem oLt : OpS X c (compareOp .Lt) fLt := ⟨_, op_lt, s_lt⟩
theorem oGe : OpS X c (compareOp .GtE) fGe := ⟨_, op_ge, s_ge⟩
theorem oGt : OpS X c (compareOp .Gt) fGt := ⟨_, op_gt, s_gt⟩
theorem eBin {op : Operator} {g : PV → PV → Option Val} (ho : OpS X c (binaryOp op) g) (ha : PE X a (TBof c W ba)) (hb : PE X b (TBof c W bb)) : PE X (.BinOp a op b pos) (TEof c W (cOp2 g ba bb)) := by
  obtain ⟨r, h1, h2⟩ := ho; exact te_bin h1 h2 ha hb
theorem eCmp {op : CmpOp} {g : PV → PV → Option Val} (ho : OpS X c (compareOp op) g) (ha : PE X a (TBof c W ba)) (hb : PE X b (TBof c W bb)) (hm : behindInMarks op b = false := by rfl) : PE X (.Compare a [op] [b] pos) (TEof c W (cOp2 g ba bb)) := by
  obtain ⟨r, h1, h2⟩ := ho; exact te_cmp h1 h2 ha hb hm
theorem tCmp {op : CmpOp} {g : PV → PV → Option Val} (ho : OpS X c (compareOp op) g) (ha : PE X a (TBof c W ba)) (hb : PE X b (TBof c W bb)) (hm : behindInMarks op b = false := by rfl) : PT X (.Compare a [op] [b] pos) (TTof c W (tOp2 g ba bb)) := by
  obtain ⟨r, h1, h2⟩ := ho; exact tt_cmp h1 h2 ha hb hm
theorem tCh {op op' : CmpOp} {g g' : PV → PV → Option Val} (ho : OpS X c (compareOp op) g) (ho' : OpS X c (compareOp op') g') (ha : PE X a (TBof c W ba)) (hb : PE X b (TBof c W bb)) (hc : PE X e (TBof c W bc)) (hm : lastMarks [op, op'] [b, e] = false := by rfl) :
    PT X (.Compare a [op, op'] [b, e] pos) (TTof c W (tChn g g' ba bb bc)) := by
  obtain ⟨r, h1, h2⟩ := ho; obtain ⟨r', h1', h2'⟩ := ho'; exact tt_chn h1 h1' h2 h2' ha hb hc hm
theorem eCh {op op' : CmpOp} {g g' : PV → PV → Option Val} (ho : OpS X c (compareOp op) g) (ho' : OpS X c (compareOp op') g') (ha : PE X a (TBof c W ba)) (hb : PE X b (TBof c W bb)) (hc : PE X e (TBof c W bc)) (hm : lastMarks [op, op'] [b, e] = false := by rfl) :
    PE X (.Compare a [op, op'] [b, e] pos) (TEof c W (cOfT (tChn g g' ba bb bc))) := by
  obtain ⟨r, h1, h2⟩ := ho; obtain ⟨r', h1', h2'⟩ := ho'; exact te_chn h1 h1' h2 h2' ha hb hc hm
theorem eNeg (ha : PE X a (TBof c W ba)) : PE X (.UnaryOp .USub a pos) (TEof c W (cOp1 fNeg ba)) := te_un un_neg s_neg ha
end
/-- not x, as a value -/
def cNot (d : Den) : Den := fun ε => (d ε).bind fun r ε => match truth r.pv with
  | some k => .ok (.v (.bl (!k))) ε
  | none => .stk
section
variable {X : Cx} {c : Fix} {W : WX} {k n i j : Nat} {x : Str} {e a b f : Expr} {es rest : List Expr} {d da db dc : Den} {ba bb bc : BDen} {ta tb : TDen} {as : ADen} {bs : BADen} {p pos pos' apos cpos p2 : Pos} {kws : List Keyword} {Φ : CallT} {ps : List Str}
theorem eNot (hK : c.K = X.K) (ha : PE X a (TEof c W d)) : PE X (.UnaryOp .Not a pos) (TEof c W (cNot d)) := by
  refine ⟨fun pins s σ H Q I h => (pe_notT ha).run pins s σ H Q I ?_⟩
  obtain ⟨T, ε, R, h⟩ := h
  refine ⟨T, ε, R, (Fin.bind (Ra := RlV c σ H) h).mono fun x H1 ⟨r, ε1, e1, ⟨r1, _⟩, h1⟩ => ?_⟩
  cases q : truth r.pv with
  | none => rw [q] at h1; exact h1.elim
  | some k =>
    rw [q] at h1
    exact ⟨k, truth_is hK r1.bRep q, Fin.at h1 e1 ⟨⟨r1.val.1, .bl _⟩, trivial⟩⟩
theorem eAnd (hK : c.K = X.K) (ha : PE X a (TEof c W da)) (hb : PE X (.BoolOp .And (b :: rest) pos) (TEof c W db)) : PE X (.BoolOp .And (a :: b :: rest) pos) (TEof c W (cAndT da db)) := te_andT hK ha hb
theorem eOr (hK : c.K = X.K) (ha : PE X a (TEof c W da)) (hb : PE X (.BoolOp .Or (b :: rest) pos) (TEof c W db)) : PE X (.BoolOp .Or (a :: b :: rest) pos) (TEof c W (cOrT da db)) := te_orT hK ha hb
theorem e1 {op : BoolOp} (ha : PE X a (TEof c W d)) : PE X (.BoolOp op [a] pos) (TEof c W d) := pe_one ha
theorem tV (hK : c.K = X.K) (ha : PE X a (TBof c W ba)) (he : ∀ whole, isTrue a X.env whole = (do let v ← whole; standAt a.pos; holding [v] (truthy v)) := by intro _; rfl) : PT X a (TTof c W (tVal ba)) := tt_val hK ha he
theorem tN (ha : PT X a (TTof c W ta)) : PT X (.UnaryOp .Not a pos) (TTof c W (tNot ta)) := tt_not ha
theorem wAnd (ha : PT X a (TTof c W ta)) (hb : PW X (.BoolOp .And (b :: rest) pos) (TTof c W tb)) : PW X (.BoolOp .And (a :: b :: rest) pos) (TTof c W (tAnd ta tb)) := tt_and ha hb
theorem wOr (ha : PT X a (TTof c W ta)) (hb : PW X (.BoolOp .Or (b :: rest) pos) (TTof c W tb)) : PW X (.BoolOp .Or (a :: b :: rest) pos) (TTof c W (tOr ta tb)) := tt_or ha hb
theorem wAnd1 (ha : PT X a (TTof c W ta)) : PW X (.BoolOp .And [a] pos) (TTof c W ta) := pw_and1 ha
theorem wOr1 (ha : PT X a (TTof c W ta)) : PW X (.BoolOp .Or [a] pos) (TTof c W ta) := pw_or1 ha
theorem eIf {t : Expr} (ht : PT X t (TTof c W ta)) (ha : PE X a (TEof c W da)) (hb : PE X b (TEof c W db)) : PE X (.IfExp t a b pos) (TEof c W (cIf ta da db)) := te_if ht ha hb

/-! arguments -/
theorem a0 : PAn X c W [] aNil 0 := ⟨ta_nil, many_nil⟩
theorem a1 (ha : PE X e (TEof c W d)) (h : PAn X c W es as n) (hs : starEach (e :: es) X.env = (false, eval e X.env) :: starEach es X.env := by rfl) : PAn X c W (e :: es) (aCons d as) (n + 1) := ⟨ta_cons ha h.p hs, many_cons h.m⟩
theorem b0 : PBn X c W [] bNil 0 := ⟨tba_nil, bmany_nil⟩
theorem b1 (ha : PE X e (TBof c W ba)) (h : PBn X c W es bs n) (hs : starEach (e :: es) X.env = (false, eval e X.env) :: starEach es X.env := by rfl) : PBn X c W (e :: es) (bCons ba bs) (n + 1) := ⟨tba_cons ha h.p hs, bmany_cons h.m⟩
theorem k0 : PKn X c W [] aNil 0 := ⟨tk_nil, many_nil⟩
theorem k1 {nm : Option Str} {kpos : Pos} (ha : PE X e (TEof c W d)) (h : PKn X c W kws as n) : PKn X c W (⟨nm, e, kpos⟩ :: kws) (aCons d as) (n + 1) := ⟨tk_cons ha h.p, many_cons h.m⟩
theorem eTup {kk : Nat} (h : PAn X c W es as n) (hm : n ≤ 1000 := by decide) : PE X (.Tuple es kk pos) (TEof c W (cTup as)) := te_tup h.p (h.m.few hm)
theorem eLst (h : PAn X c W es as n) (hm : n ≤ 1000 := by decide) : PE X (.List es pos) (TEof c W (cLst as)) := te_lst h.p (h.m.few hm)
theorem eCall (g : Good X c W k) (C : COk X.prog X.w X.K X.mg X.base c.G Φ k n ps false) (hm : X.mg x = some (.ref (c.G n))) (h : PAn X c W (e :: es) as ps.length) (hg : Gl X x := by rfl) (hd : (x == ("__debug__" : Str)) = false := by rfl)
    (he : starEach (e :: es) X.env = (false, eval e X.env) :: starEach es X.env := by rfl) (hpl : (backTo pos (starEach es X.env)).any (·.1) = false := by rfl) : PE X (.Call (.Name x p) (e :: es) [] pos) (TEof c W (cCall Φ n as)) :=
  te_call (C.at g.K) g.tk g.hr hg hm h.p h.m hd he hpl
theorem eCall0 (g : Good X c W k) (C : COk X.prog X.w X.K X.mg X.base c.G Φ k n [] false) (hm : X.mg x = some (.ref (c.G n))) (hg : Gl X x := by rfl) (hd : (x == ("__debug__" : Str)) = false := by rfl) : PE X (.Call (.Name x p) [] [] pos) (TEof c W (cCall Φ n aNil)) :=
  te_call0 (C.at g.K) g.tk g.hr hg hm hd
theorem eCallK (g : Good X c W k) (C : COk X.prog X.w X.K X.mg X.base c.G Φ k n ps false) (hm : X.mg x = some (.ref (c.G n))) (h : PKn X c W kws as ps.length) (hg : Gl X x := by rfl) (hd : (x == ("__debug__" : Str)) = false := by rfl)
    (hall : (backToKw pos (keywordEach kws X.env)).all (·.1.isSome) = true := by rfl) (hks : (backToKw pos (keywordEach kws X.env)).filterMap (·.1) = ps := by rfl)
    (hpl : ((backTo pos (starEach [] X.env)).any (·.1) || (backToKw pos (keywordEach kws X.env)).any (·.1.isNone)) = false := by rfl) : PE X (.Call (.Name x p) [] kws pos) (TEof c W (cCall Φ n as)) :=
  te_callK (C.at g.K) g.tk g.hr hg hm hd h.p h.m hall hks hpl
theorem eCallIO {q : Str} {qs : List Str} (g : Good X c W k) (C : COk X.prog X.w X.K X.mg X.base c.G Φ k n (q :: qs) true) (hm : X.mg x = some (.ref (c.G n))) (hj : PE X f (tVar j)) (h : PAn X c W es as qs.length) (hg : Gl X x := by rfl) (hd : (x == ("__debug__" : Str)) = false := by rfl)
    (he : starEach (f :: es) X.env = (false, eval f X.env) :: starEach es X.env := by rfl) (hpl : (backTo pos (starEach es X.env)).any (·.1) = false := by rfl) : PE X (.Call (.Name x p) (f :: es) [] pos) (TEof c W (onOwn j (cCallIO Φ n j as))) :=
  te_callIO (C.at g.K) g.tk g.hr hg hm hj h.p h.m (Nat.succ_pos _) hd he hpl
theorem eCallV {ok : Nat → Bool} (g : Good X c W k) (C : ∀ m, ok m = true → ∃ ps, COk X.prog X.w X.K X.mg X.base c.G Φ k m ps false ∧ ps.length = n) (hj : PE X (.Name x p) (tVar j)) (h : PAn X c W (e :: es) as n)
    (he : starEach (e :: es) X.env = (false, eval e X.env) :: starEach es X.env := by rfl) (hpl : (backTo pos (starEach es X.env)).any (·.1) = false := by rfl) : PE X (.Call (.Name x p) (e :: es) [] pos) (TEof c W (cCallV Φ ok j as)) :=
  te_callV (fun m hm => by obtain ⟨ps, C1, C2⟩ := C m hm; exact ⟨ps, C1.at g.K, C2 ▸ h.m⟩) g.tk g.hr hj h.p he hpl

/-! built-in functions -/
def BlS (X : Cx) (c : Fix) (v : Value) (g : List PV → Option Val) : Prop := ∃ r, CallR X v r ∧ SB X c g r
theorem lLen (hK : c.K = X.K) : BlS X c (.builtin "len") fLen := ⟨_, call_len, hK ▸ s_len⟩
theorem lAbs : BlS X c (.builtin "abs") fAbs := ⟨_, call_abs, s_abs⟩
theorem lMax (g : Good X c W k) : BlS X c (.builtin "max") fMax := ⟨_, call_max2 g.calm, s_max⟩
theorem lMin (g : Good X c W k) : BlS X c (.builtin "min") fMin := ⟨_, call_min2 g.calm, s_min⟩
theorem lInt : BlS X c (.type "int") fInt := ⟨_, call_int1, s_int⟩
theorem lList (hK : c.K = X.K) : BlS X c (.type "list") fList := ⟨_, call_list_of, hK ▸ s_list⟩
theorem lTuple (hK : c.K = X.K) : BlS X c (.type "tuple") fTuple := ⟨_, call_tuple_of, hK ▸ s_tuple⟩
theorem lAll (g : Good X c W k) : BlS X c (.builtin "all") fAll := ⟨_, cr_all g.calm, g.K ▸ s_all⟩
theorem lAny (g : Good X c W k) : BlS X c (.builtin "any") fAny := ⟨_, cr_any g.calm, g.K ▸ s_any⟩
theorem lIsi (hK : c.K = X.K) : BlS X c (.builtin "isinstance") fIsi := ⟨_, call_isiB, hK ▸ s_isi⟩
theorem eBl {id : String} {g : List PV → Option Val} (ho : BlS X c (.builtin id) g) (hm : X.mg x = none) (hv : bootBuiltins x = some (.builtin id)) (h : PBn X c W (e :: es) bs n) (hg : Gl X x := by rfl) (hn : x ≠ "__name__" := by decide) (hd : (x == ("__debug__" : Str)) = false := by rfl)
    (he : starEach (e :: es) X.env = (false, eval e X.env) :: starEach es X.env := by rfl) (hpl : (backTo pos (starEach es X.env)).any (·.1) = false := by rfl) : PE X (.Call (.Name x p) (e :: es) [] pos) (TEof c W (cBlt g bs)) := by
  obtain ⟨r, h1, h2⟩ := ho; exact te_blt h1 h2 hg hm hv h.p hn hd he hpl
theorem eBlT {ty : String} {g : List PV → Option Val} (ho : BlS X c (.type ty) g) (hm : X.mg x = none) (hv : bootBuiltins x = some (.type ty)) (h : PBn X c W (e :: es) bs n) (hg : Gl X x := by rfl) (hn : x ≠ "__name__" := by decide) (hd : (x == ("__debug__" : Str)) = false := by rfl)
    (he : starEach (e :: es) X.env = (false, eval e X.env) :: starEach es X.env := by rfl) (hpl : (backTo pos (starEach es X.env)).any (·.1) = false := by rfl) : PE X (.Call (.Name x p) (e :: es) [] pos) (TEof c W (cBlt g bs)) := by
  obtain ⟨r, h1, h2⟩ := ho; exact te_bltT h1 h2 hg hm hv h.p hn hd he hpl
theorem v_len : bootBuiltins "len" = some (.builtin "len") := by decide +kernel
theorem v_abs : bootBuiltins "abs" = some (.builtin "abs") := by decide +kernel
theorem v_max : bootBuiltins "max" = some (.builtin "max") := by decide +kernel
theorem v_min : bootBuiltins "min" = some (.builtin "min") := by decide +kernel
theorem v_all : bootBuiltins "all" = some (.builtin "all") := by decide +kernel
theorem v_any : bootBuiltins "any" = some (.builtin "any") := by decide +kernel
theorem v_isinstance : bootBuiltins "isinstance" = some (.builtin "isinstance") := by decide +kernel
theorem v_int : bootBuiltins "int" = some (.type "int") := by decide +kernel
theorem v_bool : bootBuiltins "bool" = some (.type "bool") := by decide +kernel
theorem v_str : bootBuiltins "str" = some (.type "str") := by decide +kernel
theorem v_list : bootBuiltins "list" = some (.type "list") := by decide +kernel
theorem v_tuple : bootBuiltins "tuple" = some (.type "tuple") := by decide +kernel

/-! subscripts, methods of lists -/
theorem eIx (hK : c.K = X.K) (ha : PE X a (TBof c W ba)) (hb : PE X b (TBof c W bb)) (hs : PlainIx b := by intro _ _; rfl) : PE X (.Subscript a b pos) (TEof c W (cOp2 fIx ba bb)) := te_ix ix_seq (hK ▸ s_ix) ha hb hs
theorem o0 : PO X none (TPof c W pNone) := tp_none
theorem o1 (ha : PE X a (TBof c W ba)) : PO X (some a) (TPof c W (pSome ba)) := tp_some ha
theorem eSl {lo hi : Option Expr} {dl dh : PDen} (hK : c.K = X.K) (ha : PE X a (TBof c W ba)) (hl : PO X lo (TPof c W dl)) (hh : PO X hi (TPof c W dh)) : PE X (.Subscript a (.Slice lo hi none p2) pos) (TEof c W (cSl fSl ba dl dh)) := te_sl sl_all (hK ▸ s_sl) ha hl hh
theorem ePop (ho : PE X f (tVar j)) (hbase : attributeBase f "pop" X.env (eval f X.env) = eval f X.env := by rfl) (hline : (apos.endLine == cpos.line) = true := by rfl) : PE X (.Call (.Attribute f "pop" apos) [] [] cpos) (TEof c W (cPop j)) := te_pop ho hbase hline
theorem eApp (ho : PE X f (tVar j)) (hd : PE X e (TEof c W d)) (hbase : attributeBase f "append" X.env (eval f X.env) = eval f X.env := by rfl) (hline : (apos.endLine == cpos.line) = true := by rfl) (hs : starEach [e] X.env = (false, eval e X.env) :: starEach [] X.env := by rfl)
    (hfew : ((backTo cpos (starEach [e] X.env)).all (fun x => !x.1) && (backToKw cpos (keywordEach [] X.env)).all (fun x => x.1.isSome)
      && decide ([e].length + ([] : List Keyword).length + (if ([] : List Keyword).isEmpty then 0 else 1) < 30)) = true := by rfl) : PE X (.Call (.Attribute f "append" apos) [e] [] cpos) (TEof c W (cAppend j d)) := te_append ho hd hbase hline hs hfew
theorem eExt (ho : PE X f (tVar j)) (hd : PE X e (TBof c W ba)) (hbase : attributeBase f "extend" X.env (eval f X.env) = eval f X.env := by rfl) (hline : (apos.endLine == cpos.line) = true := by rfl) (hs : starEach [e] X.env = (false, eval e X.env) :: starEach [] X.env := by rfl)
    (hfew : ((backTo cpos (starEach [e] X.env)).all (fun x => !x.1) && (backToKw cpos (keywordEach [] X.env)).all (fun x => x.1.isSome)
      && decide ([e].length + ([] : List Keyword).length + (if ([] : List Keyword).isEmpty then 0 else 1) < 30)) = true := by rfl) : PE X (.Call (.Attribute f "extend" apos) [e] [] cpos) (TEof c W (cExtend j ba)) := te_extend ho hd hbase hline hs hfew
theorem eLR2 (g : Good X c W k) (hm : X.mg "list" = none) (hm2 : X.mg "range" = none) (ha : PE X a (TBof c W ba)) (hb : PE X b (TBof c W bb)) (hg : Gl X "list" := by rfl) (hg2 : Gl X "range" := by rfl)
    (na : starEach [a, b] X.env = (false, eval a X.env) :: starEach [b] X.env := by rfl) (na2 : starEach [b] X.env = (false, eval b X.env) :: starEach [] X.env := by rfl) (hp : (backTo pos' (starEach [b] X.env)).any (·.1) = false := by rfl)
    (nb : starEach [.Call (.Name "range" p2) [a, b] [] pos'] X.env = (false, eval (.Call (.Name "range" p2) [a, b] [] pos') X.env) :: starEach [] X.env := by rfl) :
    PE X (.Call (.Name "list" p) [.Call (.Name "range" p2) [a, b] [] pos'] [] pos) (TEof c W (cLR2 ba bb)) := te_lr2 g.calm hg hm hg2 hm2 ha hb na na2 hp nb
theorem eLR1 (g : Good X c W k) (hm : X.mg "list" = none) (hm2 : X.mg "range" = none) (ha : PE X a (TBof c W ba)) (hg : Gl X "list" := by rfl) (hg2 : Gl X "range" := by rfl)
    (na : starEach [a] X.env = (false, eval a X.env) :: starEach [] X.env := by rfl) (nb : starEach [.Call (.Name "range" p2) [a] [] pos'] X.env = (false, eval (.Call (.Name "range" p2) [a] [] pos') X.env) :: starEach [] X.env := by rfl) :
    PE X (.Call (.Name "list" p) [.Call (.Name "range" p2) [a] [] pos'] [] pos) (TEof c W (cLR1 ba)) := te_lr1 g.calm hg hm hg2 hm2 ha na nb
/-! what is walked -/
theorem iS {tg : Expr} (hK : c.K = X.K) (h : PE X e (TEof c W d)) : PI X tg e (TIof c W (iSeq d)) := ti_seq hK h
theorem iR1 {tg : Expr} (hm : X.mg "range" = none) (h : PBn X c W [a] bs 1) (hg : Gl X "range" := by rfl) (hs : starEach [a] X.env = [(false, eval a X.env)] := by rfl) : PI X tg (.Call (.Name "range" p) [a] [] pos) (TIof c W (iRange bs)) := ti_range1 hg hm h.p h.m hs
theorem iR2 {tg : Expr} (hm : X.mg "range" = none) (h : PBn X c W [a, b] bs 2) (hg : Gl X "range" := by rfl) (hs : starEach [a, b] X.env = [(false, eval a X.env), (false, eval b X.env)] := by rfl) (hs2 : starEach [b] X.env = [(false, eval b X.env)] := by rfl) :
    PI X tg (.Call (.Name "range" p) [a, b] [] pos) (TIof c W (iRange bs)) := ti_range2 hg hm h.p h.m hs hs2
theorem iE {elts : List Expr} {kk : Nat} {tpos : Pos} (hK : c.K = X.K) (hm : X.mg "enumerate" = none) (h : PE X a (TEof c W d)) (hg : Gl X "enumerate" := by rfl) (hs : starEach [a] X.env = (false, eval a X.env) :: starEach [] X.env := by rfl) :
    PI X (.Tuple elts kk tpos) (.Call (.Name "enumerate" p) [a] [] pos) (TIof c W (iEnum d)) := ti_enum hK hg hm h hs
theorem iZ {elts : List Expr} {kk : Nat} {tpos : Pos} (hK : c.K = X.K) (hm : X.mg "zip" = none) (h : PE X a (TEof c W da)) (h2 : PE X b (TEof c W db)) (hg : Gl X "zip" := by rfl) (hs : starEach [a, b] X.env = (false, eval a X.env) :: starEach [b] X.env := by rfl)
    (hs2 : starEach [b] X.env = (false, eval b X.env) :: starEach [] X.env := by rfl) (hpl : (backTo pos (starEach [b] X.env)).any (·.1) = false := by rfl) : PI X (.Tuple elts kk tpos) (.Call (.Name "zip" p) [a, b] [] pos) (TIof c W (iZip da db)) := ti_zip hK hg hm h h2 hs hs2 hpl
/-! targets -/
theorem gN (hN : X.N.Nodup) (hi : X.N[j]? = some x := by rfl) (hx : locB X.env.scope x = true := by rfl) (hf : X.fn x = true ∨ X.env.scope.names.lookup x = some .local := by first | exact .inl rfl | exact .inr rfl) : PG X (.Name x pos) (gName j) := pg_name hN hi (loc_of hx) hf
theorem g1 (h : PG X f (gName j)) : PG X f (TGof c (.one j)) := tg_one h
theorem gm0 : PGs X [] (gNames []) := pgs_nil
theorem gT {kk : Nat} {js : List Nat} (hK : c.K = X.K) (hc : X.calm = true) (h : PGs X es (gNames js)) (hn : (assignEach es X.env).length = js.length := by rfl) (hst : (assignEach es X.env).findIdx? (·.1) = none := by rfl) : PG X (.Tuple es kk pos) (TGof c (.many js)) := tg_many hK hc h hn hst
end

section
variable {X : Cx} {c : Fix} {W : WX} {k n i j : Nat} {x y : Str} {e a b f tg iter : Expr} {es : List Expr} {st : Stmt} {rest body : List Stmt} {d da db dc : Den} {ba bb bc : BDen} {ta tb : TDen} {s t : SDen} {it : IDen} {g : Tg} {p pos pos' apos cpos p2 px py pt pt2 spos : Pos} {kt k2 : Nat} {js : List Nat}
/-! statements -/
theorem gm1 (h : PG X f (gName j)) (h2 : PGs X es (gNames js)) (hs : (assignEach (f :: es) X.env).map (·.2) = assign f X.env :: (assignEach es X.env).map (·.2) := by rfl) : PGs X (f :: es) (gNames (j :: js)) := pgs_cons h h2 hs
theorem s0 : PSs X [] (TSof c W sNext) := ts_nil
theorem sc (h1 : PS X st (TSof c W s)) (h2 : PSs X rest (TSof c W t)) : PSs X (st :: rest) (TSof c W (sSeq s t)) := ts_cons h1 h2
theorem zDrop (he : PE X e (TEof c W d)) (hs : swapsWith e none pos.line X.env = pure false := by rfl) : PS X (.Expr e pos) (TSof c W (sDrop d)) := ts_drop he hs
theorem zSet (g : Good X c W k) (he : PE X e (TEof c W d)) (hi : X.N[j]? = some x := by rfl) (hx : locB X.env.scope x = true := by rfl) (hf : X.fn x = true ∨ X.env.scope.names.lookup x = some .local := by first | exact .inl rfl | exact .inr rfl) (hs : swapsWith e (some (.Name x pos')) pos.line X.env = pure false := by rfl) :
    PS X (.Assign [.Name x pos'] e pos) (TSof c W (sSet j d)) := ts_set he g.nd hi (loc_of hx) hf hs
theorem zPar (g : Good X c W k) (ha : PE X a (TEof c W da)) (hb : PE X b (TEof c W db)) (hi : X.N[i]? = some x := by rfl) (hj : X.N[j]? = some y := by rfl) (hij : i ≠ j := by decide) (hx : X.env.scope.names.lookup x = some .local := by rfl) (hy : X.env.scope.names.lookup y = some .local := by rfl)
    (sa : starEach [a, b] X.env = (false, eval a X.env) :: starEach [b] X.env := by rfl) (sb : starEach [b] X.env = (false, eval b X.env) :: starEach [] X.env := by rfl)
    (hw : swappedStores [.Tuple [.Name x px, .Name y py] kt pt] (.Tuple [a, b] k2 pt2) X.env = pure (some [x, y]) := by rfl) :
    PS X (.Assign [.Tuple [.Name x px, .Name y py] kt pt] (.Tuple [a, b] k2 pt2) pos) (TSof c W (sPar i j da db)) := ts_par g.calm g.nd hi hj hij hx hy ha hb sa sb hw
theorem zTup (he : PE X e (TBof c W ba)) (hg : PG X tg (TGof c (.many js))) (hs : swapsWithSole [tg] e pos.line X.env = pure false := by rfl) (hw : swappedStores [tg] e X.env = pure none := by rfl) (h1 : (assignEach [tg] X.env).map (·.2) = [assign tg X.env] := by rfl) :
    PS X (.Assign [tg] e pos) (TSof c W (sTup js ba)) := ts_tup he hg hs hw h1
theorem zPut (he : PE X e (TEof c W d)) (ho : PE X f (tVar j)) (hi : PE X a (TBof c W ba))
    (ha : ∀ v, assign (.Subscript f a pos') X.env v = (do
      let ov ← holding [v] (eval f X.env)
      let iv ← holding [v, ov] (eval a X.env)
      standAt pos'
      holding [v, ov, iv] (setItem ov iv v)
      release [v, ov, iv] []) := by intro _; rfl)
    (hs : swapsWithSole [.Subscript f a pos'] e pos.line X.env = pure false := by rfl) (hw : swappedStores [.Subscript f a pos'] e X.env = pure none := by rfl) (h1 : (assignEach [.Subscript f a pos'] X.env).map (·.2) = [assign (.Subscript f a pos') X.env] := by rfl) :
    PS X (.Assign [.Subscript f a pos'] e pos) (TSof c W (sPut j ba d)) := ts_put he ho hi ha hs hw h1
theorem zAug {op : Operator} {h : PV → PV → Option Val} (g : Good X c W k) (ho : OpS X c (inplaceOp op) h) (he : PE X e (TBof c W ba)) (hi : X.N[j]? = some x := by rfl) (hx : locB X.env.scope x = true := by rfl) (hf : X.fn x = true ∨ X.env.scope.names.lookup x = some .local := by first | exact .inl rfl | exact .inr rfl) :
    PS X (.AugAssign (.Name x pos') op e pos) (TSof c W (sAug j h ba)) := by
  obtain ⟨r, h1, h2⟩ := ho; exact ts_aug g.nd hi (loc_of hx) he h1 h2 hf
theorem zRet (he : PE X e (TEof c W d)) : PS X (.Return (some e) pos) (TSof c W (sRet d)) := ts_ret he
theorem zRetV (he : PE X e (tVar j)) : PS X (.Return (some e) pos) (TSof c W (sRetV j)) := ts_retV he
theorem zRetN : PS X (.Return none pos) (TSof c W sRetN) := ts_retN
theorem zIf {u v : List Stmt} (hc : PT X e (TTof c W ta)) (ha : PSs X u (TSof c W s)) (hb : PSs X v (TSof c W t)) : PS X (.If e u v pos) (TSof c W (sIf ta s t)) := ts_if hc ha hb
theorem zWhile {fuel : Nat} (g : Good X c W k) (hc : PT X e (TTof c W ta)) (hb : PSs X body (TSof c W s)) : PS X (.While e body [] pos) (TSof c W (sWhile ta s fuel)) := ts_while g.po hc hb
theorem zFor (gd : Good X c W k) (hi : PI X tg iter (TIof c W it)) (hg : PG X tg (TGof c g)) (hb : PSs X body (TSof c W s)) (hs : ∀ x, foldedSetIterable iter X.env x = pure x := by intro _; rfl) : PS X (.For tg iter body [] pos) (TSof c W (sFor it g s)) := ts_for gd.po gd.calm hi hg hb hs
/-! comprehensions -/
/-- what stands within a block -/
structure Blk (X : Cx) (c : Fix) (tg elt : Expr) (ifs : List Expr) (scope : Scope) (own : List (Str × Nat)) (g : Tg) (t : TDen) (e : Den) : Prop where
  ok : BlkOk X.N X.env.scope scope own
  gj : ∀ i ∈ g.js, i ∈ own.map (·.2)
  hg : ∀ (s : Shared) (H : Hp) (C : Addr) (cl : List (Str × Addr)) (fp : List Addr), PG (X.blk s H scope (compEnvC scope cl C X.env) fp) tg (TGof c g)
  ht : ∀ (s : Shared) (H : Hp) (C : Addr) (cl : List (Str × Addr)) (fp : List Addr), PTs (X.blk s H scope (compEnvC scope cl C X.env) fp) ifs (TTof c W0 t)
  he : ∀ (s : Shared) (H : Hp) (C : Addr) (cl : List (Str × Addr)) (fp : List Addr), PE (X.blk s H scope (compEnvC scope cl C X.env) fp) elt (TEof c W0 e)
variable {elt : Expr} {ifs : List Expr} {scope : Scope} {own : List (Str × Nat)}
theorem eLC (gd : Good X c W k) (hi : PI X tg iter (TIof c W it)) (b : Blk X c tg elt ifs scope own g ta d) (hs : ∀ x, foldedSetIterable iter X.env x = pure x := by intro _; rfl) : PE X (.ListComp elt [⟨tg, iter, ifs, 0⟩] scope pos) (TEof c W (cComp (own.map (·.2)) it g ta d)) :=
  te_comp gd.calm gd.nd hi b.ok b.gj b.hg b.ht b.he hs
theorem eLCS (gd : Good X c W k) (hi : PE X iter (tVar j)) (b : Blk X c tg elt ifs scope own g ta d) (hs : ∀ x, foldedSetIterable iter X.env x = pure x := by intro _; rfl) : PE X (.ListComp elt [⟨tg, iter, ifs, 0⟩] scope pos) (TEof c W (cCompS (own.map (·.2)) j g ta d)) :=
  te_compS gd.K gd.calm gd.nd hi b.ok b.gj b.hg b.ht b.he hs
theorem zLC (gd : Good X c W k) (hi : PI X tg iter (TIof c W it)) (b : Blk X c tg elt ifs scope own g ta d) (hy : X.N[i]? = some y := by rfl) (hyl : X.env.scope.names.lookup y = some .local := by rfl)
    (hsw : swapsWith (.ListComp elt [⟨tg, iter, ifs, 0⟩] scope pos) (some (.Name y py)) spos.line X.env = pure true := by rfl) (hs : ∀ x, foldedSetIterable iter X.env x = pure x := by intro _; rfl) :
    PS X (.Assign [.Name y py] (.ListComp elt [⟨tg, iter, ifs, 0⟩] scope pos) spos) (TSof c W (sSet i (cComp (own.map (·.2)) it g ta d))) := ts_setLc gd.calm gd.nd hy hyl hsw hi b.ok b.gj b.hg b.ht b.he hs
theorem zLCS (gd : Good X c W k) (hi : PE X iter (tVar j)) (b : Blk X c tg elt ifs scope own g ta d) (hy : X.N[i]? = some y := by rfl) (hyl : X.env.scope.names.lookup y = some .local := by rfl)
    (hsw : swapsWith (.ListComp elt [⟨tg, iter, ifs, 0⟩] scope pos) (some (.Name y py)) spos.line X.env = pure true := by rfl) (hs : ∀ x, foldedSetIterable iter X.env x = pure x := by intro _; rfl) :
    PS X (.Assign [.Name y py] (.ListComp elt [⟨tg, iter, ifs, 0⟩] scope pos) spos) (TSof c W (sSet i (cCompS (own.map (·.2)) j g ta d))) := ts_setLcS gd.K gd.calm gd.nd hy hyl hsw hi b.ok b.gj b.hg b.ht b.he hs
theorem f0 : PTs X [] (TTof c W0 tTrue) := tts_nil
theorem f1 (h : PT X e (TTof c W0 ta)) : PTs X [e] (TTof c W0 ta) := tts_one h
/-! raise -/
/-- a class of the top whose instances may be raised -/
structure ExAt (K : PySem.W.Frag) (C : Addr) : Prop where
  q : PySem.W.excIn K C He.veBase "ValueError.__new__" = true
  kp : PySem.W.keepIn K (.ref C) = true
  r1 : PySem.W.subIn K (.ref C) (.type "BaseException") = some true
  r2 : PySem.W.typeIn K (.ref C) = some (.type "type")
theorem zRaise (gd : Good X c W k) (E : ExAt X.K (c.G n)) (hm : X.mg x = some (.ref (c.G n))) (hg : Gl X x := by rfl) (hd : (x == ("__debug__" : Str)) = false := by rfl) : PS X (.Raise (some (.Call (.Name x p) [] [] pos)) none pos') (TSof c W (sRaise n)) :=
  ts_raise gd.calm gd.tk PySem.F.excBase_ValueError E.q hm E.kp (raises_own E.r1 E.r2) hg hd
end
end EV


set_option Elab.async false
set_option linter.all false
set_option maxRecDepth 100000
set_option maxHeartbeats 4000000
/-! EvP: the defs of a text, all at once. -/
namespace EV
open PySem PySem.Spec PyProof.Rows L2

/-! ### a clause that asks the kind of its error -/
def sClause (j : Nat) (z : Str) (p : PV) : SDen := match p with
  | .non => sSet j (cC (.str z))
  | _ => fun _ => .stk
/-- what a class says, so that an except clause and isinstance know it -/
structure IsVE (K : PySem.W.Frag) (C : Addr) : Prop where
  ec : ExcC K C
  kt : PySem.W.kitOne K (.ref C) (.type "ValueError") = some true
theorem v_ValueError : bootBuiltins "ValueError" = some (.type "ValueError") := by decide +kernel
section
variable {X : Cx} {c : Fix} {W : WX} {k jc : Nat} {y n z : Str} {p1 p2 p3 p4 p5 p6 p7 p8 py : Pos} {j1 j2 : Nat} {h : Hd} {a : Addr} {oe : Obj} {cls : Value} {d : Option Addr} {pn : List (Addr × Obj)}
theorem suite_is (g : Good X c W k) (hs : h.s = fun _ p => sClause jc z p) (F : ∀ m, h.is m = some true → IsVE X.K (c.G m)) (hz : Zc cls d oe) (hf : ∃ vs, oe.data = .fields vs) (mi : X.mg "isinstance" = none) (mv : X.mg "ValueError" = none)
    (gi : Gl X "isinstance" := by rfl) (gv : Gl X "ValueError" := by rfl) (hi : X.N[jc]? = some y := by rfl) (hx : locB X.env.scope y = true := by rfl) (hfn : X.fn y = true ∨ X.env.scope.names.lookup y = some .local := by first | exact .inl rfl | exact .inr rfl)
    (hn : X.N[h.j]? = some n := by rfl) (hv : visB X.env.scope n = true := by rfl) (hd : (n == ("__debug__" : Str)) = false := by rfl) (hc : (n == ("__classdict__" : Str)) = false := by rfl) :
    PSs (X.suite a ((a, oe) :: pn)) [.Assign [.Name y py] (.IfExp (.Call (.Name "isinstance" p1) [.Name n p2, .Name "ValueError" p3] [] p4) (.Constant (.str z) j1 p5) (.Constant .none j2 p6) p7) p8] (tsOf c h a cls d) := by
  refine ⟨fun pins s σ H D I q => ?_⟩
  obtain ⟨ε, m, p, rfl, em, R, e0, sa, xr, q⟩ := q
  rw [hs] at q
  dsimp only at q
  cases p with
  | non =>
    have ed : d = none := xr
    subst ed
    obtain ⟨ec, kt⟩ := F m em
    have run := (pss_cons (ps_set (X := X.suite a ((a, oe) :: pn)) (pos' := py) (pos := p8) g.nd hi (loc_of hx) (pe_ifExp (pos := p7) (pt_val (pe_callB (p := p1) (pos := p4) (call_isE ec hz hf) gi mi v_isinstance
      (pa_cons (pe_var (pos := p2) hn (vis_of hv) hd hc) (pa_cons (pe_bltn (v := .ty "ValueError") (pos := p3) gv mv v_ValueError rfl (by decide) rfl) pa_nil rfl) rfl) (by decide) rfl rfl rfl)) (pe_str (x := z) (j := j1) (pos := p5)) (pe_non (j := j2) (pos := p6))) rfl hfn) pss_nil).run pins s σ H D I
    refine run ⟨.ref a, sa, .ty "ValueError", .type "ValueError", true, rfl, fun u r => r, kt, true, rfl, ?_⟩
    dsimp only
    rw [if_pos rfl]
    have q : FinS c W0 ε σ H (.ok .nx (ε.set jc (.val (.str z)))) D := q
    refine q (σ.set jc (some (.str z))) H ⟨fun _ _ h _ => h, fun _ h => h, fun b q => .inl (OwnAt.val (fun _ _ z => by cases z) q)⟩ (R.assign (.str z))
  | _ => exact q.elim
end

/-! ### all defs, k deep -/
structure Ent where
  nm : Str
  args : Arguments
  body : List Stmt
  scope : Scope
  N : List Str
  ps : List Str
  d : FD
def tab (L : List Ent) (n : Nat) : Option FD := (L[n]?).map (·.d)
def Lv (L : List Ent) (P : Program) (w : World) (K : PySem.W.Frag) (mg : Str → Option Value) (base : Heap) (G : Nat → Addr) (k : Nat) : Prop :=
  ∀ n e, L[n]? = some e → COk P w K mg base G (calls (tab L) k) k n e.ps e.d.io
structure EntOk (L : List Ent) (P : Program) (w : World) (K : PySem.W.Frag) (mg : Str → Option Value) (base : Heap) (G : Nat → Addr) (n : Nat) (e : Ent) : Prop where
  F : ∃ fd, FunD K e.nm e.nm e.args e.body e.scope [] [] (G n) fd
  S : FnScope e.N e.ps e.scope
  np : e.d.np = e.ps.length
  ns : e.d.ns = e.N.length
  bP : ∀ (kV doc pm : Value) (an : Option Addr) (cdv ct : Value) (us : List Value), us.length = e.ps.length → bindArgs (PySem.W.fnOf e.nm e.nm e.args e.body e.scope .none kV doc pm an cdv ct) ⟨us, []⟩ = pure (e.ps.zip us)
  bK : ∀ (kV doc pm : Value) (an : Option Addr) (cdv ct : Value) (us : List Value), us.length = e.ps.length → bindArgs (PySem.W.fnOf e.nm e.nm e.args e.body e.scope .none kV doc pm an cdv ct) ⟨[], e.ps.zip us⟩ = pure (e.ps.zip us)
  walk : ∀ k, Lv L P w K mg base G k → ∀ (f : Addr) (cdv : Value) (A : Around) (outer : List Env) (s : Shared) (H : Hp) (E : XK) (c : Fix), c.K = K → c.G = G → Room k (A.deeper (envOfC e.nm e.scope s.heap.objs.size f cdv)) →
    PSs (cxOf (L2.CX P w) P w K mg base e.N e.nm e.scope f cdv A outer s H E) e.body (TSof c (fun cls d _ H => E cls d H) (e.d.body (calls (tab L) k)))
theorem lv_all {L : List Ent} {P : Program} {w : World} {K : PySem.W.Frag} {mg : Str → Option Value} {base : Heap} {G : Nat → Addr} (h : ∀ n e, L[n]? = some e → EntOk L P w K mg base G n e) : ∀ k, Lv L P w K mg base G k := by
  have bind : ∀ n e, L[n]? = some e → ∃ fd, FunD K e.nm e.nm e.args e.body e.scope [] [] (G n) fd ∧ Binds K fd e.ps [] ∧ ∀ (s : Shared) (ws : List Value), ws.length = e.ps.length → BindsTo s fd ⟨[], e.ps.zip ws⟩ (e.ps.zip ws) := fun n e he => by
    obtain ⟨fd, F⟩ := (h n e he).F
    refine ⟨fd, F, F.bindsN (h n e he).bP, fun s ws hl => ?_⟩
    obtain ⟨oc, od, dV, kV, doc, pm, an, cdv, ct, osl, rfl, lk, hcd, hD, hK⟩ := F.ex
    rcases hD with ⟨_, rfl⟩ | ⟨e', _⟩
    · exact .of_eq ((h n e he).bK kV doc pm an cdv ct ws hl)
    · exact absurd rfl e'
  intro k
  induction k with
  | zero =>
    intro n e he
    obtain ⟨fd, F, b1, b2⟩ := bind n e he
    refine ⟨⟨fd, ⟨fun vs H Q E h => h.1, fun A outer s H args us vs Q E _ _ _ _ hs => ?_⟩, b1, b2⟩, F.kp⟩
    obtain ⟨_, A, _, q⟩ := hs
    cases hio : e.d.io with
    | false => rw [hio] at q; obtain ⟨ps, _, q⟩ := q; exact q.elim
    | true => rw [hio] at q; obtain ⟨a, xs, qs, ws, ps, _, _, _, _, _, q⟩ := q; exact q.elim
  | succ k ih =>
    intro n e he
    obtain ⟨fd, F, b1, b2⟩ := bind n e he
    have E := h n e he
    exact ⟨⟨fd, def_ok (Φ := calls (tab L) k) (Φ' := calls (tab L) (k + 1)) (d := e.d) F E.S E.np E.ns (fun cdv A outer s H EE c h1 h2 hr => E.walk k ih (G n) cdv A outer s H EE c h1 h2 hr) (fun io ps => by
      show (match tab L n with
        | some d => d.run (calls (tab L) k) io ps
        | none => .stk) = _
      unfold tab
      rw [he]
      rfl), b1, b2⟩, F.kp⟩
/-- for each entry of a list, from i on -/
def AllFrom {α : Type} (P : Nat → α → Prop) : Nat → List α → Prop
  | _, [] => True
  | i, a :: as => P i a ∧ AllFrom P (i + 1) as
theorem AllFrom.get {α : Type} {P : Nat → α → Prop} : ∀ {i : Nat} {l : List α}, AllFrom P i l → ∀ n a, l[n]? = some a → P (i + n) a
  | _, [], _, n, a, h => by simp at h
  | i, x :: xs, h, 0, a, e => by simp at e; subst e; exact h.1
  | i, x :: xs, h, n + 1, a, e => by
    have := AllFrom.get h.2 n a (by simpa using e)
    rw [show i + (n + 1) = i + 1 + n by omega]; exact this
/-- a body's context -/
theorem good_cx {P : Program} {w : World} {K : PySem.W.Frag} {mg : Str → Option Value} {base : Heap} {G : Nat → Addr} {e : Ent} {k : Nat} {f : Addr} {cdv : Value} {A : Around} {outer : List Env} {s : Shared} {H : Hp} {E : XK} {c : Fix} (S : FnScope e.N e.ps e.scope) (h1 : c.K = K)
    (hr : Room k (A.deeper (envOfC e.nm e.scope s.heap.objs.size f cdv))) : Good (cxOf (L2.CX P w) P w K mg base e.N e.nm e.scope f cdv A outer s H E) c (fun cls d _ H => E cls d H) k :=
  ⟨h1, takes_of rfl rfl rfl rfl, hr, rfl, S.nd, passes_of rfl⟩
end EV


set_option Elab.async false
set_option linter.all false
set_option maxRecDepth 100000
set_option maxHeartbeats 4000000
/-! EvQ: what the top of a text gives; try, once more. -/
namespace EV
open PySem PySem.Spec PyProof.Rows L2

/-- how many steps a while may take -/
def FUEL : Nat := 1000000000
/-- the names of a text's top: defs and then classes, built-ins that it reads, constants; from which number on, up to which the own exceptions stand -/
structure Tp where
  nms : List Str
  bls : List Str
  csts : List (Str × PV)
  lo : Nat
  hi : Nat
def Tp.isX (t : Tp) (n : Nat) : Bool := Nat.ble t.lo n && Nat.blt n t.hi
def Tp.exm (t : Tp) (n m : Nat) : Option Bool := if t.isX n && t.isX m then some (n == m) else none
def Tp.G (t : Tp) (K : PySem.W.Frag) (n : Nat) : Addr := He.ga K (t.nms.getD n "")
structure Fx (t : Tp) (K : PySem.W.Frag) (mg : Str → Option Value) : Prop where
  gl : ∀ (n : Nat) (x : Str), t.nms[n]? = some x → mg x = some (.ref (t.G K n))
  bl : ∀ (n : Nat) (x : Str), t.bls[n]? = some x → mg x = none
  cst : ∀ (n : Nat) (x : Str) (p : PV), t.csts[n]? = some (x, p) → CstAt K (t.G K) mg x p
  ex : ∀ n, t.isX n = true → ExAt K (t.G K n) ∧ IsVE K (t.G K n)
  exm : ∀ n m, t.isX n = true → t.isX m = true → PySem.W.exmOne K (.ref (t.G K n)) (.ref (t.G K m)) = some (n == m)
theorem Fx.exm' {t : Tp} {K : PySem.W.Frag} {mg : Str → Option Value} (F : Fx t K mg) {n m : Nat} {b : Bool} (h : t.exm n m = some b) : PySem.W.exmOne K (.ref (t.G K n)) (.ref (t.G K m)) = some b := by
  unfold Tp.exm at h
  by_cases z : (t.isX n && t.isX m) = true
  · rw [if_pos z] at h
    rw [Bool.and_eq_true] at z
    rw [F.exm n m z.1 z.2]
    exact h
  · rw [if_neg z] at h; cases h
theorem Fx.ve {t : Tp} {K : PySem.W.Frag} {mg : Str → Option Value} (F : Fx t K mg) {n m : Nat} (h : t.exm n m = some true) : IsVE K (t.G K n) := by
  unfold Tp.exm at h
  by_cases z : (t.isX n && t.isX m) = true
  · rw [Bool.and_eq_true] at z
    exact (F.ex n z.1).2
  · rw [if_neg z] at h; cases h
/-- the clause 'except m as (slot j)': slot jc takes the text z -/
def hdOf (t : Tp) (m j jc : Nat) (z : Str) : Hd := ⟨fun n => t.exm n m, j, fun _ p => sClause jc z p⟩
section
variable {X : Cx} {c : Fix} {W : WX} {k n m j jc : Nat} {t : Tp} {x y z nm : Str} {p1 p2 p3 p4 p5 p6 p7 p8 py np hp pos : Pos} {j1 j2 : Nat} {hs : List ExceptHandler} {r : List Cl} {K : PySem.W.Frag} {mg : Str → Option Value} {h₀ : ExceptHandler}
theorem q0 : ClsOk X [] (([] : List (Hd × Value)).map (clOf c)) := .nil
theorem q1 {l : List (Hd × Value)} (g : Good X c W k) (F : Fx t X.K X.mg) (hG : c.G = t.G X.K) (hm : X.mg x = some (.ref (c.G m))) (mi : X.mg "isinstance" = none) (mv : X.mg "ValueError" = none) (rest : ClsOk X hs (l.map (clOf c)))
    (hg : Gl X x := by rfl) (hd' : (x == ("__debug__" : Str)) = false := by rfl) (hk : X.env.kindOf nm = some .local := by rfl)
    (gi : Gl X "isinstance" := by rfl) (gv : Gl X "ValueError" := by rfl) (hi : X.N[jc]? = some y := by rfl) (hx : locB X.env.scope y = true := by rfl) (hfn : X.fn y = true ∨ X.env.scope.names.lookup y = some .local := by first | exact .inl rfl | exact .inr rfl)
    (hn : X.N[j]? = some nm := by rfl) (hv : visB X.env.scope nm = true := by rfl) (hd : (nm == ("__debug__" : Str)) = false := by rfl) (hc : (nm == ("__classdict__" : Str)) = false := by rfl) :
    ClsOk X (.ExceptHandler (some (.Name x np)) (some nm) [.Assign [.Name y py] (.IfExp (.Call (.Name "isinstance" p1) [.Name nm p2, .Name "ValueError" p3] [] p4) (.Constant (.str z) j1 p5) (.Constant .none j2 p6) p7) p8] hp :: hs)
      (((hdOf t m j jc z, Value.ref (c.G m)) :: l).map (clOf c)) :=
  .cons (l := clOf c (hdOf t m j jc z, .ref (c.G m))) hn hk ⟨hg, hd', .inl hm⟩ (fun a oe cls d pn em hz hf => suite_is (h := hdOf t m j jc z) (W := W) (k := k) g rfl (fun m' e => by rw [hG]; exact F.ve e) hz hf mi mv gi gv hi hx hfn hn hv hd hc) rest
theorem zTry {b : SDen} {body : List Stmt} (l : List (Nat × Nat × Nat × Str)) (g : Good X c W k) (F : Fx t X.K X.mg) (hG : c.G = t.G X.K)
    (hb : ∀ (W : WX) (pn : List (Addr × Obj)) (xe : Value → Shared → Prop), Good (X.tr pn xe) c W k → PSs (X.tr pn xe) body (TSof c W b))
    (ok : ClsOk X (h₀ :: hs) ((l.map fun q => (hdOf t q.1 q.2.1 q.2.2.1 q.2.2.2, Value.ref (c.G q.1))).map (clOf c))) (hst : X.stack = X.env :: X.outer := by rfl) (hf : X.env.frame = some X.env.locals := by rfl) :
    PS X (.Try body (h₀ :: hs) [] [] pos) (TSof c W (sTry b (l.map fun q => hdOf t q.1 q.2.1 q.2.2.1 q.2.2.2))) := by
  have e : (l.map fun q => hdOf t q.1 q.2.1 q.2.2.1 q.2.2.2) = (l.map fun q => (hdOf t q.1 q.2.1 q.2.2.1 q.2.2.2, Value.ref (c.G q.1))).map (·.1) := by rw [List.map_map]; rfl
  rw [e]
  refine ts_try _ hst hf g.nd g.tk (fun h hm k b e => ?_) (fun W pn xe tk po => hb W pn xe (g.tr tk po)) ok
  obtain ⟨q, _, rfl⟩ := List.mem_map.mp hm
  dsimp only
  rw [hG]
  exact F.exm' e
/-- {k: v, ..}.get(a, b) -/
theorem pd0 : PPs X pos [] [] (trsC []) := pps_nil
theorem pd1 {kk vv : Int} {j3 j4 : Nat} {ks : List (Option Expr)} {vs : List Expr} {kvs : List (Int × Int)} (h : PPs X pos ks vs (trsC kvs)) : PPs X pos (some (.Constant (.int kk) j3 p1) :: ks) (.Constant (.int vv) j4 p2 :: vs) (trsC ((kk, vv) :: kvs)) := pps_cons pe_int pe_int h
theorem eGet {a b : Expr} {da : BDen} {db : Den} {kvs : List (Int × Int)} {keys : List (Option Expr)} {values : List Expr} {dpos apos cpos : Pos} (g : Good X c W k) (hd : PPs X dpos keys values (trsC kvs)) (ha : PE X a (TBof c W da)) (hb : PE X b (TEof c W db))
    (hall : keys.all (·.isSome) = true := by rfl) (hl : keys.length = values.length := by rfl) (h0 : keys ≠ [] := by simp) (h15 : keys.length ≤ 15 := by decide) (h15' : kvs.length ≤ 15 := by decide)
    (m1 : attributeBase (.Dict keys values dpos) "get" X.env (eval (.Dict keys values dpos) X.env) = eval (.Dict keys values dpos) X.env := by rfl)
    (m2 : ((backTo cpos (starEach [a, b] X.env)).all (fun x => !x.1) && (backToKw cpos (keywordEach [] X.env)).all (fun x => x.1.isSome)
      && decide (([a, b] : List Expr).length + ([] : List Keyword).length + (if ([] : List Keyword).isEmpty then 0 else 1) < 30)) = true := by rfl)
    (m3 : (apos.endLine == cpos.line) = true := by rfl) (m4 : backTo cpos (starEach [a, b] X.env) = [(false, eval a X.env), (false, eval b X.env)] := by rfl) :
    PE X (.Call (.Attribute (.Dict keys values dpos) "get" apos) [a, b] [] cpos) (TEof c W (cGetC kvs da db)) := te_getC g.u1 hd hall hl h0 h15 h15' ha hb ⟨m1, m2, m3, m4⟩
end
/-- the rules are given the context whole -/
theorem walk_of {L : List Ent} {P : Program} {w : World} {K : PySem.W.Frag} {mg : Str → Option Value} {base : Heap} {G : Nat → Addr} {e : Ent} (S : FnScope e.N e.ps e.scope)
    (h : ∀ k, Lv L P w K mg base G k → ∀ (f : Addr) (cdv : Value) (A : Around) (outer : List Env) (s : Shared) (H : Hp) (E : XK) (F0 S0 : Addr → Prop) (H0 : Hp) (fb : ∀ b, F0 b → H0 b ≠ none),
      Good (cxOf (L2.CX P w) P w K mg base e.N e.nm e.scope f cdv A outer s H E) ⟨K, G, F0, S0, H0, fb⟩ (fun cls d _ H => E cls d H) k →
      PSs (cxOf (L2.CX P w) P w K mg base e.N e.nm e.scope f cdv A outer s H E) e.body (TSof ⟨K, G, F0, S0, H0, fb⟩ (fun cls d _ H => E cls d H) (e.d.body (calls (tab L) k)))) :
    ∀ k, Lv L P w K mg base G k → ∀ (f : Addr) (cdv : Value) (A : Around) (outer : List Env) (s : Shared) (H : Hp) (E : XK) (c : Fix), c.K = K → c.G = G → Room k (A.deeper (envOfC e.nm e.scope s.heap.objs.size f cdv)) →
      PSs (cxOf (L2.CX P w) P w K mg base e.N e.nm e.scope f cdv A outer s H E) e.body (TSof c (fun cls d _ H => E cls d H) (e.d.body (calls (tab L) k))) := fun k ih f cdv A outer s H E c h1 h2 hr => by
  obtain ⟨cK, cG, F0, S0, H0, fb⟩ := c
  dsimp only at h1 h2
  subst h1 h2
  exact h k ih f cdv A outer s H E F0 S0 H0 fb (good_cx (G := cG) S rfl hr)
theorem mkBlk {X : Cx} {c : Fix} {W : WX} {k : Nat} {tg elt : Expr} {ifs : List Expr} {scope : Scope} {own : List (Str × Nat)} {g : Tg} {t : TDen} {e : Den} (gd : Good X c W k) (ok : BlkOk X.N X.env.scope scope own) (gj : ∀ i ∈ g.js, i ∈ own.map (·.2))
    (hg : ∀ (s : Shared) (H : Hp) (C : Addr) (cl : List (Str × Addr)) (fp : List Addr), Good (X.blk s H scope (compEnvC scope cl C X.env) fp) c W0 k → PG (X.blk s H scope (compEnvC scope cl C X.env) fp) tg (TGof c g))
    (ht : ∀ (s : Shared) (H : Hp) (C : Addr) (cl : List (Str × Addr)) (fp : List Addr), Good (X.blk s H scope (compEnvC scope cl C X.env) fp) c W0 k → PTs (X.blk s H scope (compEnvC scope cl C X.env) fp) ifs (TTof c W0 t))
    (he : ∀ (s : Shared) (H : Hp) (C : Addr) (cl : List (Str × Addr)) (fp : List Addr), Good (X.blk s H scope (compEnvC scope cl C X.env) fp) c W0 k → PE (X.blk s H scope (compEnvC scope cl C X.env) fp) elt (TEof c W0 e)) : Blk X c tg elt ifs scope own g t e :=
  ⟨ok, gj, fun s H C cl fp => hg s H C cl fp gd.blk, fun s H C cl fp => ht s H C cl fp gd.blk, fun s H C cl fp => he s H C cl fp gd.blk⟩
end EV


set_option Elab.async false
set_option linter.all false
set_option maxRecDepth 100000
set_option maxHeartbeats 4000000
/-! EvS: how a term of the rules is reckoned. -/
namespace EV
open PySem PySem.Spec PyProof.Rows L2

theorem bind_ok {α β : Type} (a : α) (ε : Ev) (f : α → Ev → Out β) : (Out.ok a ε).bind f = f a ε := rfl
theorem bind_exc {α β : Type} (n : Nat) (p : PV) (ε : Ev) (f : α → Ev → Out β) : (Out.exc n p ε).bind f = .exc n p ε := rfl
theorem bind_stk {α β : Type} (f : α → Ev → Out β) : (Out.stk : Out α).bind f = .stk := rfl
theorem bind_ite {α β : Type} (c : Prop) [Decidable c] (x y : Out α) (f : α → Ev → Out β) : (if c then x else y).bind f = if c then x.bind f else y.bind f := by split <;> rfl
theorem bind_cond {α β : Type} (c : Bool) (x y : Out α) (f : α → Ev → Out β) : (bif c then x else y).bind f = bif c then x.bind f else y.bind f := by cases c <;> rfl
/-- only what comes first is reckoned -/
def okF {α β : Type} (f : α → Ev → Out β) : Option α → Ev → Out β
  | some a, ε => f a ε
  | none, _ => .stk
variable {ε : Ev} {d da db dc : Den} {a b c : BDen} {t u : TDen} {as : ADen} {bs : BADen} {s r : SDen} {Φ : CallT} {n m j i : Nat} {p q : PV} {v : Val}
theorem r_cC : cC p ε = .ok (.v p) ε := rfl
theorem r_bV : bVar j ε = (match slotV ε[j]? with
  | some _ => .ok (.s j) ε
  | none => .stk) := rfl
theorem r_bO : bOf d ε = (d ε).bind fun r ε => .ok (.p r.pv) ε := rfl
theorem r_o1 {f : PV → Option Val} : cOp1 f a ε = (a ε).bind fun x ε => (match resolve ε x with
  | some p => ret ε (f p)
  | none => .stk) := rfl
theorem r_o2 {f : PV → PV → Option Val} : cOp2 f a b ε = (a ε).bind fun x ε => (b ε).bind fun y ε => (match resolve ε x, resolve ε y with
  | some p, some q => ret ε (f p q)
  | _, _ => .stk) := rfl
theorem r_t2 {f : PV → PV → Option Val} : tOp2 f a b ε = (a ε).bind fun x ε => (b ε).bind fun y ε => (match resolve ε x, resolve ε y with
  | some p, some q => asB ε (f p q)
  | _, _ => .stk) := rfl
theorem r_asB {k : Bool} : asB ε (some (.v (.bl k))) = .ok k ε := rfl
theorem r_ret : ret ε (some v) = .ok v ε := rfl
theorem r_retN : ret ε none = .stk := rfl
theorem r_tch {f g : PV → PV → Option Val} : tChn f g a b c ε = (a ε).bind fun x ε => (b ε).bind fun y ε => (match resolve ε x, resolve ε y with
  | some p, some q => (asB ε (f p q)).bind fun k ε => bif k then (c ε).bind fun z ε => (match resolve ε y, resolve ε z with
    | some q, some r => asB ε (g q r)
    | _, _ => .stk) else .ok false ε
  | _, _ => .stk) := rfl
theorem r_ofT : cOfT t ε = (t ε).bind fun k ε => .ok (.v (.bl k)) ε := rfl
theorem r_aN : aNil ε = .ok [] ε := rfl
theorem r_aC : aCons d as ε = (d ε).bind fun v ε => (as ε).bind fun ps ε => .ok (v.pv :: ps) ε := rfl
theorem r_bN : bNil ε = .ok [] ε := rfl
theorem r_bC : bCons a bs ε = (a ε).bind fun v ε => (bs ε).bind fun ps ε => .ok (v :: ps) ε := rfl
theorem r_tup : cTup as ε = (as ε).bind fun ps ε => .ok (.v (.tup ps)) ε := rfl
theorem r_lst : cLst as ε = (as ε).bind fun ps ε => .ok (.f ps) ε := rfl
theorem r_blt {f : List PV → Option Val} : cBlt f bs ε = (bs ε).bind fun ts ε => (match resolves ε ts with
  | some ps => ret ε (f ps)
  | none => .stk) := rfl
theorem r_if : cIf t da db ε = (t ε).bind fun k ε => bif k then da ε else db ε := rfl
theorem r_tval : tVal a ε = (a ε).bind fun x ε => (match resolve ε x with
  | some p => (match truth p with
    | some k => .ok k ε
    | none => .stk)
  | none => .stk) := rfl
theorem r_tand : tAnd t u ε = (t ε).bind fun k ε => bif k then u ε else .ok false ε := rfl
theorem r_tor : tOr t u ε = (t ε).bind fun k ε => bif k then .ok true ε else u ε := rfl
theorem r_tnot : tNot t ε = (t ε).bind fun k ε => .ok (!k) ε := rfl
def orT (da : Val → Ev → Out Val) (db : Ev → Out Val) : Option Bool → Val → Ev → Out Val
  | some k, r, ε => bif k then da r ε else db ε
  | none, _, _ => .stk
theorem r_orT : cOrT da db ε = (da ε).bind fun r ε => orT (fun r ε => .ok r ε) db (truth r.pv) r ε := by
  unfold cOrT orT; congr 1; funext r ε
  cases truth r.pv with
  | none => rfl
  | some k => cases k <;> rfl
theorem r_andT : cAndT da db ε = (da ε).bind fun r ε => orT (fun r ε => db ε) (fun ε => .ok r ε) (truth r.pv) r ε := by
  unfold cAndT orT; congr 1; funext r ε
  cases truth r.pv with
  | none => rfl
  | some k => cases k <;> rfl
theorem r_orTs {f : Val → Ev → Out Val} {g : Ev → Out Val} {k : Bool} : orT f g (some k) v ε = bif k then f v ε else g ε := rfl
theorem r_not : cNot d ε = (d ε).bind fun r ε => (match truth r.pv with
  | some k => .ok (.v (.bl (!k))) ε
  | none => .stk) := rfl
def afterC (ε : Ev) : CRes → Out Val
  | .ok r _ => .ok r ε
  | .exc m p => .exc m p ε
  | .stk => .stk
theorem r_call : cCall Φ n as ε = (as ε).bind fun ps ε => afterC ε (Φ n none ps) := by
  unfold cCall afterC; congr 1
theorem r_afterOk {io : List PV} : afterC ε (.ok v io) = .ok v ε := rfl
theorem r_afterX : afterC ε (.exc n p) = .exc n p ε := rfl
theorem r_afterIte (c : Prop) [Decidable c] (x y : CRes) : afterC ε (if c then x else y) = if c then afterC ε x else afterC ε y := by split <;> rfl
theorem r_seq : sSeq s r ε = (s ε).bind fun f ε => (match f with
  | .nx => r ε
  | f => .ok f ε) := rfl
theorem r_next : sNext ε = .ok .nx ε := rfl
theorem r_brk : sBrk ε = .ok .bk ε := rfl
theorem r_cnt : sCnt ε = .ok .ct ε := rfl
theorem r_set : sSet j d ε = (d ε).bind fun r ε => .ok .nx (ε.set j r.slot) := rfl
theorem r_par : sPar i j da db ε = (da ε).bind fun r ε => (db ε).bind fun s ε => .ok .nx ((ε.set i r.slot).set j s.slot) := rfl
theorem r_stup {js : List Nat} : sTup js a ε = (a ε).bind fun t ε => (match resolve ε t with
  | some p => (match (Tg.many js).set p ε with
    | some ε => .ok .nx ε
    | none => .stk)
  | none => .stk) := rfl
theorem r_aug {f : PV → PV → Option Val} : sAug j f a ε = (match slotV ε[j]? with
  | none => .stk
  | some _ => (a ε).bind fun t ε => (match slotV ε[j]?, resolve ε t with
    | some p, some q => (match f p q with
      | some r => .ok .nx (ε.set j r.slot)
      | none => .stk)
    | _, _ => .stk)) := rfl
theorem r_drop : sDrop d ε = (d ε).bind fun _ ε => .ok .nx ε := rfl
theorem r_sif : sIf t s r ε = (t ε).bind fun k ε => bif k then s ε else r ε := rfl
theorem r_sret : sRet d ε = (d ε).bind fun r ε => .ok (.rt r) ε := rfl
theorem r_retnone : sRetN ε = .ok (.rt (.v .non)) ε := rfl
theorem r_raise : sRaise n ε = .exc n .non ε := rfl
/-- what a def hands back -/
def FD.fin (d : FD) : Out Fl → CRes
  | .ok .nx ε => ioOf d (.v .non) ε
  | .ok (.rt r) ε => ioOf d r ε
  | .ok _ _ => .stk
  | .exc n p _ => (match d.io with
    | true => .stk
    | false => .exc n p)
  | .stk => .stk
theorem fin_ite (D : FD) (c : Prop) [Decidable c] (x y : Out Fl) : D.fin (if c then x else y) = if c then D.fin x else D.fin y := by split <;> rfl
theorem run_fin (D : FD) (io : Option (List PV)) (ps : List PV) : D.run Φ io ps = (match D.start io ps with
  | none => .stk
  | some ε => D.fin (D.body Φ ε)) := by
  unfold FD.run
  cases D.start io ps with
  | none => rfl
  | some ε =>
    dsimp only
    unfold FD.fin
    rfl
/-- the body from its slots -/
theorem run_body {D : FD} {ps : List PV} {B : CallT → SDen} (hB : D.body = B) (hio : D.io = false) (hl : ps.length = D.np) : D.run Φ none ps = D.fin (B Φ (ps.map .val ++ List.replicate (D.ns - D.np) .emp)) := by
  rw [run_fin, ← hB]
  unfold FD.start
  rw [hio]
  dsimp only
  rw [if_pos hl]
theorem run_bodyIO {D : FD} {ps qs : List PV} {B : CallT → SDen} (hB : D.body = B) (hio : D.io = true) (hl : ps.length + 1 = D.np) : D.run Φ (some qs) ps = D.fin (B Φ (.own true qs :: (ps.map .val ++ List.replicate (D.ns - D.np) .emp))) := by
  rw [run_fin, ← hB]
  unfold FD.start
  rw [hio]
  dsimp only
  rw [if_pos hl]
theorem finR {D : FD} (hio : D.io = false) {r : Val} : D.fin (.ok (.rt r) ε) = .ok r [] := by
  unfold FD.fin ioOf; rw [hio]
theorem finN {D : FD} (hio : D.io = false) : D.fin (.ok .nx ε) = .ok (.v .non) [] := by
  unfold FD.fin ioOf; rw [hio]
theorem finX {D : FD} (hio : D.io = false) : D.fin (.exc n p ε) = .exc n p := by
  unfold FD.fin; rw [hio]
/-! numbers -/
theorem datas_int (x y : Int) : datas (.int x) (.int y) = some (.int x, .int y) := by
  unfold datas PV.pd
  dsimp only
  rw [if_pos (by simp [SeqAt.shaped, PyData.canLay0, PyData.depth])]
theorem eqv_int (x y : Int) : PyData.eqv (.int x) (.int y) = decide (x = y) := by
  have h : PyData.eqv (.int x) (.int y) = (x == y) := by unfold PyData.eqv; rfl
  rw [h]
  by_cases q : x = y
  · rw [decide_eq_true q]; exact beq_iff_eq.mpr q
  · rw [decide_eq_false q]; exact beq_eq_false_iff_ne.mpr q
theorem eq_int (x y : Int) : fEq (.int x) (.int y) = some (.v (.bl (decide (x = y)))) := by
  unfold fEq
  rw [datas_int, Option.map_some, eqv_int]
theorem ne_int' (x y : Int) : fNe (.int x) (.int y) = some (.v (.bl (!decide (x = y)))) := by
  unfold fNe
  rw [datas_int, Option.map_some, eqv_int]

theorem r_eqI (x y : Int) : fEq (.int x) (.int y) = some (.v (.bl (decide (x = y)))) := eq_int x y
theorem r_neI (x y : Int) : fNe (.int x) (.int y) = some (.v (.bl (!decide (x = y)))) := ne_int' x y
theorem r_leI (x y : Int) : fLe (.int x) (.int y) = some (.v (.bl (decide (x ≤ y)))) := rfl
theorem r_ltI (x y : Int) : fLt (.int x) (.int y) = some (.v (.bl (decide (x < y)))) := rfl
theorem r_geI (x y : Int) : fGe (.int x) (.int y) = some (.v (.bl (decide (y ≤ x)))) := rfl
theorem r_gtI (x y : Int) : fGt (.int x) (.int y) = some (.v (.bl (decide (y < x)))) := rfl
theorem r_addI (x y : Int) : fAdd (.int x) (.int y) = some (.v (.int (x + y))) := rfl
theorem r_iaddI (x y : Int) : fIAdd (.int x) (.int y) = some (.v (.int (x + y))) := rfl
theorem r_subI (x y : Int) : fSub (.int x) (.int y) = some (.v (.int (x - y))) := rfl
theorem r_mulL (x y : Int) (h : -(2 ^ 64) < x ∧ x < 2 ^ 64) : fMul (.int x) (.int y) = some (.v (.int (x * y))) := by unfold fMul; exact if_pos (.inl h)
theorem r_mulR (x y : Int) (h : -(2 ^ 64) < y ∧ y < 2 ^ 64) : fMul (.int x) (.int y) = some (.v (.int (x * y))) := by unfold fMul; exact if_pos (.inr h)
theorem r_divI (x y : Int) (h : 0 < y ∧ y < 1073741824) : fDiv (.int x) (.int y) = some (.v (.int (x / y))) := by unfold fDiv; exact if_pos h
theorem r_modI (x y : Int) (h : 0 < y) : fMod (.int x) (.int y) = some (.v (.int (x % y))) := by unfold fMod; exact if_pos h
theorem r_negI (x : Int) : fNeg (.int x) = some (.v (.int (-x))) := rfl
theorem r_leP (x y : Int) (a b : Bool) : fLe (.tup [.int x, .bl a]) (.tup [.int y, .bl b]) = some (.v (.bl (leP x a y b))) := rfl
/-! small steps -/
theorem r_pv : (Val.v p).pv = p := rfl
theorem r_pvF {ps : List PV} : (Val.f ps).pv = .lst ps := rfl
theorem r_slv : (Val.v p).slot = .val p := rfl
theorem r_slF {ps : List PV} : (Val.f ps).slot = .own false ps := rfl
theorem r_sv : slotV (some (.val p)) = some p := rfl
theorem r_so {o : Bool} {ps : List PV} : slotV (some (.own o ps)) = some (.lst ps) := rfl
theorem r_rp : resolve ε (.p p) = some p := rfl
theorem r_rs : resolve ε (.s j) = slotV ε[j]? := rfl
theorem r_rsN : resolves ε [] = some [] := rfl
theorem r_rsC {t : Tok} {ts : List Tok} : resolves ε (t :: ts) = (match resolve ε t, resolves ε ts with
  | some p, some ps => some (p :: ps)
  | _, _ => none) := rfl
theorem r_cV : cVar j ε = (match ε[j]? with
  | some (.val p) => .ok (.v p) ε
  | some (.own false ps) => .ok (.v (.lst ps)) (ε.set j (.val (.lst ps)))
  | _ => .stk) := rfl
theorem r_trB {k : Bool} : truth (.bl k) = some k := rfl
theorem r_trI {x : Int} : truth (.int x) = some (x != 0) := rfl
theorem r_retV : sRetV j ε = (match ε[j]? with
  | some (.val p) => .ok (.rt (.v p)) ε
  | some (.own false ps) => .ok (.rt (.f ps)) (ε.set j .emp)
  | _ => .stk) := rfl
theorem r_tgM {js : List Nat} {ps : List PV} : (Tg.many js).set (.tup ps) ε = setAll js ps ε := rfl
theorem r_tgO : (Tg.one j).set p ε = some (ε.set j (.val p)) := rfl
theorem r_saN : setAll [] [] ε = some ε := rfl
theorem r_saC {js : List Nat} {ps : List PV} : setAll (j :: js) (p :: ps) ε = setAll js ps (ε.set j (.val p)) := rfl
theorem at_nat {α : Type} (xs : List α) (i : Nat) : L2.atI xs (i : Int) = xs[i]? := by
  cases h : xs[i]? with
  | some v => exact L2.atI_nat h
  | none =>
    have hl : xs.length ≤ i := List.getElem?_eq_none_iff.mp h
    unfold L2.atI L2.ixN
    rw [if_pos (by omega), if_neg (by omega)]
    rfl
theorem ix_tup (ps : List PV) (i : Nat) : fIx (.tup ps) (.int (i : Int)) = (ps[i]?).map Val.v := by
  show (L2.atI ps (i : Int)).map Val.v = _
  rw [at_nat]
theorem ix_lst (ps : List PV) (i : Nat) : fIx (.lst ps) (.int (i : Int)) = (ps[i]?).map Val.v := by
  show (L2.atI ps (i : Int)).map Val.v = _
  rw [at_nat]
theorem ix_fl (ps : List PV) (i : Nat) : fIx (.fl ps) (.int (i : Int)) = (ps[i]?).map Val.v := by
  show (L2.atI ps (i : Int)).map Val.v = _
  rw [at_nat]
theorem r_ixT0 (p : PV) (ps : List PV) : fIx (.tup (p :: ps)) (.int 0) = some (.v p) := ix_tup (p :: ps) 0
theorem r_ixT1 (p q : PV) (ps : List PV) : fIx (.tup (p :: q :: ps)) (.int 1) = some (.v q) := ix_tup (p :: q :: ps) 1
theorem r_ixT2 (p q r : PV) (ps : List PV) : fIx (.tup (p :: q :: r :: ps)) (.int 2) = some (.v r) := ix_tup (p :: q :: r :: ps) 2
theorem r_ixL0 (p : PV) (ps : List PV) : fIx (.lst (p :: ps)) (.int 0) = some (.v p) := ix_lst (p :: ps) 0
theorem r_ixL1 (p q : PV) (ps : List PV) : fIx (.lst (p :: q :: ps)) (.int 1) = some (.v q) := ix_lst (p :: q :: ps) 1
theorem r_ixL2 (p q r : PV) (ps : List PV) : fIx (.lst (p :: q :: r :: ps)) (.int 2) = some (.v r) := ix_lst (p :: q :: r :: ps) 2
/-! loops -/
theorem r_while : sWhile t s (n + 1) ε = (t ε).bind fun k ε => bif k then (s ε).bind (fun f ε => match f with
  | .nx => sWhile t s n ε
  | .ct => sWhile t s n ε
  | .bk => .ok .nx ε
  | .rt r => .ok (.rt r) ε) else .ok .nx ε := rfl
theorem r_for {it : IDen} {g : Tg} : sFor it g s ε = (it ε).bind fun ps ε => forL g s ps ε := rfl
theorem r_forN {g : Tg} : forL g s [] ε = .ok .nx ε := rfl
theorem r_forC {g : Tg} {ps : List PV} : forL g s (p :: ps) ε = (match g.set p ε with
  | none => .stk
  | some ε => (s ε).bind fun f ε => (match f with
    | .nx => forL g s ps ε
    | .ct => forL g s ps ε
    | .bk => .ok .nx ε
    | .rt r => .ok (.rt r) ε)) := rfl
theorem r_iSeq : iSeq d ε = (d ε).bind fun r ε => iRet ε (itemsOf r.pv) := rfl
theorem r_iRet {ps : List PV} : iRet ε (some ps) = .ok ps ε := rfl
theorem r_itT {ps : List PV} : itemsOf (.tup ps) = some ps := rfl
theorem r_itL {ps : List PV} : itemsOf (.lst ps) = some ps := rfl
theorem r_itF {ps : List PV} : itemsOf (.fl ps) = some ps := rfl
theorem r_iRange : iRange bs ε = (bs ε).bind fun ts ε => (match resolves ε ts with
  | some ps => iRet ε (rangeOf ps)
  | none => .stk) := rfl
/-! lists of one's own -/
theorem r_own {α : Type} {f : Ev → Out α} : onOwn j f ε = bif isOwn ε[j]? then f ε else .stk := rfl
theorem r_isO {o : Bool} {ps : List PV} : isOwn (some (.own o ps)) = true := rfl
theorem r_pop {o : Bool} {ps : List PV} (h : ε[j]? = some (.own o ps)) : cPop j ε = (match ps[ps.length - 1]? with
  | some p => .ok (.v p) (ε.set j (.own o ps.dropLast))
  | none => .stk) := by unfold cPop; rw [h] <;> rfl
theorem r_app : cAppend j d ε = onOwn j (fun ε => (d ε).bind fun r ε => (match ε[j]? with
  | some (.own k ps) => if ps.length < sizeLine then .ok (.v .non) (ε.set j (.own k (ps ++ [r.pv]))) else .stk
  | _ => .stk)) ε := rfl
theorem r_ext : cExtend j a ε = onOwn j (fun ε => (a ε).bind fun t ε => (match ε[j]?, resolve ε t with
  | some (.own k ps), some (.lst qs) => if ps.length + qs.length ≤ sizeLine then .ok (.v .non) (ε.set j (.own k (ps ++ qs))) else .stk
  | _, _ => .stk)) ε := rfl
theorem r_put {i : BDen} : sPut j i d ε = (d ε).bind fun r ε => onOwn j (fun ε => (i ε).bind fun t ε => (match ε[j]?, resolve ε t with
  | some (.own o ps), some (.int k) => (match L2.ixN ps.length k with
    | some m => .ok .nx (ε.set j (.own o (ps.set m r.pv)))
    | none => .stk)
  | _, _ => .stk)) ε := rfl
def afterIO (ε : Ev) (j : Nat) (k : Bool) : CRes → Out Val
  | .ok r qs => .ok r (ε.set j (.own k qs))
  | _ => .stk
theorem r_callIO : cCallIO Φ n j as ε = (as ε).bind fun ps ε => (match ε[j]? with
  | some (.own k qs) => afterIO ε j k (Φ n (some qs) ps)
  | _ => .stk) := by
  unfold cCallIO; congr 1
theorem r_afIO {k : Bool} {qs : List PV} : afterIO ε j k (.ok v qs) = .ok v (ε.set j (.own k qs)) := rfl
theorem fl_len {ps : List PV} : fLen [.lst ps] = some (.v (.int ps.length)) := rfl
theorem ft_len {ps : List PV} : fLen [.tup ps] = some (.v (.int ps.length)) := rfl
/-! comprehensions -/
theorem r_clN {vs : List Nat} {g : Tg} {acc : List PV} : compL vs g t d [] acc ε = .ok acc ε := rfl
theorem r_clC {vs : List Nat} {g : Tg} {acc ps : List PV} : compL vs g t d (p :: ps) acc ε = (match g.set p ε with
  | none => .stk
  | some ε => (match t ε with
    | .ok true ε => (match d ε with
      | .ok r ε => compL vs g t d ps (acc ++ [r.pv]) (wipeE ε vs)
      | _ => .stk)
    | .ok false ε => compL vs g t d ps acc (wipeE ε vs)
    | _ => .stk)) := rfl
/-! texts, data -/
theorem pd_str (x : Str) : PV.pd (.str x) = some (.str x) := by unfold PV.pd; rfl
theorem pd_tup {ps : List PV} {ds : List PyData} (h : PV.pds ps = some ds) : PV.pd (.tup ps) = some (.tuple ds) := by unfold PV.pd; rw [h]; rfl
theorem pds_nil : PV.pds [] = some [] := by unfold PV.pds; rfl
theorem pds_cons {p : PV} {ps : List PV} {d : PyData} {ds : List PyData} (h1 : PV.pd p = some d) (h2 : PV.pds ps = some ds) : PV.pds (p :: ps) = some (d :: ds) := by unfold PV.pds; rw [h1, h2]
theorem datas_of {p q : PV} {d e : PyData} (h1 : PV.pd p = some d) (h2 : PV.pd q = some e) (s1 : SeqAt.shaped d = true) (s2 : SeqAt.shaped e = true) : datas p q = some (d, e) := by
  unfold datas; rw [h1, h2]; dsimp only; rw [s1, s2]; rfl
theorem eq_of {p q : PV} {d e : PyData} {b : Bool} (h1 : PV.pd p = some d) (h2 : PV.pd q = some e) (s1 : SeqAt.shaped d = true) (s2 : SeqAt.shaped e = true) (hb : PyData.eqv d e = b) : fEq p q = some (.v (.bl b)) := by
  unfold fEq; rw [datas_of h1 h2 s1 s2, ← hb]; rfl
theorem ne_of {p q : PV} {d e : PyData} {b : Bool} (h1 : PV.pd p = some d) (h2 : PV.pd q = some e) (s1 : SeqAt.shaped d = true) (s2 : SeqAt.shaped e = true) (hb : PyData.eqv d e = b) : fNe p q = some (.v (.bl (!b))) := by
  unfold fNe; rw [datas_of h1 h2 s1 s2, ← hb]; rfl
/-! comprehensions, reckoned at once -/
theorem set_set {α : Type} (l : List α) (i : Nat) (x y : α) : (l.set i x).set i y = l.set i y := by
  refine List.ext_getElem? fun k => ?_
  by_cases h : k = i
  · subst h
    by_cases hl : k < l.length
    · rw [List.getElem?_set_self (by rw [List.length_set]; exact hl), List.getElem?_set_self hl]
    · rw [List.getElem?_eq_none (by rw [List.length_set, List.length_set]; omega), List.getElem?_eq_none (by rw [List.length_set]; omega)]
  · rw [List.getElem?_set_ne (Ne.symm h), List.getElem?_set_ne (Ne.symm h), List.getElem?_set_ne (Ne.symm h)]
theorem set_back {α : Type} (l : List α) (i : Nat) (x y : α) (h : l[i]? = some y) : (l.set i x).set i y = l := by
  rw [set_set]
  refine List.ext_getElem? fun k => ?_
  by_cases e : k = i
  · subst e
    rw [List.getElem?_set_self (List.getElem?_eq_some_iff.mp h).1, h]
  · rw [List.getElem?_set_ne (Ne.symm e)]
theorem compL_fm {v : Nat} {t : TDen} {e : Den} {q : PV → Bool} {f : PV → PV} {ε0 : Ev} (h0 : ε0.set v .emp = ε0) : ∀ (ps acc : List PV), (∀ p ∈ ps, t (ε0.set v (.val p)) = .ok (q p) (ε0.set v (.val p)) ∧ (q p = true → e (ε0.set v (.val p)) = .ok (.v (f p)) (ε0.set v (.val p)))) →
    compL [v] (.one v) t e ps acc ε0 = .ok (acc ++ (ps.filter q).map f) ε0
  | [], acc, _ => by rw [r_clN]; simp
  | p :: ps, acc, h => by
    obtain ⟨h1, h2⟩ := h p List.mem_cons_self
    have ih := fun acc => compL_fm (f := f) h0 ps acc fun r hr => h r (List.mem_cons_of_mem _ hr)
    have w : wipeE (ε0.set v (.val p)) [v] = ε0 := by
      show (ε0.set v (.val p)).set v .emp = ε0
      rw [set_set, h0]
    rw [r_clC, r_tgO]
    dsimp only
    rw [h1]
    cases hq : q p with
    | true =>
      dsimp only
      rw [h2 hq]
      dsimp only
      rw [w, ih, List.filter_cons, hq]
      simp [Val.pv]
    | false =>
      dsimp only
      rw [w, ih, List.filter_cons, hq]
      simp
theorem comp_fm {v : Nat} {it : IDen} {t : TDen} {e : Den} (q : PV → Bool) (f : PV → PV) {ps : List PV} (hit : it ε = .ok ps ε) (hn : isOwn ε[v]? = false) (hv : v < ε.length) (hl : ps.length < sizeLine)
    (h : ∀ p ∈ ps, t (ε.set v (.val p)) = .ok (q p) (ε.set v (.val p)) ∧ (q p = true → e (ε.set v (.val p)) = .ok (.v (f p)) (ε.set v (.val p)))) : cComp [v] it (.one v) t e ε = .ok (.f ((ps.filter q).map f)) ε := by
  unfold cComp
  rw [hit, bind_ok]
  have hc : ([v].any (fun v => isOwn ε[v]?) || !decide (ps.length < sizeLine)) = false := by simp [hn, hl]
  rw [hc, if_neg Bool.false_ne_true]
  have w : wipeE ε [v] = ε.set v .emp := rfl
  have c := compL_fm (t := t) (e := e) (q := q) (f := f) (ε0 := ε.set v .emp) (v := v) (set_set _ _ _ _) ps [] (fun p hp => by rw [set_set]; exact h p hp)
  rw [w, c]
  dsimp only
  have b : back ε [v] (ε.set v .emp) = ε := by
    show (ε.set v .emp).set v (ε[v]?.getD .emp) = ε
    refine set_back _ _ _ _ ?_
    rw [List.getElem?_eq_getElem hv]; rfl
  rw [b]; simp
theorem compS_fm {v : Nat} {t : TDen} {e : Den} (q : PV → Bool) (f : PV → PV) {ps : List PV} (hj : ε[j]? = some (.val p)) (hp : itemsOf p = some ps) (hn : isOwn ε[v]? = false) (hv : v < ε.length) (hl : ps.length < sizeLine)
    (h : ∀ p ∈ ps, t (ε.set v (.val p)) = .ok (q p) (ε.set v (.val p)) ∧ (q p = true → e (ε.set v (.val p)) = .ok (.v (f p)) (ε.set v (.val p)))) : cCompS [v] j (.one v) t e ε = .ok (.f ((ps.filter q).map f)) ε := by
  have r : cCompS [v] j (.one v) t e ε = cComp [v] (fun ε => iRet ε (itemsOf p)) (.one v) t e ε := by
    show (match ε[j]? with
      | some (.own k ps) => _
      | some (.val p) => cComp [v] (fun ε => iRet ε (itemsOf p)) (.one v) t e ε
      | _ => .stk) = _
    rw [hj]
  rw [r]
  exact comp_fm q f (by rw [hp]; rfl) hn hv hl h
theorem r_tTrue : tTrue ε = .ok true ε := rfl
theorem sz_lt {n : Nat} (h : n < 1000000) : n < sizeLine := by rw [sizeLine_eq]; omega
theorem sz_le {n : Nat} (h : n < 1000000) : n ≤ sizeLine := by rw [sizeLine_eq]; omega
/-! kinds -/
theorem isi_tt (ps : List PV) : fIsi [.tup ps, .tup [.ty "list", .ty "tuple"]] = some (.v (.bl true)) := by
  unfold fIsi tysOf tysOf tysOf tyP kitAnyS kitAnyS
  simp only [Option.map_some, Option.bind_some, kit_tab5.2.2.2.1, kit_tab4.2.2.2.1]
theorem isi_st (x : Str) : fIsi [.str x, .tup [.ty "list", .ty "tuple"]] = some (.v (.bl false)) := by
  unfold fIsi tysOf tysOf tysOf tyP kitAnyS kitAnyS kitAnyS
  simp only [Option.map_some, Option.bind_some, kit_tab5.2.2.1, kit_tab4.2.2.1]
theorem isi_t (ps : List PV) : fIsi [.tup ps, .ty "tuple"] = some (.v (.bl true)) := by
  unfold fIsi tyP
  simp only [Option.bind_some, kit_tab4.2.2.2.1, Option.map_some]
theorem isi_s (x : Str) : fIsi [.str x, .ty "str"] = some (.v (.bl true)) := by
  unfold fIsi tyP
  simp only [Option.bind_some, kit_tab3.2.2.1, Option.map_some]
end EV


set_option Elab.async false
set_option linter.all false
set_option maxRecDepth 100000
set_option maxHeartbeats 4000000
/-! EvT: what the top leaves, checked; the end. -/
namespace EV
open PySem PySem.Spec PyProof.Rows L2

/-! ### constants of the top -/
def rpsB (f : PV → Value → Bool) : List PV → List Value → Bool
  | [], [] => true
  | p :: ps, u :: us => f p u && rpsB f ps us
  | _, _ => false
def rpB (K : PySem.W.Frag) : Nat → PV → Value → Bool
  | 0 => fun _ _ => false
  | n + 1 => fun p u => match p with
    | .non => (match u with
      | .none => true
      | _ => false)
    | .bl b => (match u with
      | .bool c => b == c
      | _ => false)
    | .int i => (match u with
      | .int j _ => decide (i = j)
      | _ => false)
    | .str x => (match u with
      | .str y _ => decide (x = y)
      | _ => false)
    | .tup ps => (match u with
      | .ref a => (match K.lookup a with
        | some ⟨.type c, _, .seq its _, _⟩ => decide (c = "tuple") && (decide (its.size ≤ sizeLine) && rpsB (rpB K n) ps its.toList)
        | _ => false)
      | _ => false)
    | .fl ps => (match u with
      | .ref a => (match K.lookup a with
        | some ⟨.type c, none, .seq its _, _⟩ => decide (c = "list") && (decide (its.size ≤ sizeLine) && rpsB (rpB K n) ps its.toList)
        | _ => false)
      | _ => false)
    | _ => false
theorem ba {a b : Bool} (h : (a && b) = true) : a = true ∧ b = true := Bool.and_eq_true_iff.mp h
def RpOk (K : PySem.W.Frag) (p : PV) (u : Value) : Prop := ∃ v, RelV v u ∧ ∀ (G : Nat → Addr) (A : Addr → Prop) (H : Hp), Rep K G A H v p
theorem rpsB_ok {K : PySem.W.Frag} {f : PV → Value → Bool} (hf : ∀ p u, f p u = true → RpOk K p u) : ∀ {ps : List PV} {us : List Value}, rpsB f ps us = true → ∃ vs, Vals vs us ∧ ∀ (G : Nat → Addr) (A : Addr → Prop) (H : Hp), Reps K G A H vs ps
  | [], [], _ => ⟨[], .nil, fun _ _ _ => .nil⟩
  | [], _ :: _, h => by cases h
  | _ :: _, [], h => by cases h
  | p :: ps, u :: us, h => by
    obtain ⟨h1, h2⟩ := ba (show (f p u && rpsB f ps us) = true from h)
    obtain ⟨v, r, R⟩ := hf p u h1
    obtain ⟨vs, rs, Rs⟩ := rpsB_ok hf h2
    exact ⟨v :: vs, .cons r rs, fun G A H => .cons (R G A H) (Rs G A H)⟩
theorem rpB_ok {K : PySem.W.Frag} : ∀ (n : Nat) (p : PV) (u : Value), rpB K n p u = true → RpOk K p u
  | 0, p, u, h => by cases h
  | n + 1, p, u, h => by
    unfold rpB at h
    cases p with
    | non =>
      cases u with
      | none => exact ⟨.non, rfl, fun _ _ _ => .non⟩
      | _ => cases h
    | bl b =>
      cases u with
      | bool c =>
        have e : b = c := eq_of_beq (show (b == c) = true from h)
        rw [← e]
        exact ⟨.bl b, rfl, fun _ _ _ => .bl b⟩
      | _ => cases h
    | int i =>
      cases u with
      | int j t =>
        have e : i = j := of_decide_eq_true h
        exact ⟨.int i, ⟨t, by rw [e]⟩, fun _ _ _ => .int i⟩
      | _ => cases h
    | str x =>
      cases u with
      | str y t =>
        have e : x = y := of_decide_eq_true h
        exact ⟨.str x, ⟨t, by rw [e]⟩, fun _ _ _ => .str x⟩
      | _ => cases h
    | tup ps =>
      cases u with
      | ref a =>
        dsimp only at h
        cases q : K.lookup a with
        | none => rw [q] at h; cases h
        | some o =>
          obtain ⟨oc, od, dt, osl⟩ := o
          rw [q] at h
          cases oc with
          | type c =>
            cases dt with
            | seq its m =>
              obtain ⟨h1, h2⟩ := ba h
              obtain ⟨h3, h4⟩ := ba h2
              obtain ⟨vs, rs, Rs⟩ := rpsB_ok (rpB_ok n) h4
              exact ⟨.ref a, rfl, fun G A H => .tupK ⟨_, its, m, q, congrArg Value.type (of_decide_eq_true h1), rfl, of_decide_eq_true h3, rs⟩ (Rs G A H)⟩
            | _ => cases h
          | _ => cases dt <;> cases h
      | _ => cases h
    | fl ps =>
      cases u with
      | ref a =>
        dsimp only at h
        cases q : K.lookup a with
        | none => rw [q] at h; cases h
        | some o =>
          obtain ⟨oc, od, dt, osl⟩ := o
          rw [q] at h
          cases oc with
          | type c =>
            cases od with
            | none =>
              cases dt with
              | seq its m =>
                obtain ⟨h1, h2⟩ := ba h
                obtain ⟨h3, h4⟩ := ba h2
                obtain ⟨vs, rs, Rs⟩ := rpsB_ok (rpB_ok n) h4
                exact ⟨.ref a, rfl, fun G A H => .flK ⟨_, its, m, q, congrArg Value.type (of_decide_eq_true h1), rfl, rfl, of_decide_eq_true h3, rs⟩ (Rs G A H)⟩
              | _ => cases h
            | some d => cases dt <;> cases h
          | _ => cases od <;> cases dt <;> cases h
      | _ => cases h
    | _ => cases h
def cstB (K : PySem.W.Frag) (x : Str) (p : PV) : Bool := match PySem.W.nsIn K mainGlobals x with
  | some (some u) => rpB K 6 p u
  | _ => false
theorem cstB_ok {K : PySem.W.Frag} {h : Heap} {mg : Str → Option Value} {G : Nat → Addr} (X : K.In h) (N : h.Ns mainGlobals mg) {x : Str} {p : PV} (c : cstB K x p = true) : CstAt K G mg x p := by
  unfold cstB at c
  cases e : PySem.W.nsIn K mainGlobals x with
  | none => rw [e] at c; cases c
  | some o =>
    rw [e] at c
    cases o with
    | none => cases c
    | some u =>
      obtain ⟨v, r, R⟩ := rpB_ok 6 p u c
      exact ⟨v, u, PySem.W.mg_of X N e, r, fun A H => R G A H⟩
/-! ### exceptions of the top -/
def xB (K : PySem.W.Frag) (C : Addr) : Bool :=
  (PySem.W.excIn K C He.veBase "ValueError.__new__" && (PySem.W.keepIn K (.ref C) && (decide (PySem.W.subIn K (.ref C) (.type "BaseException") = some true) && decide (PySem.W.typeIn K (.ref C) = some (.type "type"))))) &&
  (He.eqO (PySem.W.findIn K (.ref C) "__getattribute__") (some (some (.builtin "BaseException.__getattribute__"))) && (He.eqO (PySem.W.findIn K (.ref C) "__getattr__") (some none) && (PySem.W.hasDictIn K C &&
  (He.eqO (PySem.W.findIn K (.ref C) "__class__") (some (some (.builtin "object.__class__"))) && (He.eqO (PySem.W.specialIn K (.builtin "object.__class__") "__get__") (some (some (.builtin "getset_descriptor.__get__"))) &&
  (decide (PySem.W.takesIn K (.builtin "object.__class__") = some true) && (decide (PySem.W.mroIn K C (.type "object") = some true) && decide (PySem.W.kitOne K (.ref C) (.type "ValueError") = some true))))))))
theorem xB_ok {K : PySem.W.Frag} {C : Addr} (h : xB K C = true) : ExAt K C ∧ IsVE K C := by
  obtain ⟨h1, h2⟩ := ba h
  obtain ⟨a1, h1⟩ := ba h1
  obtain ⟨a2, h1⟩ := ba h1
  obtain ⟨a3, a4⟩ := ba h1
  obtain ⟨b1, h2⟩ := ba h2
  obtain ⟨b2, h2⟩ := ba h2
  obtain ⟨b3, h2⟩ := ba h2
  obtain ⟨b4, h2⟩ := ba h2
  obtain ⟨b5, h2⟩ := ba h2
  obtain ⟨b6, h2⟩ := ba h2
  obtain ⟨b7, b8⟩ := ba h2
  exact ⟨⟨a1, a2, of_decide_eq_true a3, of_decide_eq_true a4⟩, ⟨⟨He.eqO_ok b1, He.eqO_ok b2, of_decide_eq_true a3, b3, He.eqO_ok b4, He.eqO_ok b5, of_decide_eq_true b6, of_decide_eq_true b7⟩, of_decide_eq_true b8⟩⟩
/-- numbers from lo on, up to hi -/
def Tp.xs (t : Tp) : List Nat := (List.range (t.hi - t.lo)).map (· + t.lo)
theorem Tp.isX_mem {t : Tp} {n : Nat} (h : t.isX n = true) : n ∈ t.xs := by
  unfold Tp.isX at h
  obtain ⟨h1, h2⟩ := ba h
  have h1 := Nat.le_of_ble_eq_true h1
  have h2 : n < t.hi := Nat.le_of_ble_eq_true h2
  unfold Tp.xs
  exact List.mem_map.mpr ⟨n - t.lo, List.mem_range.mpr (by omega), by omega⟩
def exOk (t : Tp) (K : PySem.W.Frag) : Bool := (t.csts.all fun q => cstB K q.1 q.2) && ((t.xs.all fun n => xB K (t.G K n)) && t.xs.all fun n => t.xs.all fun m => decide (PySem.W.exmOne K (.ref (t.G K n)) (.ref (t.G K m)) = some (n == m)))
def fas (t : Tp) : List He.Fa := t.nms.map .glo ++ t.bls.map .free
theorem fx_of {t : Tp} {K : PySem.W.Frag} {h : Heap} {mg : Str → Option Value} (X : K.In h) (N : h.Ns mainGlobals mg) (fa : ∀ f ∈ fas t, f.ok K = true) (ex : exOk t K = true) : Fx t K mg := by
  obtain ⟨e1, e2⟩ := ba ex
  obtain ⟨e2, e3⟩ := ba e2
  refine ⟨fun n x hn => ?_, fun n x hn => ?_, fun n x p hn => ?_, fun n hn => ?_, fun n m hn hm => ?_⟩
  · have hg : t.G K n = He.ga K x := by
      unfold Tp.G
      rw [List.getD_eq_getElem?_getD, hn]; rfl
    rw [hg]
    exact He.glo_ok X N (fa _ (List.mem_append_left _ (List.mem_map.mpr ⟨x, List.mem_of_getElem? hn, rfl⟩)))
  · exact He.free_ok X N (fa _ (List.mem_append_right _ (List.mem_map.mpr ⟨x, List.mem_of_getElem? hn, rfl⟩)))
  · exact cstB_ok X N (List.all_eq_true.mp e1 (x, p) (List.mem_of_getElem? hn))
  · exact xB_ok (List.all_eq_true.mp e2 n (Tp.isX_mem hn))
  · exact of_decide_eq_true (List.all_eq_true.mp (List.all_eq_true.mp e3 n (Tp.isX_mem hn)) m (Tp.isX_mem hm))
/-! ### functions of the top -/
def dds (L : List Ent) : List He.DefD := L.map fun e => ⟨(e.nm, none), e.nm, e.nm, e.args, e.body, e.scope, [], []⟩
theorem dd_of {t : Tp} {L : List Ent} {fa : List He.Fa} {K : PySem.W.Frag} (c : He.SaysD fa (dds L) K) (hL : L.map (·.nm) = t.nms.take L.length) (n : Nat) (e : Ent) (h : L[n]? = some e) : ∃ fd, FunD K e.nm e.nm e.args e.body e.scope [] [] (t.G K n) fd := by
  have hd : (dds L)[n]? = some ⟨(e.nm, none), e.nm, e.nm, e.args, e.body, e.scope, [], []⟩ := by
    unfold dds
    rw [List.getElem?_map, h]; rfl
  have hn : t.nms[n]? = some e.nm := by
    have e1 : (L.map (·.nm))[n]? = some e.nm := by rw [List.getElem?_map, h]; rfl
    rw [hL, List.getElem?_take] at e1
    split at e1
    · exact e1
    · cases e1
  have hg : t.G K n = He.ga K e.nm := by
    unfold Tp.G
    rw [List.getD_eq_getElem?_getD, hn]; rfl
  rw [hg]
  exact c.def_ n hd
theorem EntOk.fn {L : List Ent} {P : Program} {w : World} {K : PySem.W.Frag} {mg : Str → Option Value} {base : Heap} {G : Nat → Addr} {n k : Nat} {e : Ent} {fd : FuncData} (E : EntOk L P w K mg base G n e) (he : L[n]? = some e) (F : FunD K e.nm e.nm e.args e.body e.scope [] [] (G n) fd) (ih : Lv L P w K mg base G k) :
    FnOk P w K mg base (L2.CX P w) (k + 1) (G n) fd e.ps (spOf K G (calls (tab L) (k + 1)) n e.ps.length e.d.io) :=
  def_ok (Φ := calls (tab L) k) (Φ' := calls (tab L) (k + 1)) (d := e.d) F E.S E.np E.ns (fun cdv A outer s H EE c h1 h2 hr => E.walk k ih (G n) cdv A outer s H EE c h1 h2 hr) (fun io ps => by
      show (match tab L n with
        | some d => d.run (calls (tab L) k) io ps
        | none => .stk) = _
      unfold tab
      rw [he]
      rfl)
/-! ### the end -/
def spLaw (K : PySem.W.Frag) (n : Nat) : Sp := fun vs H Q _ => ∃ (a : Addr) (ns : List Int), vs = [.ref a] ∧ ns.length ≤ n ∧ (∀ z ∈ ns, Builtin.Int.intBits z ≤ 1048576) ∧ SqL K H a (ns.map V.int) ∧ ∀ H', Q (.bl true) H'
theorem reps_ints {K : PySem.W.Frag} {G : Nat → Addr} {A : Addr → Prop} {H : Hp} : ∀ ns : List Int, Reps K G A H (ns.map V.int) (ns.map PV.int)
  | [] => .nil
  | n :: ns => .cons (.int n) (reps_ints ns)
theorem sp_law {K : PySem.W.Frag} {G : Nat → Addr} {Φ : CallT} {m n : Nat} (val : ∀ ns : List Int, ns.length ≤ n → (∀ z ∈ ns, Builtin.Int.intBits z ≤ 1048576) → Φ m none [.fl (ns.map .int)] = .ok (.v (.bl true)) []) (vs : List V) (H : Hp) (Q : VK) (E : XK) (h : spLaw K n vs H Q E) : spOf K G Φ m 1 false vs H Q E := by
  obtain ⟨a, ns, rfl, hl, hb, hS, hQ⟩ := h
  refine ⟨rfl, fun _ => False, fun _ z => z.elim, ?_⟩
  refine ⟨[.fl (ns.map .int)], .cons ?_ .nil, ?_⟩
  · rcases hS with hS | hS
    · exact .fl (fun z => z) hS (reps_ints ns)
    · exact .flK hS (reps_ints ns)
  · rw [val ns hl hb]
    intro x H' _ r
    cases r
    exact hQ H'
theorem ev_end {l : PySem.W.OpenLaw} {n k m : Nat} {q : Program} {loose : List Str} {d : DefRec} {L : List Ent} {t : Tp} {e : Ent} {lv : Nat}
    (hn : l.most = some n) (hn2 : n ≤ sizeLine) (hdf : d.params.defaults = []) (hr : Room (k + 1) callerA) (hL : L.map (·.nm) = t.nms.take L.length) (he : L[m]? = some e) (hps : e.ps = [("script" : Str)]) (hio : e.d.io = false) (hname : d.name = e.nm)
    (hm : t.nms[m]? = some e.nm)
    (ents : ∀ (w : World) (K : PySem.W.Frag) (mg : Str → Option Value) (base : Heap), Fx t K mg → (∀ (n : Nat) (e : Ent), L[n]? = some e → ∃ fd, FunD K e.nm e.nm e.args e.body e.scope [] [] (t.G K n) fd) → ∀ n e, L[n]? = some e → EntOk L l.prog w K mg base (t.G K) n e)
    (val : ∀ ns : List Int, ns.length ≤ n → (∀ z ∈ ns, Builtin.Int.intBits z ≤ 1048576) → calls (tab L) (k + 1) m none [.fl (ns.map .int)] = .ok (.v (.bl true)) []) :
    PySem.W.WalkO q loose (PySem.W.XL q []) (He.hookX lv (fas t) (dds L) [] [] (exOk t)).says l.row.toRowW d [] (fun f vs => PySem.call f vs) := by
  refine Att.attach_callB hn hdf fun w s₀ s₁ mg mb fa o pm cd doc a vs ns G Y ho hd hcd hmg hobj hints hlen hbits hg => ?_
  obtain ⟨K, KX, c⟩ := Y
  have F : Fx t K mg := fx_of KX G.T.g (fun f hf => c.t.d.facts hf) c.more
  have D := dd_of (t := t) c.t.d hL
  obtain ⟨fd, FD⟩ := D m e he
  have efa : t.G K m = fa := by
    have h1 := F.gl m e.nm hm
    rw [← hname, hmg] at h1
    cases h1
    rfl
  have bs : ∀ (s : Shared) (u : Value), BindsTo s fd ⟨[u], []⟩ [("script", u)] := fun s u => by
    have E := ents w K mg ({} : Heap) F D m e he
    have b := FunD.bindsA (ps := e.ps) FD E.bP s [u] (by rw [hps]; rfl)
    rw [hps] at b
    exact b
  have FN : ∀ base : Heap, K.In base → base.Ns mainGlobals mg → FnOk l.prog w K mg base (L2.CX l.prog w) (k + 1) fa fd ["script"] (spLaw K n) := fun base _ _ => by
    have E := ents w K mg base F D
    have f := (E m e he).fn he FD (lv_all E k)
    rw [hps, hio, efa] at f
    exact f.imp (sp_law val)
  exact law_call KX G.T.g G.T.b G.T.builtins G.T.nolimit hg hobj hints (Nat.le_trans hlen hn2) hr FN bs (fun H hO hS => ⟨a, ns, rfl, hlen, hbits, hS, fun _ => rfl⟩) fun H e s' hC => by
    obtain ⟨_, _, _, _, _, _, _, _, _, _, _, _, z⟩ := hC
    exact z
end EV


set_option Elab.async false
set_option linter.all false
set_option maxRecDepth 100000
set_option maxHeartbeats 4000000
/-! EvU: comprehensions of two clauses. -/
namespace EV
open PySem PySem.Spec PyProof.Rows L2

def compL2 (vs vs1 : List Nat) (g : Tg) (t : TDen) (it1 : IDen) (g1 : Tg) (t1 : TDen) (e : Den) : List PV → List PV → Ev → Out (List PV)
  | [], acc, ε => .ok acc ε
  | p :: ps, acc, ε => match g.set p ε with
    | none => .stk
    | some ε => (match t ε with
      | .ok true ε => (match it1 ε with
        | .ok qs ε => if acc.length + qs.length < sizeLine then (match compL vs1 g1 t1 e qs acc (wipeE ε vs1) with
          | .ok acc ε => compL2 vs vs1 g t it1 g1 t1 e ps acc (wipeE ε vs)
          | _ => .stk) else .stk
        | _ => .stk)
      | .ok false ε => compL2 vs vs1 g t it1 g1 t1 e ps acc (wipeE ε vs)
      | _ => .stk)
def cComp2 (vs vs1 : List Nat) (it : IDen) (g : Tg) (t : TDen) (it1 : IDen) (g1 : Tg) (t1 : TDen) (e : Den) : Den := fun ε => (it ε).bind fun ps ε =>
  if vs.any (fun v => isOwn ε[v]?) || !decide (ps.length < sizeLine) then .stk else
  match compL2 vs vs1 g t it1 g1 t1 e ps [] (wipeE ε vs) with
  | .ok acc ε' => .ok (.f acc) (back ε vs ε')
  | _ => .stk
/-- what the inner turns keep: all but D -/
structure ED (D : Addr) (σ : L2.St) (ε1 ε' : Ev) (σ' : L2.St) (H1 H' : Hp) : Prop where
  keep : ∀ b o, H1 b = some o → ¬ OwnAt ε1 σ b → b ≠ D → H' b = some o
  there : ∀ b, H' b = none → H1 b = none
  own : ∀ b, OwnAt ε' σ' b → OwnAt ε1 σ b
theorem ED.step {D : Addr} {σ σ' σ2 : L2.St} {ε1 ε' ε2 : Ev} {H1 H' H2 : Hp} (a : ED D σ ε1 ε' σ' H1 H') (k : ∀ b o, H' b = some o → ¬ OwnAt ε' σ' b → b ≠ D → H2 b = some o) (t : ∀ b, H2 b = none → H' b = none) (o : ∀ b, OwnAt ε2 σ2 b → OwnAt ε' σ' b) : ED D σ ε1 ε2 σ2 H1 H2 :=
  ⟨fun b u h n d => k b u (a.keep b u h n d) (fun q => n (a.own b q)) d, fun b h => a.there b (t b h), fun b q => a.own b (o b q)⟩
theorem wipe_tr {ε : Ev} {σ : L2.St} {H : Hp} (vs : List Nat) : Tr (OwnAt ε σ) (OwnAt (wipeE ε vs) (wipe σ vs)) H H := ⟨fun _ _ h _ => h, fun _ h => h, fun _ q => .inl q.wipe⟩
theorem in_turns {c : Fix} {T : List Addr} {ε1 εF : Ev} {σ : L2.St} {H1 : Hp} {vs : List Nat} {g : Tg} {t : TDen} {e : Den} {its acc0 accF : List PV} {J : It} {S : SrcT} {D : Addr} {Nx : Hp → Prop} {xs0 : List V}
    (R1 : SR c T ε1 σ H1) (s1 : S T ε1 σ H1) (I : ItS c J its S) (w2 : SrcW2 c S) (hg : ∀ i ∈ g.js, i ∈ vs) (hz : acc0.length + its.length < sizeLine) (hDT : D ∈ T) (hx0 : H1 D = some (.lst xs0)) (rx0 : Reps c.K c.G (c.A T ε1 σ) H1 xs0 acc0)
    (hc : compL vs g t e its acc0 (wipeE ε1 vs) = .ok accF εF)
    (fin : ∀ H', ED D σ ε1 εF (wipe σ vs) H1 H' → SR c T εF (wipe σ vs) H' → (∃ xs, H' D = some (.lst xs) ∧ Reps c.K c.G (c.A T εF (wipe σ vs)) H' xs accF) → S T εF (wipe σ vs) H' → Nx H') :
    ∃ Wm : Nat → Nat → Hp → Prop, (∃ m, Wm 0 m H1) ∧ ∀ i m H, Wm i m H →
      (J.stop i H ∧ Nx H) ∨ (J.go i H ∧ ∃ Nx1 : Hp → Prop, (∀ H', Nx1 H' → ∃ m', m' < m ∧ Wm (i + 1) m' H') ∧ ∀ x H', J.yld i H x H' → TGof c g x (wipe σ vs) H' fun σ2 H2 => wipe σ2 vs = wipe σ vs ∧ TTof c W0 t σ2 H2 fun b H3 =>
        if b = true then TEof c W0 e σ2 H3 fun y H4 => ∃ acc, H4 D = some (.lst acc) ∧ acc.length < sizeLine ∧ Nx1 (upd H4 D (.lst (acc ++ [y]))) else Nx1 H3) := by
  let In : Nat → Hp → Prop := fun i H' => ∃ ε' acc xs, SR c T ε' (wipe σ vs) H' ∧ H' D = some (.lst xs) ∧ Reps c.K c.G (c.A T ε' (wipe σ vs)) H' xs acc ∧ S T ε' (wipe σ vs) H' ∧ i ≤ its.length ∧ acc.length ≤ acc0.length + i ∧
    compL vs g t e (its.drop i) acc ε' = .ok accF εF ∧ ED D σ ε1 ε' (wipe σ vs) H1 H'
  have start : In 0 H1 :=
    ⟨wipeE ε1 vs, acc0, xs0, R1.wipe vs, hx0, rx0.through (wipe_tr vs) fun a h => .inl h, I.ok _ _ _ _ _ _ _ _ R1 (wipe_tr vs) (fun a h => .inl h) (fun a h => h) s1, Nat.zero_le _, Nat.le_refl _, by rw [List.drop_zero]; exact hc, ⟨fun _ _ h _ _ => h, fun _ h => h, fun _ q => q.wipe⟩⟩
  refine ⟨fun i m H => m = its.length - i ∧ In i H, ⟨_, rfl, start⟩, ?_⟩
  rintro i m H ⟨rfl, ε2, acc, xs, R2, hDx, rx, s2, hi, hacc, hcl, ew⟩
  by_cases hlt : i < its.length
  · refine .inr ⟨I.go _ _ _ _ i R2 s2 hlt, In (i + 1), fun H' q => ⟨its.length - (i + 1), by omega, rfl, q⟩, fun x H3 y => ?_⟩
    have hget : its[i]? = some its[i] := by simp [hlt]
    obtain ⟨k3, rp⟩ := I.yld _ _ _ _ i _ x H3 R2 s2 hget y
    have R3 := R2.kept k3
    rw [List.drop_eq_getElem_cons hlt] at hcl
    unfold compL at hcl
    cases eg : g.set its[i] ε2 with
    | none => rw [eg] at hcl; cases hcl
    | some ε4 =>
      rw [eg] at hcl
      dsimp only at hcl
      refine ⟨T, ε2, its[i], ε4, R3, rp, eg, fun σ4 R4 hO hl hs => ?_⟩
      have hw : wipe σ4 vs = wipe σ vs := wipe_same hl fun i hi => hs i fun z => hi (hg i z)
      have ew4 : ED D σ ε1 ε4 σ4 H1 H3 := ew.step (fun b o h _ _ => k3 b o h) (there_of k3) hO
      refine ⟨hw, T, ε4, R4, ?_⟩
      have later : ∀ {ε5 : Ev} {H5 : Hp}, SR c T ε5 σ4 H5 → ET σ4 ε4 ε5 H3 H5 → ED D σ ε1 ε5 σ4 H1 H5 ∧ H5 D = some (.lst xs) ∧ Reps c.K c.G (c.A T ε5 σ4) H5 xs acc ∧ S T ε5 σ4 H5 := fun {ε5 H5} R5 e5 => by
        have t4 : Tr (OwnAt ε2 (wipe σ vs)) (OwnAt ε4 σ4) H H3 := ⟨fun b o h _ => k3 b o h, there_of k3, fun b q => .inl (hO b q)⟩
        have t5 := t4.trans e5.tr
        exact ⟨ew4.step (fun b o h n _ => e5.keep b o h n) e5.there e5.own, e5.keep D _ (k3 D _ hDx) (R4.notOwn hDT), rx.through t5 fun a h => .inl h, I.ok _ _ _ _ _ _ _ _ R2 t5 (fun a h => .inl h) (fun a h => h) s2⟩
      cases et : t ε4 with
      | stk => rw [et] at hcl; cases hcl
      | exc n p ε' => rw [et] at hcl; cases hcl
      | ok k ε5 =>
        rw [et] at hcl
        intro b H5 e5 ⟨R5, ek⟩
        subst ek
        obtain ⟨ew5, hD5, rx5, s5⟩ := later R5 e5
        cases k with
        | false =>
          rw [if_neg Bool.false_ne_true]
          dsimp only at hcl
          have t6 : Tr (OwnAt ε5 σ4) (OwnAt (wipeE ε5 vs) (wipe σ vs)) H5 H5 := by rw [← hw]; exact wipe_tr vs
          exact ⟨wipeE ε5 vs, acc, xs, by rw [← hw]; exact R5.wipe vs, hD5, rx5.through t6 fun a h => .inl h, I.ok _ _ _ _ _ _ _ _ R5 t6 (fun a h => .inl h) (fun a h => h) s5, hlt, Nat.le_succ_of_le hacc, hcl, ew5.step (fun b o h _ _ => h) (fun _ h => h) fun b q => by rw [← hw] at q; exact q.wipe⟩
        | true =>
          rw [if_pos rfl]
          dsimp only at hcl
          refine ⟨T, ε5, R5, ?_⟩
          cases ee : e ε5 with
          | stk => rw [ee] at hcl; cases hcl
          | exc n p ε' => rw [ee] at hcl; cases hcl
          | ok r ε6 =>
            rw [ee] at hcl
            intro y H6 e6 ⟨r6, _⟩
            obtain ⟨R6, ry⟩ := r6.val
            obtain ⟨ew6, hD6, rx6, s6⟩ := later R6 (e5.trans e6)
            have hlx : xs.length < sizeLine := by
              rw [rx6.length]
              omega
            refine ⟨xs, hD6, hlx, ?_⟩
            have k7 : ∀ b o, H6 b = some o → ¬ c.A T ε6 σ4 b → upd H6 D (.lst (xs ++ [y])) b = some o := fun b o h n => by
              rw [upd_ne (fun z => n (by rw [z]; exact .inr (.inr hDT)))]; exact h
            have a7 : ∀ b, c.A T (wipeE ε6 vs) (wipe σ vs) b → c.A T ε6 σ4 b ∨ H6 b = none := fun b q => .inl (q.imp id fun q => q.imp (fun q => by rw [← hw] at q; exact q.wipe) id)
            refine ⟨wipeE ε6 vs, acc ++ [r.pv], xs ++ [y], by rw [← hw]; exact (R6.tmpWrite hDT).wipe vs, upd_same, (rx6.append (.cons ry .nil)).mono a7 k7, ?_, hlt, by rw [List.length_append]; exact Nat.succ_le_succ hacc, hcl, ?_⟩
            · have s7 := w2 _ _ _ _ D (xs ++ [y]) R6 s6 hDT
              have t7 : Tr (OwnAt ε6 σ4) (OwnAt (wipeE ε6 vs) (wipe σ vs)) (upd H6 D (.lst (xs ++ [y]))) (upd H6 D (.lst (xs ++ [y]))) := by rw [← hw]; exact wipe_tr vs
              exact I.ok _ _ _ _ _ _ _ _ (R6.tmpWrite hDT) t7 (fun a h => .inl h) (fun a h => h) s7
            · refine ⟨fun b o h n d => ?_, fun b h => ?_, fun b q => ew6.own b (by rw [← hw] at q; exact q.wipe)⟩
              · rw [upd_ne d]; exact ew6.keep b o h n d
              · by_cases q : b = D
                · rw [q, upd_same] at h; cases h
                · rw [upd_ne q] at h; exact ew6.there b h
  · have hd : its.drop i = [] := List.drop_eq_nil_of_le (by omega)
    rw [hd] at hcl
    unfold compL at hcl
    cases hcl
    exact .inl ⟨I.stop _ _ _ _ i R2 s2 (by omega), fin H ew R2 ⟨xs, hDx, rx⟩ s2⟩
theorem wipe_wipe (σ : L2.St) {vs vs1 : List Nat} (h : ∀ i ∈ vs1, i ∈ vs) : wipe (wipe σ vs1) vs = wipe σ vs := by
  refine List.ext_getElem? fun i => ?_
  rw [wipe_get, wipe_get, wipe_get]
  by_cases hm : i ∈ vs
  · rw [if_pos hm, if_pos hm]
    by_cases h1 : i ∈ vs1
    · rw [if_pos h1]
      cases σ[i]? <;> rfl
    · rw [if_neg h1]
  · rw [if_neg hm, if_neg hm, if_neg fun z => hm (h i z)]
/-- the turns of the outer clause -/
theorem comp2_turns {c : Fix} {T : List Addr} {ε1 εF : Ev} {σ : L2.St} {H1 : Hp} {vs vs1 : List Nat} {g g1 : Tg} {t t1 : TDen} {it1 : IDen} {e : Den} {its accF : List PV} {J : It} {S : SrcT} {D : Addr} {Qd : Hp → Prop}
    (R1 : SR c T ε1 σ H1) (s1 : S T ε1 σ H1) (I : ItS c J its S) (w2 : SrcW2 c S) (hg : ∀ i ∈ g.js, i ∈ vs) (hg1 : ∀ i ∈ g1.js, i ∈ vs1) (hv : ∀ i ∈ vs1, i ∈ vs) (hD : H1 D = none)
    (hc : compL2 vs vs1 g t it1 g1 t1 e its [] (wipeE ε1 vs) = .ok accF εF)
    (fin : ∀ H', EW σ ε1 εF (wipe σ vs) H1 H' → SR c (D :: T) εF (wipe σ vs) H' → (∃ xs, H' D = some (.lst xs) ∧ Reps c.K c.G (c.A (D :: T) εF (wipe σ vs)) H' xs accF) → Qd H') :
    ∃ Wm : Nat → Nat → Hp → Prop, (∃ m, Wm 0 m (upd H1 D (.lst []))) ∧ ∀ i m H, Wm i m H →
      (J.stop i H ∧ Qd H) ∨ (J.go i H ∧ ∃ Nx : Hp → Prop, (∀ H', Nx H' → ∃ m', m' < m ∧ Wm (i + 1) m' H') ∧ ∀ x H', J.yld i H x H' → TGof c g x (wipe σ vs) H' fun σ2 H2 => wipe σ2 vs = wipe σ vs ∧ TTof c W0 t σ2 H2 fun b H3 =>
        if b = true then TIof c W0 it1 σ2 H3 fun J1 H4 => ∃ W1 : Nat → Nat → Hp → Prop, (∃ m, W1 0 m H4) ∧ ∀ j k H, W1 j k H →
          (J1.stop j H ∧ Nx H) ∨ (J1.go j H ∧ ∃ Nx1 : Hp → Prop, (∀ H', Nx1 H' → ∃ k', k' < k ∧ W1 (j + 1) k' H') ∧ ∀ x H', J1.yld j H x H' → TGof c g1 x (wipe σ2 vs1) H' fun σ3 H5 => wipe σ3 vs1 = wipe σ2 vs1 ∧ TTof c W0 t1 σ3 H5 fun b H6 =>
            if b = true then TEof c W0 e σ3 H6 fun y H7 => ∃ acc, H7 D = some (.lst acc) ∧ acc.length < sizeLine ∧ Nx1 (upd H7 D (.lst (acc ++ [y]))) else Nx1 H6)
        else Nx H3) := by
  let In : Nat → Hp → Prop := fun i H' => ∃ ε' acc xs, SR c (D :: T) ε' (wipe σ vs) H' ∧ H' D = some (.lst xs) ∧ Reps c.K c.G (c.A (D :: T) ε' (wipe σ vs)) H' xs acc ∧ S (D :: T) ε' (wipe σ vs) H' ∧ i ≤ its.length ∧
    compL2 vs vs1 g t it1 g1 t1 e (its.drop i) acc ε' = .ok accF εF ∧ EW σ ε1 ε' (wipe σ vs) H1 H'
  have start : In 0 (upd H1 D (.lst [])) := by
    obtain ⟨h1, h2, h3⟩ := R1.grow (keep_upd hD) hD (H' := upd H1 D (.lst [])) (xs := []) upd_same
    have ew : EW σ ε1 (wipeE ε1 vs) (wipe σ vs) H1 (upd H1 D (.lst [])) := ⟨fun b o h _ => keep_upd hD b o h, there_of (keep_upd hD), fun b q => q.wipe⟩
    exact ⟨wipeE ε1 vs, [], [], h3.wipe vs, upd_same, .nil, I.ok T (D :: T) _ _ _ _ _ _ R1 ew.tr (fun a h => by
      rcases List.mem_cons.mp h with z | z
      · rw [z]; exact .inr hD
      · exact .inl z) (fun a h => List.mem_cons_of_mem _ h) s1, Nat.zero_le _, by rw [List.drop_zero]; exact hc, ew⟩
  refine ⟨fun i m H => m = its.length - i ∧ In i H, ⟨_, rfl, start⟩, ?_⟩
  rintro i m H ⟨rfl, ε2, acc, xs, R2, hDx, rx, s2, hi, hcl, ew⟩
  by_cases hlt : i < its.length
  · refine .inr ⟨I.go _ _ _ _ i R2 s2 hlt, In (i + 1), fun H' q => ⟨its.length - (i + 1), by omega, rfl, q⟩, fun x H3 y => ?_⟩
    have hget : its[i]? = some its[i] := by simp [hlt]
    obtain ⟨k3, rp⟩ := I.yld _ _ _ _ i _ x H3 R2 s2 hget y
    have R3 := R2.kept k3
    rw [List.drop_eq_getElem_cons hlt] at hcl
    unfold compL2 at hcl
    cases eg : g.set its[i] ε2 with
    | none => rw [eg] at hcl; cases hcl
    | some ε4 =>
      rw [eg] at hcl
      dsimp only at hcl
      refine ⟨D :: T, ε2, its[i], ε4, R3, rp, eg, fun σ4 R4 hO hl hs => ?_⟩
      have hw : wipe σ4 vs = wipe σ vs := wipe_same hl fun i hi => hs i fun z => hi (hg i z)
      have ew4 : EW σ ε1 ε4 σ4 H1 H3 := ew.step (fun b o h _ => k3 b o h) (there_of k3) hO
      refine ⟨hw, D :: T, ε4, R4, ?_⟩
      have later : ∀ {ε5 : Ev} {H5 : Hp}, SR c (D :: T) ε5 σ4 H5 → ET σ4 ε4 ε5 H3 H5 → EW σ ε1 ε5 σ4 H1 H5 ∧ H5 D = some (.lst xs) ∧ Reps c.K c.G (c.A (D :: T) ε5 σ4) H5 xs acc ∧ S (D :: T) ε5 σ4 H5 := fun {ε5 H5} R5 e5 => by
        have t4 : Tr (OwnAt ε2 (wipe σ vs)) (OwnAt ε4 σ4) H H3 := ⟨fun b o h _ => k3 b o h, there_of k3, fun b q => .inl (hO b q)⟩
        have t5 := t4.trans e5.tr
        exact ⟨ew4.step e5.keep e5.there e5.own, e5.keep D _ (k3 D _ hDx) (R4.notOwn List.mem_cons_self), rx.through t5 fun a h => .inl h, I.ok _ _ _ _ _ _ _ _ R2 t5 (fun a h => .inl h) (fun a h => h) s2⟩
      cases et : t ε4 with
      | stk => rw [et] at hcl; cases hcl
      | exc n p ε' => rw [et] at hcl; cases hcl
      | ok k ε5 =>
        rw [et] at hcl
        intro b H5 e5 ⟨R5, ek⟩
        subst ek
        obtain ⟨ew5, hD5, rx5, s5⟩ := later R5 e5
        cases k with
        | false =>
          rw [if_neg Bool.false_ne_true]
          dsimp only at hcl
          have t6 : Tr (OwnAt ε5 σ4) (OwnAt (wipeE ε5 vs) (wipe σ vs)) H5 H5 := by rw [← hw]; exact wipe_tr vs
          exact ⟨wipeE ε5 vs, acc, xs, by rw [← hw]; exact R5.wipe vs, hD5, rx5.through t6 fun a h => .inl h, I.ok _ _ _ _ _ _ _ _ R5 t6 (fun a h => .inl h) (fun a h => h) s5, hlt, hcl, ew5.step (fun b o h _ => h) (fun _ h => h) fun b q => by rw [← hw] at q; exact q.wipe⟩
        | true =>
          rw [if_pos rfl]
          dsimp only at hcl
          refine ⟨D :: T, ε5, R5, ?_⟩
          cases ei : it1 ε5 with
          | stk => rw [ei] at hcl; cases hcl
          | exc n p ε' => rw [ei] at hcl; cases hcl
          | ok qs ε6 =>
            rw [ei] at hcl
            dsimp only at hcl
            intro J1 H6 e6 ⟨R6, S1, q1, I1, w1⟩
            obtain ⟨ew6, hD6, rx6, s6⟩ := later R6 (e5.trans e6)
            by_cases hz : acc.length + qs.length < sizeLine
            · rw [if_pos hz] at hcl
              cases ec : compL vs1 g1 t1 e qs acc (wipeE ε6 vs1) with
              | stk => rw [ec] at hcl; cases hcl
              | exc n p ε' => rw [ec] at hcl; cases hcl
              | ok acc7 ε7 =>
                rw [ec] at hcl
                dsimp only at hcl
                refine in_turns (Nx := In (i + 1)) R6 q1 I1 w1 hg1 hz List.mem_cons_self hD6 rx6 ec fun H7 ed R7 ⟨xs7, hD7, rx7⟩ _ => ?_
                have ww : wipe (wipe σ4 vs1) vs = wipe σ vs := by rw [wipe_wipe σ4 hv, hw]
                have t8 : Tr (OwnAt ε7 (wipe σ4 vs1)) (OwnAt (wipeE ε7 vs) (wipe σ vs)) H7 H7 := by rw [← ww]; exact wipe_tr vs
                have ts : Tr (OwnAt ε6 σ4) (OwnAt ε7 (wipe σ4 vs1)) (upd H6 D (.lst xs7)) H7 := by
                  refine ⟨fun b o h n => ?_, fun b h => ?_, fun b q => .inl (ed.own b q)⟩
                  · by_cases z : b = D
                    · rw [z, upd_same] at h
                      rw [z, hD7]; exact h
                    · rw [upd_ne z] at h
                      exact ed.keep b o h n z
                  · by_cases z : b = D
                    · rw [z, hD7] at h; cases h
                    · rw [upd_ne z]; exact ed.there b h
                have s8 : S (D :: T) ε7 (wipe σ4 vs1) H7 := I.ok _ _ _ _ _ _ _ _ (R6.tmpWrite List.mem_cons_self) ts (fun a h => .inl h) (fun a h => h) (w2 _ _ _ _ D xs7 R6 s6 List.mem_cons_self)
                refine ⟨wipeE ε7 vs, acc7, xs7, by rw [← ww]; exact R7.wipe vs, hD7, rx7.through t8 fun a h => .inl h, I.ok _ _ _ _ _ _ _ _ R7 t8 (fun a h => .inl h) (fun a h => h) s8, hlt, hcl, ?_⟩
                refine ⟨fun b o h n => ?_, fun b h => ew6.there b (ed.there b h), fun b q => ew6.own b (ed.own b (by rw [← ww] at q; exact q.wipe))⟩
                exact ed.keep b o (ew6.keep b o h n) (fun q => n (ew6.own b q)) fun z => by rw [z, hD] at h; cases h
            · rw [if_neg hz] at hcl; cases hcl
  · have hd : its.drop i = [] := List.drop_eq_nil_of_le (by omega)
    rw [hd] at hcl
    unfold compL2 at hcl
    cases hcl
    exact .inl ⟨I.stop _ _ _ _ i R2 s2 (by omega), fin H ew R2 ⟨xs, hDx, rx⟩⟩
section
variable {X : Cx} {c : Fix} {W : WX} {elt tg iter tg1 iter1 : Expr} {ifs ifs1 : List Expr} {scope : Scope} {own : List (Str × Nat)} {pos : Pos} {it it1 : IDen} {g g1 : Tg} {t t1 : TDen} {e : Den} {k : Nat} {vs1 : List Nat}
theorem rd_comp2 {σ : L2.St} {H : Hp} {Q : VK} {vs : List Nat} (hj : ∀ i ∈ g.js, i ∈ vs) (hj1 : ∀ i ∈ g1.js, i ∈ vs1) (hv : ∀ i ∈ vs1, i ∈ vs) (h : TEof c W (cComp2 vs vs1 it g t it1 g1 t1 e) σ H Q) :
    tLc2 (TIof c W it) (TGof c g) (TTof c W0 t) (TIof c W0 it1) (TGof c g1) (TTof c W0 t1) (TEof c W0 e) vs vs1 σ H Q := by
  obtain ⟨T, ε, R, h⟩ := h
  refine ⟨T, ε, R, (Fin.bind (Ra := RlI c σ) h).mono fun J H1 ⟨its, ε1, e1, ⟨R1, S, s1, hI, w2⟩, h1⟩ D hD => ?_⟩
  by_cases hb : (vs.any (fun v => isOwn ε1[v]?) || !decide (its.length < sizeLine)) = true
  · rw [if_pos hb] at h1; exact h1.elim
  · rw [if_neg hb] at h1
    have hb : (vs.any (fun v => isOwn ε1[v]?) || !decide (its.length < sizeLine)) = false := by
      cases q : (vs.any (fun v => isOwn ε1[v]?) || !decide (its.length < sizeLine)) with
      | false => rfl
      | true => exact absurd q hb
    rw [Bool.or_eq_false_iff] at hb
    have hn := any_false hb.1
    cases ec : compL2 vs vs1 g t it1 g1 t1 e its [] (wipeE ε1 vs) with
    | stk => rw [ec] at h1; exact h1.elim
    | exc n p ε' => rw [ec] at h1; exact h1.elim
    | ok acc εF =>
      rw [ec] at h1
      refine comp2_turns (Qd := fun H' => Q (.ref D) H') R1 s1 hI w2 hj hj1 hv hD ec fun H' ew RF ⟨xs, hx, rx⟩ => ?_
      obtain ⟨R', hA, hE⟩ := R1.back RF hn hD ew
      have dT : D ∉ T := fun z => by
        obtain ⟨⟨ys, q⟩, _⟩ := R1.tmp D z
        rw [hD] at q; cases q
      refine Fin.at h1 (e1.trans hE) ⟨⟨D, xs, rfl, dT, R1.fresh0 hD, R', hx, rx.mono (fun b q => .inl (hA b q)) fun b o e _ => e⟩, fun b q => ?_⟩
      cases q
      exact e1.there D hD
/-- what stands within a block of two clauses -/
structure Blk2 (X : Cx) (c : Fix) (tg tg1 iter1 elt : Expr) (ifs ifs1 : List Expr) (scope : Scope) (own : List (Str × Nat)) (vs1 : List Nat) (g : Tg) (t : TDen) (it1 : IDen) (g1 : Tg) (t1 : TDen) (e : Den) : Prop where
  b : Blk X c tg elt ifs scope own g t e
  gj1 : ∀ i ∈ g1.js, i ∈ vs1
  v : ∀ i ∈ vs1, i ∈ own.map (·.2)
  hi1 : ∀ (s : Shared) (H : Hp) (C : Addr) (cl : List (Str × Addr)) (fp : List Addr), PI (X.blk s H scope (compEnvC scope cl C X.env) fp) tg1 iter1 (TIof c W0 it1)
  hg1 : ∀ (s : Shared) (H : Hp) (C : Addr) (cl : List (Str × Addr)) (fp : List Addr), PG (X.blk s H scope (compEnvC scope cl C X.env) fp) tg1 (TGof c g1)
  ht1 : ∀ (s : Shared) (H : Hp) (C : Addr) (cl : List (Str × Addr)) (fp : List Addr), PTs (X.blk s H scope (compEnvC scope cl C X.env) fp) ifs1 (TTof c W0 t1)
theorem mkBlk2 (gd : Good X c W k) (b : Blk X c tg elt ifs scope own g t e) (gj1 : ∀ i ∈ g1.js, i ∈ vs1) (v : ∀ i ∈ vs1, i ∈ own.map (·.2))
    (hi1 : ∀ (s : Shared) (H : Hp) (C : Addr) (cl : List (Str × Addr)) (fp : List Addr), Good (X.blk s H scope (compEnvC scope cl C X.env) fp) c W0 k → PI (X.blk s H scope (compEnvC scope cl C X.env) fp) tg1 iter1 (TIof c W0 it1))
    (hg1 : ∀ (s : Shared) (H : Hp) (C : Addr) (cl : List (Str × Addr)) (fp : List Addr), Good (X.blk s H scope (compEnvC scope cl C X.env) fp) c W0 k → PG (X.blk s H scope (compEnvC scope cl C X.env) fp) tg1 (TGof c g1))
    (ht1 : ∀ (s : Shared) (H : Hp) (C : Addr) (cl : List (Str × Addr)) (fp : List Addr), Good (X.blk s H scope (compEnvC scope cl C X.env) fp) c W0 k → PTs (X.blk s H scope (compEnvC scope cl C X.env) fp) ifs1 (TTof c W0 t1)) :
    Blk2 X c tg tg1 iter1 elt ifs ifs1 scope own vs1 g t it1 g1 t1 e :=
  ⟨b, gj1, v, fun s H C cl fp => hi1 s H C cl fp gd.blk, fun s H C cl fp => hg1 s H C cl fp gd.blk, fun s H C cl fp => ht1 s H C cl fp gd.blk⟩
theorem eLC2 (gd : Good X c W k) (hi : PI X tg iter (TIof c W it)) (b : Blk2 X c tg tg1 iter1 elt ifs ifs1 scope own vs1 g t it1 g1 t1 e) (hs : ∀ x, foldedSetIterable iter X.env x = pure x := by intro _; rfl) (hs1 : ∀ env x, foldedSetIterable iter1 env x = pure x := by intro _ _; rfl) :
    PE X (.ListComp elt [⟨tg, iter, ifs, 0⟩, ⟨tg1, iter1, ifs1, 0⟩] scope pos) (TEof c W (cComp2 (own.map (·.2)) vs1 it g t it1 g1 t1 e)) :=
  ⟨fun pins s σ H Q I h => (pe_lc2 gd.calm gd.nd hi b.b.ok b.v b.b.hg b.b.ht b.hi1 b.hg1 b.ht1 b.b.he hs hs1).run pins s σ H Q I (rd_comp2 b.b.gj b.gj1 b.v h)⟩
end
end EV


set_option Elab.async false
set_option linter.all false
set_option maxRecDepth 100000
set_option maxHeartbeats 4000000
/-! EvV: sorting. -/
namespace EV
section
variable {α : Type}
/-! ### sorted, by hand -/
def insT (lt : α → α → Bool) (x : α) : List α → List α
  | [] => [x]
  | y :: ys => bif lt y x then y :: insT lt x ys else x :: y :: ys
def srt (lt : α → α → Bool) : List α → List α
  | [] => []
  | x :: xs => insT lt x (srt lt xs)
theorem ins_perm (lt : α → α → Bool) (x : α) : ∀ l, (insT lt x l).Perm (x :: l)
  | [] => List.Perm.refl _
  | y :: ys => by
    unfold insT
    cases lt y x with
    | true => exact ((ins_perm lt x ys).cons y).trans (List.Perm.swap x y ys)
    | false => exact List.Perm.refl _
theorem srt_perm (lt : α → α → Bool) : ∀ l, (srt lt l).Perm l
  | [] => List.Perm.refl _
  | x :: xs => (ins_perm lt x _).trans ((srt_perm lt xs).cons x)
theorem ins_sorted {lt : α → α → Bool} (O : SrtO.Swo lt) (x : α) : ∀ {l : List α}, SrtO.Srtd lt l → SrtO.Srtd lt (insT lt x l)
  | [], _ => SrtO.srtd_one x
  | y :: ys, h => by
    have h2 := SrtO.srtd_head h
    have h3 := (List.pairwise_cons.mp h).2
    unfold insT
    cases e : lt y x with
    | true =>
      refine List.pairwise_cons.mpr ⟨fun z hz => ?_, ins_sorted O x h3⟩
      rcases List.mem_cons.mp ((ins_perm lt x ys).mem_iff.mp hz) with q | q
      · rw [q]; exact O.asym y x e
      · exact h2 z q
    | false =>
      refine List.pairwise_cons.mpr ⟨fun z hz => ?_, h⟩
      rcases List.mem_cons.mp hz with q | q
      · rw [q]; exact e
      · exact O.tr x y z e (h2 z q)
theorem srt_sorted {lt : α → α → Bool} (O : SrtO.Swo lt) : ∀ l, SrtO.Srtd lt (srt lt l)
  | [] => List.Pairwise.nil
  | x :: xs => ins_sorted O x (srt_sorted O xs)
theorem srt_uniq {lt : α → α → Bool} (anti : ∀ x y, lt x y = false → lt y x = false → x = y) : ∀ {l m : List α}, SrtO.Srtd lt l → SrtO.Srtd lt m → l.Perm m → l = m
  | [], m, _, _, h => (List.Perm.eq_nil h.symm).symm
  | x :: l, [], _, _, h => absurd h.length_eq (by simp)
  | x :: l, y :: m, hl, hm, h => by
    have e : x = y := by
      have h1 : lt x y = false ∨ x = y := by
        rcases List.mem_cons.mp (h.mem_iff.mp (List.mem_cons_self (a := x) (l := l))) with e | hx
        · exact .inr e
        · exact .inl (SrtO.srtd_head hm x hx)
      have h2 : lt y x = false ∨ x = y := by
        rcases List.mem_cons.mp (h.mem_iff.mpr (List.mem_cons_self (a := y) (l := m))) with e | hy
        · exact .inr e.symm
        · exact .inl (SrtO.srtd_head hl y hy)
      rcases h1 with h1 | h1
      · rcases h2 with h2 | h2
        · exact anti x y h1 h2
        · exact h2
      · exact h1
    subst e
    rw [srt_uniq anti (List.pairwise_cons.mp hl).2 (List.pairwise_cons.mp hm).2 h.cons_inv]
theorem srt_eq {lt : α → α → Bool} (O : SrtO.Swo lt) (anti : ∀ x y, lt x y = false → lt y x = false → x = y) {l m : List α} (h : SrtO.Srtd lt l) (p : l.Perm m) : l = srt lt m :=
  srt_uniq anti h (srt_sorted O m) (p.trans (srt_perm lt m).symm)
end
/-! ### tuples of ints in the order of their ints -/
def ltLs : List Int → List Int → Bool
  | _, [] => false
  | [], _ :: _ => true
  | a :: as, b :: bs => if a = b then ltLs as bs else decide (a < b)
theorem lex_tri : ∀ x y : List Int, ltLs x y = true ∨ x = y ∨ ltLs y x = true
  | [], [] => .inr (.inl rfl)
  | [], _ :: _ => .inl rfl
  | _ :: _, [] => .inr (.inr rfl)
  | a :: as, b :: bs => by
    unfold ltLs
    by_cases e : a = b
    · subst e
      rw [if_pos rfl, if_pos rfl]
      rcases lex_tri as bs with h | h | h
      · exact .inl h
      · exact .inr (.inl (by rw [h]))
      · exact .inr (.inr h)
    · rw [if_neg e, if_neg fun z => e z.symm]
      rcases Int.lt_or_gt_of_ne e with h | h
      · exact .inl (decide_eq_true h)
      · exact .inr (.inr (decide_eq_true h))
theorem lex_trans : ∀ {x y z : List Int}, ltLs x y = true → ltLs y z = true → ltLs x z = true
  | [], [], _, h, _ => by cases h
  | _ :: _, [], _, h, _ => by cases h
  | _, _ :: _, [], _, h => by cases h
  | [], _ :: _, _ :: _, _, _ => rfl
  | a :: as, b :: bs, c :: cs, h1, h2 => by
    unfold ltLs at h1 h2 ⊢
    by_cases e1 : a = b
    · subst e1
      rw [if_pos rfl] at h1
      by_cases e2 : a = c
      · subst e2
        rw [if_pos rfl] at h2 ⊢
        exact lex_trans h1 h2
      · rw [if_neg e2] at h2 ⊢
        exact h2
    · rw [if_neg e1] at h1
      have h1 := of_decide_eq_true h1
      by_cases e2 : b = c
      · subst e2
        rw [if_neg e1]
        exact decide_eq_true h1
      · rw [if_neg e2] at h2
        have h2 := of_decide_eq_true h2
        rw [if_neg (by omega)]
        exact decide_eq_true (by omega)
theorem lex_irr : ∀ x : List Int, ltLs x x = false
  | [] => rfl
  | a :: as => by unfold ltLs; rw [if_pos rfl]; exact lex_irr as
theorem lex_asym {x y : List Int} (h : ltLs x y = true) : ltLs y x = false := by
  cases e : ltLs y x with
  | false => rfl
  | true => have := lex_trans h e; rw [lex_irr] at this; cases this
theorem lex_anti (x y : List Int) (h1 : ltLs x y = false) (h2 : ltLs y x = false) : x = y := by
  rcases lex_tri x y with h | h | h
  · rw [h1] at h; cases h
  · exact h
  · rw [h2] at h; cases h
theorem swo_lexB {β : Type} (k : β → List Int) : SrtO.Swo fun x y => ltLs (k x) (k y) := by
  refine ⟨fun x y h => lex_asym h, fun x y z h1 h2 => ?_⟩
  cases e : ltLs (k z) (k x) with
  | false => rfl
  | true =>
    rcases lex_tri (k x) (k y) with h | h | h
    · have := lex_trans e h; rw [h2] at this; cases this
    · rw [h] at e; rw [h2] at e; cases e
    · rw [h1] at h; cases h
def ltI (a b : Int) : Bool := decide (a < b)
theorem swo_ltI : SrtO.Swo ltI := by
  refine ⟨fun x y h => ?_, fun x y z h1 h2 => ?_⟩
  · have := of_decide_eq_true (p := x < y) h
    exact decide_eq_false (p := y < x) (by omega)
  · have := of_decide_eq_false (p := y < x) h1
    have := of_decide_eq_false (p := z < y) h2
    exact decide_eq_false (p := z < x) (by omega)
theorem ltI_anti (x y : Int) (h1 : ltI x y = false) (h2 : ltI y x = false) : x = y := by
  have := of_decide_eq_false (p := x < y) h1
  have := of_decide_eq_false (p := y < x) h2
  omega
theorem srt_ints {l m : List Int} (h : l.Pairwise (· ≤ ·)) (p : l.Perm m) : l = srt ltI m :=
  srt_eq swo_ltI ltI_anti (h.imp fun {x y} q => decide_eq_false (p := y < x) (by omega)) p
/-- the sort can tell their kind: the first is empty, or none is -/
def okK : List (List Int) → Bool
  | [] => true
  | t :: ts => t.isEmpty || ((t :: ts).all fun t => !t.isEmpty)
end EV
/-! ### at the library's level -/
namespace SX
open PySem PyProof.Rows Srt EV
section
variable {prog : Program} {w : World} {A : Around} {E : Value → Shared → Prop} {s : Shared}
theorem collect_tup {l : Addr} {vs : List Value} {Q : List Value → Shared → Prop} (hl : s.heap.IsTuple l vs.toArray) (hsz : vs.length ≤ sizeLine)
    (h : Q vs { s with heap := (s.heap.push (seqObj "list" #[] 0)).update s.heap.objs.size (Obj.mapSeq (· ++ vs.toArray)) }) : wpAny (model prog w) A (collect (.ref l)) Q E s := by
  obtain ⟨o, ho, hc, n, hd⟩ := id hl
  have ho' : (s.heap.push (seqObj "list" #[] 0)).get? l = some o := Heap.get?_push_of_some _ ho
  unfold collect
  refine wpAny_bind (wpAny_runValue (codeAny_builtin entry_proto_collect' ?_))
  show wpAny _ _ (do again (.builtin "list.__iadd__" ⟨[← newList [], .ref l], []⟩)) _ _ s
  refine wpAny_bind (wpAny_newList (wpAny_pure ⟨Code.quiet_builtin _ (by decide +kernel), codeAny_builtin entry_list_iadd' ?_⟩))
  show wpAny _ _ (Builtin.List.listExtendWith (.ref s.heap.objs.size) (.ref l) (.ref s.heap.objs.size)) _ _ { s with heap := s.heap.push (seqObj "list" #[] 0) }
  unfold Builtin.List.listExtendWith
  refine wpAny_bind (wpAny_typeOf (T := "tuple") ⟨o, ho', hc⟩ ?_)
  rw [if_pos (by rw [show (Value.type "tuple" == Value.type "tuple") = true from rfl]; simp)]
  refine wpAny_bind (listItems_at ho' hd ?_)
  refine wpAny_bind (listItems_at (xs := #[]) (n := 0) (Heap.get?_push_size _ rfl) rfl ?_)
  rw [if_neg (by simp)]
  refine wpAny_bind (listUpdate_at (xs := #[]) (n := 0) (Heap.get?_push_size _ rfl) rfl ?_ (Nat.zero_le _) (by show (#[] ++ vs.toArray).size ≤ sizeLine + 1; simp only [Array.size_append, List.size_toArray, List.length_nil]; omega))
  refine wpAny_pure ?_
  show wpAny (model prog w) A (do
      let o ← load s.heap.objs.size
      match o.data with
      | .seq xs _ => pure xs.toList
      | _ => unsupported "internal:collect") Q E { s with heap := (s.heap.push (seqObj "list" #[] 0)).update s.heap.objs.size (Obj.mapSeq (· ++ vs.toArray)) }
  refine wpAny_bind (wpAny_load (get?_update_seq (Heap.get?_push_size _ rfl) _) ?_)
  show wpAny _ _ (pure ((#[] : Array Value) ++ vs.toArray).toList) Q E _
  rw [show ((#[] : Array Value) ++ vs.toArray).toList = vs by simp]
  exact wpAny_pure h
/-- sorted(t), t a tuple -/
theorem sorted_ordT {l : Addr} {vs : List Value} {ltv : Value → Value → Bool} {Q : Value → Shared → Prop} (O : SrtO.Swo ltv) (hl : s.heap.IsTuple l vs.toArray) (hz : vs.length ≤ sizeLine)
    (hS : 2 ≤ vs.length → ∀ (h₁ : Heap) (a : Addr), h₁.get? a = some (seqObj "list" vs.toArray 0) → (∀ b o, s.heap.get? b = some o → b ≠ a ∧ h₁.get? b = some o) → SrtO.SortableO prog w A.in1.in1 { s with heap := h₁ } a vs ltv)
    (h : ∀ out : List Value, SrtO.Srtd ltv out → SrtO.Stb ltv out vs → Q (.ref (s.heap.objs.size + 1)) { s with heap := sortedAll s.heap vs out.toArray }) :
    wpAny (model prog w) A (call (.builtin "sorted") [.ref l]) Q E s := by
  refine Calls.call_function_entry kind_sorted plain_sorted entry_sorted (args_sorted1 _) ?_
  unfold Builtin.«sorted»
  refine wpAny_bind (m := checkCount "sorted" 1 1 _) (wpAny_pure ?_)
  refine wpAny_bind (collect_tup hl hz ?_)
  refine wpAny_bind (wpAny_newList ?_ hz)
  generalize hg : (s.heap.push (seqObj "list" #[] 0)).update s.heap.objs.size (Obj.mapSeq (· ++ vs.toArray)) = g
  have hsz : g.objs.size = s.heap.objs.size + 1 := by rw [← hg, Heap.size_update, size_push']
  have hoL : (g.push (seqObj "list" vs.toArray 0)).get? (s.heap.objs.size + 1) = some (seqObj "list" vs.toArray 0) := by
    rw [← hsz]; exact Heap.get?_push_size _ rfl
  have keep : ∀ b o, s.heap.get? b = some o → b ≠ s.heap.objs.size + 1 ∧ (g.push (seqObj "list" vs.toArray 0)).get? b = some o := fun b o q => by
    have hlt : b < s.heap.objs.size := Heap.lt_size q
    refine ⟨Nat.ne_of_lt (Nat.lt_succ_of_lt hlt), Heap.get?_push_of_some _ ?_⟩
    rw [← hg, Heap.get?_update_ne _ _ _ _ (Nat.ne_of_lt hlt)]
    exact Heap.get?_push_of_some _ q
  show wpAny _ _ _ _ _ { s with heap := g.push (seqObj "list" vs.toArray 0) }
  rw [hsz]
  refine wpAny_bind (wpAny_holding (wpAny_call_entry slot_list_sort ⟨_, hoL, rfl⟩ entry_list_sort (SrtO.list_sort_ord O hoL hz (fun h2 => hS h2 _ _ hoL keep) fun out hs hb => ⟨_, rfl, ?_⟩) (args_list_sort _)))
  rw [← hg]
  exact wpAny_pure ⟨_, rfl, h out hs hb⟩

/-! ### tuples of ints -/
abbrev TI := TS.TupInts
theorem ti_tup {h : Heap} {v : Value} {ns : List Int} (x : TI h v ns) : ∃ a o xs n, v = .ref a ∧ h.get? a = some o ∧ o.cls = .type "tuple" ∧ o.data = .seq xs n ∧ IntsAre xs.toList ns := by
  obtain ⟨a, xs, e, ⟨o, ho, hc, n, hd⟩, i⟩ := x
  exact ⟨a, o, xs, n, e, ho, hc, hd, i⟩
/-- the order with the end given -/
def lexF (fin : Bool) : List Int → List Int → Bool
  | a :: as, b :: bs => if a = b then lexF fin as bs else decide (a < b)
  | _, _ => fin
theorem lexF_eq : ∀ ns ms : List Int, lexF (decide (ns.length < ms.length)) ns ms = ltLs ns ms
  | [], [] => by simp [lexF, ltLs]
  | [], _ :: _ => by simp [lexF, ltLs]
  | _ :: _, [] => by simp [lexF, ltLs]
  | a :: as, b :: bs => by
    have ih := lexF_eq as bs
    have e : decide ((a :: as).length < (b :: bs).length) = decide (as.length < bs.length) := by simp
    unfold lexF ltLs
    rw [e, ih]
theorem kat_ints {b fin : Bool} {Q : Bool → Shared → Prop} : ∀ {xs ys : List Value} {ns ms : List Int} (i : Nat), IntsAre xs ns → IntsAre ys ms → Q (lexF fin ns ms) s → PySem.W.KatLex prog w A b fin Q (xs.zip ys) i s := by
  intro xs ys ns ms i hx
  induction hx generalizing ys ms i with
  | nil => exact fun _ h => PySem.W.kat_nil (by unfold lexF at h; exact h)
  | @cons p t xs ns hx ih =>
    intro hy
    cases hy with
    | nil => exact fun h => PySem.W.kat_nil (by unfold lexF at h; exact h)
    | @cons q u ys ms hy =>
      intro h
      show PySem.W.KatLex prog w A b fin Q ((Value.int p t, Value.int q u) :: xs.zip ys) i s
      refine PySem.W.kat_cons (wpAny_eqBool_int ?_)
      unfold lexF at h
      by_cases e : p = q
      · subst e
        rw [if_pos rfl] at h
        rw [beq_self_eq_true]
        exact PySem.W.kat_yes (ih (i + 1) hy h)
      · rw [if_neg e] at h
        rw [show (p == q) = false from beq_eq_false_iff_ne.mpr e]
        exact PySem.W.kat_no (TS.oneLt_ints _ h)
theorem cmp_tuples {vs : List Value} (x : ∀ v ∈ vs, ∃ ns, TI s.heap v ns) (k : Value → List Int) (hk : ∀ v ∈ vs, ∀ ns, TI s.heap v ns → k v = ns) : SrtO.Cmp prog w A s (tuples' true) (fun p => p.1 ∈ vs) (SrtO.lt2 fun v u => ltLs (k v) (k u)) := by
  intro p q hp hq
  obtain ⟨ns, hn⟩ := x _ hp
  obtain ⟨ms, hm⟩ := x _ hq
  show wpAny (model prog w) A (keyLt' (tuples' true) p.1 q.1) (fun r s' => s' = s ∧ r = ltLs (k p.1) (k q.1)) (fun _ _ => False) s
  rw [hk _ hp ns hn, hk _ hq ms hm]
  obtain ⟨a, o, xs, n, e, ho, hc, hd, i⟩ := ti_tup hn
  obtain ⟨a', o', ys, n', e', ho', hc', hd', i'⟩ := ti_tup hm
  rw [e, e']
  refine PySem.W.kat_lt ho hd ho' hd' (kat_ints 0 i i' ⟨rfl, ?_⟩)
  rw [show xs.size = ns.length by rw [← i.length, Array.length_toList], show ys.size = ms.length by rw [← i'.length, Array.length_toList], lexF_eq]
theorem kind_tuples {vs : List Value} {Q : SortKind → Shared → Prop} (h0 : 0 < vs.length) (x : ∀ v ∈ vs, ∃ n ns, TI s.heap v (n :: ns)) (h : Q (tuples' true) s) : wpAny (model prog w) A (keyKind' vs.toArray) Q E s := by
  have key : ∀ vs : List Value, (∀ v ∈ vs, ∃ n ns, TI s.heap v (n :: ns)) → ∃ fs, PySem.W.KatTups s.heap vs fs ∧ fs.length = vs.length ∧ ∀ f ∈ fs, ∃ n t, f = Value.int n t := fun vs => by
    induction vs with
    | nil => exact fun _ => ⟨[], PySem.W.KatTups.nil, rfl, fun f hf => by cases hf⟩
    | cons v vs ih =>
      intro x
      obtain ⟨fs, k, hl, hi⟩ := ih fun u hu => x u (List.mem_cons_of_mem _ hu)
      obtain ⟨m, ms, hm⟩ := x v List.mem_cons_self
      obtain ⟨a, o, xs, n, e, ho, hc, hd, i⟩ := ti_tup hm
      obtain ⟨ws⟩ := xs
      cases i with
      | @cons _ t ws' _ i =>
        refine ⟨.int m t :: fs, by rw [e]; exact PySem.W.KatTups.cons ho hc hd rfl k, by simp [hl], fun f hf => ?_⟩
        rcases List.mem_cons.mp hf with rfl | hf
        · exact ⟨m, t, rfl⟩
        · exact hi f hf
  obtain ⟨fs, k, hl, hi⟩ := key vs x
  refine PySem.W.kat_kind (T := Value.type "int") k (by omega) (fun f hf => ?_) rfl ?_
  · obtain ⟨n, t, rfl⟩ := hi f hf
    exact PySem.W.Looks.of_pure rfl
  · have e : (Value.type "int" != Value.type "tuple") = true := by first | decide +kernel | rfl
    rw [e]; exact h
theorem lex_at (ns ms : List Int) : ∀ (k i : Nat), i ≤ ns.length → i ≤ ms.length → k = min (ns.length - i) (ms.length - i) →
    Ob.lexAt (fun j => decide (ns.getD j 0 = ms.getD j 0)) (fun j => decide (ns.getD j 0 < ms.getD j 0)) (decide (ns.length < ms.length)) i k = ltLs (ns.drop i) (ms.drop i)
  | 0, i, h1, h2, hk => by
    rw [Ob.lexAt_zero]
    by_cases e : ms.length = i
    · rw [List.drop_of_length_le (l := ms) (by omega)]
      have : ltLs (ns.drop i) [] = false := by cases ns.drop i <;> rfl
      rw [this]
      exact decide_eq_false (by omega)
    · have e2 : ns.length = i := by omega
      rw [List.drop_of_length_le (l := ns) (by omega)]
      obtain ⟨b, bs, eb⟩ : ∃ b bs, ms.drop i = b :: bs := by
        cases q : ms.drop i with
        | nil => have := congrArg List.length q; rw [List.length_drop] at this; simp at this; omega
        | cons b bs => exact ⟨b, bs, rfl⟩
      rw [eb]
      exact decide_eq_true (by omega)
  | k + 1, i, h1, h2, hk => by
    have l1 : i < ns.length := by omega
    have l2 : i < ms.length := by omega
    rw [Ob.lexAt_succ, lex_at ns ms k (i + 1) (by omega) (by omega) (by omega), List.drop_eq_getElem_cons l1, List.drop_eq_getElem_cons l2]
    have g1 : ns.getD i 0 = ns[i] := by rw [List.getD_eq_getElem?_getD, List.getElem?_eq_getElem l1]; rfl
    have g2 : ms.getD i 0 = ms[i] := by rw [List.getD_eq_getElem?_getD, List.getElem?_eq_getElem l2]; rfl
    rw [g1, g2]
    show _ = (if ns[i] = ms[i] then ltLs (ns.drop (i + 1)) (ms.drop (i + 1)) else decide (ns[i] < ms[i]))
    by_cases e : ns[i] = ms[i]
    · rw [if_pos (decide_eq_true e), if_pos e]
    · rw [if_neg (by rw [decide_eq_true_eq]; exact e), if_neg e]
theorem ints_at {xs : List Value} {ns : List Int} (h : IntsAre xs ns) : ∀ j (hj : j < xs.length), ∃ t, xs[j] = .int (ns.getD j 0) t := by
  induction h with
  | nil => exact fun j hj => absurd hj (by simp)
  | @cons n t xs ns h ih =>
    intro j hj
    cases j with
    | zero => exact ⟨t, rfl⟩
    | succ j =>
      obtain ⟨t', e⟩ := ih j (by simpa using hj)
      exact ⟨t', by simpa using e⟩
theorem cmp_one {vs : List Value} (hu : A.units < cLine) (x : ∀ v ∈ vs, ∃ ns, TI s.heap v ns) (k : Value → List Int) (hk : ∀ v ∈ vs, ∀ ns, TI s.heap v ns → k v = ns) : SrtO.Cmp prog w A s oneType' (fun p => p.1 ∈ vs) (SrtO.lt2 fun v u => ltLs (k v) (k u)) := by
  intro p q hp hq
  obtain ⟨ns, hn⟩ := x _ hp
  obtain ⟨ms, hm⟩ := x _ hq
  show wpAny (model prog w) A (keyLt' oneType' p.1 q.1) (fun r s' => s' = s ∧ r = ltLs (k p.1) (k q.1)) (fun _ _ => False) s
  rw [hk _ hp ns hn, hk _ hq ms hm]
  obtain ⟨a, ⟨oc, od, dt, osl⟩, xs, n, e, ho, hc, hd, i⟩ := ti_tup hn
  obtain ⟨a', ⟨oc', od', dt', osl'⟩, ys, n', e', ho', hc', hd', i'⟩ := ti_tup hm
  dsimp only at hc hd hc' hd'
  subst hc hd hc' hd'
  have zx : xs.size = ns.length := by rw [← i.length, Array.length_toList]
  have zy : ys.size = ms.length := by rw [← i'.length, Array.length_toList]
  rw [e, e', keyLt'_oneType, oneLt'_eq]
  simp only [if_true]
  refine wpAny_bind (wpAny_cRoomFor hu ?_)
  refine wpAny_bind (wpAny_callSpecialIfBound?_slot ⟨_, ho, rfl⟩ (show Slot "tuple" "__lt__" "tuple.__lt__" from F.slot_tuple_lt) (call_meets (show Slot "tuple" "__lt__" "tuple.__lt__" from F.slot_tuple_lt) ⟨_, ho, rfl⟩ F.entry_tuple_lt (F.args_tuple_lt_2 _ _)
    (Ob.tuple_ltAt a a' xs ys n n' od od' osl osl' (fun j => decide (ns.getD j 0 = ms.getD j 0)) (fun j => decide (ns.getD j 0 < ms.getD j 0))) ⟨ho, ho', fun j h1 h2 => ?_, fun j h1 h2 _ => ?_, ?_⟩))
  · obtain ⟨t, e1⟩ := ints_at i j (by simpa using h1)
    obtain ⟨u, e2⟩ := ints_at i' j (by simpa using h2)
    have e1' : xs[j] = .int (ns.getD j 0) t := by rw [← e1, Array.getElem_toList]
    have e2' : ys[j] = .int (ms.getD j 0) u := by rw [← e2, Array.getElem_toList]
    rw [e1', e2']
    have := SeqAt.EqAt.int_int (A := A.in1) (s := s) (ns.getD j 0) t (ms.getD j 0) u
    exact this
  · obtain ⟨t, e1⟩ := ints_at i j (by simpa using h1)
    obtain ⟨u, e2⟩ := ints_at i' j (by simpa using h2)
    have e1' : xs[j] = .int (ns.getD j 0) t := by rw [← e1, Array.getElem_toList]
    have e2' : ys[j] = .int (ms.getD j 0) u := by rw [← e2, Array.getElem_toList]
    rw [e1', e2']
    exact Ob.RcOp.lt_int _ _ t u
  · rw [zx, zy, lex_at ns ms _ 0 (Nat.zero_le _) (Nat.zero_le _) (by rw [Nat.sub_zero, Nat.sub_zero]), List.drop_zero, List.drop_zero]
    exact wpAny_truthy_bool ⟨rfl, rfl⟩
theorem firsts_any {Q : List (Option Value) → Shared → Prop} : ∀ (vs : List Value), (∀ v ∈ vs, ∃ ns, TI s.heap v ns) → (∀ fs, Q fs s) → wpAny (model prog w) A (vs.mapM firstOfTuple') Q E s
  | [], _, h => by rw [List.mapM_nil]; exact wpAny_pure (h _)
  | v :: vs, x, h => by
    obtain ⟨ns, hn⟩ := x v List.mem_cons_self
    obtain ⟨a, o, xs, n, rfl, ho, hc, hd, i⟩ := ti_tup hn
    rw [List.mapM_cons]
    refine wpAny_bind ?_
    rw [PySem.W.kas_first_eq]
    refine wpAny_bind (PySem.W.Looks.here (show PySem.W.Looks _ s.heap (typeOf (.ref a)) o.cls from (PySem.W.Looks.ld ho).andThen .now) ?_)
    rw [hc, if_neg (by first | decide | simp)]
    refine wpAny_bind (listItems_at ho hd (wpAny_pure ?_))
    exact wpAny_bind (firsts_any vs (Q := fun bs s' => wpAny (model prog w) A (pure (xs[0]? :: bs)) Q E s') (fun u hu => x u (List.mem_cons_of_mem _ hu)) fun fs => wpAny_pure (h _))
theorem kind_one {v : Value} {vs : List Value} {Q : SortKind → Shared → Prop} (h0 : TI s.heap v []) (x : ∀ u ∈ vs, ∃ ns, TI s.heap u ns) (h : Q oneType' s) : wpAny (model prog w) A (keyKind' (v :: vs).toArray) Q E s := by
  have ty : ∀ u ∈ v :: vs, PySem.W.Looks (model prog w) s.heap (typeOf u) (.type "tuple") := fun u hu => by
    have : ∃ ns, TI s.heap u ns := by
      rcases List.mem_cons.mp hu with e | hu
      · rw [e]; exact ⟨_, h0⟩
      · exact x u hu
    obtain ⟨ns, hn⟩ := this
    obtain ⟨a, o, xs, n, rfl, ho, hc, hd, i⟩ := ti_tup hn
    have := (show PySem.W.Looks (model prog w) s.heap (typeOf (.ref a)) o.cls from (PySem.W.Looks.ld ho).andThen .now)
    rw [hc] at this
    exact this
  obtain ⟨a, o, xs, n, ev, ho, hc, hd, i⟩ := ti_tup h0
  have hx0 : xs[0]? = none := by
    obtain ⟨ws⟩ := xs
    cases i
    rfl
  rw [keyKind'_eq, List.mapM_toArray, map_eq_pure_bind]
  refine wpAny_bind (wpAny_bind ?_)
  rw [List.mapM_cons]
  refine wpAny_bind ?_
  rw [PySem.W.kas_first_eq]
  refine wpAny_bind ((ty v List.mem_cons_self).here ?_)
  rw [if_neg (by first | decide | simp), ev]
  refine wpAny_bind (listItems_at ho hd (wpAny_pure ?_))
  rw [hx0]
  refine wpAny_bind (firsts_any vs x fun fs => wpAny_pure (wpAny_pure ?_))
  rw [if_neg (by simp), if_neg (by simp)]
  rw [oneTypeOnly'_eq, List.mapM_toArray, map_eq_pure_bind]
  rw [← ev]
  refine wpAny_bind (wpAny_bind (wpAny_bind (PySem.W.kas_mapM (r := Value.type "tuple") _ (fun u hu Q' hq => (ty u hu).here hq) (wpAny_pure ?_))))
  have hall : ((List.map (fun _ => Value.type "tuple") (v :: vs)).toArray.all fun x => x == Value.type "tuple") = true := by
    simp only [List.all_toArray, List.all_map, List.all_eq_true]
    intro _ _
    rfl
  have h00 : (List.map (fun _ => Value.type "tuple") (v :: vs)).toArray[0]? = some (Value.type "tuple") := by simp
  rw [h00]
  simp only [hall, if_true]
  exact wpAny_pure (wpAny_pure h)
theorem sorted_tupsL {l : Addr} {vs : List Value} {Q : Value → Shared → Prop} (hl : s.heap.IsList l vs.toArray) (hz : vs.length ≤ sizeLine) (hu : A.units + 8 < cLine) (x : ∀ v ∈ vs, ∃ ns, TI s.heap v ns) (hk : okK (vs.map (TS.intsOf s.heap)) = true)
    (h : ∀ out : List Value, SrtO.Srtd (fun v u => ltLs (TS.intsOf s.heap v) (TS.intsOf s.heap u)) out → out.Perm vs → Q (.ref (s.heap.objs.size + 1)) { s with heap := sortedAll s.heap vs out.toArray }) :
    wpAny (model prog w) A (call (.builtin "sorted") [.ref l]) Q E s := by
  refine SrtO.sorted_ord (swo_lexB (TS.intsOf s.heap)) hl hz (fun h2 h₁ a ha kk h' keep => ?_) fun out hs hb => h out hs hb.perm
  have x' : ∀ v ∈ vs, ∃ ns, TI h' v ns ∧ TI s.heap v ns := fun v hv => by
    obtain ⟨ns, hn⟩ := x v hv
    exact ⟨ns, hn.keeps fun b o e _ => keep b o (kk b o e).1 (kk b o e).2, hn⟩
  have hk' : ∀ v ∈ vs, ∀ ns, TI h' v ns → TS.intsOf s.heap v = ns := fun v hv ns hn => by
    obtain ⟨ms, h1, h2⟩ := x' v hv
    rw [h2.ints, ← hn.ints, h1.ints]
  have xx : ∀ v ∈ vs, ∃ ns, TI h' v ns := fun v hv => let ⟨ns, h1, _⟩ := x' v hv; ⟨ns, h1⟩
  have u2 : A.in1.in1.units < cLine := by show A.units + 1 + 1 < cLine; omega
  cases vs with
  | nil => exact absurd h2 (by simp)
  | cons v vs =>
    have hk : ((TS.intsOf s.heap v).isEmpty || (((v :: vs).map (TS.intsOf s.heap)).all fun t => !t.isEmpty)) = true := hk
    rcases Bool.or_eq_true_iff.mp hk with he | hall
    · refine ⟨oneType', fun Q E hq => ?_, cmp_one (s := { s with heap := h' }) u2 xx _ hk'⟩
      obtain ⟨ns, h1, h2⟩ := x' v List.mem_cons_self
      have e0 : ns = [] := by
        rw [h2.ints] at he
        exact List.isEmpty_iff.mp he
      exact kind_one (s := { s with heap := h' }) (by rw [← e0]; exact h1) (fun u hu => xx u (List.mem_cons_of_mem _ hu)) hq
    · refine ⟨tuples' true, fun Q E hq => ?_, cmp_tuples (s := { s with heap := h' }) xx _ hk'⟩
      refine kind_tuples (s := { s with heap := h' }) (by simp) (fun u hu => ?_) hq
      obtain ⟨ns, h1, h2⟩ := x' u hu
      have := List.all_eq_true.mp hall _ (List.mem_map.mpr ⟨u, hu, rfl⟩)
      rw [h2.ints] at this
      cases ns with
      | nil => cases this
      | cons n ns => exact ⟨n, ns, h1⟩
end
end SX


set_option Elab.async false
set_option linter.all false
set_option maxRecDepth 100000
set_option maxHeartbeats 4000000
/-! EvW: sorted, dict(zip(..)), d[k], three names at once. -/
/-! ### sorted, as rules -/
namespace L2
open PySem PySem.Spec PyProof.Rows
/-- sorted(t), t a tuple of ints -/
def rSortedIT (K : PySem.W.Frag) : List V → Hp → VK → Prop := fun vs H Q => ∃ (a : Addr) (ns : List Int), vs = [V.ref a] ∧ SqT K H a (ns.map V.int) ∧
  ∀ (ns' : List Int) (p : Addr), ns'.Perm ns → ns'.Pairwise (· ≤ ·) → H p = none → Q (.ref p) (upd H p (.lst (ns'.map V.int)))
/-- sorted(xs), xs a list of tuples of ints of any lengths -/
def rSortedTT (K : PySem.W.Frag) : List V → Hp → VK → Prop := fun vs H Q => ∃ (a : Addr) (xs : List V) (ts : List (List Int)), vs = [V.ref a] ∧ SqL K H a xs ∧ Paired (fun x t => TupI K H x t) xs ts ∧ EV.okK ts = true ∧
  ∀ (ys : List V) (p : Addr), ys.Perm xs → ys.Pairwise (fun x y => ∀ n m, TupI K H x n → TupI K H y m → EV.ltLs m n = false) → H p = none → Q (.ref p) (upd H p (.lst ys))
section
variable {X : Cx}
theorem cr_sortedIT : CallR X (.builtin "sorted") (rSortedIT X.K) := by
  intro pins s σ H vs us Q I r h
  obtain ⟨a, ns, rfl, hs, q⟩ := h
  obtain ⟨its, rv, hl, hz⟩ := I.tuple hs
  rw [Vals.ref1 r]
  have hi := rv.ints
  refine SX.sorted_ordT SrtO.swo_int hl (by rw [← rv.length]; exact hz) (fun h2 h₁ a' _ _ => SrtO.ints_sortable hi h2) fun out h1 h2 => ?_
  obtain ⟨k1, k2, k3⟩ := SrtO.ints_out hi h1 h2
  obtain ⟨ep, he'⟩ := PyProof.Rows.sortedAll_at s.heap its out.toArray
  have hlen : ((out.map SrtO.iv).map V.int).length ≤ sizeLine := by
    rw [List.length_map, k2.length_eq]
    rw [List.length_map] at hz
    exact hz
  exact ⟨.ref _, upd H (s.heap.objs.size + 1) (.lst ((out.map SrtO.iv).map V.int)), I.laid (t' := s.toks) (fun _ _ => PyProof.Rows.sortedAll_old) (Nat.le_succ _) ⟨hlen, out, ep, vals_of_ints k1, he'⟩, rfl, q _ _ k2 k3 (I.hok.fresh (Nat.le_succ _))⟩
theorem cr_sortedTT (hu : X.A.units + 8 < cLine) : CallR X (.builtin "sorted") (rSortedTT X.K) := by
  intro pins s σ H vs us Q I r h
  obtain ⟨a, xs, ts, rfl, hs, hx, hk, q⟩ := h
  obtain ⟨its, rv, hl, hz⟩ := I.list hs
  rw [Vals.ref1 r]
  have hx1 : ∀ {xs : List V} {ts : List (List Int)}, Paired (fun x t => TupI X.K H x t) xs ts → ∀ x ∈ xs, ∃ t, TupI X.K H x t := fun {xs ts} h => by
    induction h with
    | nil => exact fun x hx => by cases hx
    | cons r _ ih =>
      intro x hx
      rcases List.mem_cons.mp hx with e | hx
      · rw [e]; exact ⟨_, r⟩
      · exact ih x hx
  obtain ⟨e1, e2⟩ := bkV_refs rv fun x m => by
    obtain ⟨ns, t, e, _⟩ := hx1 hx x m
    exact ⟨t, e⟩
  have tupAt : ∀ {u : Value} {n : List Int}, TupI X.K H (bkV u) n → TS.intsOf s.heap u = n := fun {u n} h => by
    obtain ⟨t, et, ht⟩ := h
    rw [bkV_ref et]
    exact (tupI_raw I ht).ints
  have hints : its.map (TS.intsOf s.heap) = ts := by
    have : ∀ {xs : List V} {ts : List (List Int)} {its : List Value}, Paired (fun x t => TupI X.K H x t) xs ts → xs = its.map bkV → its.map (TS.intsOf s.heap) = ts := fun {xs ts its} h => by
      induction h generalizing its with
      | nil =>
        intro e
        cases its with
        | nil => rfl
        | cons _ _ => cases e
      | cons r _ ih =>
        intro e
        cases its with
        | nil => cases e
        | cons u us =>
          rw [List.map_cons] at e
          injection e with h1 h2
          rw [List.map_cons, ih h2, tupAt (by rw [← h1]; exact r)]
    exact this hx e1
  refine SX.sorted_tupsL hl.isList (by rw [← rv.length]; exact hz) hu (fun v hv => ?_) (by rw [hints]; exact hk) fun out h1 h2 => ?_
  · obtain ⟨t, rfl⟩ := e2 v hv
    have hm : V.ref t ∈ xs := by
      rw [e1]
      exact List.mem_map.mpr ⟨_, hv, rfl⟩
    obtain ⟨ns, t', e, ht⟩ := hx1 hx _ hm
    cases e
    exact ⟨ns, tupI_raw I ht⟩
  · obtain ⟨ep, he'⟩ := PyProof.Rows.sortedAll_at s.heap its out.toArray
    have h3 : ∀ u ∈ out, ∃ a, u = Value.ref a := fun u hu => e2 u (h2.mem_iff.mp hu)
    have hp : (out.map bkV).Perm xs := by
      rw [e1]
      exact h2.map bkV
    have hlen : (out.map bkV).length ≤ sizeLine := by
      rw [hp.length_eq]
      exact hz
    refine ⟨.ref _, upd H (s.heap.objs.size + 1) (.lst (out.map bkV)), I.laid (t' := s.toks) (fun _ _ => PyProof.Rows.sortedAll_old) (Nat.le_succ _) ⟨hlen, out, ep, bkV_vals h3, he'⟩, rfl, q _ _ hp ?_ (I.hok.fresh (Nat.le_succ _))⟩
    rw [List.pairwise_map]
    refine List.Pairwise.imp (fun {u v} huv n m hn hm => ?_) h1
    rw [← tupAt hn, ← tupAt hm]
    exact huv
/-- dict(zip(xs, ys)) of two lists -/
def tDictZip (K : PySem.W.Frag) (ta : TA) : TE := fun σ H Q => ta σ H fun vs H1 => ∃ (l1 l2 : Addr) (ks : List Key) (xs : List V), vs = [.ref l1, .ref l2] ∧ SqL K H1 l1 (ks.map kV) ∧ SqL K H1 l2 xs ∧ ks.length = xs.length ∧
  ∀ p, H1 p = none → Q (.ref p) (upd H1 p (.dK (mergeK [] (ks.zip xs))))
theorem keysIn_at (P : Program) (w : World) : ∀ {ks : List Key} {us : List Value}, Vals (ks.map kV) us → ∀ (i : Nat) (u : Value), us[i]? = some u → ∃ k, ks[i]? = some k ∧ keyIs k u = true
  | [], us, r, i, u, h => by cases r; cases h
  | k :: ks, us, r, i, u, h => by
    rw [List.map_cons] at r
    cases r with
    | cons r t =>
      cases i with
      | zero => cases h; exact ⟨k, rfl, kV_is (P := P) (w := w) r⟩
      | succ i => exact keysIn_at P w t i u (by simpa using h)
theorem kv_zip : ∀ {ks : List Key} {xs : List V} {us : List Value}, Vals xs us → KV (ks.zip xs) (ks.zip us)
  | [], _, _, _ => .nil
  | _ :: _, _, _, .nil => .nil
  | k :: ks, _, _, .cons r t => .cons ⟨rfl, r⟩ (kv_zip t)
theorem pe_dictZip {a b : Expr} {ta : TA} {p p2 pos pos2 : Pos} (hc : X.calm = true) (hg1 : Gl X "dict") (hm1 : X.mg "dict" = none) (hv1 : bootBuiltins "dict" = some (.type "dict")) (hg2 : Gl X "zip") (hm2 : X.mg "zip" = none) (ha : PA X [a, b] ta)
    (hs1 : starEach [.Call (.Name "zip" p2) [a, b] [] pos2] X.env = (false, eval (.Call (.Name "zip" p2) [a, b] [] pos2) X.env) :: starEach [] X.env) (hpl1 : (backTo pos (starEach [] X.env)).any (·.1) = false)
    (hs : starEach [a, b] X.env = (false, eval a X.env) :: starEach [b] X.env) (hpl : (backTo pos2 (starEach [b] X.env)).any (·.1) = false) :
    PE X (.Call (.Name "dict" p) [.Call (.Name "zip" p2) [a, b] [] pos2] [] pos) (tDictZip X.K ta) := by
  refine ⟨fun pins s σ H Q I h => ?_⟩
  refine wpAny_Call_Name_kw (ld_blt I hg1 hm1 hv1 ?_ (by decide) (by decide))
  refine PyProof.Rows.callWith_type1 ?_ hs1 hpl1
  rw [hs1]
  show wpAny _ _ (spliced ((false, eval (.Call (.Name "zip" p2) [a, b] [] pos2) X.env) :: backTo pos (starEach [] X.env))) _ _ s
  refine Calls.spliced_cons ?_
  refine Call_ (ld_blt I hg2 hm2 PyProof.Rows.boot_zip (PyProof.Rows.callWith_type1 (thn (ha.run pos2 pins s σ H _ I h) fun us s1 ⟨vs, H1, I1, r1, q1⟩ => ?_) hs hpl))
  obtain ⟨l1, l2, ks, xs, ex, hqx, hqy, hlen, q⟩ := q1
  subst ex
  cases r1 with
  | cons r rr =>
    cases rr with
    | cons r' rr =>
      cases rr
      cases r
      cases r'
      obtain ⟨its, rv, p1, hz⟩ := I1.list hqx
      obtain ⟨its2, rv2, p2', hz2⟩ := I1.list hqy
      have la : l1 < s1.heap.objs.size := p1.lt
      have lb : l2 < s1.heap.objs.size := p2'.lt
      refine call_zip_2 p1.isList p2'.isList fun h' hz' hTI hTO h1 h2 hsz hk => ?_
      have ez : (backTo pos (starEach [] X.env)) = [] := by rfl
      rw [ez]
      refine Calls.spliced_nil ?_
      have n1 : its.toArray.size = ks.length := by
        have := rv.length
        rw [List.length_map] at this
        simp [this]
      have n2 : its2.toArray.size = xs.length := by
        have := rv2.length
        simp [this]
      refine PySem.call_dict_pairs (knd := mixKind X.prog X.w) (kvs := ks.zip its2) (PairArg.zip _ _ _ _ _ l1 l2 (PySem.W.ktu_apart s1.heap.objs.size l1 l2 la lb) its.toArray its2.toArray) (I1.ok.hd hc)
        ⟨hz', hTI, ⟨_, _, hTO⟩, h1, h2, p1.isList.at fun o e => hk _ o e, p2'.isList.at fun o e => hk _ o e⟩ ⟨?_, fun i key v ⟨e1, e2⟩ => ?_⟩ ?_ fun h'' tk hd hk2 => ?_
      · rw [List.length_zip, n1, n2, show its2.length = xs.length by rw [← n2]; simp]
      · obtain ⟨k, ek, ik⟩ := keysIn_at X.prog X.w rv i key (by simpa using e1)
        refine ⟨k, ?_, ik⟩
        rw [List.getElem?_zip_eq_some]
        exact ⟨ek, by simpa using e2⟩
      · rw [n1, n2]
        rw [List.length_map] at hz
        exact Nat.le_trans (Nat.min_le_left _ _) hz
      · have big : s1.heap.objs.size ≤ h'.objs.size := by rw [hsz]; omega
        have hm : (h'.objs.size == sysModules) = false := beq_eq_false_iff_ne.mpr (Nat.ne_of_gt (Nat.lt_of_lt_of_le I1.big big))
        have hl2 : (mergeK [] (ks.zip xs)).length ≤ sizeLine := by
          refine Nat.le_trans (length_mergeK (ks.zip xs) []) ?_
          rw [List.length_nil, Nat.zero_add, List.length_zip]
          rw [List.length_map] at hz
          exact Nat.le_trans (Nat.min_le_left _ _) hz
        have keep : ∀ b o, s1.heap.get? b = some o → h''.get? b = some o := fun b o e => by
          have lt := Heap.lt_size e
          refine hk2 b o (fun z => ?_) (hk b o e)
          have z : b = s1.heap.objs.size + 4 ∨ b = s1.heap.objs.size + 3 ∨ b = s1.heap.objs.size ∨ b = s1.heap.objs.size + 1 := by simpa using z
          rcases z with z | z | z | z
          · rw [z] at lt; exact absurd lt (Nat.not_lt.mpr (Nat.le_add_right _ _))
          · rw [z] at lt; exact absurd lt (Nat.not_lt.mpr (Nat.le_add_right _ _))
          · rw [z] at lt; exact absurd lt (Nat.lt_irrefl _)
          · rw [z] at lt; exact absurd lt (Nat.not_lt.mpr (Nat.le_add_right _ _))
        exact ⟨.ref h'.objs.size, upd H1 h'.objs.size (.dK (mergeK [] (ks.zip xs))), I1.laid (t' := tk) keep big (show ObjOk X.prog X.w _ _ _ (.dK (mergeK [] (ks.zip xs))) from ⟨hl2, hm, merged [] (ks.zip its2), KV.merge (kv_zip rv2) .nil, hd⟩), rfl, q _ (I1.hok.fresh big)⟩
end
end L2


set_option Elab.async false
set_option linter.all false
set_option maxRecDepth 100000
set_option maxHeartbeats 4000000
/-! EvX: sorted, dict(zip(..)), d[k], three names, as combinators. -/
namespace EV
open PySem PySem.Spec PyProof.Rows L2

/-! ### sorted -/
def intsP : List PV → Option (List Int)
  | [] => some []
  | .int i :: ps => (intsP ps).map (i :: ·)
  | _ => none
def tupsP : List PV → Option (List (List Int))
  | [] => some []
  | .tup qs :: ps => (intsP qs).bind fun t => (tupsP ps).map (t :: ·)
  | _ => none
def tupI (t : List Int) : PV := .tup (t.map .int)
def fSorted : List PV → Option Val
  | [p] => (itemsOf p).bind fun ps => match intsP ps with
    | some ns => some (.f ((srt ltI ns).map .int))
    | none => (lstOf p).bind fun ps => (tupsP ps).bind fun ts => match okK ts with
      | true => some (.f ((srt ltLs ts).map tupI))
      | false => none
  | _ => none
theorem intsP_eq : ∀ {ps : List PV} {ns : List Int}, intsP ps = some ns → ps = ns.map .int
  | [], _, h => by cases h; rfl
  | p :: ps, ns, h => by
    unfold intsP at h
    split at h
    · rename_i e; cases e
    · rename_i e
      cases e
      obtain ⟨ms, e1, rfl⟩ := Option.map_eq_some_iff.mp h
      rw [intsP_eq e1]; rfl
    · cases h
theorem tupsP_eq : ∀ {ps : List PV} {ts : List (List Int)}, tupsP ps = some ts → ps = ts.map tupI
  | [], _, h => by cases h; rfl
  | p :: ps, ns, h => by
    unfold tupsP at h
    split at h
    · rename_i e; cases e
    · rename_i e
      cases e
      obtain ⟨t, e0, h⟩ := Option.bind_eq_some_iff.mp h
      obtain ⟨ms, e1, rfl⟩ := Option.map_eq_some_iff.mp h
      rw [tupsP_eq e1, intsP_eq e0]; rfl
    · cases h
section
variable {K : PySem.W.Frag} {G : Nat → Addr} {A : Addr → Prop} {H : Hp}
theorem Reps.toInts : ∀ {xs : List V} {ns : List Int}, Reps K G A H xs (ns.map .int) → xs = ns.map V.int
  | _, [], .nil => rfl
  | _, n :: ns, .cons r t => by cases r; rw [Reps.toInts t]; rfl
theorem Reps.ofInts : ∀ ns : List Int, Reps K G A H (ns.map V.int) (ns.map .int)
  | [] => .nil
  | n :: ns => .cons (.int n) (Reps.ofInts ns)
theorem Rep.toTupI {x : V} {t : List Int} (r : Rep K G A H x (tupI t)) : TupI K H x t := by
  unfold tupI at r
  cases r with
  | tup na h r => exact ⟨_, rfl, by rw [r.toInts] at h; exact SqT.of h⟩
  | tupK h r => exact ⟨_, rfl, by rw [r.toInts] at h; exact .inr h⟩
theorem Reps.toTupI : ∀ {xs : List V} {ts : List (List Int)}, Reps K G A H xs (ts.map tupI) → Paired (fun x t => TupI K H x t) xs ts
  | _, [], .nil => .nil
  | _, t :: ts, .cons r q => .cons r.toTupI (Reps.toTupI q)
theorem Reps.perm : ∀ {xs ys : List V} {ps : List PV}, ys.Perm xs → Reps K G A H xs ps → ∃ qs, qs.Perm ps ∧ Reps K G A H ys qs := by
  intro xs ys ps h
  induction h generalizing ps with
  | nil => exact fun r => ⟨ps, List.Perm.refl _, r⟩
  | cons x _ ih =>
    intro r
    cases r with
    | cons r t =>
      obtain ⟨qs, h1, h2⟩ := ih t
      exact ⟨_ :: qs, h1.cons _, .cons r h2⟩
  | swap x y l =>
    intro r
    cases r with
    | cons r t => cases t with
      | cons r2 t => exact ⟨_, List.Perm.swap _ _ _, .cons r2 (.cons r t)⟩
  | trans _ _ ih1 ih2 =>
    intro r
    obtain ⟨qs, h1, h2⟩ := ih2 r
    obtain ⟨us, h3, h4⟩ := ih1 h2
    exact ⟨us, h3.trans h1, h4⟩
def unI : PV → List Int
  | .tup ps => (intsP ps).getD []
  | _ => []
theorem intsP_map : ∀ ns : List Int, intsP (ns.map .int) = some ns
  | [] => rfl
  | n :: ns => by show (intsP (ns.map .int)).map (n :: ·) = _; rw [intsP_map ns]; rfl
theorem unI_tup (t : List Int) : unI (tupI t) = t := by
  show (intsP (t.map .int)).getD [] = t
  rw [intsP_map]; rfl
theorem perm_tup {qs : List PV} {ts : List (List Int)} (h : qs.Perm (ts.map tupI)) : ∃ us : List (List Int), us.Perm ts ∧ qs = us.map tupI := by
  refine ⟨qs.map unI, ?_, ?_⟩
  · have := h.map unI
    rw [List.map_map, show (unI ∘ tupI) = id from funext unI_tup, List.map_id] at this
    exact this
  · rw [List.map_map]
    conv => lhs; rw [← List.map_id qs]
    refine List.map_congr_left fun q hq => ?_
    obtain ⟨t, _, rfl⟩ := List.mem_map.mp (h.mem_iff.mp hq)
    show tupI t = tupI (unI (tupI t))
    rw [unI_tup]
theorem pair_tup : ∀ {ys : List V} {us : List (List Int)}, Reps K G A H ys (us.map tupI) → ys.Pairwise (fun x y => ∀ n m, TupI K H x n → TupI K H y m → ltLs m n = false) → SrtO.Srtd ltLs us
  | _, [], .nil, _ => List.Pairwise.nil
  | y :: ys, u :: us, .cons r t, h => by
    obtain ⟨h1, h2⟩ := List.pairwise_cons.mp h
    refine List.pairwise_cons.mpr ⟨fun w hw => ?_, pair_tup t h2⟩
    have : ∀ {ys : List V} {us : List (List Int)}, Reps K G A H ys (us.map tupI) → ∀ w ∈ us, ∃ z ∈ ys, TupI K H z w := fun {ys us} q => by
      induction us generalizing ys with
      | nil => exact fun w hw => by cases hw
      | cons u us ih =>
        cases q with
        | cons r t =>
          intro w hw
          rcases List.mem_cons.mp hw with e | hw
          · rw [e]; exact ⟨_, List.mem_cons_self, r.toTupI⟩
          · obtain ⟨z, hz, hq⟩ := ih t w hw
            exact ⟨z, List.mem_cons_of_mem _ hz, hq⟩
    obtain ⟨z, hz, hq⟩ := this t w hw
    exact h1 z hz u w r.toTupI hq
end
section
variable {X : Cx} {c : Fix} {W : WX} {k : Nat}
def rSortB (K : PySem.W.Frag) : List V → Hp → VK → Prop := fun xs H Q => rSortedI K xs H Q ∨ (rSortedIT K xs H Q ∨ rSortedTT K xs H Q)
theorem call_sortB (g : Good X c W k) : CallR X (.builtin "sorted") (rSortB X.K) := cr_sortedI.or (cr_sortedIT.or (cr_sortedTT (by have := g.hr.units; omega)))
theorem s_sorted : SB X c fSorted (rSortB c.K) := fun T ε σ H xs ps res Q R rx h k => by
  unfold fSorted at h
  split at h
  · obtain ⟨its, e, h⟩ := Option.bind_eq_some_iff.mp h
    obtain ⟨x, rfl, r⟩ := rx.one
    split at h
    · rename_i ns ei
      cases h
      have ep := intsP_eq ei
      subst ep
      obtain ⟨a, ys, rfl, s1, r1⟩ := r.seq e
      have := r1.toInts
      subst this
      have fin : ∀ (ns' : List Int) (p : Addr), ns'.Perm ns → ns'.Pairwise (· ≤ ·) → H p = none → Q (.ref p) (upd H p (.lst (ns'.map V.int))) := fun ns' p h1 h2 hp => by
        rw [srt_ints h2 h1]
        exact giveL R k (Reps.ofInts _) p hp
      rcases s1 with s1 | s1
      · exact .inl ⟨a, ns, rfl, s1, fin⟩
      · exact .inr (.inl ⟨a, ns, rfl, s1, fin⟩)
    · obtain ⟨qs, e2, h⟩ := Option.bind_eq_some_iff.mp h
      obtain ⟨ts, e3, h⟩ := Option.bind_eq_some_iff.mp h
      split at h
      · rename_i hk
        cases h
        have ep := tupsP_eq e3
        subst ep
        obtain ⟨a, ys, rfl, s1, r1⟩ := r.seqL e2
        refine .inr (.inr ⟨a, ys, ts, rfl, s1, r1.toTupI, hk, fun zs p h1 h2 hp => ?_⟩)
        obtain ⟨us, h3, h4⟩ := r1.perm h1
        obtain ⟨ws, h5, rfl⟩ := perm_tup h3
        have h6 := pair_tup h4 h2
        have e7 : ws = srt ltLs ts := srt_eq (swo_lexB id) lex_anti h6 h5
        subst e7
        exact giveL R k h4 p hp
      · cases h
  · cases h
theorem lSorted (g : Good X c W k) : BlS X c (.builtin "sorted") fSorted := ⟨_, call_sortB g, g.K ▸ s_sorted⟩
end
theorem v_sorted : bootBuiltins "sorted" = some (.builtin "sorted") := by decide +kernel
theorem v_dict : bootBuiltins "dict" = some (.type "dict") := by decide +kernel

/-! ### dicts -/
def keyP : PV → Option Key
  | .int i => some (.inl i)
  | .str x => some (.inr x)
  | _ => none
def keysP : List PV → Option (List Key)
  | [] => some []
  | p :: ps => (keyP p).bind fun k => (keysP ps).map (k :: ·)
def valP : List Key → List PV → Key → Option PV
  | k :: ks, p :: ps, q => if k = q then some p else valP ks ps q
  | _, _, _ => none
def cDictZ (as : ADen) : Den := fun ε => (as ε).bind fun ps ε => match ps with
  | [p, q] => (match lstOf p, lstOf q with
    | some us, some vs => (match keysP us with
      | some ks => if ks.Nodup ∧ ks.length = vs.length then .ok (.v (.dic ks vs)) ε else .stk
      | none => .stk)
    | _, _ => .stk)
  | _ => .stk
def fDx : PV → PV → Option Val
  | .dic ks ps, q => (keyP q).bind fun k => (valP ks ps k).map .v
  | _, _ => none
section
variable {K : PySem.W.Frag} {G : Nat → Addr} {A : Addr → Prop} {H : Hp}
theorem Rep.toKey {x : V} {p : PV} {k : Key} (r : Rep K G A H x p) (h : keyP p = some k) : x = kV k := by
  cases p with
  | int i => cases h; cases r; rfl
  | str z => cases h; cases r; rfl
  | _ => cases h
theorem Reps.toKeys : ∀ {xs : List V} {ps : List PV} {ks : List Key}, Reps K G A H xs ps → keysP ps = some ks → xs = ks.map kV
  | _, _, _, .nil, h => by cases h; rfl
  | _, _, _, .cons r t, h => by
    obtain ⟨k, e1, h⟩ := Option.bind_eq_some_iff.mp h
    obtain ⟨ms, e2, rfl⟩ := Option.map_eq_some_iff.mp h
    rw [r.toKey e1, Reps.toKeys t e2]; rfl
theorem Reps.valP : ∀ {ks : List Key} {xs : List V} {ps : List PV} {k : Key} {p : PV}, Reps K G A H xs ps → EV.valP ks ps k = some p → ∃ v, valV (ks.zip xs) k = some v ∧ Rep K G A H v p
  | [], _, _, _, _, _, h => by cases h
  | k' :: ks, _, _, _, _, .nil, h => by cases h
  | k' :: ks, x :: xs, _ :: _, k, p, .cons r t, h => by
    unfold EV.valP at h
    by_cases e : k' = k
    · rw [if_pos e] at h
      cases h
      refine ⟨x, ?_, r⟩
      show valV ((k', x) :: ks.zip xs) k = some x
      unfold valV
      rw [List.find?_cons_of_pos (by simpa using e)]
      rfl
    · rw [if_neg e] at h
      obtain ⟨v, h1, h2⟩ := Reps.valP t h
      refine ⟨v, ?_, h2⟩
      show valV ((k', x) :: ks.zip xs) k = some v
      rw [valV_neg e]; exact h1
end
theorem merge_nodup : ∀ {more kvs : List (Key × V)}, (∀ q ∈ more, ∀ r ∈ kvs, r.1 ≠ q.1) → (more.map (·.1)).Nodup → mergeK kvs more = kvs ++ more
  | [], kvs, _, _ => by show kvs = _; rw [List.append_nil]
  | q :: more, kvs, h, hn => by
    rw [List.map_cons, List.nodup_cons] at hn
    have hp : putK kvs q.1 q.2 = kvs ++ [q] := by
      unfold putK
      rw [if_neg]
      rw [List.any_eq_true]
      rintro ⟨r, hr, e⟩
      exact h q List.mem_cons_self r hr (of_decide_eq_true e)
    show mergeK (putK kvs q.1 q.2) more = _
    rw [hp, merge_nodup (kvs := kvs ++ [q]) (fun p hp r hr => ?_) hn.2, List.append_assoc]
    · rfl
    · rcases List.mem_append.mp hr with hr | hr
      · exact h p (List.mem_cons_of_mem _ hp) r hr
      · rw [List.mem_singleton.mp hr]
        exact fun e => hn.1 (List.mem_map.mpr ⟨p, hp, e.symm⟩)
section
variable {X : Cx} {c : Fix} {W : WX} {k : Nat} {a b : Expr} {as : ADen} {da db : BDen} {p p2 pos pos2 : Pos}
theorem rd_dictZ {σ : L2.St} {H : Hp} {Q : VK} (h : TEof c W (cDictZ as) σ H Q) : tDictZip c.K (TAof c W as) σ H Q := by
  obtain ⟨T, ε, R, h⟩ := h
  refine ⟨T, ε, R, (Fin.bind h).mono fun vs H1 ⟨ps, ε1, e1, ⟨R1, r1⟩, h1⟩ => ?_⟩
  split at h1
  · rename_i p q
    split at h1
    · rename_i us ws e2 e3
      split at h1
      · rename_i ks e4
        split at h1
        · rename_i hk
          cases r1 with
          | cons rp t => cases t with
            | cons rq t =>
              cases t
              obtain ⟨a1, xs, rfl, s1, q1⟩ := rp.list e2
              obtain ⟨a2, ys, rfl, s2, q2⟩ := rq.list e3
              have ex := q1.toKeys e4
              subst ex
              have hl : ks.length = ys.length := by rw [hk.2, q2.length]
              refine ⟨a1, a2, ks, ys, rfl, s1, s2, hl, fun p hp => ?_⟩
              have em : mergeK [] (ks.zip ys) = ks.zip ys := by
                refine merge_nodup (kvs := []) (fun _ _ r hr => by cases hr) ?_
                rw [List.map_fst_zip (by omega)]
                exact hk.1
              rw [em]
              have kk := keep_upd (o := .dK (ks.zip ys)) hp
              refine Fin.at h1 (e1.trans (.kept kk)) ⟨⟨R1.kept kk, ?_⟩, trivial⟩
              exact .dic (R1.freshA hp) upd_same hl (q2.mono (fun b q => .inl q) fun b o e _ => kk b o e)
        · exact h1.elim
      · exact h1.elim
    · exact h1.elim
  · exact h1.elim
theorem eDictZ (g : Good X c W k) (hm1 : X.mg "dict" = none) (hm2 : X.mg "zip" = none) (ha : PAn X c W [a, b] as 2) (hg1 : Gl X "dict" := by rfl) (hg2 : Gl X "zip" := by rfl)
    (hs1 : starEach [.Call (.Name "zip" p2) [a, b] [] pos2] X.env = (false, eval (.Call (.Name "zip" p2) [a, b] [] pos2) X.env) :: starEach [] X.env := by rfl) (hpl1 : (backTo pos (starEach [] X.env)).any (·.1) = false := by rfl)
    (hs : starEach [a, b] X.env = (false, eval a X.env) :: starEach [b] X.env := by rfl) (hpl : (backTo pos2 (starEach [b] X.env)).any (·.1) = false := by rfl) :
    PE X (.Call (.Name "dict" p) [.Call (.Name "zip" p2) [a, b] [] pos2] [] pos) (TEof c W (cDictZ as)) :=
  ⟨fun pins s σ H Q I h => (pe_dictZip g.calm hg1 hm1 v_dict hg2 hm2 ha.p hs1 hpl1 hs hpl).run pins s σ H Q I (g.K ▸ rd_dictZ h)⟩
theorem BRep.dic {T : List Addr} {ε : Ev} {σ : L2.St} {H : Hp} {x : V} {ks : List Key} {ps : List PV} (h : BRep c T ε σ H x (.dic ks ps)) : ∃ a xs, x = .ref a ∧ H a = some (.dK (ks.zip xs)) ∧ Reps c.K c.G (c.A T ε σ) H xs ps := by
  rcases h with h | ⟨_, _, _, e, _⟩
  · cases h with
    | dic na h l r => exact ⟨_, _, rfl, h, r⟩
  · cases e
theorem rd_dx {σ : L2.St} {H : Hp} {Q : VK} (h : TEof c W (cOp2 fDx da db) σ H Q) : tDGet (TBof c W da) (TBof c W db) σ H Q := by
  obtain ⟨T, ε, R, h⟩ := h
  refine ⟨T, ε, R, (Fin.bind h).mono fun x H1 ⟨t, ε1, e1, ⟨R1, r1⟩, h1⟩ => ?_⟩
  refine ⟨T, ε1, R1, (Fin.bind (h1.from e1)).mono fun y H2 ⟨u, ε2, e2, ⟨R2, r2⟩, h2⟩ => ?_⟩
  cases p1 : resolve ε2 t with
  | none => rw [p1] at h2; exact h2.elim
  | some d =>
    cases p2 : resolve ε2 u with
    | none => rw [p1, p2] at h2; exact h2.elim
    | some q =>
      rw [p1, p2] at h2
      dsimp only at h2
      cases ef : fDx d q with
      | none => rw [ef] at h2; exact h2.elim
      | some r =>
        rw [ef] at h2
        unfold fDx at ef
        split at ef
        · rename_i ks ps q
          obtain ⟨kk, e3, ef⟩ := Option.bind_eq_some_iff.mp ef
          obtain ⟨v, e4, rfl⟩ := Option.map_eq_some_iff.mp ef
          obtain ⟨a, xs, rfl, ha, rr⟩ := BRep.dic ((r1.et e2).read R2 p1)
          obtain ⟨w, e5, rw'⟩ := Reps.valP rr e4
          have ey : y = kV kk := by
            rcases r2.read R2 p2 with r | ⟨_, _, _, e, _⟩
            · exact r.toKey e3
            · rw [e] at e3; cases e3
          refine ⟨a, w, rfl, .inl ⟨_, kk, .inl ha, ey, e5.symm⟩, Fin.at h2 e2 ⟨⟨R2, rw'⟩, trivial⟩⟩
        · cases ef
theorem eDx (g : Good X c W k) (ha : PE X a (TBof c W da)) (hb : PE X b (TBof c W db)) (hs : NoSl b := by intro _ _; rfl) : PE X (.Subscript a b pos) (TEof c W (cOp2 fDx da db)) :=
  ⟨fun pins s σ H Q I h => (pe_dget (by have := g.hr.units; omega) ha hb hs).run pins s σ H Q I (rd_dx h)⟩
end

/-! ### three names at once -/
/-- i, j, l = a, b, c -/
def sPar3 (i j l : Nat) (as : ADen) : SDen := fun ε => (as ε).bind fun ps ε => match ps with
  | [p, q, r] => .ok .nx (((ε.set i (.val p)).set j (.val q)).set l (.val r))
  | _ => .stk
section
variable {X : Cx} {c : Fix} {W : WX} {k : Nat} {as : ADen} {i j l n : Nat} {x y z : Str} {e1 e2 e3 : Expr} {px py pz pt pt2 pos : Pos} {kt k2 : Nat}
theorem zPar3 (g : Good X c W k) (ha : PAn X c W [e1, e2, e3] as n) (hi : X.N[i]? = some x := by rfl) (hj : X.N[j]? = some y := by rfl) (hl : X.N[l]? = some z := by rfl) (hij : i ≠ j := by decide) (hil : i ≠ l := by decide) (hjl : j ≠ l := by decide)
    (hx : X.env.scope.names.lookup x = some .local := by rfl) (hy : X.env.scope.names.lookup y = some .local := by rfl) (hz : X.env.scope.names.lookup z = some .local := by rfl)
    (hw : swappedStores [.Tuple [.Name x px, .Name y py, .Name z pz] kt pt] (.Tuple [e1, e2, e3] k2 pt2) X.env = pure (some [x, y, z]) := by rfl)
    (hs : swapsWithSole [.Tuple [.Name x px, .Name y py, .Name z pz] kt pt] (.Tuple [e1, e2, e3] k2 pt2) pos.line X.env = pure false := by rfl) :
    PS X (.Assign [.Tuple [.Name x px, .Name y py, .Name z pz] kt pt] (.Tuple [e1, e2, e3] k2 pt2) pos) (TSof c W (sPar3 i j l as)) := by
  refine ⟨fun pins s0 σ H D I h => (ps_par3 g.calm g.nd hi hj hl hij hil hjl hx hy hz ha.p hw hs).run pins s0 σ H D I ?_⟩
  obtain ⟨ε, R, h⟩ := h
  refine ⟨[], ε, R, (FinS.ex h).mono fun vs H1 ⟨ps, ε1, ee, ⟨R1, r1⟩, h1⟩ => ?_⟩
  split at h1
  · cases r1 with
    | cons ru r1 => cases r1 with
      | cons rv r1 => cases r1 with
        | cons rw' r1 =>
          cases r1
          refine ⟨_, _, _, rfl, ?_⟩
          have hO : ∀ {ε : Ev} {σ : L2.St} {j : Nat} {p : PV} {x : V}, ∀ b, OwnAt (ε.set j (.val p)) (σ.set j (some x)) b → OwnAt ε σ b := fun {ε σ j p x} b q => OwnAt.val (fun _ _ z => by cases z) q
          have hA : ∀ {ε : Ev} {σ : L2.St} {j : Nat} {p : PV} {x : V}, ∀ b, c.A [] (ε.set j (.val p)) (σ.set j (some x)) b → c.A [] ε σ b := fun {ε σ j p x} b q => q.imp id fun q => q.imp (hO b) id
          have Ra := R1.assign (j := i) ru
          have Rb := Ra.assign (j := j) (rv.mono (fun b q => .inl (hA b q)) fun b o e _ => e)
          have Rc := Rb.assign (j := l) (rw'.mono (fun b q => .inl (hA b (hA b q))) fun b o e _ => e)
          exact h1 _ H1 ⟨fun b o h _ => h, fun b h => h, fun b q => .inl (hO b (hO b (hO b q)))⟩ Rc
  · exact h1.elim
end

/-! ### a list, a tuple times an int -/
def fMulB : PV → PV → Option Val
  | .int i, .int j => if CMul i j then some (.v (.int (i * j))) else none
  | .lst ps, .int n => if -(2 ^ 63) ≤ n ∧ n < 2 ^ 63 ∧ ps.length * n.toNat ≤ sizeLine then some (.f (List.replicate n.toNat ps).flatten) else none
  | .tup ps, .int n => if 0 < ps.length ∧ 2 ≤ n ∧ n ≤ 1000 ∧ ps.length ≤ 1000 then some (.v (.tup (List.replicate n.toNat ps).flatten)) else none
  | _, _ => none
theorem Reps.rep {K : PySem.W.Frag} {G : Nat → Addr} {A : Addr → Prop} {H : Hp} {xs : List V} {ps : List PV} (r : Reps K G A H xs ps) : ∀ n : Nat, Reps K G A H (List.replicate n xs).flatten (List.replicate n ps).flatten
  | 0 => .nil
  | n + 1 => by
    rw [List.replicate_succ, List.replicate_succ, List.flatten_cons, List.flatten_cons]
    exact r.append (Reps.rep r n)
section
variable {X : Cx} {c : Fix}
def rMulB (K : PySem.W.Frag) : R2 := fun x y H Q => rI CMul (fun i j => .int (i * j)) x y H Q ∨ (rRep x y H Q ∨ rRepT K x y H Q)
theorem op_mulB : OpR X (binaryOp .Mult) (rMulB X.K) := op_mul.or (op_rep.or op_repT)
theorem s_mulB : S2 X c fMulB (rMulB c.K) := fun T ε σ H x y p q res Q R rx ry h k => by
  unfold fMulB at h
  split at h
  · split at h
    · cases h; rename_i z; exact .inl ⟨_, _, rx.int, ry.int, z, giveV R k (.int _)⟩
    · cases h
  · split at h
    · cases h
      rename_i ps n z
      obtain ⟨a, xs, rfl, s1, r1⟩ := rx.lst
      exact .inr (.inl ⟨a, n, xs, rfl, ry.int, s1, z.1, z.2.1, by rw [r1.length]; exact z.2.2, giveL R k (r1.rep _)⟩)
    · cases h
  · split at h
    · cases h
      rename_i ps n z
      obtain ⟨a, xs, rfl, s1, r1⟩ := rx.tup
      refine .inr (.inr ⟨a, n, xs, rfl, ry.int, s1, fun e => ?_, z.2.1, z.2.2.1, by rw [r1.length]; exact z.2.2.2, giveT R k (r1.rep _)⟩)
      rw [← r1.length, e] at z
      exact absurd z.1 (by simp)
    · cases h
  · cases h
theorem oMulB (hK : c.K = X.K) : OpS X c (binaryOp .Mult) fMulB := ⟨_, op_mulB, hK ▸ s_mulB⟩
end

/-! ### a list that is only read from now on -/
def cVal (d : Den) : Den := fun ε => (d ε).bind fun r ε => .ok (.v r.pv) ε
theorem eVal {X : Cx} {c : Fix} {W : WX} {e : Expr} {d : Den} (h : PE X e (TEof c W d)) : PE X e (TEof c W (cVal d)) := by
  refine ⟨fun pins s σ H Q I hq => h.run pins s σ H Q I ?_⟩
  obtain ⟨T, ε, R, hq⟩ := hq
  refine ⟨T, ε, R, (Fin.bind hq).mono fun x H1 ⟨r, ε1, e1, ⟨r1, _⟩, h1⟩ => ?_⟩
  obtain ⟨R1, rr⟩ := r1.val
  exact Fin.at h1 e1 ⟨⟨R1, rr⟩, trivial⟩
end EV


set_option Elab.async false
set_option linter.all false
set_option maxRecDepth 100000
set_option maxHeartbeats 4000000
/-! EvY: enumerate of a tuple. -/
namespace EX
open PySem PySem.Spec PyProof.Rows L2
theorem enumT_new {v : Value} {o : Obj} {H : Heap → Prop} (B : Begins v o H) :
    Meets (Builtin.«enumerate.__new__» ⟨[.type "enumerate", v], []⟩) (fun _ R s => H s.heap ∧
      R (.ok (.ret (.ref (s.heap.push o).objs.size))) { s with heap := (s.heap.push o).push { cls := .type "enumerate", data := .fields #[.none, .bool false, .ref s.heap.objs.size, rawInt 0, .none, .none] } }) :=
  .of_wp fun prog w A R s h => by
    obtain ⟨hp, g, d, tk, os⟩ := s; obtain ⟨h1, h⟩ := h
    have hsub := sub_enumerate
    have q1 : ∀ {A' : Around} {E : Value → Shared → Prop} {Q : Value → Shared → Prop}, Q (.ref hp.objs.size) ⟨hp.push o, g, d, tk, os⟩ → wpAny (model prog w) A' (pyIter v) Q E ⟨hp, g, d, tk, os⟩ :=
      fun q => B.iter prog w _ _ ⟨hp, g, d, tk, os⟩ _ h1 q
    wp_walk using q1
    refine wpAny_stack_any fun st => wpAny_pure ?_
    split
    · rename_i c _ _ _ _ _
      cases (c == Value.type "enumerate")
      · wp_walk using q1
        exact ⟨_, rfl, h⟩
      · wp_walk using q1
        exact ⟨_, rfl, h⟩
    · wp_walk using q1
      exact ⟨_, rfl, h⟩
section
variable {prog : Program} {w : World} {A : Around} {E : Value → Shared → Prop} {s : Shared}
theorem call_enumT {l : Addr} {items : Array Value} {Q : Value → Shared → Prop} (hL : s.heap.IsTuple l items)
    (h : ∀ h', IsEnum h' (s.heap.objs.size + 1) s.heap.objs.size 0 .none → h'.IsTupleIter s.heap.objs.size l 0 → h'.objs.size = s.heap.objs.size + 2 →
      (∀ b o, s.heap.get? b = some o → h'.get? b = some o) → Q (.ref (s.heap.objs.size + 1)) { s with heap := h' }) :
    wpAny (model prog w) A (call (.type "enumerate") [.ref l]) Q E s := by
  have B := begins_tuple l items
  refine callType_new F.called_enumerate (by decide) (F.typeCall_enumerate_1 _) (F.newCall_enumerate_1 _) (fun obj => F.args_object_init_2 obj _) F.entry_enumerate_new (enumT_new B) ⟨hL, ?_⟩
  generalize ho : ({ cls := .type "tuple_iterator", data := .fields #[.ref l, .int 0 0] } : Obj) = o at B
  have hz : (s.heap.push o).objs.size = s.heap.objs.size + 1 := Heap.size_push ..
  show _ ∧ _
  rw [hz]
  have he : IsEnum ((s.heap.push o).push { cls := .type "enumerate", data := .fields #[.none, .bool false, .ref s.heap.objs.size, rawInt 0, .none, .none] }) (s.heap.objs.size + 1) s.heap.objs.size 0 .none := by
    have := Heap.get?_push_size (s.heap.push o) (o := { cls := .type "enumerate", data := .fields #[.none, .bool false, .ref s.heap.objs.size, rawInt 0, .none, .none] }) rfl
    rw [hz] at this; exact this
  refine ⟨⟨_, he, rfl⟩, h _ he ⟨o, Heap.get?_push_of_some _ (Heap.get?_push_size _ B.free), by rw [← ho], by rw [← ho]; rfl⟩ (by rw [Heap.size_push, hz]) fun b o x => Heap.get?_push_of_some _ (Heap.get?_push_of_some _ x)⟩
theorem next_enumT_end {e it l : Addr} {i : Nat} {items : Array Value} {old : Value} {Q : Option Value → Shared → Prop} (hh : A.handled = none)
    (he : IsEnum s.heap e it i old) (hit : s.heap.IsTupleIter it l i) (hl : s.heap.IsTuple l items) (hx : items[i]? = none)
    (hQ : ∀ h', Heap.ExtBut it s.heap h' → Q none { s with heap := h' }) : wpAny (model prog w) A (pyNext (.ref e)) Q E s := by
  have hT : s.TypeIs (.ref e) "enumerate" := ⟨_, he, rfl⟩
  unfold pyNext
  refine wpAny_bind (wpAny_attempt (wpAny_callSpecial?_slot (name := Str.ofString "__next__") hT F.slot_enumerate_next
    (wpAny_call_entry F.slot_enumerate_next hT F.entry_enumerate_next ?_ (F.args_enumerate_next_1 _))))
  show wpAny _ _ (field (.ref e) 2 >>= _) _ _ _
  refine wpAny_bind (wpAny_field he rfl (x := .ref it) rfl ?_)
  refine wpAny_bind (wpAny_nextOf_tuple_end hh hit hl hx fun h' x he' hx' => ?_)
  obtain ⟨o, ho, hc⟩ := hx'
  refine wpAny_bind (wpAny_isInstance (T := "StopIteration") (b := true) ⟨o, ho, hc⟩ isSubtype_stop ?_)
  exact wpAny_pure (hQ _ he')
end
/-- the tuple at a as it stands at each turn, the items in new pairs -/
def IteT (K : PySem.W.Frag) (a : Addr) : It :=
  ⟨fun i H => ∃ (xs : List V) (x : V), SqT K H a xs ∧ xs[i]? = some x, fun i H v H' => ∃ T x, v = .ref T ∧ H T = none ∧ H' = upd H T (.tup [.int (i : Nat), x]) ∧ ∀ xs, SqT K H a xs → xs[i]? = some x, fun i H => ∃ xs : List V, SqT K H a xs ∧ xs.length ≤ i⟩
theorem turn_enumT {P : Program} {w : World} {K : PySem.W.Frag} {elts : List Expr} {kk : Nat} {tpos : Pos} (a e it : Addr) :
    Turn P w K (.Tuple elts kk tpos) (IteT K a) [e, it] e (fun i h => (∃ old, IsEnum h e it ((i : Nat) : Int) old) ∧ h.IsTupleIter it a i ∧ e ≠ it ∧ a ≠ it ∧ a ≠ e) where
  mem := by simp
  obj := fun i h st b hb => by
    obtain ⟨⟨old, he⟩, ⟨o, ho, hc, hd⟩, _⟩ := st
    have e' : b = e ∨ b = it := by simpa using hb
    rcases e' with z | z
    · rw [z]; exact ⟨_, he, fun v q => nomatch q⟩
    · rw [z]; exact ⟨o, ho, fun v q => by rw [hd] at q; cases q⟩
  keep := fun i h h' st k => let ⟨⟨old, he⟩, hi, hne⟩ := st; ⟨⟨old, k e (by simp) _ he⟩, hi.at fun o q => k it (by simp) o q, hne⟩
  item := by
    intro X hP hw hK hc i pins s σ H E I hf st hg
    subst hP hw hK
    obtain ⟨⟨old, he⟩, hit, hne, ha, hae⟩ := st
    obtain ⟨xs, x, hq, hx⟩ := hg
    obtain ⟨its, rv, p, hz⟩ := I.tuple hq
    obtain ⟨u, hu, ru⟩ := rv.get hx
    have hel : e < s.heap.objs.size := Heap.lt_size he
    have hil : it < s.heap.objs.size := by obtain ⟨_, q, _⟩ := hit; exact Heap.lt_size q
    have hlt : i < its.toArray.size := by
      have := (List.getElem?_eq_some_iff.mp hu).1
      simpa using this
    refine wpAny_pyNext_enum_itemD (Draws.tuple (show X.A.in1.handled = none from I.ok.hd hc) it a ha its.toArray) he ⟨hit, p⟩ hlt hne (fun z => by
      have z : e = it ∨ e = a := by simpa using z
      rcases z with z | z
      · exact hne z
      · exact hae z.symm) fun x0 h' tk hP ho ⟨hit', _⟩ hT hsz hk => ?_
    have ex : x0 = u := by
      have h1 : its[i]? = some x0 := by simpa using hP
      rw [hu] at h1; cases h1; rfl
    subst ex
    refine ⟨_, rfl, wpAny_letOwnedTupleGo_enum (s := { s with heap := h', toks := tk + 1 }) ho fun h'' he' sb => ?_⟩
    have hT2 : h''.get? s.heap.objs.size = some { cls := .type "tuple", data := .seq #[.int i tk, x0] } := (sb.2 _ (Nat.ne_of_gt hel)).trans hT
    have new : ObjOk X.prog X.w (upd H s.heap.objs.size (.tup [.int (i : Nat), x])) h'' s.heap.objs.size (.tup [.int (i : Nat), x]) :=
      ⟨by show 2 ≤ sizeLine; decide, [.int i tk, x0], .cons ⟨_, rfl⟩ (.cons ru .nil), ⟨_, hT2, rfl, _, rfl⟩⟩
    have I1 : Inv X pins σ (upd H s.heap.objs.size (.tup [.int (i : Nat), x])) { s with heap := h'', toks := tk + 1 } :=
      I.turnedNew (ch := [e, it]) (fun b ob hb q => (sb.2 b (fun z => hb (by simp [z]))).trans (hk b ob (fun z => hb (by simp [z])) (fun z => hb (by simp [z])) q)) hf (Nat.le_refl _) new
    refine ⟨.ref s.heap.objs.size, _, I1, rfl, ⟨_, x, rfl, I.hok.fresh (Nat.le_refl _), rfl, fun ys hy => by rw [I.tuple_inj hy hq]; exact hx⟩, ⟨⟨x0, ?_⟩, hit'.at fun o q => (sb.2 it (Ne.symm hne)).trans q, hne, ha, hae⟩, fun b hb => ?_⟩
    · have e1 : ((i + 1 : Nat) : Int) = (i : Int) + 1 := by omega
      rw [e1]; exact he'
    · have hb' : b < s.heap.objs.size := by
        have e' : b = e ∨ b = it := by simpa using hb
        rcases e' with z | z
        · rw [z]; exact hel
        · rw [z]; exact hil
      rw [upd_ne (Nat.ne_of_lt hb')]
      exact (hf b hb).1
  done := by
    intro X hP hw hK hc i pins s σ H E I hf st hg
    subst hP hw hK
    obtain ⟨⟨old, he⟩, hit, hne, _⟩ := st
    obtain ⟨xs, hq, hx⟩ := hg
    obtain ⟨its, rv, p, hz⟩ := I.tuple hq
    obtain ⟨f0, f1, f2, f3, f4, f5⟩ := hf it (by simp)
    have hl := rv.length
    exact next_enumT_end (I.ok.hd hc) he hit p (by simp; omega) fun h' eb => ⟨rfl, I.turned (t' := s.toks) (fun b o hb q => eb b o hb q) f0 f1 f3 f4 f5⟩
  self := fun A i s Q E st h => let ⟨⟨_, he⟩, _⟩ := st; wpAny_pyIter_enum he h
def iEnumT (K : PySem.W.Frag) (ta : TA) : TI := fun σ H R => ta σ H fun vs H1 => ∃ a xs, vs = [.ref a] ∧ ((SqL K H1 a xs ∧ R (Ite K a) H1) ∨ (SqT K H1 a xs ∧ R (IteT K a) H1))
theorem pi_enumT {X : Cx} {e : Expr} {ta : TA} {p pos tpos : Pos} {elts : List Expr} {kk : Nat} (hg : Gl X "enumerate") (hm : X.mg "enumerate" = none) (ha : PA X [e] ta) (hs : starEach [e] X.env = [(false, eval e X.env)] := by rfl) :
    PI X (.Tuple elts kk tpos) (.Call (.Name "enumerate" p) [e] [] pos) (iEnumT X.K ta) := by
  refine ⟨fun pins s σ H R I h => ?_⟩
  refine Call_ (ld_blt I hg hm boot_enumerate (PyProof.Rows.callWith_type1 (thn (ha.run pos pins s σ H _ I h) fun us s1 ⟨vs, H1, I1, r1, q1⟩ => ?_) hs rfl))
  obtain ⟨a, xs, ex, q1⟩ := q1
  subst ex
  have fresh2 : ∀ b ∈ [s1.heap.objs.size + 1, s1.heap.objs.size], FpOk X pins H1 b := fun b hb => by
    have e' : b = s1.heap.objs.size + 1 ∨ b = s1.heap.objs.size := by simpa using hb
    have hle : s1.heap.objs.size ≤ b := by
      rcases e' with z | z
      · rw [z]; exact Nat.le_add_right _ _
      · rw [z]; exact Nat.le_refl _
    exact I1.fpOk hle (I1.hok.fresh hle)
  cases r1 with
  | cons r rr =>
    cases rr
    cases r
    rcases q1 with ⟨hq, q⟩ | ⟨hq, q⟩
    · obtain ⟨its, rv, p', hz⟩ := I1.list hq
      refine call_enumerate_list p'.isList fun h' he hit hsz hk => wpAny_pyIter_enum he ?_
      have I2 : Inv X pins σ H1 { s1 with heap := h' } := I1.kept (t' := s1.toks) hk
      exact ⟨s1.heap.objs.size + 1, [s1.heap.objs.size + 1, s1.heap.objs.size], _, _, H1, rfl, I2, turn_enum a (s1.heap.objs.size + 1) s1.heap.objs.size, ⟨⟨.none, he⟩, hit, Nat.succ_ne_self _⟩, fresh2, q⟩
    · obtain ⟨its, rv, p', hz⟩ := I1.tuple hq
      obtain ⟨o1, ho1, _⟩ := id p'
      have la := Heap.lt_size ho1
      refine call_enumT p' fun h' he hit hsz hk => wpAny_pyIter_enum he ?_
      have I2 : Inv X pins σ H1 { s1 with heap := h' } := I1.kept (t' := s1.toks) hk
      exact ⟨s1.heap.objs.size + 1, [s1.heap.objs.size + 1, s1.heap.objs.size], _, _, H1, rfl, I2, turn_enumT a (s1.heap.objs.size + 1) s1.heap.objs.size, ⟨⟨.none, he⟩, hit, Nat.succ_ne_self _, Nat.ne_of_lt la, Nat.ne_of_lt (Nat.lt_succ_of_lt la)⟩, fresh2, q⟩
end EX
namespace EV
open PySem PySem.Spec PyProof.Rows L2
/-- enumerate of a list or a tuple -/
def iEnumA (d : Den) : IDen := fun ε => (d ε).bind fun r ε => iRet ε ((itemsOf r.pv).map enumL)
section
variable {c : Fix} {W : WX} {its : List PV} {a : Addr} {X : Cx} {e : Expr} {d : Den} {p pos tpos : Pos} {k : Nat}
theorem its_enumT : ItS c (EX.IteT c.K a) (enumL its) (Frz c [.ref a] [.tup its]) := by
  have hl : (enumL its).length = its.length := enumFrom_len its 0
  refine ⟨fun T ε σ H i R r hi => ?_, fun T ε σ H i q x H' R r hq y => ?_, fun T ε σ H i R r hi => ?_, frz_ok, frz_wr⟩
  · obtain ⟨b, xs, eb, hs, rs⟩ := (one_src r).tupl
    cases eb
    have : i < xs.length := by rw [rs.length, ← hl]; exact hi
    exact ⟨xs, xs[i], hs, by simp [this]⟩
  · obtain ⟨b, xs, eb, hs, rs⟩ := (one_src r).tupl
    cases eb
    obtain ⟨P, z, ex, n, eH, y⟩ := y
    subst ex eH
    obtain ⟨p', hp', eq⟩ := enumFrom_get its 0 i q hq
    obtain ⟨w, hw, rw'⟩ := rs.get hp'
    have e2 := y xs hs
    rw [hw] at e2; cases e2
    subst eq
    have := new_pair R n (.int (i : Int)) rw'
    simpa using this
  · obtain ⟨b, xs, eb, hs, rs⟩ := (one_src r).tupl
    cases eb
    exact ⟨xs, hs, by rw [rs.length, ← hl]; exact hi⟩
theorem iEA {elts : List Expr} {kk : Nat} (hK : c.K = X.K) (hm : X.mg "enumerate" = none) (he : PE X e (TEof c W d)) (hg : Gl X "enumerate" := by rfl) (hs : starEach [e] X.env = (false, eval e X.env) :: starEach [] X.env := by rfl) :
    PI X (.Tuple elts kk tpos) (.Call (.Name "enumerate" p) [e] [] pos) (TIof c W (iEnumA d)) := by
  refine ⟨fun pins s σ H R I h => (EX.pi_enumT hg hm (pa_cons he pa_nil hs) hs).run pins s σ H R I ?_⟩
  obtain ⟨T, ε, R0, h⟩ := h
  refine ⟨T, ε, R0, (Fin.bind h).mono fun x H1 ⟨r, ε1, e1, ⟨r1, _⟩, h1⟩ => ?_⟩
  obtain ⟨R1, rp⟩ := r1.val
  have fin : ∀ its, itemsOf r.pv = some its → ∀ J, (∃ S : SrcT, S T ε1 σ H1 ∧ ItS c J (enumL its) S ∧ SrcW2 c S) → R J H1 := fun its ep J q => by
    rw [ep] at h1
    exact Fin.at h1 e1 ⟨R1, q⟩
  cases ep : r.pv with
  | tup ps =>
    rw [ep] at rp
    obtain ⟨a, xs, rfl, hs', rs⟩ := Rep.tupl rp
    rw [hK] at hs'
    exact ⟨a, xs, rfl, .inr ⟨hs', fin ps (by rw [ep]; rfl) _ ⟨Frz c [.ref a] [.tup ps], .cons rp .nil, hK ▸ its_enumT, frz_w2⟩⟩⟩
  | lst ps =>
    rw [ep] at rp
    obtain ⟨a, xs, rfl, hs', rs⟩ := Rep.list rp rfl
    rw [hK] at hs'
    exact ⟨a, xs, rfl, .inl ⟨hs', fin ps (by rw [ep]; rfl) _ ⟨Frz c [.ref a] [.lst ps], .cons rp .nil, hK ▸ its_enum rfl, frz_w2⟩⟩⟩
  | fl ps =>
    rw [ep] at rp
    obtain ⟨a, xs, rfl, hs', rs⟩ := Rep.list rp rfl
    rw [hK] at hs'
    exact ⟨a, xs, rfl, .inl ⟨hs', fin ps (by rw [ep]; rfl) _ ⟨Frz c [.ref a] [.fl ps], .cons rp .nil, hK ▸ its_enum rfl, frz_w2⟩⟩⟩
  | _ => rw [ep] at h1; exact h1.elim
end
end EV


set_option Elab.async false
set_option linter.all false
set_option maxRecDepth 100000
set_option maxHeartbeats 1000000
/-! M18: places of the ladder, plainly. -/
namespace MA
def lastZ (n : Int) : Int := if n = 0 then -1 else if n = 2 then -1 else if n % 2 = 1 then n / 2 else n / 2 - 2
def moreZ (n : Int) : Bool := if n = 0 then false else if n = 2 then true else if n % 2 = 1 then false else true
def placeZ (l : Int) (m : Bool) : Int := if m then 2 * l + 4 else if l ≥ 0 then 2 * l + 1 else 0
/-- p is among 0 .. l, or it is l + 2 and m -/
def Hp (l : Int) (m : Bool) (p : Int) : Bool := decide (p ≤ l) || (m && decide (p = l + 2))
def hasZ (n p : Int) : Bool := if n = -1 then true else Hp (lastZ n) (moreZ n) p
def b2z (b : Bool) : Int := if b then 1 else 0
def leZ (i : Int) (a : Bool) (j : Int) (b : Bool) : Bool := if i = j then decide (b2z a ≤ b2z b) else decide (i ≤ j)
def maxZ (i j : Int) : Int := if j > i then j else i
def bothZ (a b : Int) : Int := if a = -1 ∨ b = -1 then maxZ a b else
  if leZ (lastZ a) (moreZ a) (lastZ b) (moreZ b) then placeZ (lastZ a) (moreZ a && hasZ b (lastZ a + 2)) else placeZ (lastZ b) (moreZ b && hasZ a (lastZ b + 2))
/-- up as long as one has the next point -/
def climb (a b : Int) : Nat → Int → Int
  | 0, l => l
  | n + 1, l => if (hasZ a (l + 1) || hasZ b (l + 1)) = true then climb a b n (l + 1) else l
def eitherZ (a b : Int) : Int := if a = -1 ∨ b = -1 then -1 else
  placeZ (climb a b 3 (maxZ (lastZ a) (lastZ b))) (hasZ a (climb a b 3 (maxZ (lastZ a) (lastZ b)) + 2) || hasZ b (climb a b 3 (maxZ (lastZ a) (lastZ b)) + 2))
def firstZ (a b : Int) : Int := if b = -1 then -1 else if lastZ a > lastZ b then lastZ b + 1 else if (moreZ a && !hasZ b (lastZ a + 2)) = true then lastZ a + 2 else -1
def belowZ (a b : Int) : Bool := if b = -1 then true else decide (a ≠ -1) && decide (firstZ a b < 0)
def leadsZ (a b : Int) : Int := if belowZ a b = true then -1 else if a = -1 then b else placeZ (firstZ a b - 1) (!hasZ a (firstZ a b + 1) || hasZ b (firstZ a b + 1))
def sees (w v : Int) : Prop := v = w ∨ v + 2 ≤ w

theorem Hp_iff {l : Int} {m : Bool} {p : Int} : Hp l m p = true ↔ p ≤ l ∨ (m = true ∧ p = l + 2) := by
  unfold Hp; simp
theorem last_place {l : Int} {m : Bool} (h : -1 ≤ l) : lastZ (placeZ l m) = l := by
  unfold lastZ placeZ
  cases m <;> simp only [Bool.false_eq_true, if_false, if_true] <;> (repeat' split) <;> omega
theorem more_place {l : Int} {m : Bool} (h : -1 ≤ l) : moreZ (placeZ l m) = m := by
  unfold moreZ placeZ
  cases m <;> simp only [Bool.false_eq_true, if_false, if_true] <;> (repeat' split) <;> first | rfl | omega
theorem place_nn {l : Int} {m : Bool} (h : -1 ≤ l) : 0 ≤ placeZ l m := by
  unfold placeZ
  cases m <;> simp only [Bool.false_eq_true, if_false, if_true] <;> (repeat' split) <;> omega
theorem last_ge {n : Int} (h : 0 ≤ n) : -1 ≤ lastZ n := by
  unfold lastZ; (repeat' split) <;> omega
theorem place_of {n : Int} (h : 0 ≤ n) : placeZ (lastZ n) (moreZ n) = n := by
  by_cases h0 : n = 0
  · subst h0; rfl
  · by_cases h2 : n = 2
    · subst h2; rfl
    · have e1 : lastZ n = if n % 2 = 1 then n / 2 else n / 2 - 2 := by unfold lastZ; rw [if_neg h0, if_neg h2]
      have e2 : moreZ n = if n % 2 = 1 then false else true := by unfold moreZ; rw [if_neg h0, if_neg h2]
      rw [e1, e2]
      unfold placeZ
      by_cases q : n % 2 = 1
      · rw [if_pos q, if_pos q, if_neg Bool.false_ne_true, if_pos (by omega)]; omega
      · rw [if_neg q, if_neg q, if_pos rfl]; omega
theorem has_place {l : Int} {m : Bool} (h : -1 ≤ l) (p : Int) : hasZ (placeZ l m) p = Hp l m p := by
  have := place_nn (m := m) h
  unfold hasZ
  rw [if_neg (by omega), last_place h, more_place h]
theorem has_all (p : Int) : hasZ (-1) p = true := rfl
theorem has_nn {n : Int} (h : 0 ≤ n) (p : Int) : hasZ n p = Hp (lastZ n) (moreZ n) p := by
  unfold hasZ; rw [if_neg (by omega)]
/-- a place is an up-set -/
theorem has_up {n w v : Int} (hn : -1 ≤ n) (s : sees w v) (h : hasZ n w = true) : hasZ n v = true := by
  by_cases e : n = -1
  · subst e; rfl
  · rw [has_nn (by omega), Hp_iff] at h ⊢
    unfold sees at s
    rcases h with h | ⟨h1, h2⟩
    · exact .inl (by omega)
    · rcases s with s | s
      · exact .inr ⟨h1, by omega⟩
      · exact .inl (by omega)
/-- what has the same points is the same -/
theorem ext {a b : Int} (ha : -1 ≤ a) (hb : -1 ≤ b) (h : ∀ w, 0 ≤ w → hasZ a w = hasZ b w) : a = b := by
  have fin : ∀ n, 0 ≤ n → hasZ n (lastZ n + 3) = false := fun n hn => by
    rw [has_nn hn, ← Bool.not_eq_true, Hp_iff]; omega
  by_cases ea : a = -1
  · by_cases eb : b = -1
    · omega
    · have := last_ge (n := b) (by omega)
      have q := h (lastZ b + 3) (by omega)
      rw [ea, has_all, fin b (by omega)] at q; cases q
  · by_cases eb : b = -1
    · have := last_ge (n := a) (by omega)
      have q := h (lastZ a + 3) (by omega)
      rw [eb, has_all, fin a (by omega)] at q; cases q
    · have h1 := last_ge (n := a) (by omega)
      have h2 := last_ge (n := b) (by omega)
      have k : ∀ w, 0 ≤ w → (Hp (lastZ a) (moreZ a) w = true ↔ Hp (lastZ b) (moreZ b) w = true) := fun w hw => by
        have := h w hw
        rw [has_nn (by omega), has_nn (by omega)] at this
        rw [this]
      have kl : lastZ a = lastZ b := by
        have q1 := k (lastZ a + 1) (by omega)
        have q2 := k (lastZ b + 1) (by omega)
        rw [Hp_iff, Hp_iff] at q1 q2
        have q3 : 0 ≤ lastZ a → (Hp (lastZ a) (moreZ a) (lastZ a) = true ↔ Hp (lastZ b) (moreZ b) (lastZ a) = true) := fun z => k _ z
        have q4 : 0 ≤ lastZ b → (Hp (lastZ a) (moreZ a) (lastZ b) = true ↔ Hp (lastZ b) (moreZ b) (lastZ b) = true) := fun z => k _ z
        rw [Hp_iff, Hp_iff] at q3 q4
        omega
      have km : moreZ a = moreZ b := by
        have q := k (lastZ a + 2) (by omega)
        rw [Hp_iff, Hp_iff, kl] at q
        cases e1 : moreZ a <;> cases e2 : moreZ b <;> first | rfl | (rw [e1, e2] at q; simp at q; omega)
      rw [← place_of (n := a) (by omega), ← place_of (n := b) (by omega), kl, km]
theorem leZ_iff {i j : Int} {a b : Bool} : leZ i a j b = true ↔ i < j ∨ (i = j ∧ (a = true → b = true)) := by
  unfold leZ b2z
  split
  · cases a <;> cases b <;> simp <;> omega
  · simp; omega
theorem both_ge {a b : Int} (ha : -1 ≤ a) (hb : -1 ≤ b) : -1 ≤ bothZ a b := by
  unfold bothZ maxZ
  split
  · split <;> omega
  · have h1 := last_ge (n := a) (by omega)
    have h2 := last_ge (n := b) (by omega)
    split
    · have := place_nn (m := moreZ a && hasZ b (lastZ a + 2)) h1; omega
    · have := place_nn (m := moreZ b && hasZ a (lastZ b + 2)) h2; omega
theorem has_both {a b : Int} (ha : -1 ≤ a) (hb : -1 ≤ b) (w : Int) : hasZ (bothZ a b) w = (hasZ a w && hasZ b w) := by
  unfold bothZ
  by_cases e : a = -1 ∨ b = -1
  · rw [if_pos e]
    unfold maxZ
    rcases e with e | e
    · subst e
      rw [has_all, Bool.true_and]
      split
      · rfl
      · have : b = -1 := by omega
        rw [this]
    · subst e
      rw [has_all, Bool.and_true]
      split
      · omega
      · rfl
  · rw [if_neg e]
    have h1 := last_ge (n := a) (by omega)
    have h2 := last_ge (n := b) (by omega)
    rw [Bool.eq_iff_iff, Bool.and_eq_true]
    by_cases hle : leZ (lastZ a) (moreZ a) (lastZ b) (moreZ b) = true
    · rw [if_pos hle, has_place h1, Hp_iff, Bool.and_eq_true, has_nn (n := a) (by omega), has_nn (n := b) (by omega), has_nn (n := b) (by omega), Hp_iff, Hp_iff, Hp_iff]
      rw [leZ_iff] at hle
      generalize lastZ a = l1 at *
      generalize lastZ b = l2 at *
      cases moreZ a <;> cases moreZ b <;> simp at hle ⊢ <;> omega
    · rw [if_neg hle, has_place h2, Hp_iff, Bool.and_eq_true, has_nn (n := a) (by omega), has_nn (n := b) (by omega), has_nn (n := a) (by omega), Hp_iff, Hp_iff, Hp_iff]
      rw [leZ_iff] at hle
      generalize lastZ a = l1 at *
      generalize lastZ b = l2 at *
      cases moreZ a <;> cases moreZ b <;> simp at hle ⊢ <;> omega
/-! either -/
theorem has_far {a b l : Int} (ha : 0 ≤ a) (hb : 0 ≤ b) (h1 : lastZ a + 2 < l) (h2 : lastZ b + 2 < l) : (hasZ a l || hasZ b l) = false := by
  rw [Bool.or_eq_false_iff, has_nn ha, has_nn hb, ← Bool.not_eq_true, ← Bool.not_eq_true, Hp_iff, Hp_iff]; omega
theorem either_ge {a b : Int} (ha : -1 ≤ a) (hb : -1 ≤ b) : -1 ≤ eitherZ a b := by
  unfold eitherZ
  split
  · omega
  · have h1 := last_ge (n := a) (by omega)
    have h2 := last_ge (n := b) (by omega)
    have h3 : ∀ n l, -1 ≤ l → -1 ≤ climb a b n l := fun n => by
      induction n with
      | zero => intro l h; exact h
      | succ n ih => intro l h; unfold climb; split; exact ih _ (by omega); exact h
    have h4 : -1 ≤ maxZ (lastZ a) (lastZ b) := by unfold maxZ; split <;> omega
    have := place_nn (m := (hasZ a (climb a b 3 (maxZ (lastZ a) (lastZ b)) + 2) || hasZ b (climb a b 3 (maxZ (lastZ a) (lastZ b)) + 2))) (h3 3 _ h4)
    omega
/-- what the climb ends at -/
theorem climb_end {a b : Int} (ha : 0 ≤ a) (hb : 0 ≤ b) : ∃ l, climb a b 3 (maxZ (lastZ a) (lastZ b)) = l ∧ lastZ a ≤ l ∧ lastZ b ≤ l ∧ l ≤ maxZ (lastZ a) (lastZ b) + 2 ∧ (∀ p, p ≤ l → (hasZ a p || hasZ b p) = true) ∧ (hasZ a (l + 1) || hasZ b (l + 1)) = false := by
  have h1 := last_ge ha
  have h2 := last_ge hb
  have m1 : lastZ a ≤ maxZ (lastZ a) (lastZ b) := by unfold maxZ; split <;> omega
  have m2 : lastZ b ≤ maxZ (lastZ a) (lastZ b) := by unfold maxZ; split <;> omega
  have m3 : maxZ (lastZ a) (lastZ b) = lastZ a ∨ maxZ (lastZ a) (lastZ b) = lastZ b := by unfold maxZ; split <;> simp
  generalize maxZ (lastZ a) (lastZ b) = s at *
  have below : ∀ p, p ≤ s → (hasZ a p || hasZ b p) = true := fun p hp => by
    rw [Bool.or_eq_true, has_nn ha, has_nn hb, Hp_iff, Hp_iff]; omega
  by_cases c1 : (hasZ a (s + 1) || hasZ b (s + 1)) = true
  · by_cases c2 : (hasZ a (s + 1 + 1) || hasZ b (s + 1 + 1)) = true
    · have c3 := has_far (l := s + 1 + 1 + 1) ha hb (by omega) (by omega)
      refine ⟨s + 1 + 1, ?_, by omega, by omega, by omega, fun p hp => ?_, c3⟩
      · show (if _ then (if _ then (if _ then _ else _) else _) else _) = _
        rw [if_pos c1, if_pos c2, if_neg (by rw [c3]; exact Bool.false_ne_true)]
      · by_cases q : p ≤ s
        · exact below p q
        · by_cases q2 : p = s + 1
          · rw [q2]; exact c1
          · rw [show p = s + 1 + 1 by omega]; exact c2
    · have c2' := Bool.eq_false_iff.mpr c2
      refine ⟨s + 1, ?_, by omega, by omega, by omega, fun p hp => ?_, c2'⟩
      · show (if _ then (if _ then _ else _) else _) = _
        rw [if_pos c1, if_neg c2]
      · by_cases q : p ≤ s
        · exact below p q
        · rw [show p = s + 1 by omega]; exact c1
  · refine ⟨s, ?_, by omega, by omega, by omega, below, Bool.eq_false_iff.mpr c1⟩
    show (if _ then _ else _) = _
    rw [if_neg c1]
theorem has_either {a b : Int} (ha : -1 ≤ a) (hb : -1 ≤ b) (w : Int) : hasZ (eitherZ a b) w = (hasZ a w || hasZ b w) := by
  unfold eitherZ
  by_cases e : a = -1 ∨ b = -1
  · rw [if_pos e]
    rcases e with e | e
    · subst e; rfl
    · subst e; rw [has_all, Bool.or_true]
  · rw [if_neg e]
    obtain ⟨l, e1, h1, h2, _, h3, h4⟩ := climb_end (a := a) (b := b) (by omega) (by omega)
    have h5 := last_ge (n := a) (by omega)
    rw [e1, has_place (by omega), Bool.eq_iff_iff, Hp_iff]
    have h6 : l + 2 < w → (hasZ a w || hasZ b w) = false := fun z => has_far (by omega) (by omega) (by omega) (by omega)
    by_cases q : w ≤ l
    · simp [q, h3 w q]
    · by_cases q1 : w = l + 1
      · rw [q1, h4]; simp; omega
      · by_cases q2 : w = l + 2
        · rw [q2]; simp; omega
        · rw [h6 (by omega)]; simp; omega
/-! below -/
theorem below_iff {a b : Int} (ha : -1 ≤ a) (hb : -1 ≤ b) : belowZ a b = true ↔ ∀ w, 0 ≤ w → hasZ a w = true → hasZ b w = true := by
  unfold belowZ
  by_cases eb : b = -1
  · rw [if_pos eb, eb]; simp [has_all]
  · rw [if_neg eb, Bool.and_eq_true, decide_eq_true_eq, decide_eq_true_eq]
    have h2 := last_ge (n := b) (by omega)
    by_cases ea : a = -1
    · simp only [ea]
      refine ⟨fun h => absurd rfl h.1, fun h => ?_⟩
      have := h (lastZ b + 3) (by omega) (has_all _)
      rw [has_nn (by omega), Hp_iff] at this
      omega
    · have h1 := last_ge (n := a) (by omega)
      unfold firstZ
      rw [if_neg eb]
      have key : ∀ w, hasZ a w = true ↔ w ≤ lastZ a ∨ (moreZ a = true ∧ w = lastZ a + 2) := fun w => by rw [has_nn (by omega), Hp_iff]
      have key2 : ∀ w, hasZ b w = true ↔ w ≤ lastZ b ∨ (moreZ b = true ∧ w = lastZ b + 2) := fun w => by rw [has_nn (by omega), Hp_iff]
      by_cases q : lastZ a > lastZ b
      · rw [if_pos q]
        refine ⟨fun h => by omega, fun h => ?_⟩
        have := h (lastZ b + 1) (by omega) ((key _).mpr (by omega))
        rw [key2] at this
        omega
      · rw [if_neg q]
        by_cases q2 : (moreZ a && !hasZ b (lastZ a + 2)) = true
        · rw [if_pos q2]
          refine ⟨fun h => by omega, fun h => ?_⟩
          rw [Bool.and_eq_true, Bool.not_eq_true'] at q2
          have := h (lastZ a + 2) (by omega) ((key _).mpr (.inr ⟨q2.1, rfl⟩))
          rw [q2.2] at this; cases this
        · rw [if_neg q2]
          refine ⟨fun _ w hw hx => ?_, fun _ => ⟨ea, by omega⟩⟩
          rcases (key w).mp hx with z | ⟨z1, z2⟩
          · exact (key2 w).mpr (by omega)
          · rw [Bool.and_eq_true, Bool.not_eq_true'] at q2
            cases z3 : hasZ b (lastZ a + 2) with
            | true => rw [z2]; exact z3
            | false => exact absurd ⟨z1, z3⟩ q2
/-- the first point beyond -/
theorem first_beyond {a b : Int} (ha : 0 ≤ a) (hb : 0 ≤ b) (h : belowZ a b ≠ true) : 0 ≤ firstZ a b ∧ hasZ a (firstZ a b) = true ∧ hasZ b (firstZ a b) = false ∧ ∀ v, 0 ≤ v → v < firstZ a b → hasZ a v = true → hasZ b v = true := by
  have h1 := last_ge ha
  have h2 := last_ge hb
  have key : ∀ w, hasZ a w = true ↔ w ≤ lastZ a ∨ (moreZ a = true ∧ w = lastZ a + 2) := fun w => by rw [has_nn (by omega), Hp_iff]
  have key2 : ∀ w, hasZ b w = true ↔ w ≤ lastZ b ∨ (moreZ b = true ∧ w = lastZ b + 2) := fun w => by rw [has_nn (by omega), Hp_iff]
  unfold belowZ at h
  rw [if_neg (by omega)] at h
  have hf : 0 ≤ firstZ a b := by
    by_cases q : firstZ a b < 0
    · exact absurd (by rw [Bool.and_eq_true]; exact ⟨decide_eq_true (by omega), decide_eq_true q⟩) h
    · omega
  revert hf
  unfold firstZ
  rw [if_neg (by omega)]
  by_cases q : lastZ a > lastZ b
  · rw [if_pos q]
    intro hf
    refine ⟨hf, (key _).mpr (by omega), Bool.eq_false_iff.mpr fun z => ?_, fun v h0 hv hx => (key2 v).mpr (by omega)⟩
    rw [key2] at z; omega
  · rw [if_neg q]
    by_cases q2 : (moreZ a && !hasZ b (lastZ a + 2)) = true
    · rw [if_pos q2]
      intro hf
      rw [Bool.and_eq_true, Bool.not_eq_true'] at q2
      refine ⟨hf, (key _).mpr (.inr ⟨q2.1, rfl⟩), q2.2, fun v h0 hv hx => (key2 v).mpr ?_⟩
      have := (key v).mp hx
      omega
    · rw [if_neg q2]; intro hf; omega
/-! leads -/
theorem leads_ge {a b : Int} (ha : -1 ≤ a) (hb : -1 ≤ b) : -1 ≤ leadsZ a b := by
  unfold leadsZ
  split
  · omega
  · rename_i h
    split
    · exact hb
    · have : 0 ≤ b := by
        by_cases q : b = -1
        · unfold belowZ at h; rw [if_pos q] at h; exact absurd rfl h
        · omega
      obtain ⟨h0, _⟩ := first_beyond (a := a) (by omega) this h
      have := place_nn (l := firstZ a b - 1) (m := !hasZ a (firstZ a b + 1) || hasZ b (firstZ a b + 1)) (by omega)
      omega
theorem has_leads {a b : Int} (ha : -1 ≤ a) (hb : -1 ≤ b) {w : Int} (hw : 0 ≤ w) : hasZ (leadsZ a b) w = true ↔ ∀ v, 0 ≤ v → sees w v → hasZ a v = true → hasZ b v = true := by
  unfold leadsZ
  by_cases c : belowZ a b = true
  · rw [if_pos c]
    exact ⟨fun _ v hv _ hx => (below_iff ha hb).mp c v hv hx, fun _ => rfl⟩
  · rw [if_neg c]
    have hb0 : 0 ≤ b := by
      by_cases q : b = -1
      · unfold belowZ at c; rw [if_pos q] at c; exact absurd rfl c
      · omega
    by_cases ea : a = -1
    · rw [if_pos ea]
      refine ⟨fun h v hv s _ => has_up hb s h, fun h => h w hw (.inl rfl) (by rw [ea]; rfl)⟩
    · rw [if_neg ea]
      obtain ⟨h0, h1, h2, h3⟩ := first_beyond (a := a) (by omega) hb0 c
      generalize firstZ a b = f at *
      rw [has_place (by omega), Hp_iff, Bool.or_eq_true, Bool.not_eq_true']
      have ndn : ∀ v, hasZ b (f + v) = true → 2 ≤ v → False := fun v z hv => by
        have := has_up (v := f) hb (.inr (by omega)) z
        rw [h2] at this; cases this
      refine ⟨fun h v hv s hx => ?_, fun h => ?_⟩
      · have l1 : v < f → hasZ b v = true := fun z => h3 v hv z hx
        unfold sees at s
        rcases h with h | ⟨h, h'⟩
        · exact l1 (by omega)
        · have e : w = f + 1 := by omega
          rcases s with s | s
          · rw [s, e]
            rcases h with h | h
            · rw [s, e, h] at hx; cases hx
            · exact h
          · exact l1 (by omega)
      · by_cases q : w ≤ f - 1
        · exact .inl q
        · by_cases q2 : w = f + 1
          · refine .inr ⟨?_, by omega⟩
            cases z : hasZ a (f + 1) with
            | false => exact .inl rfl
            | true => exact .inr (h (f + 1) (by omega) (by rw [q2]; exact .inl rfl) z)
          · exfalso
            have := h f h0 (by unfold sees; omega) h1
            rw [h2] at this; cases this
end MA


set_option Elab.async false
set_option linter.all false
set_option maxRecDepth 100000
set_option maxHeartbeats 1000000
/-! M18b: sayings, what comes of one whatever is put in, shut places. -/
namespace MA
inductive J where
  | and | or | to
  deriving DecidableEq
inductive Say where
  | p | no | bin (j : J) (a b : Say)
  deriving DecidableEq
def opZ : J → Int → Int → Int
  | .and => bothZ
  | .or => eitherZ
  | .to => leadsZ
def valZ : Say → Int → Int
  | .p, x => x
  | .no, _ => 0
  | .bin j a b, x => opZ j (valZ a x) (valZ b x)
theorem op_ge {j : J} {a b : Int} (ha : -1 ≤ a) (hb : -1 ≤ b) : -1 ≤ opZ j a b := by
  cases j
  · exact both_ge ha hb
  · exact either_ge ha hb
  · exact leads_ge ha hb
theorem val_ge {x : Int} (hx : -1 ≤ x) : ∀ s : Say, -1 ≤ valZ s x
  | .p => hx
  | .no => by show (-1 : Int) ≤ 0; omega
  | .bin j a b => op_ge (val_ge hx a) (val_ge hx b)
/-- the point of the first ladder that w is like when x is put in -/
def Y (x w : Int) : Int := if x = -1 then 0 else if x = 0 then 1 else if x = 1 then w
  else if x = 2 then (if w = 1 then 0 else if w < 3 then 1 else 3)
  else if x = 4 then (if w = 1 then 1 else if w < 3 then 0 else 3)
  else if hasZ x w = true then 0 else 2
theorem has0 {w : Int} (h : 0 ≤ w) : hasZ 0 w = false := by
  rw [has_nn (by omega), ← Bool.not_eq_true, Hp_iff]
  show ¬ (w ≤ -1 ∨ (false = true ∧ _))
  simp; omega
theorem has1 {w : Int} (h : 0 ≤ w) : hasZ 1 w = decide (w = 0) := by
  rw [has_nn (by omega), Bool.eq_iff_iff, Hp_iff, decide_eq_true_eq]
  show (w ≤ 0 ∨ (false = true ∧ _)) ↔ _
  simp; omega
theorem has2 {w : Int} (h : 0 ≤ w) : hasZ 2 w = decide (w = 1) := by
  rw [has_nn (by omega), Bool.eq_iff_iff, Hp_iff, decide_eq_true_eq]
  show (w ≤ -1 ∨ (true = true ∧ w = -1 + 2)) ↔ _
  simp; omega
theorem has4 {w : Int} (h : 0 ≤ w) : hasZ 4 w = decide (w = 0 ∨ w = 2) := by
  rw [has_nn (by omega), Bool.eq_iff_iff, Hp_iff, decide_eq_true_eq]
  show (w ≤ 0 ∨ (true = true ∧ w = 0 + 2)) ↔ _
  simp; omega
theorem last_big {x : Int} (h : 0 ≤ x) (h0 : x ≠ 0) (h1 : x ≠ 1) (h2 : x ≠ 2) (h4 : x ≠ 4) : 1 ≤ lastZ x := by
  unfold lastZ
  (repeat' split) <;> omega
theorem big01 {x w : Int} (h : 0 ≤ x) (h0 : x ≠ 0) (h1 : x ≠ 1) (h2 : x ≠ 2) (h4 : x ≠ 4) (hw : w ≤ 1) : hasZ x w = true := by
  have := last_big h h0 h1 h2 h4
  rw [has_nn h, Hp_iff]; omega
theorem Y_nn {x w : Int} (hw : 0 ≤ w) : 0 ≤ Y x w := by
  unfold Y
  (repeat' split) <;> omega
theorem Y_p {x w : Int} (hx : -1 ≤ x) (hw : 0 ≤ w) : hasZ x w = hasZ 1 (Y x w) := by
  rw [has1 (Y_nn hw)]
  unfold Y
  by_cases e : x = -1
  · rw [if_pos e, e]; rfl
  · rw [if_neg e]
    by_cases e0 : x = 0
    · rw [if_pos e0, e0, has0 hw]; rfl
    · rw [if_neg e0]
      by_cases e1 : x = 1
      · rw [if_pos e1, e1, has1 hw]
      · rw [if_neg e1]
        by_cases e2 : x = 2
        · rw [if_pos e2, e2, has2 hw]
          (repeat' split) <;> simp <;> omega
        · rw [if_neg e2]
          by_cases e4 : x = 4
          · rw [if_pos e4, e4, has4 hw]
            (repeat' split) <;> simp <;> omega
          · rw [if_neg e4]
            cases hasZ x w <;> rfl
theorem Y_forth {x w v : Int} (hx : -1 ≤ x) (hw : 0 ≤ w) (hv : 0 ≤ v) (s : sees w v) : sees (Y x w) (Y x v) := by
  unfold Y
  by_cases e : x = -1
  · rw [if_pos e, if_pos e]; exact .inl rfl
  · rw [if_neg e, if_neg e]
    by_cases e0 : x = 0
    · rw [if_pos e0, if_pos e0]; exact .inl rfl
    · rw [if_neg e0, if_neg e0]
      by_cases e1 : x = 1
      · rw [if_pos e1, if_pos e1]; exact s
      · rw [if_neg e1, if_neg e1]
        unfold sees at *
        by_cases e2 : x = 2
        · rw [if_pos e2, if_pos e2]
          (repeat' split) <;> omega
        · rw [if_neg e2, if_neg e2]
          by_cases e4 : x = 4
          · rw [if_pos e4, if_pos e4]
            (repeat' split) <;> omega
          · rw [if_neg e4, if_neg e4]
            by_cases q : hasZ x w = true
            · rw [if_pos q, if_pos (has_up hx s q)]; exact .inl rfl
            · rw [if_neg q]
              split <;> omega
theorem Y_back {x w u : Int} (hx : -1 ≤ x) (hw : 0 ≤ w) (hu : 0 ≤ u) (s : sees (Y x w) u) : ∃ v, 0 ≤ v ∧ sees w v ∧ Y x v = u := by
  by_cases e : u = Y x w
  · exact ⟨w, hw, .inl rfl, e.symm⟩
  · have s : u + 2 ≤ Y x w := by
      unfold sees at s
      omega
    revert s
    unfold Y
    by_cases e' : x = -1
    · rw [if_pos e']; intro s; omega
    · rw [if_neg e']
      by_cases e0 : x = 0
      · rw [if_pos e0]; intro s; omega
      · rw [if_neg e0]
        by_cases e1 : x = 1
        · rw [if_pos e1]
          intro s
          exact ⟨u, hu, .inr s, by rw [if_neg e', if_neg e0, if_pos e1]⟩
        · rw [if_neg e1]
          by_cases e2 : x = 2
          · rw [if_pos e2]
            intro s
            by_cases q : w < 3
            · exfalso; revert s; (repeat' split) <;> omega
            · rw [if_neg (by omega), if_neg q] at s
              by_cases u0 : u = 0
              · exact ⟨1, by omega, .inr (by omega), by rw [if_neg e', if_neg e0, if_neg e1, if_pos e2, if_pos rfl, u0]⟩
              · exact ⟨0, by omega, .inr (by omega), by rw [if_neg e', if_neg e0, if_neg e1, if_pos e2, if_neg (by omega), if_pos (by omega)]; omega⟩
          · rw [if_neg e2]
            by_cases e4 : x = 4
            · rw [if_pos e4]
              intro s
              by_cases q : w < 3
              · exfalso; revert s; (repeat' split) <;> omega
              · rw [if_neg (by omega), if_neg q] at s
                by_cases u0 : u = 0
                · exact ⟨0, by omega, .inr (by omega), by rw [if_neg e', if_neg e0, if_neg e1, if_neg e2, if_pos e4, if_neg (by omega), if_pos (by omega), u0]⟩
                · exact ⟨1, by omega, .inr (by omega), by rw [if_neg e', if_neg e0, if_neg e1, if_neg e2, if_pos e4, if_pos rfl]; omega⟩
            · rw [if_neg e4]
              by_cases q : hasZ x w = true
              · rw [if_pos q]; intro s; omega
              · rw [if_neg q]
                intro s
                have w2 : 2 ≤ w := by
                  by_cases z : w ≤ 1
                  · exact absurd (big01 (by omega) e0 e1 e2 e4 z) q
                  · omega
                exact ⟨0, by omega, .inr (by omega), by rw [if_neg e', if_neg e0, if_neg e1, if_neg e2, if_neg e4, if_pos (big01 (by omega) e0 e1 e2 e4 (by omega))]; omega⟩
/-- a value under x is the value of the first ladder, at the like point -/
theorem like {x : Int} (hx : -1 ≤ x) : ∀ (s : Say) (w : Int), 0 ≤ w → hasZ (valZ s x) w = hasZ (valZ s 1) (Y x w)
  | .p, w, hw => Y_p hx hw
  | .no, w, hw => by rw [show valZ .no x = 0 from rfl, show valZ .no 1 = 0 from rfl, has0 hw, has0 (Y_nn hw)]
  | .bin .and a b, w, hw => by
    have h1 : ∀ y, valZ (.bin .and a b) y = bothZ (valZ a y) (valZ b y) := fun _ => rfl
    rw [h1, h1, has_both (val_ge hx a) (val_ge hx b), has_both (val_ge (by omega) a) (val_ge (by omega) b), like hx a w hw, like hx b w hw]
  | .bin .or a b, w, hw => by
    have h1 : ∀ y, valZ (.bin .or a b) y = eitherZ (valZ a y) (valZ b y) := fun _ => rfl
    rw [h1, h1, has_either (val_ge hx a) (val_ge hx b), has_either (val_ge (by omega) a) (val_ge (by omega) b), like hx a w hw, like hx b w hw]
  | .bin .to a b, w, hw => by
    have h1 : ∀ y, valZ (.bin .to a b) y = leadsZ (valZ a y) (valZ b y) := fun _ => rfl
    rw [h1, h1, Bool.eq_iff_iff, has_leads (val_ge hx a) (val_ge hx b) hw, has_leads (val_ge (by omega) a) (val_ge (by omega) b) (Y_nn hw)]
    refine ⟨fun h u hu s hx' => ?_, fun h v hv s hx' => ?_⟩
    · obtain ⟨v, hv, sv, e⟩ := Y_back hx hw hu s
      subst e
      rw [← like hx a v hv] at hx'
      rw [← like hx b v hv]
      exact h v hv sv hx'
    · rw [like hx a v hv] at hx'
      rw [like hx b v hv]
      exact h _ (Y_nn hv) (Y_forth hx hw hv s) hx'
def tried : List Int := [0, 1, 2, 3, 4, -1]
/-- every x is at w like a tried one -/
theorem Y_tried {x w : Int} (hx : -1 ≤ x) (hw : 0 ≤ w) : ∃ v ∈ tried, -1 ≤ v ∧ Y v w = Y x w := by
  unfold tried
  by_cases e : x ≤ 4
  · refine ⟨x, ?_, hx, rfl⟩
    have : x = 0 ∨ x = 1 ∨ x = 2 ∨ x = 3 ∨ x = 4 ∨ x = -1 := by omega
    simp only [List.mem_cons, List.not_mem_nil, or_false]
    omega
  · by_cases q : hasZ x w = true
    · refine ⟨-1, by simp, by omega, ?_⟩
      unfold Y
      rw [if_pos rfl, if_neg (by omega), if_neg (by omega), if_neg (by omega), if_neg (by omega), if_neg (by omega), if_pos q]
    · refine ⟨3, by simp, by omega, ?_⟩
      have w2 : 2 ≤ w := by
        by_cases z : w ≤ 1
        · exact absurd (big01 (by omega) (by omega) (by omega) (by omega) (by omega) z) q
        · omega
      have h3 : ¬ hasZ 3 w = true := by
        rw [has_nn (by omega), Hp_iff]
        show ¬ (w ≤ 1 ∨ (false = true ∧ _))
        simp; omega
      unfold Y
      rw [if_neg (by omega), if_neg (by omega), if_neg (by omega), if_neg (by omega), if_neg (by omega), if_neg h3, if_neg (by omega), if_neg (by omega), if_neg (by omega), if_neg (by omega), if_neg (by omega), if_neg q]
/-- what comes of a saying -/
def schZ (s : Say) : Int := tried.foldl (fun f v => bothZ f (valZ s v)) (-1)
theorem meet_ge {f : Int → Int} (hf : ∀ v, -1 ≤ v → -1 ≤ f v) : ∀ (l : List Int) (a : Int), -1 ≤ a → (∀ v ∈ l, -1 ≤ v) → -1 ≤ l.foldl (fun a v => bothZ a (f v)) a
  | [], a, h, _ => h
  | v :: l, a, h, q => meet_ge hf l _ (both_ge h (hf v (q v List.mem_cons_self))) fun u hu => q u (List.mem_cons_of_mem _ hu)
theorem has_meet {f : Int → Int} (hf : ∀ v, -1 ≤ v → -1 ≤ f v) (w : Int) : ∀ (l : List Int) (a : Int), -1 ≤ a → (∀ v ∈ l, -1 ≤ v) → hasZ (l.foldl (fun a v => bothZ a (f v)) a) w = (hasZ a w && l.all fun v => hasZ (f v) w)
  | [], a, _, _ => by simp
  | v :: l, a, h, q => by
    rw [List.foldl_cons, has_meet hf w l _ (both_ge h (hf v (q v List.mem_cons_self))) fun u hu => q u (List.mem_cons_of_mem _ hu), has_both h (hf v (q v List.mem_cons_self)), List.all_cons, Bool.and_assoc]
theorem tried_ge : ∀ v ∈ tried, -1 ≤ v := by unfold tried; simp
theorem sch_ge (s : Say) : -1 ≤ schZ s := meet_ge (fun v hv => val_ge hv s) tried (-1) (by omega) tried_ge
theorem has_sch (s : Say) (w : Int) : hasZ (schZ s) w = true ↔ ∀ v ∈ tried, hasZ (valZ s v) w = true := by
  unfold schZ
  rw [has_meet (fun v hv => val_ge hv s) w tried (-1) (by omega) tried_ge, has_all, Bool.true_and, List.all_eq_true]
/-- it is below whatever is put in -/
theorem sch_below (s : Say) {x w : Int} (hx : -1 ≤ x) (hw : 0 ≤ w) (h : hasZ (schZ s) w = true) : hasZ (valZ s x) w = true := by
  obtain ⟨v, hv, h1, h2⟩ := Y_tried hx hw
  have := (has_sch s w).mp h v hv
  rw [like h1 s w hw, h2] at this
  rw [like hx s w hw]
  exact this
/-! ### rungs -/
def rungS : Nat → Say
  | 0 => .no
  | 1 => .p
  | 2 => .bin .to .p .no
  | n + 3 => if n % 2 = 0 then .bin .or (rungS (n + 1)) (rungS (n + 2)) else .bin .to (rungS (n + 2)) (rungS n)
theorem val_rung : ∀ n : Nat, valZ (rungS n) 1 = (n : Int)
  | 0 => rfl
  | 1 => rfl
  | 2 => by
    show leadsZ 1 0 = 2
    decide
  | n + 3 => by
    have i1 := val_rung n
    have i2 := val_rung (n + 1)
    have i3 := val_rung (n + 2)
    unfold rungS
    by_cases e : n % 2 = 0
    · rw [if_pos e]
      show eitherZ (valZ (rungS (n + 1)) 1) (valZ (rungS (n + 2)) 1) = _
      rw [i2, i3]
      refine ext (either_ge (by omega) (by omega)) (by omega) fun w hw => ?_
      rw [has_either (by omega) (by omega), Bool.eq_iff_iff, Bool.or_eq_true, has_nn (by omega), has_nn (by omega), has_nn (by omega), Hp_iff, Hp_iff, Hp_iff]
      have a1 : lastZ ((n + 1 : Nat) : Int) = (n : Int) / 2 := by unfold lastZ; (repeat' split) <;> omega
      have a2 : moreZ ((n + 1 : Nat) : Int) = false := by unfold moreZ; (repeat' split) <;> first | rfl | omega
      have b1 : lastZ ((n + 2 : Nat) : Int) = (n : Int) / 2 - 1 := by unfold lastZ; (repeat' split) <;> omega
      have b2 : moreZ ((n + 2 : Nat) : Int) = true := by unfold moreZ; (repeat' split) <;> first | rfl | omega
      have c1 : lastZ ((n + 3 : Nat) : Int) = (n : Int) / 2 + 1 := by unfold lastZ; (repeat' split) <;> omega
      have c2 : moreZ ((n + 3 : Nat) : Int) = false := by unfold moreZ; (repeat' split) <;> first | rfl | omega
      rw [a1, a2, b1, b2, c1, c2]
      simp; omega
    · rw [if_neg e]
      show leadsZ (valZ (rungS (n + 2)) 1) (valZ (rungS n) 1) = _
      rw [i1, i3]
      refine ext (leads_ge (by omega) (by omega)) (by omega) fun w hw => ?_
      rw [Bool.eq_iff_iff, has_leads (by omega) (by omega) hw, has_nn (by omega), Hp_iff]
      have a1 : lastZ ((n : Nat) : Int) = (n : Int) / 2 := by unfold lastZ; (repeat' split) <;> omega
      have a2 : moreZ ((n : Nat) : Int) = false := by unfold moreZ; (repeat' split) <;> first | rfl | omega
      have b1 : lastZ ((n + 2 : Nat) : Int) = (n : Int) / 2 + 1 := by unfold lastZ; (repeat' split) <;> omega
      have b2 : moreZ ((n + 2 : Nat) : Int) = false := by unfold moreZ; (repeat' split) <;> first | rfl | omega
      have c1 : lastZ ((n + 3 : Nat) : Int) = (n : Int) / 2 := by unfold lastZ; (repeat' split) <;> omega
      have c2 : moreZ ((n + 3 : Nat) : Int) = true := by unfold moreZ; (repeat' split) <;> first | rfl | omega
      rw [c1, c2]
      have ka : ∀ v, hasZ ((n : Nat) : Int) v = true ↔ v ≤ (n : Int) / 2 := fun v => by rw [has_nn (by omega), Hp_iff, a1, a2]; simp
      have kb : ∀ v, hasZ ((n + 2 : Nat) : Int) v = true ↔ v ≤ (n : Int) / 2 + 1 := fun v => by rw [has_nn (by omega), Hp_iff, b1, b2]; simp
      refine ⟨fun h => ?_, fun h v hv s hx => ?_⟩
      · by_cases q : sees w ((n : Int) / 2 + 1)
        · have := h _ (by omega) q ((kb _).mpr (by omega))
          rw [ka] at this; omega
        · unfold sees at q; simp; omega
      · rw [ka]
        rw [kb] at hx
        unfold sees at s
        simp at h
        omega
/-- what rung n becomes when x is put in -/
theorem has_put (n : Nat) {x w : Int} (hx : -1 ≤ x) (hw : 0 ≤ w) : hasZ (valZ (rungS n) x) w = hasZ (n : Int) (Y x w) := by
  rw [like hx _ w hw, val_rung]
/-- shut: whatever is put in, it is below -/
def shutZ (n : Nat) : Bool := tried.all fun v => belowZ (n : Int) (valZ (rungS n) v)
theorem shut_iff (n : Nat) : shutZ n = true ↔ ∀ w, 0 ≤ w → hasZ n w = true → ∀ v ∈ tried, hasZ n (Y v w) = true := by
  unfold shutZ
  rw [List.all_eq_true]
  refine ⟨fun h w hw hx v hv => ?_, fun h v hv => ?_⟩
  · have := (below_iff (by omega) (val_ge (tried_ge v hv) _)).mp (h v hv) w hw hx
    rw [has_put n (tried_ge v hv) hw] at this
    exact this
  · rw [below_iff (by omega) (val_ge (tried_ge v hv) _)]
    intro w hw hx
    rw [has_put n (tried_ge v hv) hw]
    exact h w hw hx v hv
theorem shut_of (n : Nat) : shutZ n = true ↔ (n = 0 ∨ n = 3 ∨ n = 5 ∨ n = 7 ∨ 8 < n) := by
  rw [shut_iff]
  have key : ∀ v, hasZ (n : Int) v = true ↔ v ≤ lastZ n ∨ (moreZ n = true ∧ v = lastZ n + 2) := fun v => by rw [has_nn (by omega), Hp_iff]
  refine ⟨fun h => ?_, fun h w hw hx v hv => ?_⟩
  · -- a point that is not shut
    have no : ∀ w v, 0 ≤ w → hasZ (n : Int) w = true → v ∈ tried → hasZ (n : Int) (Y v w) = false → False := fun w v hw hx hv hy => by
      have := h w hw hx v hv
      rw [hy] at this; cases this
    by_cases e1 : n = 1
    · subst e1; exact (no 0 0 (by decide) (by decide) (by decide) (by decide)).elim
    · by_cases e2 : n = 2
      · subst e2; exact (no 1 (-1) (by decide) (by decide) (by decide) (by decide)).elim
      · by_cases e4 : n = 4
        · subst e4; exact (no 0 0 (by decide) (by decide) (by decide) (by decide)).elim
        · by_cases e6 : n = 6
          · subst e6; exact (no 3 3 (by decide) (by decide) (by decide) (by decide)).elim
          · by_cases e8 : n = 8
            · subst e8; exact (no 4 2 (by decide) (by decide) (by decide) (by decide)).elim
            · omega
  · by_cases e0 : n = 0
    · subst e0
      rw [show ((0 : Nat) : Int) = 0 from rfl, has0 hw] at hx; cases hx
    · have big : ∀ u, u ≤ 1 → hasZ (n : Int) u = true := fun u hu => (key u).mpr (.inl (by
        have := last_big (x := (n : Int)) (by omega) (by omega) (by omega) (by omega) (by omega)
        omega))
      by_cases u : Y v w ≤ 1
      · exact big _ u
      · -- 2 or 3, or w itself
        rw [key] at hx ⊢
        unfold tried at hv
        simp only [List.mem_cons, List.not_mem_nil, or_false] at hv
        have e3 : lastZ (3 : Int) = 1 ∧ moreZ (3 : Int) = false := by decide
        rcases hv with rfl | rfl | rfl | rfl | rfl | rfl
        · exact absurd (show Y 0 w ≤ 1 by unfold Y; simp) u
        · rw [show Y 1 w = w from by unfold Y; simp]; exact hx
        · have yw : Y 2 w = 3 := by revert u; unfold Y; simp; (repeat' split) <;> omega
          have w3 : 3 ≤ w := by
            by_cases z : 3 ≤ w
            · exact z
            · exfalso; revert yw; unfold Y; simp; (repeat' split) <;> omega
          rw [yw]
          by_cases h9 : 8 < n
          · left; unfold lastZ; (repeat' split) <;> omega
          · have : n = 3 ∨ n = 5 ∨ n = 7 := by omega
            rcases this with rfl | rfl | rfl
            · exfalso; have : lastZ ((3 : Nat) : Int) = 1 := by decide
              have : moreZ ((3 : Nat) : Int) = false := by decide
              simp_all; omega
            · exfalso; have : lastZ ((5 : Nat) : Int) = 2 := by decide
              have : moreZ ((5 : Nat) : Int) = false := by decide
              simp_all; omega
            · left; decide
        · have y3 : Y 3 w = if hasZ 3 w = true then 0 else 2 := by unfold Y; simp
          have yw : Y 3 w = 2 := by
            by_cases z : hasZ 3 w = true
            · rw [y3, if_pos z] at u; exact absurd (by omega) u
            · rw [y3, if_neg z]
          have w2 : 2 ≤ w := by
            by_cases z : 2 ≤ w
            · exact z
            · exfalso
              have : hasZ 3 w = true := big01 (by omega) (by omega) (by omega) (by omega) (by omega) (by omega)
              revert yw; unfold Y; simp [this]
          rw [yw]
          by_cases h9 : 8 < n
          · left; unfold lastZ; (repeat' split) <;> omega
          · have : n = 3 ∨ n = 5 ∨ n = 7 := by omega
            rcases this with rfl | rfl | rfl
            · exfalso; have : lastZ ((3 : Nat) : Int) = 1 := by decide
              have : moreZ ((3 : Nat) : Int) = false := by decide
              simp_all; omega
            · left; decide
            · left; decide
        · have yw : Y 4 w = 3 := by revert u; unfold Y; simp; (repeat' split) <;> omega
          have w3 : 3 ≤ w := by
            by_cases z : 3 ≤ w
            · exact z
            · exfalso; revert yw; unfold Y; simp; (repeat' split) <;> omega
          rw [yw]
          by_cases h9 : 8 < n
          · left; unfold lastZ; (repeat' split) <;> omega
          · have : n = 3 ∨ n = 5 ∨ n = 7 := by omega
            rcases this with rfl | rfl | rfl
            · exfalso; have : lastZ ((3 : Nat) : Int) = 1 := by decide
              have : moreZ ((3 : Nat) : Int) = false := by decide
              simp_all; omega
            · exfalso; have : lastZ ((5 : Nat) : Int) = 2 := by decide
              have : moreZ ((5 : Nat) : Int) = false := by decide
              simp_all; omega
            · left; decide
        · exact absurd (show Y (-1) w ≤ 1 by unfold Y; simp) u
end MA


set_option Elab.async false
set_option linter.all false
set_option maxRecDepth 100000
set_option maxHeartbeats 1000000
/-! M18c: what comes of a saying is shut; bounds; the due. -/
namespace MA
/-- x is u, read at the like points of v: then so for every saying -/
theorem like2 {x u v : Int} (hx : -1 ≤ x) (hu : -1 ≤ u) (hv : -1 ≤ v) (h : ∀ w, 0 ≤ w → hasZ x w = hasZ u (Y v w)) : ∀ (s : Say) (w : Int), 0 ≤ w → hasZ (valZ s x) w = hasZ (valZ s u) (Y v w)
  | .p, w, hw => h w hw
  | .no, w, hw => by rw [show valZ .no x = 0 from rfl, show valZ .no u = 0 from rfl, has0 hw, has0 (Y_nn hw)]
  | .bin .and a b, w, hw => by
    have h1 : ∀ y, valZ (.bin .and a b) y = bothZ (valZ a y) (valZ b y) := fun _ => rfl
    rw [h1, h1, has_both (val_ge hx a) (val_ge hx b), has_both (val_ge hu a) (val_ge hu b), like2 hx hu hv h a w hw, like2 hx hu hv h b w hw]
  | .bin .or a b, w, hw => by
    have h1 : ∀ y, valZ (.bin .or a b) y = eitherZ (valZ a y) (valZ b y) := fun _ => rfl
    rw [h1, h1, has_either (val_ge hx a) (val_ge hx b), has_either (val_ge hu a) (val_ge hu b), like2 hx hu hv h a w hw, like2 hx hu hv h b w hw]
  | .bin .to a b, w, hw => by
    have h1 : ∀ y, valZ (.bin .to a b) y = leadsZ (valZ a y) (valZ b y) := fun _ => rfl
    rw [h1, h1, Bool.eq_iff_iff, has_leads (val_ge hx a) (val_ge hx b) hw, has_leads (val_ge hu a) (val_ge hu b) (Y_nn hw)]
    refine ⟨fun q z hz s hx' => ?_, fun q z hz s hx' => ?_⟩
    · obtain ⟨y, hy, sy, e⟩ := Y_back hv hw hz s
      subst e
      rw [← like2 hx hu hv h a y hy] at hx'
      rw [← like2 hx hu hv h b y hy]
      exact q y hy sy hx'
    · rw [like2 hx hu hv h a z hz] at hx'
      rw [like2 hx hu hv h b z hz]
      exact q _ (Y_nn hz) (Y_forth hv hw hz s) hx'
/-- put v into the place u -/
def putZ (u v : Int) : Int := if u = -1 then -1 else valZ (rungS u.toNat) v
theorem put_ge {u v : Int} (hv : -1 ≤ v) : -1 ≤ putZ u v := by
  unfold putZ; split
  · omega
  · exact val_ge hv _
theorem put_has {u v : Int} (hu : -1 ≤ u) (hv : -1 ≤ v) (w : Int) (hw : 0 ≤ w) : hasZ (putZ u v) w = hasZ u (Y v w) := by
  unfold putZ
  by_cases e : u = -1
  · rw [if_pos e, e]; rfl
  · rw [if_neg e, has_put _ hv hw, show ((u.toNat : Nat) : Int) = u by omega]
theorem sch_shut (s : Say) {v w : Int} (hv : -1 ≤ v) (hw : 0 ≤ w) (h : hasZ (schZ s) w = true) : hasZ (schZ s) (Y v w) = true := by
  rw [has_sch]
  intro u hu
  have hu1 := tried_ge u hu
  rw [← like2 (put_ge hv) hu1 hv (fun w hw => put_has hu1 hv w hw) s w hw]
  exact sch_below s (put_ge hv) hw h
theorem sch_shutZ (s : Say) (h : schZ s ≠ -1) : shutZ (schZ s).toNat = true := by
  have := sch_ge s
  rw [shut_iff, show (((schZ s).toNat : Nat) : Int) = schZ s by omega]
  intro w hw hx v hv
  exact sch_shut s (tried_ge v hv) hw hx
theorem sch_rung {n : Nat} (h : shutZ n = true) : schZ (rungS n) = n := by
  refine ext (sch_ge _) (by omega) fun w hw => ?_
  rw [Bool.eq_iff_iff, has_sch]
  refine ⟨fun q => ?_, fun q v hv => ?_⟩
  · have := q 1 (by unfold tried; simp)
    rw [val_rung] at this; exact this
  · rw [has_put n (tried_ge v hv) hw]
    exact (shut_iff n).mp h w hw q v hv
/-- what rung n comes to -/
def lowN (n : Nat) : Nat := if n = 1 ∨ n = 2 ∨ n = 4 then 0 else if n = 6 then 3 else if n = 8 then 5 else n
theorem sch_low (n : Nat) : schZ (rungS n) = lowN n := by
  unfold lowN
  by_cases h : shutZ n = true
  · have := (shut_of n).mp h
    rw [sch_rung h, if_neg (by omega), if_neg (by omega), if_neg (by omega)]
  · rw [shut_of] at h
    have : n = 1 ∨ n = 2 ∨ n = 4 ∨ n = 6 ∨ n = 8 := by omega
    rcases this with rfl | rfl | rfl | rfl | rfl <;> decide
theorem sch_yes : schZ (.bin .to .no .no) = -1 := by decide
/-! bounds -/
theorem has_le {a b : Int} (ha : -1 ≤ a) (hb : 0 ≤ b) (h : ∀ w, b ≤ w → hasZ a w = true → False) : a ≤ 2 * b := by
  by_cases e : a = -1
  · omega
  · have h1 := last_ge (n := a) (by omega)
    have k := h (lastZ a)
    have k2 := h (lastZ a + 2)
    rw [has_nn (by omega), Hp_iff] at k k2
    have e2 : a = placeZ (lastZ a) (moreZ a) := (place_of (by omega)).symm
    cases q : moreZ a with
    | true =>
      rw [q] at e2 k2
      have : lastZ a + 2 < b := by
        by_cases z : lastZ a + 2 < b
        · exact z
        · exact (k2 (by omega) (.inr ⟨rfl, rfl⟩)).elim
      rw [e2]; unfold placeZ; rw [if_pos rfl]; omega
    | false =>
      rw [q] at e2
      have : lastZ a < b := by
        by_cases z : lastZ a < b
        · exact z
        · exact (k (by omega) (.inl (by omega))).elim
      rw [e2]; unfold placeZ; rw [if_neg Bool.false_ne_true]; split <;> omega
/-- a place put in far up comes back as itself, as nothing or as all -/
theorem val_far (s : Say) {x : Int} (h0 : 0 ≤ x) (h : x ≠ 0 ∧ x ≠ 1 ∧ x ≠ 2 ∧ x ≠ 4) : valZ s x = -1 ∨ valZ s x = 0 ∨ valZ s x = x := by
  have hx : -1 ≤ x := by omega
  have key : ∀ w, 0 ≤ w → hasZ (valZ s x) w = if hasZ x w = true then hasZ (valZ s 1) 0 else hasZ (valZ s 1) 2 := fun w hw => by
    rw [like hx s w hw]
    unfold Y
    rw [if_neg (by omega), if_neg h.1, if_neg h.2.1, if_neg h.2.2.1, if_neg h.2.2.2]
    split <;> rfl
  cases e2 : hasZ (valZ s 1) 2 with
  | true =>
    have e0 : hasZ (valZ s 1) 0 = true := has_up (val_ge (by omega) s) (.inr (by omega)) e2
    left
    refine ext (val_ge hx s) (by omega) fun w hw => ?_
    rw [key w hw, e2, e0, has_all]; split <;> rfl
  | false =>
    cases e0 : hasZ (valZ s 1) 0 with
    | true =>
      right; right
      refine ext (val_ge hx s) hx fun w hw => ?_
      rw [key w hw, e2, e0]
      cases hasZ x w <;> rfl
    | false =>
      right; left
      refine ext (val_ge hx s) (by omega) fun w hw => ?_
      rw [key w hw, e2, e0, has0 hw]; split <;> rfl
/-- belowZ laws -/
theorem sch_below_val (s : Say) {x : Int} (hx : -1 ≤ x) : belowZ (schZ s) (valZ s x) = true :=
  (below_iff (sch_ge s) (val_ge hx s)).mpr fun w hw h => sch_below s hx hw h
/-- the due: all that is tried, and more, comes to no more -/
theorem due_all (s : Say) (l : List Int) (h1 : ∀ v ∈ l, -1 ≤ v) (h2 : ∀ v ∈ tried, v ∈ l) : l.foldl (fun a v => bothZ a (valZ s v)) (-1) = schZ s := by
  refine ext (meet_ge (fun v hv => val_ge hv s) l (-1) (by omega) h1) (sch_ge s) fun w hw => ?_
  rw [has_meet (fun v hv => val_ge hv s) w l (-1) (by omega) h1, has_all, Bool.true_and, Bool.eq_iff_iff, List.all_eq_true, has_sch]
  exact ⟨fun h v hv => h v (h2 v hv), fun h v hv => sch_below s (h1 v hv) hw ((has_sch s w).mpr h)⟩
/-! how far up values go -/
theorem place_le {l : Int} {m : Bool} (h : -1 ≤ l) : placeZ l m ≤ 2 * l + 4 := by
  unfold placeZ; (repeat' split) <;> omega
theorem last_le {n : Int} (h : 0 ≤ n) : 2 * lastZ n ≤ n := by
  unfold lastZ; (repeat' split) <;> omega
theorem op_le {j : J} {a b M : Int} (ha : -1 ≤ a) (hb : -1 ≤ b) (h1 : a ≤ M) (h2 : b ≤ M) (hM : 0 ≤ M) : opZ j a b ≤ M + 8 := by
  have la : 0 ≤ a → 2 * lastZ a ≤ a := fun h => last_le h
  have lb : 0 ≤ b → 2 * lastZ b ≤ b := fun h => last_le h
  have ga : 0 ≤ a → -1 ≤ lastZ a := fun h => last_ge h
  have gb : 0 ≤ b → -1 ≤ lastZ b := fun h => last_ge h
  cases j
  · show bothZ a b ≤ _
    unfold bothZ maxZ
    split
    · split <;> omega
    · split
      · have := place_le (l := lastZ a) (m := moreZ a && hasZ b (lastZ a + 2)) (by omega); omega
      · have := place_le (l := lastZ b) (m := moreZ b && hasZ a (lastZ b + 2)) (by omega); omega
  · show eitherZ a b ≤ _
    by_cases e : a = -1 ∨ b = -1
    · unfold eitherZ; rw [if_pos e]; omega
    · obtain ⟨l, e1, h3, h4, h5, _⟩ := climb_end (a := a) (b := b) (by omega) (by omega)
      unfold eitherZ
      rw [if_neg e, e1]
      have m3 : maxZ (lastZ a) (lastZ b) = lastZ a ∨ maxZ (lastZ a) (lastZ b) = lastZ b := by unfold maxZ; split <;> simp
      have := ga (by omega)
      have := place_le (l := l) (m := hasZ a (l + 2) || hasZ b (l + 2)) (by omega)
      omega
  · show leadsZ a b ≤ _
    unfold leadsZ
    split
    · omega
    · rename_i h
      split
      · omega
      · have hb0 : 0 ≤ b := by
          by_cases q : b = -1
          · unfold belowZ at h; rw [if_pos q] at h; exact absurd rfl h
          · omega
        obtain ⟨h0, _⟩ := first_beyond (a := a) (by omega) hb0 h
        have hf : firstZ a b ≤ lastZ b + 1 ∨ firstZ a b ≤ lastZ a + 2 := by
          unfold firstZ; rw [if_neg (by omega)]; (repeat' split) <;> omega
        have := place_le (l := firstZ a b - 1) (m := !hasZ a (firstZ a b + 1) || hasZ b (firstZ a b + 1)) (by omega)
        omega
def depZ : Say → Nat
  | .p => 0
  | .no => 0
  | .bin _ a b => Nat.max (depZ a) (depZ b) + 1
theorem val_le {x M : Int} (hx : -1 ≤ x) (h : x ≤ M) (hM : 0 ≤ M) : ∀ s : Say, valZ s x ≤ M + 8 * (depZ s : Int)
  | .p => by show x ≤ _; omega
  | .no => by show (0 : Int) ≤ _; omega
  | .bin j a b => by
    have h1 := val_le hx h hM a
    have h2 := val_le hx h hM b
    have l1 : depZ a ≤ Nat.max (depZ a) (depZ b) := Nat.le_max_left ..
    have l2 : depZ b ≤ Nat.max (depZ a) (depZ b) := Nat.le_max_right ..
    have := op_le (j := j) (M := M + 8 * (Nat.max (depZ a) (depZ b) : Int)) (val_ge hx a) (val_ge hx b) (by omega) (by omega) (by omega)
    show opZ j (valZ a x) (valZ b x) ≤ M + 8 * ((Nat.max (depZ a) (depZ b) + 1 : Nat) : Int)
    omega
/-- schZ is below the value at 1, hence small -/
theorem both_le_max {a b : Int} (ha : -1 ≤ a) (hb : -1 ≤ b) : bothZ a b ≤ maxZ a b := by
  unfold bothZ
  split
  · omega
  · have k1 : ∀ l m n, 0 ≤ n → l = lastZ n → (m = true → moreZ n = true) → placeZ l m ≤ n := fun l m n hn hl hm => by
      have e := place_of hn
      rw [← hl] at e
      have g := last_ge hn
      cases m with
      | true => rw [hm rfl] at e; omega
      | false =>
        cases q : moreZ n with
        | false => rw [q] at e; omega
        | true =>
          rw [q] at e
          have : placeZ l true = 2 * l + 4 := by unfold placeZ; rw [if_pos rfl]
          have : placeZ l false ≤ 2 * l + 2 := by unfold placeZ; rw [if_neg Bool.false_ne_true]; split <;> omega
          omega
    have m1 : a ≤ maxZ a b := by unfold maxZ; split <;> omega
    have m2 : b ≤ maxZ a b := by unfold maxZ; split <;> omega
    split
    · have := k1 (lastZ a) (moreZ a && hasZ b (lastZ a + 2)) a (by omega) rfl (fun h => (Bool.and_eq_true_iff.mp h).1)
      omega
    · have := k1 (lastZ b) (moreZ b && hasZ a (lastZ b + 2)) b (by omega) rfl (fun h => (Bool.and_eq_true_iff.mp h).1)
      omega
theorem meet_le (s : Say) {M : Int} : ∀ (l : List Int) (a : Int), -1 ≤ a → a ≤ M → (∀ v ∈ l, -1 ≤ v) → (∀ v ∈ l, valZ s v ≤ M) → l.foldl (fun a v => bothZ a (valZ s v)) a ≤ M
  | [], a, _, h, _, _ => h
  | v :: l, a, g, h, q, z => by
    have g2 := val_ge (q v List.mem_cons_self) s
    have z2 := z v List.mem_cons_self
    refine meet_le s l _ (both_ge g g2) ?_ (fun u hu => q u (List.mem_cons_of_mem _ hu)) (fun u hu => z u (List.mem_cons_of_mem _ hu))
    show bothZ a (valZ s v) ≤ M
    have := both_le_max g g2
    unfold maxZ at this
    revert this
    split <;> omega
theorem sch_le (s : Say) : schZ s ≤ 4 + 8 * (depZ s : Int) := by
  refine meet_le s tried (-1) (by omega) (by omega) tried_ge fun v hv => val_le (tried_ge v hv) ?_ (by omega) s
  unfold tried at hv
  simp only [List.mem_cons, List.not_mem_nil, or_false] at hv
  omega
end MA


set_option Elab.async false
set_option linter.all false
set_option maxRecDepth 100000
set_option maxHeartbeats 1600000
namespace MA
/-- a point is in a place -/
def S (a w : Int) : Prop := hasZ a w = true
theorem S_both {a b w : Int} (ha : -1 ≤ a) (hb : -1 ≤ b) : S (bothZ a b) w ↔ S a w ∧ S b w := by
  unfold S; rw [has_both ha hb, Bool.and_eq_true]
theorem S_either {a b w : Int} (ha : -1 ≤ a) (hb : -1 ≤ b) : S (eitherZ a b) w ↔ S a w ∨ S b w := by
  unfold S; rw [has_either ha hb, Bool.or_eq_true]
theorem S_leads {a b w : Int} (ha : -1 ≤ a) (hb : -1 ≤ b) (hw : 0 ≤ w) : S (leadsZ a b) w ↔ ∀ v, 0 ≤ v → sees w v → S a v → S b v := has_leads ha hb hw
theorem S_all (w : Int) : S (-1) w := rfl
theorem S_up {n w v : Int} (hn : -1 ≤ n) (s : sees w v) (h : S n w) : S n v := has_up hn s h
theorem S_below {a b : Int} (ha : -1 ≤ a) (hb : -1 ≤ b) : belowZ a b = true ↔ ∀ w, 0 ≤ w → S a w → S b w := below_iff ha hb
theorem S_ext {a b : Int} (ha : -1 ≤ a) (hb : -1 ≤ b) (h : ∀ w, 0 ≤ w → (S a w ↔ S b w)) : a = b := ext ha hb fun w hw => Bool.eq_iff_iff.mpr (h w hw)
theorem sees_refl (w : Int) : sees w w := .inl rfl
theorem below_pos {a b : Int} (hb : 0 ≤ b) (h : belowZ a b = true) : a ≠ -1 := by
  unfold belowZ at h
  rw [if_neg (by omega)] at h
  simp only [Bool.and_eq_true, decide_eq_true_eq] at h
  exact h.1
theorem below_le {a b : Int} (ha : -1 ≤ a) (hb : 0 ≤ b) (h : belowZ a b = true) : 0 ≤ a ∧ a ≤ b := by
  have a0 := below_pos hb h
  refine ⟨by omega, ?_⟩
  have la := last_ge (n := a) (by omega)
  have lb := last_ge hb
  have pa := place_of (n := a) (by omega)
  have pb := place_of hb
  unfold belowZ firstZ at h
  rw [if_neg (by omega), if_neg (by omega)] at h
  rw [has_nn hb] at h
  simp only [Bool.and_eq_true, decide_eq_true_eq] at h
  obtain ⟨_, h⟩ := h
  rw [← pa, ← pb]
  generalize lastZ a = x at *
  generalize lastZ b = y at *
  by_cases h1 : x > y
  · rw [if_pos h1] at h; omega
  · rw [if_neg h1] at h
    unfold placeZ
    cases ma : moreZ a with
    | false =>
      cases mb : moreZ b <;> simp only [Bool.false_eq_true, if_false, if_true] <;> (repeat' split) <;> omega
    | true =>
      rw [ma] at h
      cases q : Hp y (moreZ b) (x + 2) with
      | false => rw [q] at h; simp at h; omega
      | true =>
        rw [Hp_iff] at q
        rcases q with q | ⟨q1, q2⟩
        · cases mb : moreZ b <;> simp only [Bool.false_eq_true, if_false, if_true] <;> (repeat' split) <;> omega
        · rw [q1]; simp only [if_true]; omega
theorem below_refl {a : Int} (ha : -1 ≤ a) : belowZ a a = true := (S_below ha ha).mpr fun _ _ h => h
theorem below_trans {a b c : Int} (ha : -1 ≤ a) (hb : -1 ≤ b) (hc : -1 ≤ c) (h1 : belowZ a b = true) (h2 : belowZ b c = true) : belowZ a c = true :=
  (S_below ha hc).mpr fun w hw h => (S_below hb hc).mp h2 w hw ((S_below ha hb).mp h1 w hw h)
theorem leads_below {a b : Int} (h : belowZ a b = true) : leadsZ a b = -1 := by unfold leadsZ; rw [if_pos h]
theorem both_all {a : Int} (ha : -1 ≤ a) : bothZ a (-1) = a := by
  unfold bothZ maxZ; rw [if_pos (.inr rfl), if_neg (by omega)]
theorem all_both {a : Int} (ha : -1 ≤ a) : bothZ (-1) a = a := by
  unfold bothZ maxZ; rw [if_pos (.inl rfl)]; split <;> omega
/-! what lies below a place: its laws -/
section
variable {t x y z l : Int} (ht : -1 ≤ t) (hx : -1 ≤ x) (hy : -1 ≤ y) (hz : -1 ≤ z) (hl : -1 ≤ l)
include ht hx hy
theorem both_belowL : belowZ (bothZ t x) t = true := (S_below (both_ge ht hx) ht).mpr fun w _ h => ((S_both ht hx).mp h).1
theorem both_below (bx : belowZ x t = true) : belowZ (bothZ x y) t = true := (S_below (both_ge hx hy) ht).mpr fun w hw h => (S_below hx ht).mp bx w hw ((S_both hx hy).mp h).1
theorem either_below (bx : belowZ x t = true) (bY : belowZ y t = true) : belowZ (eitherZ x y) t = true := (S_below (either_ge hx hy) ht).mpr fun w hw h => by
  rcases (S_either hx hy).mp h with h | h
  · exact (S_below hx ht).mp bx w hw h
  · exact (S_below hy ht).mp bY w hw h
theorem law_bu (bx : belowZ x t = true) : bothZ (bothZ x y) t = bothZ x y := by
  refine S_ext (both_ge (both_ge hx hy) ht) (both_ge hx hy) fun w hw => ?_
  rw [S_both (both_ge hx hy) ht, S_both hx hy]
  exact ⟨fun h => h.1, fun h => ⟨h, (S_below hx ht).mp bx w hw h.1⟩⟩
theorem law_eu (bx : belowZ x t = true) (bY : belowZ y t = true) : bothZ (eitherZ x y) t = eitherZ x y := by
  refine S_ext (both_ge (either_ge hx hy) ht) (either_ge hx hy) fun w hw => ?_
  rw [S_both (either_ge hx hy) ht]
  exact ⟨fun h => h.1, fun h => ⟨h, (S_below (either_ge hx hy) ht).mp (either_below ht hx hy bx bY) w hw h⟩⟩
omit hy in
theorem law_xx : bothZ t (leadsZ x x) = t := by rw [leads_below (below_refl hx), both_all ht]
omit hy in
theorem law_tx (bx : belowZ x t = true) : bothZ t (leadsZ t x) = x := by
  refine S_ext (both_ge ht (leads_ge ht hx)) hx fun w hw => ?_
  rw [S_both ht (leads_ge ht hx), S_leads ht hx hw]
  refine ⟨fun h => h.2 w hw (sees_refl w) h.1, fun h => ⟨(S_below hx ht).mp bx w hw h, fun v _ sv _ => S_up hx sv h⟩⟩
include hz in
theorem law_cur (bx : belowZ x t = true) (bY : belowZ y t = true) : bothZ t (leadsZ (bothZ (bothZ x y) t) z) = bothZ t (leadsZ x (bothZ t (leadsZ y z))) := by
  have g1 := both_ge (both_ge hx hy) ht
  have g2 := both_ge ht (leads_ge hy hz)
  refine S_ext (both_ge ht (leads_ge g1 hz)) (both_ge ht (leads_ge hx g2)) fun w hw => ?_
  rw [S_both ht (leads_ge g1 hz), S_both ht (leads_ge hx g2), S_leads g1 hz hw, S_leads hx g2 hw]
  refine and_congr_right fun hT => ⟨fun h v hv sv hvx => ?_, fun h v hv sv hvb => ?_⟩
  · rw [S_both ht (leads_ge hy hz), S_leads hy hz hv]
    refine ⟨S_up ht sv hT, fun u hu su huy => ?_⟩
    have sw : sees w u := by
      rcases sv with rfl | q
      · exact su
      · rcases su with rfl | q2
        · exact .inr q
        · exact .inr (by omega)
    exact h u hu sw ((S_both (both_ge hx hy) ht).mpr ⟨(S_both hx hy).mpr ⟨S_up hx su hvx, huy⟩, S_up ht sw hT⟩)
  · obtain ⟨h1, _⟩ := (S_both (both_ge hx hy) ht).mp hvb
    obtain ⟨h2, h3⟩ := (S_both hx hy).mp h1
    have h4 := h v hv sv h2
    rw [S_both ht (leads_ge hy hz), S_leads hy hz hv] at h4
    exact h4.2 v hv (sees_refl v) h3
include hz in
theorem law_adj (bz : belowZ z t = true) : belowZ z (bothZ t (leadsZ x y)) = belowZ (bothZ x z) y := by
  have g := both_ge ht (leads_ge hx hy)
  rw [Bool.eq_iff_iff, S_below hz g, S_below (both_ge hx hz) hy]
  refine ⟨fun h w hw hs => ?_, fun h w hw hs => ?_⟩
  · obtain ⟨h1, h2⟩ := (S_both hx hz).mp hs
    have h3 := h w hw h2
    rw [S_both ht (leads_ge hx hy), S_leads hx hy hw] at h3
    exact h3.2 w hw (sees_refl w) h1
  · rw [S_both ht (leads_ge hx hy), S_leads hx hy hw]
    refine ⟨(S_below hz ht).mp bz w hw hs, fun v hv sv hvx => h v hv ((S_both hx hz).mpr ⟨hvx, S_up hz sv hs⟩)⟩
/-! led over to what lies below l -/
include hl
omit ht in
theorem led_both : bothZ l (bothZ x y) = bothZ (bothZ (bothZ l x) (bothZ l y)) l := by
  have g1 := both_ge hl hx
  have g2 := both_ge hl hy
  refine S_ext (both_ge hl (both_ge hx hy)) (both_ge (both_ge g1 g2) hl) fun w hw => ?_
  rw [S_both hl (both_ge hx hy), S_both hx hy, S_both (both_ge g1 g2) hl, S_both g1 g2, S_both hl hx, S_both hl hy]
  exact ⟨fun ⟨a, b, c⟩ => ⟨⟨⟨a, b⟩, ⟨a, c⟩⟩, a⟩, fun ⟨⟨⟨a, b⟩, ⟨_, c⟩⟩, _⟩ => ⟨a, b, c⟩⟩
omit ht in
theorem led_either : bothZ l (eitherZ x y) = bothZ (eitherZ (bothZ l x) (bothZ l y)) l := by
  have g1 := both_ge hl hx
  have g2 := both_ge hl hy
  refine S_ext (both_ge hl (either_ge hx hy)) (both_ge (either_ge g1 g2) hl) fun w hw => ?_
  rw [S_both hl (either_ge hx hy), S_either hx hy, S_both (either_ge g1 g2) hl, S_either g1 g2, S_both hl hx, S_both hl hy]
  refine ⟨fun ⟨a, b⟩ => ⟨b.imp (fun b => ⟨a, b⟩) fun b => ⟨a, b⟩, a⟩, fun ⟨a, b⟩ => ⟨b, a.imp (·.2) (·.2)⟩⟩
theorem led_leads (bl : belowZ l t = true) : bothZ l (bothZ t (leadsZ x y)) = bothZ l (leadsZ (bothZ l x) (bothZ l y)) := by
  have g1 := both_ge hl hx
  have g2 := both_ge hl hy
  have g3 := both_ge ht (leads_ge hx hy)
  refine S_ext (both_ge hl g3) (both_ge hl (leads_ge g1 g2)) fun w hw => ?_
  rw [S_both hl g3, S_both ht (leads_ge hx hy), S_leads hx hy hw, S_both hl (leads_ge g1 g2), S_leads g1 g2 hw]
  refine and_congr_right fun hL => ⟨fun ⟨_, h⟩ v hv sv hvx => ?_, fun h => ⟨(S_below hl ht).mp bl w hw hL, fun v hv sv hvx => ?_⟩⟩
  · rw [S_both hl hx] at hvx
    rw [S_both hl hy]
    exact ⟨hvx.1, h v hv sv hvx.2⟩
  · have := h v hv sv ((S_both hl hx).mpr ⟨S_up hl sv hL, hvx⟩)
    exact ((S_both hl hy).mp this).2
omit hy in
theorem led_value (bl : belowZ l t = true) : bothZ l (bothZ t x) = bothZ l x := by
  refine S_ext (both_ge hl (both_ge ht hx)) (both_ge hl hx) fun w hw => ?_
  rw [S_both hl (both_ge ht hx), S_both ht hx, S_both hl hx]
  exact ⟨fun ⟨a, _, c⟩ => ⟨a, c⟩, fun ⟨a, c⟩ => ⟨a, (S_below hl ht).mp bl w hw a, c⟩⟩
end
/-- a saying's value below t, by parts -/
def lawV (t : Int) : Say → Int
  | .p => bothZ t 1
  | .no => 0
  | .bin .and a b => bothZ (bothZ (lawV t a) (lawV t b)) t
  | .bin .or a b => bothZ (eitherZ (lawV t a) (lawV t b)) t
  | .bin .to a b => bothZ t (leadsZ (lawV t a) (lawV t b))
theorem lawV_eq {t : Int} (ht : -1 ≤ t) : ∀ s : Say, lawV t s = bothZ t (valZ s 1)
  | .p => rfl
  | .no => by
    refine S_ext (by show (-1 : Int) ≤ 0; omega) (both_ge ht (by show (-1 : Int) ≤ 0; omega)) fun w hw => ?_
    have h0 : ¬ S 0 w := by unfold S; rw [has0 hw]; simp
    rw [S_both ht (by show (-1 : Int) ≤ 0; omega)]
    exact ⟨fun h => (h0 h).elim, fun h => (h0 h.2).elim⟩
  | .bin .and a b => by
    have g := val_ge (x := 1) (by omega) a
    have g' := val_ge (x := 1) (by omega) b
    show bothZ (bothZ (lawV t a) (lawV t b)) t = bothZ t (bothZ (valZ a 1) (valZ b 1))
    rw [lawV_eq ht a, lawV_eq ht b]
    exact (led_both g g' ht).symm
  | .bin .or a b => by
    have g := val_ge (x := 1) (by omega) a
    have g' := val_ge (x := 1) (by omega) b
    show bothZ (eitherZ (lawV t a) (lawV t b)) t = bothZ t (eitherZ (valZ a 1) (valZ b 1))
    rw [lawV_eq ht a, lawV_eq ht b]
    exact (led_either g g' ht).symm
  | .bin .to a b => by
    have g := val_ge (x := 1) (by omega) a
    have g' := val_ge (x := 1) (by omega) b
    show bothZ t (leadsZ (lawV t a) (lawV t b)) = bothZ t (leadsZ (valZ a 1) (valZ b 1))
    rw [lawV_eq ht a, lawV_eq ht b]
    have h := led_leads ht g g' ht (below_refl ht)
    rw [← h]
    refine S_ext (both_ge ht (both_ge ht (leads_ge g g'))) (both_ge ht (leads_ge g g')) fun w hw => ?_
    rw [S_both ht (both_ge ht (leads_ge g g')), S_both ht (leads_ge g g')]
    exact ⟨fun h => h.2, fun h => ⟨h.1, h⟩⟩
theorem lawV_below {t : Int} (ht : -1 ≤ t) (s : Say) : belowZ (lawV t s) t = true := by
  rw [lawV_eq ht]; exact both_belowL ht (val_ge (by omega) s) ht
/-- what lies below t -/
def lotsZ (t : Int) : List Int := ((List.range (t.toNat + 1)).map fun (k : Nat) => (k : Int)).filter fun k => belowZ k t
theorem mem_lots {t k : Int} (ht : 0 ≤ t) : k ∈ lotsZ t ↔ -1 ≤ k ∧ belowZ k t = true := by
  unfold lotsZ
  rw [List.mem_filter, List.mem_map]
  refine ⟨fun ⟨⟨n, _, e⟩, h⟩ => ⟨by omega, h⟩, fun ⟨h1, h2⟩ => ?_⟩
  obtain ⟨a, b⟩ := below_le h1 ht h2
  exact ⟨⟨k.toNat, List.mem_range.mpr (by omega), by omega⟩, h2⟩
def manyZ (t : Int) : Int := if t < 3 then (if t = 0 then 1 else 2) else if t % 2 = 1 then t + 1 else t - 1
theorem lots_many : ∀ t : Nat, t < 25 → ((lotsZ t).length : Int) = manyZ t := by decide +kernel
end MA


namespace Hd
open PySem
def top (i : Nat) : Stmt := PySem.Challenge.pw_ladderofone_k19_across_algebras_below_pl.main.body.getD i (.Pass ⟨0, 0, 0, 0⟩)
end Hd


set_option Elab.async false
set_option linter.all false
set_option maxRecDepth 100000
set_option maxHeartbeats 0
namespace Hd
open PySem PySem.Spec PyProof.Rows L2 EV
def nms : List Str := [("is_number" : Str), ("is_within" : Str), ("is_long" : Str), ("are_within" : Str), ("ascends" : Str), ("tupled" : Str), ("sure_within" : Str), ("is_saying_in" : Str), ("sure_saying" : Str), ("is_place_in" : Str), ("shape" : Str), ("place_of_shape" : Str), ("has" : Str), ("both_in" : Str), ("either_in" : Str), ("first_beyond" : Str), ("is_below_in" : Str), ("leads_in" : Str), ("place_in" : Str), ("sure_place" : Str), ("place_of" : Str), ("both" : Str), ("either" : Str), ("leads" : Str), ("is_below" : Str), ("how_many_below" : Str), ("value_under" : Str), ("both_under" : Str), ("either_under" : Str), ("leads_under" : Str), ("sure_under" : Str), ("leads_over" : Str), ("is_order_in" : Str), ("is_frame_in" : Str), ("sure_frame" : Str), ("marks_in" : Str), ("all_marks" : Str), ("point_place" : Str), ("checked_frame" : Str), ("frame_of_place" : Str), ("_law_box" : Str), ("_law_take" : Str), ("_law_cells" : Str), ("_law_of" : Str), ("_law_same" : Str), ("_law_call" : Str), ("_law_saying" : Str), ("_law_refused" : Str), ("_law_value" : Str), ("law" : Str), ("CanNot" : Str), ("TooMany" : Str), ("Unfit" : Str)]
def bls : List Str := [("ValueError" : Str), ("abs" : Str), ("all" : Str), ("bool" : Str), ("dict" : Str), ("enumerate" : Str), ("int" : Str), ("isinstance" : Str), ("len" : Str), ("list" : Str), ("max" : Str), ("range" : Str), ("sorted" : Str), ("str" : Str), ("tuple" : Str), ("zip" : Str)]
def csts : List (Str × PV) := [(("P" : Str), (.tup [(.str "p")])), (("NO" : Str), (.tup [(.str "no")])), (("JOINS" : Str), (.tup [(.str "and"), (.str "or"), (.str "to")])), (("MOST_PARTS" : Str), (.int 300)), (("MOST_DEEP" : Str), (.int 60)), (("ALL" : Str), (.int (-1))), (("MOST_PLACE" : Str), (.int 1000000)), (("MOST_POINT" : Str), (.int 2000)), (("MOST_WORLDS" : Str), (.int 30)), (("MOST_MARKS" : Str), (.int 3000))]
def tp : Tp := ⟨nms, bls, csts, 50, 53⟩
def okv1 (n : Nat) : Bool := false
def okv2 (n : Nat) : Bool := n == 31
def okv3 (n : Nat) : Bool := n == 27 || n == 28 || n == 29
def okv4 (n : Nat) : Bool := false
/-- is_number -/
def B0 (Φ : CallT) : SDen := sSeq (sRet (cAndT (cBlt fIsi (bCons (bVar 0) (bCons (bOf (cC (.ty "int"))) (bNil)))) (cNot (cBlt fIsi (bCons (bVar 0) (bCons (bOf (cC (.ty "bool"))) (bNil))))))) (sNext)
def d0 : FD := ⟨1, false, 1, B0⟩
def E0 : Ent := ⟨"is_number", defArgs (top 5), defBody (top 5), defScope (top 5), ["thing"], ["thing"], d0⟩
/-- is_within -/
def B1 (Φ : CallT) : SDen := sSeq (sRet (cAndT (cCall Φ 0 (aCons (cVar 0) (aNil))) (cOfT (tChn fLe fLe (bVar 1) (bVar 0) (bVar 2))))) (sNext)
def d1 : FD := ⟨3, false, 3, B1⟩
def E1 : Ent := ⟨"is_within", defArgs (top 6), defBody (top 6), defScope (top 6), ["thing", "least", "most"], ["thing", "least", "most"], d1⟩
/-- is_long -/
def B2 (Φ : CallT) : SDen := sSeq (sRet (cAndT (cBlt fIsi (bCons (bVar 0) (bCons (bOf (cC (.ty "tuple"))) (bNil)))) (cOp2 fEq (bOf (cBlt fLen (bCons (bVar 0) (bNil)))) (bVar 1)))) (sNext)
def d2 : FD := ⟨2, false, 2, B2⟩
def E2 : Ent := ⟨"is_long", defArgs (top 7), defBody (top 7), defScope (top 7), ["thing", "length"], ["thing", "length"], d2⟩
/-- are_within -/
def B3e1 (Φ : CallT) : Den := cCall Φ 1 (aCons (cVar 3) (aCons (cVar 1) (aCons (cVar 2) (aNil))))
def B3 (Φ : CallT) : SDen := sSeq (sRet (cAndT (cBlt fIsi (bCons (bVar 0) (bCons (bOf (cC (.ty "tuple"))) (bNil)))) (cBlt fAll (bCons (bOf (cCompS [3] 0 (.one 3) (tTrue) (B3e1 Φ))) (bNil))))) (sNext)
def d3 : FD := ⟨3, false, 4, B3⟩
def E3 : Ent := ⟨"are_within", defArgs (top 8), defBody (top 8), defScope (top 8), ["thing", "least", "most", "own"], ["thing", "least", "most"], d3⟩
/-- ascends -/
def B4e1 (Φ : CallT) : Den := cOp2 fLt (bVar 1) (bVar 2)
def B4 (Φ : CallT) : SDen := sSeq (sRet (cBlt fAll (bCons (bOf (cComp [1, 2] (iZip (cVar 0) (cSl fSl (bVar 0) (pSome (bOf (cC (.int 1)))) (pNone))) (.many [1, 2]) (tTrue) (B4e1 Φ))) (bNil)))) (sNext)
def d4 : FD := ⟨1, false, 3, B4⟩
def E4 : Ent := ⟨"ascends", defArgs (top 9), defBody (top 9), defScope (top 9), ["row", "one", "other"], ["row"], d4⟩
/-- tupled -/
def B5e1 (Φ : CallT) : Den := cCall Φ 5 (aCons (cVar 1) (aNil))
def B5 (Φ : CallT) : SDen := sSeq (sRet (cIf (tVal (bOf (cBlt fIsi (bCons (bVar 0) (bCons (bOf (cTup (aCons (cC (.ty "list")) (aCons (cC (.ty "tuple")) (aNil))))) (bNil)))))) (cBlt fTuple (bCons (bOf (cCompS [1] 0 (.one 1) (tTrue) (B5e1 Φ))) (bNil))) (cVar 0))) (sNext)
def d5 : FD := ⟨1, false, 2, B5⟩
def E5 : Ent := ⟨"tupled", defArgs (top 10), defBody (top 10), defScope (top 10), ["value", "own"], ["value"], d5⟩
/-- sure_within -/
def B6 (Φ : CallT) : SDen := sSeq (sIf (tNot (tVal (bOf (cCall Φ 1 (aCons (cVar 0) (aCons (cVar 1) (aCons (cVar 2) (aNil)))))))) (sSeq (sRaise 52) (sNext)) (sNext)) (sSeq (sRetV 0) (sNext))
def d6 : FD := ⟨3, false, 3, B6⟩
def E6 : Ent := ⟨"sure_within", defArgs (top 11), defBody (top 11), defScope (top 11), ["thing", "least", "most"], ["thing", "least", "most"], d6⟩
/-- is_saying_in -/
def B7t1 (Φ : CallT) : TDen := tOp2 fNe (bVar 1) (bOf (cLst (aNil)))
def B7s2 (Φ : CallT) : SDen := sSeq (sTup [3, 4] (bOf (cPop 1))) (sSeq (sAug 2 fIAdd (bOf (cC (.int 1)))) (sSeq (sIf (tOr (tOp2 fGt (bVar 2) (bOf (cC (.int 300)))) (tOr (tOp2 fGt (bVar 4) (bOf (cC (.int 60)))) (tOr (tNot (tVal (bOf (cBlt fIsi (bCons (bVar 3) (bCons (bOf (cC (.ty "tuple"))) (bNil))))))) (tOp2 fEq (bVar 3) (bOf (cTup (aNil))))))) (sSeq (sRet (cC (.bl false))) (sNext)) (sNext)) (sSeq (sIf (tNot (tVal (bOf (cBlt fIsi (bCons (bOf (cOp2 fIx (bVar 3) (bOf (cC (.int 0))))) (bCons (bOf (cC (.ty "str"))) (bNil))))))) (sSeq (sRet (cC (.bl false))) (sNext)) (sNext)) (sSeq (sIf (tAnd (tOp2 fIn (bOf (cOp2 fIx (bVar 3) (bOf (cC (.int 0))))) (bOf (cC (.tup [(.str "and"), (.str "or"), (.str "to")])))) (tOp2 fEq (bOf (cBlt fLen (bCons (bVar 3) (bNil)))) (bOf (cC (.int 3))))) (sSeq (sDrop (cExtend 1 (bOf (cLst (aCons (cTup (aCons (cOp2 fIx (bVar 3) (bOf (cC (.int 1)))) (aCons (cOp2 fAdd (bVar 4) (bOf (cC (.int 1)))) (aNil)))) (aCons (cTup (aCons (cOp2 fIx (bVar 3) (bOf (cC (.int 2)))) (aCons (cOp2 fAdd (bVar 4) (bOf (cC (.int 1)))) (aNil)))) (aNil))))))) (sNext)) (sSeq (sIf (tOp2 fNotIn (bVar 3) (bOf (cTup (aCons (cC (.tup [(.str "p")])) (aCons (cC (.tup [(.str "no")])) (aNil)))))) (sSeq (sRet (cC (.bl false))) (sNext)) (sNext)) (sNext))) (sNext)))))
def B7 (Φ : CallT) : SDen := sSeq (sPar 1 2 (cLst (aCons (cTup (aCons (cVar 0) (aCons (cC (.int 1)) (aNil)))) (aNil))) (cC (.int 0))) (sSeq (sWhile (B7t1 Φ) (B7s2 Φ) FUEL) (sSeq (sRet (cC (.bl true))) (sNext)))
def d7 : FD := ⟨1, false, 5, B7⟩
def E7 : Ent := ⟨"is_saying_in", defArgs (top 18), defBody (top 18), defScope (top 18), ["thing", "rest", "many", "own", "deep"], ["thing"], d7⟩
/-- sure_saying -/
def B8 (Φ : CallT) : SDen := sSeq (sSet 1 (cCall Φ 5 (aCons (cVar 0) (aNil)))) (sSeq (sIf (tNot (tVal (bOf (cCall Φ 7 (aCons (cVar 1) (aNil)))))) (sSeq (sRaise 52) (sNext)) (sNext)) (sSeq (sRetV 1) (sNext)))
def d8 : FD := ⟨1, false, 2, B8⟩
def E8 : Ent := ⟨"sure_saying", defArgs (top 19), defBody (top 19), defScope (top 19), ["value", "own"], ["value"], d8⟩
/-- is_place_in -/
def B9 (Φ : CallT) : SDen := sSeq (sRet (cAndT (cCall Φ 0 (aCons (cVar 0) (aNil))) (cOfT (tChn fLe fLe (bOf (cC (.int (-1)))) (bVar 0) (bOf (cC (.int 1000000))))))) (sNext)
def d9 : FD := ⟨1, false, 1, B9⟩
def E9 : Ent := ⟨"is_place_in", defArgs (top 23), defBody (top 23), defScope (top 23), ["thing"], ["thing"], d9⟩
/-- shape -/
def B10 (Φ : CallT) : SDen := sSeq (sIf (tOp2 fEq (bVar 0) (bOf (cC (.int 0)))) (sSeq (sRet (cTup (aCons (cOp1 fNeg (bOf (cC (.int 1)))) (aCons (cC (.bl false)) (aNil))))) (sNext)) (sNext)) (sSeq (sIf (tOp2 fEq (bVar 0) (bOf (cC (.int 2)))) (sSeq (sRet (cTup (aCons (cOp1 fNeg (bOf (cC (.int 1)))) (aCons (cC (.bl true)) (aNil))))) (sNext)) (sNext)) (sSeq (sRet (cIf (tOp2 fEq (bOf (cOp2 fMod (bVar 0) (bOf (cC (.int 2))))) (bOf (cC (.int 1)))) (cTup (aCons (cOp2 fDiv (bVar 0) (bOf (cC (.int 2)))) (aCons (cC (.bl false)) (aNil)))) (cTup (aCons (cOp2 fSub (bOf (cOp2 fDiv (bVar 0) (bOf (cC (.int 2))))) (bOf (cC (.int 2)))) (aCons (cC (.bl true)) (aNil)))))) (sNext)))
def d10 : FD := ⟨1, false, 1, B10⟩
def E10 : Ent := ⟨"shape", defArgs (top 24), defBody (top 24), defScope (top 24), ["place"], ["place"], d10⟩
/-- place_of_shape -/
def B11 (Φ : CallT) : SDen := sSeq (sIf (tVal (bVar 1)) (sSeq (sRet (cOp2 fAdd (bOf (cOp2 fMul (bOf (cC (.int 2))) (bVar 0))) (bOf (cC (.int 4))))) (sNext)) (sNext)) (sSeq (sRet (cIf (tOp2 fGe (bVar 0) (bOf (cC (.int 0)))) (cOp2 fAdd (bOf (cOp2 fMul (bOf (cC (.int 2))) (bVar 0))) (bOf (cC (.int 1)))) (cC (.int 0)))) (sNext))
def d11 : FD := ⟨2, false, 2, B11⟩
def E11 : Ent := ⟨"place_of_shape", defArgs (top 25), defBody (top 25), defScope (top 25), ["last", "more"], ["last", "more"], d11⟩
/-- has -/
def B12 (Φ : CallT) : SDen := sSeq (sIf (tOp2 fEq (bVar 0) (bOf (cC (.int (-1))))) (sSeq (sRet (cC (.bl true))) (sNext)) (sNext)) (sSeq (sTup [2, 3] (bOf (cCall Φ 10 (aCons (cVar 0) (aNil))))) (sSeq (sRet (cOrT (cOp2 fLe (bVar 1) (bVar 2)) (cAndT (cVar 3) (cOp2 fEq (bVar 1) (bOf (cOp2 fAdd (bVar 2) (bOf (cC (.int 2))))))))) (sNext)))
def d12 : FD := ⟨2, false, 4, B12⟩
def E12 : Ent := ⟨"has", defArgs (top 26), defBody (top 26), defScope (top 26), ["place", "point", "last", "more"], ["place", "point"], d12⟩
/-- both_in -/
def B13 (Φ : CallT) : SDen := sSeq (sIf (tOr (tOp2 fEq (bVar 0) (bOf (cC (.int (-1))))) (tOp2 fEq (bVar 1) (bOf (cC (.int (-1)))))) (sSeq (sRet (cBlt fMax (bCons (bVar 0) (bCons (bVar 1) (bNil))))) (sNext)) (sNext)) (sSeq (sTup [2, 3] (bOf (cIf (tOp2 fLe (bOf (cCall Φ 10 (aCons (cVar 0) (aNil)))) (bOf (cCall Φ 10 (aCons (cVar 1) (aNil))))) (cTup (aCons (cVar 0) (aCons (cVar 1) (aNil)))) (cTup (aCons (cVar 1) (aCons (cVar 0) (aNil))))))) (sSeq (sTup [4, 5] (bOf (cCall Φ 10 (aCons (cVar 2) (aNil))))) (sSeq (sRet (cCall Φ 11 (aCons (cVar 4) (aCons (cAndT (cVar 5) (cCall Φ 12 (aCons (cVar 3) (aCons (cOp2 fAdd (bVar 4) (bOf (cC (.int 2)))) (aNil))))) (aNil))))) (sNext))))
def d13 : FD := ⟨2, false, 6, B13⟩
def E13 : Ent := ⟨"both_in", defArgs (top 27), defBody (top 27), defScope (top 27), ["one", "other", "near", "far", "last", "more"], ["one", "other"], d13⟩
/-- either_in -/
def B14t1 (Φ : CallT) : TDen := tOr (tVal (bOf (cCall Φ 12 (aCons (cVar 0) (aCons (cOp2 fAdd (bVar 2) (bOf (cC (.int 1)))) (aNil)))))) (tVal (bOf (cCall Φ 12 (aCons (cVar 1) (aCons (cOp2 fAdd (bVar 2) (bOf (cC (.int 1)))) (aNil))))))
def B14s2 (Φ : CallT) : SDen := sSeq (sAug 2 fIAdd (bOf (cC (.int 1)))) (sNext)
def B14 (Φ : CallT) : SDen := sSeq (sIf (tOr (tOp2 fEq (bVar 0) (bOf (cC (.int (-1))))) (tOp2 fEq (bVar 1) (bOf (cC (.int (-1)))))) (sSeq (sRet (cC (.int (-1)))) (sNext)) (sNext)) (sSeq (sSet 2 (cBlt fMax (bCons (bOf (cOp2 fIx (bOf (cCall Φ 10 (aCons (cVar 0) (aNil)))) (bOf (cC (.int 0))))) (bCons (bOf (cOp2 fIx (bOf (cCall Φ 10 (aCons (cVar 1) (aNil)))) (bOf (cC (.int 0))))) (bNil))))) (sSeq (sWhile (B14t1 Φ) (B14s2 Φ) FUEL) (sSeq (sRet (cCall Φ 11 (aCons (cVar 2) (aCons (cOrT (cCall Φ 12 (aCons (cVar 0) (aCons (cOp2 fAdd (bVar 2) (bOf (cC (.int 2)))) (aNil)))) (cCall Φ 12 (aCons (cVar 1) (aCons (cOp2 fAdd (bVar 2) (bOf (cC (.int 2)))) (aNil))))) (aNil))))) (sNext))))
def d14 : FD := ⟨2, false, 3, B14⟩
def E14 : Ent := ⟨"either_in", defArgs (top 28), defBody (top 28), defScope (top 28), ["one", "other", "last"], ["one", "other"], d14⟩
/-- first_beyond -/
def B15 (Φ : CallT) : SDen := sSeq (sTup [2, 3] (bOf (cCall Φ 10 (aCons (cVar 0) (aNil))))) (sSeq (sIf (tOp2 fEq (bVar 1) (bOf (cC (.int (-1))))) (sSeq (sRet (cOp1 fNeg (bOf (cC (.int 1))))) (sNext)) (sNext)) (sSeq (sIf (tOp2 fGt (bVar 2) (bOf (cOp2 fIx (bOf (cCall Φ 10 (aCons (cVar 1) (aNil)))) (bOf (cC (.int 0)))))) (sSeq (sRet (cOp2 fAdd (bOf (cOp2 fIx (bOf (cCall Φ 10 (aCons (cVar 1) (aNil)))) (bOf (cC (.int 0))))) (bOf (cC (.int 1))))) (sNext)) (sNext)) (sSeq (sRet (cIf (tAnd (tVal (bVar 3)) (tNot (tVal (bOf (cCall Φ 12 (aCons (cVar 1) (aCons (cOp2 fAdd (bVar 2) (bOf (cC (.int 2)))) (aNil)))))))) (cOp2 fAdd (bVar 2) (bOf (cC (.int 2)))) (cOp1 fNeg (bOf (cC (.int 1)))))) (sNext))))
def d15 : FD := ⟨2, false, 4, B15⟩
def E15 : Ent := ⟨"first_beyond", defArgs (top 29), defBody (top 29), defScope (top 29), ["one", "other", "last", "more"], ["one", "other"], d15⟩
/-- is_below_in -/
def B16 (Φ : CallT) : SDen := sSeq (sIf (tOp2 fEq (bVar 1) (bOf (cC (.int (-1))))) (sSeq (sRet (cC (.bl true))) (sNext)) (sNext)) (sSeq (sRet (cAndT (cOp2 fNe (bVar 0) (bOf (cC (.int (-1))))) (cOp2 fLt (bOf (cCall Φ 15 (aCons (cVar 0) (aCons (cVar 1) (aNil))))) (bOf (cC (.int 0)))))) (sNext))
def d16 : FD := ⟨2, false, 2, B16⟩
def E16 : Ent := ⟨"is_below_in", defArgs (top 30), defBody (top 30), defScope (top 30), ["one", "other"], ["one", "other"], d16⟩
/-- leads_in -/
def B17 (Φ : CallT) : SDen := sSeq (sIf (tVal (bOf (cCall Φ 16 (aCons (cVar 0) (aCons (cVar 1) (aNil)))))) (sSeq (sRet (cC (.int (-1)))) (sNext)) (sNext)) (sSeq (sIf (tOp2 fEq (bVar 0) (bOf (cC (.int (-1))))) (sSeq (sRetV 1) (sNext)) (sNext)) (sSeq (sSet 2 (cCall Φ 15 (aCons (cVar 0) (aCons (cVar 1) (aNil))))) (sSeq (sRet (cCall Φ 11 (aCons (cOp2 fSub (bVar 2) (bOf (cC (.int 1)))) (aCons (cOrT (cNot (cCall Φ 12 (aCons (cVar 0) (aCons (cOp2 fAdd (bVar 2) (bOf (cC (.int 1)))) (aNil))))) (cCall Φ 12 (aCons (cVar 1) (aCons (cOp2 fAdd (bVar 2) (bOf (cC (.int 1)))) (aNil))))) (aNil))))) (sNext))))
def d17 : FD := ⟨2, false, 3, B17⟩
def E17 : Ent := ⟨"leads_in", defArgs (top 31), defBody (top 31), defScope (top 31), ["one", "other", "least"], ["one", "other"], d17⟩
/-- place_in -/
def B18 (Φ : CallT) : SDen := sSeq (sIf (tOp2 fEq (bVar 0) (bOf (cC (.tup [(.str "p")])))) (sSeq (sRetV 1) (sNext)) (sNext)) (sSeq (sIf (tOp2 fEq (bVar 0) (bOf (cC (.tup [(.str "no")])))) (sSeq (sRet (cC (.int 0))) (sNext)) (sNext)) (sSeq (sPar 2 3 (cCall Φ 18 (aCons (cOp2 fIx (bVar 0) (bOf (cC (.int 1)))) (aCons (cVar 1) (aNil)))) (cCall Φ 18 (aCons (cOp2 fIx (bVar 0) (bOf (cC (.int 2)))) (aCons (cVar 1) (aNil))))) (sSeq (sIf (tOp2 fEq (bOf (cOp2 fIx (bVar 0) (bOf (cC (.int 0))))) (bOf (cC (.str "and")))) (sSeq (sRet (cCall Φ 13 (aCons (cVar 2) (aCons (cVar 3) (aNil))))) (sNext)) (sNext)) (sSeq (sRet (cIf (tOp2 fEq (bOf (cOp2 fIx (bVar 0) (bOf (cC (.int 0))))) (bOf (cC (.str "or")))) (cCall Φ 14 (aCons (cVar 2) (aCons (cVar 3) (aNil)))) (cCall Φ 17 (aCons (cVar 2) (aCons (cVar 3) (aNil)))))) (sNext)))))
def d18 : FD := ⟨2, false, 4, B18⟩
def E18 : Ent := ⟨"place_in", defArgs (top 32), defBody (top 32), defScope (top 32), ["saying", "told", "one", "other"], ["saying", "told"], d18⟩
/-- sure_place -/
def B19 (Φ : CallT) : SDen := sSeq (sIf (tNot (tVal (bOf (cCall Φ 9 (aCons (cVar 0) (aNil)))))) (sSeq (sRaise 52) (sNext)) (sNext)) (sSeq (sRetV 0) (sNext))
def d19 : FD := ⟨1, false, 1, B19⟩
def E19 : Ent := ⟨"sure_place", defArgs (top 33), defBody (top 33), defScope (top 33), ["thing"], ["thing"], d19⟩
/-- place_of -/
def B20 (Φ : CallT) : SDen := sSeq (sRet (cCall Φ 18 (aCons (cCall Φ 8 (aCons (cVar 0) (aNil))) (aCons (cC (.int 1)) (aNil))))) (sNext)
def d20 : FD := ⟨1, false, 1, B20⟩
def E20 : Ent := ⟨"place_of", defArgs (top 34), defBody (top 34), defScope (top 34), ["saying"], ["saying"], d20⟩
/-- both -/
def B21 (Φ : CallT) : SDen := sSeq (sSet 2 (cCall Φ 19 (aCons (cVar 0) (aNil)))) (sSeq (sRet (cCall Φ 13 (aCons (cVar 2) (aCons (cCall Φ 19 (aCons (cVar 1) (aNil))) (aNil))))) (sNext))
def d21 : FD := ⟨2, false, 3, B21⟩
def E21 : Ent := ⟨"both", defArgs (top 35), defBody (top 35), defScope (top 35), ["one", "other", "own"], ["one", "other"], d21⟩
/-- either -/
def B22 (Φ : CallT) : SDen := sSeq (sSet 2 (cCall Φ 19 (aCons (cVar 0) (aNil)))) (sSeq (sRet (cCall Φ 14 (aCons (cVar 2) (aCons (cCall Φ 19 (aCons (cVar 1) (aNil))) (aNil))))) (sNext))
def d22 : FD := ⟨2, false, 3, B22⟩
def E22 : Ent := ⟨"either", defArgs (top 36), defBody (top 36), defScope (top 36), ["one", "other", "own"], ["one", "other"], d22⟩
/-- leads -/
def B23 (Φ : CallT) : SDen := sSeq (sSet 2 (cCall Φ 19 (aCons (cVar 0) (aNil)))) (sSeq (sRet (cCall Φ 17 (aCons (cVar 2) (aCons (cCall Φ 19 (aCons (cVar 1) (aNil))) (aNil))))) (sNext))
def d23 : FD := ⟨2, false, 3, B23⟩
def E23 : Ent := ⟨"leads", defArgs (top 37), defBody (top 37), defScope (top 37), ["one", "other", "own"], ["one", "other"], d23⟩
/-- is_below -/
def B24 (Φ : CallT) : SDen := sSeq (sSet 2 (cCall Φ 19 (aCons (cVar 0) (aNil)))) (sSeq (sRet (cCall Φ 16 (aCons (cVar 2) (aCons (cCall Φ 19 (aCons (cVar 1) (aNil))) (aNil))))) (sNext))
def d24 : FD := ⟨2, false, 3, B24⟩
def E24 : Ent := ⟨"is_below", defArgs (top 38), defBody (top 38), defScope (top 38), ["one", "other", "own"], ["one", "other"], d24⟩
/-- how_many_below -/
def B25 (Φ : CallT) : SDen := sSeq (sSet 1 (cCall Φ 19 (aCons (cVar 0) (aNil)))) (sSeq (sIf (tOp2 fEq (bVar 1) (bOf (cC (.int (-1))))) (sSeq (sRaise 50) (sNext)) (sNext)) (sSeq (sIf (tOp2 fLt (bVar 1) (bOf (cC (.int 3)))) (sSeq (sRet (cOp2 fIx (bOf (cTup (aCons (cC (.int 1)) (aCons (cC (.int 2)) (aCons (cC (.int 2)) (aNil)))))) (bVar 1))) (sNext)) (sNext)) (sSeq (sRet (cIf (tOp2 fEq (bOf (cOp2 fMod (bVar 1) (bOf (cC (.int 2))))) (bOf (cC (.int 1)))) (cOp2 fAdd (bVar 1) (bOf (cC (.int 1)))) (cOp2 fSub (bVar 1) (bOf (cC (.int 1)))))) (sNext))))
def d25 : FD := ⟨1, false, 2, B25⟩
def E25 : Ent := ⟨"how_many_below", defArgs (top 41), defBody (top 41), defScope (top 41), ["place", "own"], ["place"], d25⟩
/-- value_under -/
def B26 (Φ : CallT) : SDen := sSeq (sSet 2 (cCall Φ 19 (aCons (cVar 0) (aNil)))) (sSeq (sRet (cCall Φ 13 (aCons (cVar 2) (aCons (cCall Φ 18 (aCons (cCall Φ 8 (aCons (cVar 1) (aNil))) (aCons (cC (.int 1)) (aNil)))) (aNil))))) (sNext))
def d26 : FD := ⟨2, false, 3, B26⟩
def E26 : Ent := ⟨"value_under", defArgs (top 43), defBody (top 43), defScope (top 43), ["place", "saying", "own"], ["place", "saying"], d26⟩
/-- both_under -/
def B27 (Φ : CallT) : SDen := sSeq (sTup [3, 4, 5] (bOf (cCall Φ 30 (aCons (cVar 0) (aCons (cVar 1) (aCons (cVar 2) (aNil))))))) (sSeq (sRet (cCall Φ 13 (aCons (cCall Φ 13 (aCons (cVar 4) (aCons (cVar 5) (aNil)))) (aCons (cVar 3) (aNil))))) (sNext))
def d27 : FD := ⟨3, false, 6, B27⟩
def E27 : Ent := ⟨"both_under", defArgs (top 44), defBody (top 44), defScope (top 44), ["place", "one", "other", "own", "near", "far"], ["place", "one", "other"], d27⟩
/-- either_under -/
def B28 (Φ : CallT) : SDen := sSeq (sTup [3, 4, 5] (bOf (cCall Φ 30 (aCons (cVar 0) (aCons (cVar 1) (aCons (cVar 2) (aNil))))))) (sSeq (sRet (cCall Φ 13 (aCons (cCall Φ 14 (aCons (cVar 4) (aCons (cVar 5) (aNil)))) (aCons (cVar 3) (aNil))))) (sNext))
def d28 : FD := ⟨3, false, 6, B28⟩
def E28 : Ent := ⟨"either_under", defArgs (top 45), defBody (top 45), defScope (top 45), ["place", "one", "other", "own", "near", "far"], ["place", "one", "other"], d28⟩
/-- leads_under -/
def B29 (Φ : CallT) : SDen := sSeq (sTup [3, 4, 5] (bOf (cCall Φ 30 (aCons (cVar 0) (aCons (cVar 1) (aCons (cVar 2) (aNil))))))) (sSeq (sRet (cCall Φ 13 (aCons (cVar 3) (aCons (cCall Φ 17 (aCons (cVar 4) (aCons (cVar 5) (aNil)))) (aNil))))) (sNext))
def d29 : FD := ⟨3, false, 6, B29⟩
def E29 : Ent := ⟨"leads_under", defArgs (top 46), defBody (top 46), defScope (top 46), ["place", "one", "other", "own", "near", "far"], ["place", "one", "other"], d29⟩
/-- sure_under -/
def B30 (Φ : CallT) : SDen := sSeq (sSet 3 (cCall Φ 19 (aCons (cVar 0) (aNil)))) (sSeq (sSet 4 (cCall Φ 19 (aCons (cVar 1) (aNil)))) (sSeq (sSet 5 (cCall Φ 19 (aCons (cVar 2) (aNil)))) (sSeq (sIf (tOr (tNot (tVal (bOf (cCall Φ 16 (aCons (cVar 4) (aCons (cVar 3) (aNil))))))) (tNot (tVal (bOf (cCall Φ 16 (aCons (cVar 5) (aCons (cVar 3) (aNil)))))))) (sSeq (sRaise 50) (sNext)) (sNext)) (sSeq (sRet (cTup (aCons (cVar 3) (aCons (cVar 4) (aCons (cVar 5) (aNil)))))) (sNext)))))
def d30 : FD := ⟨3, false, 6, B30⟩
def E30 : Ent := ⟨"sure_under", defArgs (top 47), defBody (top 47), defScope (top 47), ["place", "one", "other", "own", "near", "far"], ["place", "one", "other"], d30⟩
/-- leads_over -/
def B31e1 (Φ : CallT) : Den := cCall Φ 13 (aCons (cVar 3) (aCons (cVar 4) (aNil)))
def B31t2 (Φ : CallT) : TDen := tVal (bOf (cCall Φ 16 (aCons (cVar 4) (aCons (cVar 2) (aNil)))))
def B31 (Φ : CallT) : SDen := sSeq (sSet 2 (cVal (cCall Φ 6 (aCons (cCall Φ 19 (aCons (cVar 0) (aNil))) (aCons (cC (.int 0)) (aCons (cC (.int 2000)) (aNil))))))) (sSeq (sSet 3 (cVal (cCall Φ 19 (aCons (cVar 1) (aNil))))) (sSeq (sIf (tNot (tVal (bOf (cCall Φ 16 (aCons (cVar 3) (aCons (cVar 2) (aNil))))))) (sSeq (sRaise 50) (sNext)) (sNext)) (sSeq (sRet (cComp [4] (iRange (bCons (bOf (cOp2 fAdd (bVar 2) (bOf (cC (.int 1))))) (bNil))) (.one 4) (B31t2 Φ) (B31e1 Φ))) (sNext))))
def d31 : FD := ⟨2, false, 5, B31⟩
def E31 : Ent := ⟨"leads_over", defArgs (top 48), defBody (top 48), defScope (top 48), ["place", "other", "own", "its", "near"], ["place", "other"], d31⟩
/-- is_order_in -/
def B32e1 (Φ : CallT) : Den := cOp2 fIn (bVar 6) (bVar 3)
def B32i2 (Φ : CallT) : IDen := iSeq (cOp2 fIx (bVar 2) (bVar 4))
def B32e3 (Φ : CallT) : Den := cOp2 fIn (bVar 7) (bVar 5)
def B32i4 (Φ : CallT) : IDen := iSeq (cOp2 fIx (bVar 2) (bVar 6))
def B32s5 (Φ : CallT) : SDen := sSeq (sIf (tOr (tOp2 fIn (bVar 4) (bVar 5)) (tNot (tVal (bOf (cBlt fAll (bCons (bOf (cComp2 [6, 7] [7] (iSeq (cVar 5)) (.one 6) (tTrue) (B32i4 Φ) (.one 7) (tTrue) (B32e3 Φ))) (bNil))))))) (sSeq (sRet (cC (.bl false))) (sNext)) (sNext)) (sNext)
def B32e6 (Φ : CallT) : Den := cAndT (cCall Φ 3 (aCons (cVar 5) (aCons (cC (.int 0)) (aCons (cOp2 fSub (bVar 1) (bOf (cC (.int 1)))) (aNil))))) (cCall Φ 4 (aCons (cVar 5) (aNil)))
def B32 (Φ : CallT) : SDen := sSeq (sIf (tOr (tNot (tVal (bOf (cCall Φ 2 (aCons (cVar 0) (aCons (cC (.int 2)) (aNil))))))) (tOr (tNot (tVal (bOf (cBlt fIsi (bCons (bOf (cOp2 fIx (bVar 0) (bOf (cC (.int 0))))) (bCons (bOf (cC (.ty "tuple"))) (bNil))))))) (tNot (tChn fLe fLe (bOf (cC (.int 1))) (bOf (cBlt fLen (bCons (bOf (cOp2 fIx (bVar 0) (bOf (cC (.int 0))))) (bNil)))) (bOf (cC (.int 30))))))) (sSeq (sRet (cC (.bl false))) (sNext)) (sNext)) (sSeq (sTup [2, 3] (bVar 0)) (sSeq (sSet 1 (cVal (cBlt fLen (bCons (bVar 2) (bNil))))) (sSeq (sIf (tNot (tVal (bOf (cBlt fAll (bCons (bOf (cComp [5] (iSeq (cOp2 fAdd (bVar 2) (bOf (cTup (aCons (cVar 3) (aNil)))))) (.one 5) (tTrue) (B32e6 Φ))) (bNil)))))) (sSeq (sRet (cC (.bl false))) (sNext)) (sNext)) (sSeq (sFor (iEnumA (cVar 2)) (.many [4, 5]) (B32s5 Φ)) (sSeq (sRet (cBlt fAll (bCons (bOf (cComp2 [4, 6] [6] (iSeq (cVar 3)) (.one 4) (tTrue) (B32i2 Φ) (.one 6) (tTrue) (B32e1 Φ))) (bNil)))) (sNext))))))
def d32 : FD := ⟨1, false, 8, B32⟩
def E32 : Ent := ⟨"is_order_in", defArgs (top 51), defBody (top 51), defScope (top 51), ["thing", "many", "seen", "marks", "world", "own", "near", "other"], ["thing"], d32⟩
/-- is_frame_in -/
def B33 (Φ : CallT) : SDen := sSeq (sRet (cCall Φ 32 (aCons (cTup (aCons (cVar 0) (aCons (cTup (aNil)) (aNil)))) (aNil)))) (sNext)
def d33 : FD := ⟨1, false, 1, B33⟩
def E33 : Ent := ⟨"is_frame_in", defArgs (top 54), defBody (top 54), defScope (top 54), ["thing"], ["thing"], d33⟩
/-- sure_frame -/
def B34 (Φ : CallT) : SDen := sSeq (sSet 1 (cCall Φ 5 (aCons (cVar 0) (aNil)))) (sSeq (sIf (tNot (tVal (bOf (cCall Φ 33 (aCons (cVar 1) (aNil)))))) (sSeq (sRaise 52) (sNext)) (sNext)) (sSeq (sRetV 1) (sNext)))
def d34 : FD := ⟨1, false, 2, B34⟩
def E34 : Ent := ⟨"sure_frame", defArgs (top 55), defBody (top 55), defScope (top 55), ["value", "own"], ["value"], d34⟩
/-- marks_in -/
def B35e1 (Φ : CallT) : Den := cBlt fTuple (bCons (bOf (cBlt fSorted (bCons (bVar 4) (bNil)))) (bNil))
def B35e2 (Φ : CallT) : Den := cOp2 fIn (bVar 6) (bVar 4)
def B35e3 (Φ : CallT) : Den := cOp2 fAdd (bVar 4) (bOf (cTup (aCons (cVar 3) (aNil))))
def B35t4 (Φ : CallT) : TDen := tVal (bOf (cBlt fAll (bCons (bOf (cComp [6] (iSeq (cOp2 fIx (bVar 0) (bVar 3))) (.one 6) (tTrue) (B35e2 Φ))) (bNil))))
def B35s5 (Φ : CallT) : SDen := sSeq (sDrop (cExtend 2 (bOf (cCompS [4] 2 (.one 4) (B35t4 Φ) (B35e3 Φ))))) (sSeq (sIf (tOp2 fGt (bOf (cBlt fLen (bCons (bVar 2) (bNil)))) (bOf (cC (.int 3000)))) (sSeq (sRaise 51) (sNext)) (sNext)) (sNext))
def B35e6 (Φ : CallT) : Den := cOp2 fIx (bVar 4) (bOf (cC (.int 1)))
def B35e7 (Φ : CallT) : Den := cTup (aCons (cBlt fLen (bCons (bVar 5) (bNil))) (aCons (cVar 3) (aNil)))
def B35 (Φ : CallT) : SDen := sSeq (sSet 1 (cComp [4] (iSeq (cBlt fSorted (bCons (bOf (cComp [3, 5] (iEnumA (cVar 0)) (.many [3, 5]) (tTrue) (B35e7 Φ))) (bNil)))) (.one 4) (tTrue) (B35e6 Φ))) (sSeq (sSet 2 (cLst (aCons (cTup (aNil)) (aNil)))) (sSeq (sFor (iSeq (cVar 1)) (.one 3) (B35s5 Φ)) (sSeq (sRet (cBlt fSorted (bCons (bOf (cCompS [4] 2 (.one 4) (tTrue) (B35e1 Φ))) (bNil)))) (sNext))))
def d35 : FD := ⟨1, false, 7, B35⟩
def E35 : Ent := ⟨"marks_in", defArgs (top 56), defBody (top 56), defScope (top 56), ["frame", "order", "found", "world", "own", "its", "near"], ["frame"], d35⟩
/-- all_marks -/
def B36 (Φ : CallT) : SDen := sSeq (sRet (cCall Φ 35 (aCons (cCall Φ 34 (aCons (cVar 0) (aNil))) (aNil)))) (sNext)
def d36 : FD := ⟨1, false, 1, B36⟩
def E36 : Ent := ⟨"all_marks", defArgs (top 57), defBody (top 57), defScope (top 57), ["frame"], ["frame"], d36⟩
/-- point_place -/
def B37 (Φ : CallT) : SDen := sSeq (sRet (cIf (tOp2 fGt (bVar 0) (bOf (cC (.int 1)))) (cOp2 fMul (bOf (cC (.int 2))) (bVar 0)) (cOp2 fAdd (bVar 0) (bOf (cC (.int 1)))))) (sNext)
def d37 : FD := ⟨1, false, 1, B37⟩
def E37 : Ent := ⟨"point_place", defArgs (top 58), defBody (top 58), defScope (top 58), ["point"], ["point"], d37⟩
/-- checked_frame -/
def B38 (Φ : CallT) : SDen := sSeq (sIf (tNot (tVal (bOf (cCall Φ 33 (aCons (cVar 0) (aNil)))))) (sSeq (sRaise 51) (sNext)) (sNext)) (sSeq (sRetV 0) (sNext))
def d38 : FD := ⟨1, false, 1, B38⟩
def E38 : Ent := ⟨"checked_frame", defArgs (top 59), defBody (top 59), defScope (top 59), ["frame"], ["frame"], d38⟩
/-- frame_of_place -/
def B39e1 (Φ : CallT) : Den := cBlt fTuple (bCons (bVar 7) (bNil))
def B39e2 (Φ : CallT) : Den := cVar 5
def B39t3 (Φ : CallT) : TDen := tOp2 fLe (bVar 6) (bOf (cOp2 fSub (bVar 4) (bOf (cC (.int 2)))))
def B39e4 (Φ : CallT) : Den := cComp [5, 6] (iEnumA (cVar 2)) (.many [5, 6]) (B39t3 Φ) (B39e2 Φ)
def B39e5 (Φ : CallT) : Den := cVar 4
def B39t6 (Φ : CallT) : TDen := tVal (bOf (cCall Φ 16 (aCons (cCall Φ 37 (aCons (cVar 4) (aNil))) (aCons (cVar 1) (aNil)))))
def B39 (Φ : CallT) : SDen := sSeq (sSet 1 (cVal (cCall Φ 19 (aCons (cVar 0) (aNil))))) (sSeq (sIf (tOp2 fLt (bVar 1) (bOf (cC (.int 1)))) (sSeq (sRaise 50) (sNext)) (sNext)) (sSeq (sIf (tOp2 fGt (bVar 1) (bOf (cOp2 fMul (bOf (cC (.int 2))) (bOf (cC (.int 30)))))) (sSeq (sRaise 51) (sNext)) (sNext)) (sSeq (sSet 2 (cVal (cComp [4] (iRange (bCons (bOf (cOp2 fAdd (bOf (cOp2 fDiv (bVar 1) (bOf (cC (.int 2))))) (bOf (cC (.int 1))))) (bNil))) (.one 4) (B39t6 Φ) (B39e5 Φ)))) (sSeq (sSet 3 (cCompS [4] 2 (.one 4) (tTrue) (B39e4 Φ))) (sSeq (sRet (cCall Φ 38 (aCons (cBlt fTuple (bCons (bOf (cCompS [7] 3 (.one 7) (tTrue) (B39e1 Φ))) (bNil))) (aNil)))) (sNext))))))
def d39 : FD := ⟨1, false, 8, B39⟩
def E39 : Ent := ⟨"frame_of_place", defArgs (top 60), defBody (top 60), defScope (top 60), ["place", "own", "points", "rows", "point", "at", "near", "row"], ["place"], d39⟩
/-- _law_box -/
def B40 (Φ : CallT) : SDen := sSeq (sSet 2 (cIf (tOp2 fLt (bVar 1) (bOf (cBlt fLen (bCons (bVar 0) (bNil))))) (cOp2 fIx (bVar 0) (bVar 1)) (cC (.int 0)))) (sSeq (sRet (cLst (aCons (cOp2 fMul (bOf (cBlt fAbs (bCons (bVar 2) (bNil)))) (bOf (cBlt fInt (bCons (bOf (cOp2 fGe (bOf (cBlt fAbs (bCons (bVar 2) (bNil)))) (bOf (cOp2 fPow (bOf (cC (.int 10))) (bOf (cC (.int 18))))))) (bNil))))) (aCons (cOp2 fAdd (bOf (cOp2 fAdd (bOf (cOp2 fMod (bOf (cBlt fInt (bCons (bVar 2) (bNil)))) (bOf (cC (.int 2305843009213693951))))) (bOf (cOp2 fMul (bOf (cC (.int 39373))) (bVar 1))))) (bOf (cC (.int 262980)))) (aCons (cC (.int 0)) (aNil)))))) (sNext))
def d40 : FD := ⟨2, false, 3, B40⟩
def E40 : Ent := ⟨"_law_box", defArgs (top 62), defBody (top 62), defScope (top 62), ["script", "k", "bit_so"], ["script", "k"], d40⟩
/-- _law_take -/
def B41 (Φ : CallT) : SDen := sSeq (sIf (tOp2 fGt (bOf (cOp2 fIx (bVar 0) (bOf (cC (.int 0))))) (bOf (cC (.int 0)))) (sSeq (sSet 5 (cOp2 fMod (bOf (cBlt fInt (bCons (bOf (cOp2 fIx (bVar 0) (bOf (cC (.int 0))))) (bNil)))) (bVar 1))) (sSeq (sPut 0 (bOf (cC (.int 0))) (cOp2 fDiv (bOf (cOp2 fIx (bVar 0) (bOf (cC (.int 0))))) (bVar 1))) (sSeq (sRetV 5) (sNext)))) (sNext)) (sSeq (sPut 0 (bOf (cC (.int 2))) (cOp2 fAdd (bOf (cOp2 fIx (bVar 0) (bOf (cC (.int 2))))) (bOf (cC (.int 1))))) (sSeq (sSet 2 (cOp2 fMod (bOf (cBlt fInt (bCons (bOf (cOp2 fMul (bOf (cOp2 fAdd (bOf (cOp2 fIx (bVar 0) (bOf (cC (.int 1))))) (bOf (cOp2 fMul (bOf (cC (.int 48271))) (bOf (cOp2 fIx (bVar 0) (bOf (cC (.int 2))))))))) (bOf (cOp2 fAdd (bOf (cC (.int 39373))) (bOf (cOp2 fIx (bVar 0) (bOf (cC (.int 2))))))))) (bNil)))) (bOf (cC (.int 2147483647))))) (sSeq (sSet 3 (cOp2 fAdd (bOf (cOp2 fMod (bOf (cBlt fInt (bCons (bVar 2) (bNil)))) (bOf (cC (.int 40009))))) (bOf (cC (.int 7))))) (sSeq (sSet 4 (cOp2 fMod (bOf (cBlt fInt (bCons (bOf (cOp2 fMul (bOf (cOp2 fAdd (bOf (cOp2 fAdd (bVar 2) (bOf (cOp2 fIx (bVar 0) (bOf (cC (.int 2))))))) (bOf (cOp2 fDiv (bOf (cOp2 fIx (bVar 0) (bOf (cC (.int 1))))) (bOf (cC (.int 1000003))))))) (bVar 3))) (bNil)))) (bOf (cC (.int 2147483629))))) (sSeq (sRet (cOp2 fMod (bOf (cBlt fInt (bCons (bOf (cOp2 fDiv (bOf (cOp2 fMod (bOf (cBlt fInt (bCons (bOf (cOp2 fAdd (bOf (cOp2 fMul (bVar 4) (bOf (cC (.int 48271))))) (bVar 2))) (bNil)))) (bOf (cC (.int 2147483587))))) (bOf (cC (.int 64))))) (bNil)))) (bVar 1))) (sNext))))))
def d41 : FD := ⟨2, true, 6, B41⟩
def E41 : Ent := ⟨"_law_take", defArgs (top 63), defBody (top 63), defScope (top 63), ["tin", "below_so", "once_so", "wide_so", "twice_so", "drawn_so"], ["tin", "below_so"], d41⟩
/-- _law_cells -/
def B42s1 (Φ : CallT) : SDen := sSeq (sSet 5 (cOp2 fMod (bOf (cBlt fInt (bCons (bVar 3) (bNil)))) (bVar 1))) (sSeq (sPut 2 (bVar 5) (cOp2 fAdd (bOf (cOp2 fIx (bVar 2) (bVar 5))) (bOf (cOp2 fMul (bVar 4) (bOf (cOp2 fAdd (bVar 3) (bOf (cC (.int 2))))))))) (sNext))
def B42 (Φ : CallT) : SDen := sSeq (sSet 2 (cOrT (cBlt fList (bCons (bOf (cSl fSl (bVar 0) (pNone) (pSome (bVar 1)))) (bNil))) (cLst (aCons (cC (.int 0)) (aNil))))) (sSeq (sFor (iEnum (cSl fSl (bVar 0) (pSome (bVar 1)) (pSome (bOf (cC (.int 63)))))) (.many [3, 4]) (B42s1 Φ)) (sSeq (sRetV 2) (sNext)))
def d42 : FD := ⟨2, false, 6, B42⟩
def E42 : Ent := ⟨"_law_cells", defArgs (top 64), defBody (top 64), defScope (top 64), ["script", "most_so", "cells_so", "k", "bit_so", "at_so"], ["script", "most_so"], d42⟩
/-- _law_of -/
def B43 (Φ : CallT) : SDen := sSeq (sRet (cOp2 fIx (bVar 1) (bOf (onOwn 0 (cCallIO Φ 41 0 (aCons (cBlt fLen (bCons (bVar 1) (bNil))) (aNil))))))) (sNext)
def d43 : FD := ⟨2, true, 2, B43⟩
def E43 : Ent := ⟨"_law_of", defArgs (top 65), defBody (top 65), defScope (top 65), ["tin", "goods_so"], ["tin", "goods_so"], d43⟩
/-- _law_same -/
def B44e1 (Φ : CallT) : Den := cCall Φ 44 (aCons (cVar 2) (aCons (cVar 3) (aNil)))
def B44 (Φ : CallT) : SDen := sSeq (sIf (tVal (bOf (cBlt fIsi (bCons (bVar 1) (bCons (bOf (cTup (aCons (cC (.ty "list")) (aCons (cC (.ty "tuple")) (aNil))))) (bNil)))))) (sSeq (sIf (tOr (tOp2 fNe (bOf (cBlt fIsi (bCons (bVar 0) (bCons (bOf (cC (.ty "list"))) (bNil))))) (bOf (cBlt fIsi (bCons (bVar 1) (bCons (bOf (cC (.ty "list"))) (bNil)))))) (tOp2 fNe (bOf (cBlt fIsi (bCons (bVar 0) (bCons (bOf (cC (.ty "tuple"))) (bNil))))) (bOf (cBlt fIsi (bCons (bVar 1) (bCons (bOf (cC (.ty "tuple"))) (bNil))))))) (sSeq (sRet (cC (.bl false))) (sNext)) (sNext)) (sSeq (sRet (cAndT (cOp2 fEq (bOf (cBlt fLen (bCons (bVar 0) (bNil)))) (bOf (cBlt fLen (bCons (bVar 1) (bNil))))) (cBlt fAll (bCons (bOf (cComp [2, 3] (iZip (cVar 0) (cVar 1)) (.many [2, 3]) (tTrue) (B44e1 Φ))) (bNil))))) (sNext))) (sNext)) (sSeq (sIf (tOp2 fIs (bVar 1) (bOf (cC .non))) (sSeq (sRet (cOp2 fIs (bVar 0) (bOf (cC .non)))) (sNext)) (sNext)) (sSeq (sIf (tVal (bOf (cBlt fIsi (bCons (bVar 1) (bCons (bOf (cTup (aCons (cC (.ty "bool")) (aCons (cC (.ty "str")) (aNil))))) (bNil)))))) (sSeq (sRet (cAndT (cOp2 fEq (bOf (cBlt fIsi (bCons (bVar 0) (bCons (bOf (cC (.ty "bool"))) (bNil))))) (bOf (cBlt fIsi (bCons (bVar 1) (bCons (bOf (cC (.ty "bool"))) (bNil)))))) (cAndT (cOp2 fEq (bOf (cBlt fIsi (bCons (bVar 0) (bCons (bOf (cC (.ty "str"))) (bNil))))) (bOf (cBlt fIsi (bCons (bVar 1) (bCons (bOf (cC (.ty "str"))) (bNil)))))) (cOp2 fEq (bVar 0) (bVar 1))))) (sNext)) (sNext)) (sSeq (sRet (cAndT (cBlt fIsi (bCons (bVar 0) (bCons (bOf (cC (.ty "int"))) (bNil)))) (cAndT (cNot (cBlt fIsi (bCons (bVar 0) (bCons (bOf (cC (.ty "bool"))) (bNil))))) (cOp2 fEq (bVar 0) (bVar 1))))) (sNext))))
def d44 : FD := ⟨2, false, 4, B44⟩
def E44 : Ent := ⟨"_law_same", defArgs (top 66), defBody (top 66), defScope (top 66), ["got", "due", "mine", "its"], ["got", "due"], d44⟩
/-- _law_call -/
def B45 (Φ : CallT) : SDen := sSeq (sIf (tOp2 fEq (bOf (cBlt fLen (bCons (bVar 1) (bNil)))) (bOf (cC (.int 1)))) (sSeq (sRet (cCallV Φ okv1 0 (aCons (cOp2 fIx (bVar 1) (bOf (cC (.int 0)))) (aNil)))) (sNext)) (sNext)) (sSeq (sIf (tOp2 fEq (bOf (cBlt fLen (bCons (bVar 1) (bNil)))) (bOf (cC (.int 2)))) (sSeq (sRet (cCallV Φ okv2 0 (aCons (cOp2 fIx (bVar 1) (bOf (cC (.int 0)))) (aCons (cOp2 fIx (bVar 1) (bOf (cC (.int 1)))) (aNil))))) (sNext)) (sNext)) (sSeq (sIf (tOp2 fEq (bOf (cBlt fLen (bCons (bVar 1) (bNil)))) (bOf (cC (.int 3)))) (sSeq (sRet (cCallV Φ okv3 0 (aCons (cOp2 fIx (bVar 1) (bOf (cC (.int 0)))) (aCons (cOp2 fIx (bVar 1) (bOf (cC (.int 1)))) (aCons (cOp2 fIx (bVar 1) (bOf (cC (.int 2)))) (aNil)))))) (sNext)) (sNext)) (sSeq (sRet (cCallV Φ okv4 0 (aCons (cOp2 fIx (bVar 1) (bOf (cC (.int 0)))) (aCons (cOp2 fIx (bVar 1) (bOf (cC (.int 1)))) (aCons (cOp2 fIx (bVar 1) (bOf (cC (.int 2)))) (aCons (cOp2 fIx (bVar 1) (bOf (cC (.int 3)))) (aNil))))))) (sNext))))
def d45 : FD := ⟨2, false, 2, B45⟩
def E45 : Ent := ⟨"_law_call", defArgs (top 67), defBody (top 67), defScope (top 67), ["door", "goods_so"], ["door", "goods_so"], d45⟩
/-- _law_saying -/
def B46 (Φ : CallT) : SDen := sSeq (sIf (tOr (tOp2 fEq (bVar 1) (bOf (cC (.int 0)))) (tOp2 fEq (bOf (onOwn 0 (cCallIO Φ 41 0 (aCons (cC (.int 5)) (aNil))))) (bOf (cC (.int 0))))) (sSeq (sRet (onOwn 0 (cCallIO Φ 43 0 (aCons (cLst (aCons (cTup (aCons (cC (.str "p")) (aNil))) (aCons (cTup (aCons (cC (.str "p")) (aNil))) (aCons (cTup (aCons (cC (.str "no")) (aNil))) (aCons (cTup (aCons (cC (.str "to")) (aCons (cTup (aCons (cC (.str "p")) (aNil))) (aCons (cTup (aCons (cC (.str "no")) (aNil))) (aNil))))) (aNil)))))) (aNil))))) (sNext)) (sNext)) (sSeq (sSet 2 (onOwn 0 (cCallIO Φ 43 0 (aCons (cLst (aCons (cC (.str "and")) (aCons (cC (.str "or")) (aCons (cC (.str "to")) (aCons (cC (.str "to")) (aCons (cC (.str "to")) (aNil))))))) (aNil))))) (sSeq (sRet (cTup (aCons (cVar 2) (aCons (onOwn 0 (cCallIO Φ 46 0 (aCons (cOp2 fSub (bVar 1) (bOf (cC (.int 1)))) (aNil)))) (aCons (onOwn 0 (cCallIO Φ 46 0 (aCons (cOp2 fSub (bVar 1) (bOf (cC (.int 1)))) (aNil)))) (aNil)))))) (sNext)))
def d46 : FD := ⟨2, true, 3, B46⟩
def E46 : Ent := ⟨"_law_saying", defArgs (top 68), defBody (top 68), defScope (top 68), ["tin", "deep_so", "word_so"], ["tin", "deep_so"], d46⟩
/-- _law_refused -/
def B47 (Φ : CallT) : SDen := sSeq (sTup [4, 5] (bOf (cTup (aCons (cC .non) (aCons (cC .non) (aNil)))))) (sSeq (sTry (sSeq (sSet 5 (cCall Φ 45 (aCons (cVar 0) (aCons (cVar 1) (aNil))))) (sNext)) (([(50, 3, 4, "cannot"), (51, 3, 4, "many"), (52, 3, 4, "unfit")] : List (Nat × Nat × Nat × Str)).map fun q => hdOf tp q.1 q.2.1 q.2.2.1 q.2.2.2)) (sSeq (sRet (cAndT (cOp2 fIs (bVar 5) (bOf (cC .non))) (cOp2 fEq (bVar 4) (bVar 2)))) (sNext)))
def d47 : FD := ⟨3, false, 6, B47⟩
def E47 : Ent := ⟨"_law_refused", defArgs (top 69), defBody (top 69), defScope (top 69), ["door", "goods_so", "wished", "slip_so", "caught", "told_so"], ["door", "goods_so", "wished"], d47⟩
/-- _law_value -/
def B48 (Φ : CallT) : SDen := sSeq (sIf (tOp2 fIn (bOf (cOp2 fIx (bVar 1) (bOf (cC (.int 0))))) (bOf (cTup (aCons (cC (.str "p")) (aCons (cC (.str "no")) (aNil)))))) (sSeq (sRet (cIf (tOp2 fEq (bOf (cOp2 fIx (bVar 1) (bOf (cC (.int 0))))) (bOf (cC (.str "p")))) (cCall Φ 21 (aCons (cVar 0) (aCons (cC (.int 1)) (aNil)))) (cC (.int 0)))) (sNext)) (sNext)) (sSeq (sPar 2 3 (cCall Φ 48 (aCons (cVar 0) (aCons (cOp2 fIx (bVar 1) (bOf (cC (.int 1)))) (aNil)))) (cCall Φ 48 (aCons (cVar 0) (aCons (cOp2 fIx (bVar 1) (bOf (cC (.int 2)))) (aNil))))) (sSeq (sIf (tOp2 fEq (bOf (cOp2 fIx (bVar 1) (bOf (cC (.int 0))))) (bOf (cC (.str "and")))) (sSeq (sRet (cCall Φ 27 (aCons (cVar 0) (aCons (cVar 2) (aCons (cVar 3) (aNil)))))) (sNext)) (sNext)) (sSeq (sRet (cIf (tOp2 fEq (bOf (cOp2 fIx (bVar 1) (bOf (cC (.int 0))))) (bOf (cC (.str "or")))) (cCall Φ 28 (aCons (cVar 0) (aCons (cVar 2) (aCons (cVar 3) (aNil))))) (cCall Φ 29 (aCons (cVar 0) (aCons (cVar 2) (aCons (cVar 3) (aNil))))))) (sNext))))
def d48 : FD := ⟨2, false, 4, B48⟩
def E48 : Ent := ⟨"_law_value", defArgs (top 70), defBody (top 70), defScope (top 70), ["top_so", "saying_so", "near_so", "far_so"], ["top_so", "saying_so"], d48⟩
/-- law -/
def B49e1 (Φ : CallT) : Den := cVar 10
def B49t2 (Φ : CallT) : TDen := tNot (tVal (bOf (cCall Φ 24 (aCons (cVar 10) (aCons (cVar 12) (aNil))))))
def B49e3 (Φ : CallT) : Den := cCall Φ 21 (aCons (cVar 7) (aCons (cVar 10) (aNil)))
def B49e4 (Φ : CallT) : Den := cOp2 fDx (bVar 8) (bVar 10)
def B49e5 (Φ : CallT) : Den := cOp2 fEq (bOf (cCall Φ 24 (aCons (cVar 10) (aCons (cVar 6) (aNil))))) (bOf (cCall Φ 24 (aCons (cCall Φ 21 (aCons (cVar 14) (aCons (cVar 10) (aNil)))) (aCons (cVar 15) (aNil)))))
def B49e6 (Φ : CallT) : Den := cVar 10
def B49t7 (Φ : CallT) : TDen := tVal (bOf (cCall Φ 24 (aCons (cVar 10) (aCons (cVar 12) (aNil)))))
def B49s8 (Φ : CallT) : SDen := sSeq (sTup [12, 13] (bOf (cTup (aCons (onOwn 1 (cCallIO Φ 41 1 (aCons (cC (.int 25)) (aNil)))) (aCons (onOwn 1 (cCallIO Φ 46 1 (aCons (cC (.int 4)) (aNil)))) (aNil)))))) (sSeq (sSet 3 (cComp [10] (iRange (bCons (bOf (cOp2 fAdd (bVar 12) (bOf (cC (.int 1))))) (bNil))) (.one 10) (B49t7 Φ) (B49e6 Φ))) (sSeq (sIf (tNot (tVal (bOf (cCall Φ 44 (aCons (cLst (aCons (cBlt fLen (bCons (bVar 3) (bNil))) (aCons (cCall Φ 26 (aCons (cVar 12) (aCons (cVar 13) (aNil)))) (aCons (cCall Φ 26 (aCons (cOp1 fNeg (bOf (cC (.int 1)))) (aCons (cVar 13) (aNil)))) (aNil))))) (aCons (cLst (aCons (cCall Φ 25 (aCons (cVar 12) (aNil))) (aCons (cCall Φ 48 (aCons (cVar 12) (aCons (cVar 13) (aNil)))) (aCons (cCall Φ 20 (aCons (cVar 13) (aNil))) (aNil))))) (aNil))))))) (sSeq (sRet (cC (.bl false))) (sNext)) (sNext)) (sSeq (sTup [14, 15, 16] (bOf (cTup (aCons (onOwn 1 (cCallIO Φ 43 1 (aCons (cVar 3) (aNil)))) (aCons (onOwn 1 (cCallIO Φ 43 1 (aCons (cVar 3) (aNil)))) (aCons (onOwn 1 (cCallIO Φ 43 1 (aCons (cVar 3) (aNil)))) (aNil))))))) (sSeq (sSet 4 (cLst (aCons (cCall Φ 27 (aCons (cVar 12) (aCons (cVar 14) (aCons (cVar 15) (aNil))))) (aCons (cCall Φ 28 (aCons (cVar 12) (aCons (cVar 14) (aCons (cVar 15) (aNil))))) (aCons (cCall Φ 29 (aCons (cVar 12) (aCons (cVar 14) (aCons (cVar 15) (aNil))))) (aCons (cCall Φ 29 (aCons (cVar 12) (aCons (cVar 14) (aCons (cVar 14) (aNil))))) (aCons (cCall Φ 29 (aCons (cVar 12) (aCons (cVar 12) (aCons (cVar 14) (aNil))))) (aCons (cCall Φ 29 (aCons (cVar 12) (aCons (cCall Φ 27 (aCons (cVar 12) (aCons (cVar 14) (aCons (cVar 15) (aNil))))) (aCons (cVar 16) (aNil))))) (aNil))))))))) (sSeq (sSet 5 (cLst (aCons (cCall Φ 21 (aCons (cVar 14) (aCons (cVar 15) (aNil)))) (aCons (cCall Φ 22 (aCons (cVar 14) (aCons (cVar 15) (aNil)))) (aCons (cCall Φ 21 (aCons (cVar 12) (aCons (cCall Φ 23 (aCons (cVar 14) (aCons (cVar 15) (aNil)))) (aNil)))) (aCons (cVar 12) (aCons (cVar 14) (aCons (cCall Φ 29 (aCons (cVar 12) (aCons (cVar 14) (aCons (cCall Φ 29 (aCons (cVar 12) (aCons (cVar 15) (aCons (cVar 16) (aNil))))) (aNil))))) (aNil))))))))) (sSeq (sIf (tNot (tVal (bOf (cCall Φ 44 (aCons (cVar 4) (aCons (cVar 5) (aNil))))))) (sSeq (sRet (cC (.bl false))) (sNext)) (sNext)) (sSeq (sSet 6 (cVal (cCall Φ 29 (aCons (cVar 12) (aCons (cVar 14) (aCons (cVar 15) (aNil))))))) (sSeq (sIf (tNot (tVal (bOf (cBlt fAll (bCons (bOf (cCompS [10] 3 (.one 10) (tTrue) (B49e5 Φ))) (bNil)))))) (sSeq (sRet (cC (.bl false))) (sNext)) (sNext)) (sSeq (sSet 7 (cVal (onOwn 1 (cCallIO Φ 43 1 (aCons (cVar 3) (aNil)))))) (sSeq (sSet 8 (cVal (cDictZ (aCons (cVar 3) (aCons (cCall Φ 31 (aCons (cVar 12) (aCons (cVar 7) (aNil)))) (aNil)))))) (sSeq (sIf (tNot (tVal (bOf (cCall Φ 44 (aCons (cCompS [10] 3 (.one 10) (tTrue) (B49e4 Φ)) (aCons (cCompS [10] 3 (.one 10) (tTrue) (B49e3 Φ)) (aNil))))))) (sSeq (sRet (cC (.bl false))) (sNext)) (sNext)) (sSeq (sIf (tNot (tVal (bOf (cCall Φ 44 (aCons (cLst (aCons (cOp2 fDx (bVar 8) (bOf (cCall Φ 21 (aCons (cVar 14) (aCons (cVar 15) (aNil)))))) (aCons (cOp2 fDx (bVar 8) (bOf (cCall Φ 22 (aCons (cVar 14) (aCons (cVar 15) (aNil)))))) (aCons (cOp2 fDx (bVar 8) (bVar 6)) (aCons (cOp2 fDx (bVar 8) (bOf (cCall Φ 26 (aCons (cVar 12) (aCons (cVar 13) (aNil)))))) (aNil)))))) (aCons (cLst (aCons (cCall Φ 27 (aCons (cVar 7) (aCons (cOp2 fDx (bVar 8) (bVar 14)) (aCons (cOp2 fDx (bVar 8) (bVar 15)) (aNil))))) (aCons (cCall Φ 28 (aCons (cVar 7) (aCons (cOp2 fDx (bVar 8) (bVar 14)) (aCons (cOp2 fDx (bVar 8) (bVar 15)) (aNil))))) (aCons (cCall Φ 29 (aCons (cVar 7) (aCons (cOp2 fDx (bVar 8) (bVar 14)) (aCons (cOp2 fDx (bVar 8) (bVar 15)) (aNil))))) (aCons (cCall Φ 26 (aCons (cVar 7) (aCons (cVar 13) (aNil)))) (aNil)))))) (aNil))))))) (sSeq (sRet (cC (.bl false))) (sNext)) (sNext)) (sSeq (sSet 9 (cComp [10] (iRange (bCons (bOf (cC (.int 26))) (bNil))) (.one 10) (B49t2 Φ) (B49e1 Φ))) (sSeq (sSet 10 (onOwn 1 (cCallIO Φ 43 1 (aCons (cVar 9) (aNil))))) (sSeq (sSet 11 (cLst (aCons (cCall Φ 47 (aCons (cC (.gl 27)) (aCons (cTup (aCons (cVar 12) (aCons (cVar 10) (aCons (cVar 14) (aNil))))) (aCons (cC (.str "cannot")) (aNil))))) (aCons (cCall Φ 47 (aCons (cC (.gl 28)) (aCons (cTup (aCons (cVar 12) (aCons (cVar 14) (aCons (cVar 10) (aNil))))) (aCons (cC (.str "cannot")) (aNil))))) (aCons (cCall Φ 47 (aCons (cC (.gl 29)) (aCons (cTup (aCons (cVar 12) (aCons (cOp1 fNeg (bOf (cC (.int 1)))) (aCons (cVar 10) (aNil))))) (aCons (cC (.str "cannot")) (aNil))))) (aCons (cCall Φ 47 (aCons (cC (.gl 31)) (aCons (cTup (aCons (cVar 12) (aCons (cVar 10) (aNil)))) (aCons (cC (.str "cannot")) (aNil))))) (aCons (cCall Φ 47 (aCons (cC (.gl 31)) (aCons (cTup (aCons (cOp1 fNeg (bOf (cC (.int 1)))) (aCons (cC (.int 0)) (aNil)))) (aCons (cC (.str "unfit")) (aNil))))) (aNil)))))))) (sSeq (sIf (tOp2 fNe (bVar 11) (bOf (cOp2 fMulB (bOf (cLst (aCons (cC (.bl true)) (aNil)))) (bOf (cC (.int 5)))))) (sSeq (sRet (cC (.bl false))) (sNext)) (sNext)) (sSeq (sIf (tAnd (tOp2 fGt (bVar 12) (bOf (cC (.int 0)))) (tNot (tVal (bOf (cCall Φ 44 (aCons (cBlt fLen (bCons (bOf (cCall Φ 36 (aCons (cCall Φ 39 (aCons (cVar 12) (aNil))) (aNil)))) (bNil))) (aCons (cCall Φ 25 (aCons (cVar 12) (aNil))) (aNil)))))))) (sSeq (sRet (cC (.bl false))) (sNext)) (sNext)) (sNext))))))))))))))))))
def B49 (Φ : CallT) : SDen := sSeq (sSet 1 (cCall Φ 40 (aCons (cCall Φ 42 (aCons (cVar 0) (aCons (cC (.int 1)) (aNil)))) (aCons (cC (.int 0)) (aNil))))) (sSeq (sFor (iRange (bCons (bOf (cC (.int 5))) (bNil))) (.one 2) (B49s8 Φ)) (sSeq (sRet (cCall Φ 44 (aCons (cLst (aCons (cCall Φ 26 (aCons (cC (.int 3)) (aCons (cTup (aCons (cC (.str "to")) (aCons (cTup (aCons (cC (.str "to")) (aCons (cTup (aCons (cC (.str "p")) (aNil))) (aCons (cTup (aCons (cC (.str "no")) (aNil))) (aNil))))) (aCons (cTup (aCons (cC (.str "no")) (aNil))) (aNil))))) (aNil)))) (aCons (cCall Φ 27 (aCons (cC (.int 5)) (aCons (cC (.int 3)) (aCons (cC (.int 4)) (aNil))))) (aCons (cCall Φ 28 (aCons (cC (.int 5)) (aCons (cC (.int 2)) (aCons (cC (.int 1)) (aNil))))) (aCons (cCall Φ 29 (aCons (cC (.int 3)) (aCons (cC (.int 1)) (aCons (cC (.int 0)) (aNil))))) (aCons (cCall Φ 31 (aCons (cC (.int 3)) (aCons (cC (.int 1)) (aNil)))) (aNil))))))) (aCons (cLst (aCons (cC (.int 1)) (aCons (cC (.int 1)) (aCons (cC (.int 3)) (aCons (cC (.int 2)) (aCons (cLst (aCons (cC (.int 0)) (aCons (cC (.int 1)) (aCons (cC (.int 0)) (aCons (cC (.int 1)) (aNil)))))) (aNil))))))) (aNil))))) (sNext)))
def d49 : FD := ⟨1, false, 17, B49⟩
def E49 : Ent := ⟨"law", defArgs (top 71), defBody (top 71), defScope (top 71), ["script", "tin", "lap", "lots_so", "got", "due", "its", "low_so", "led_so", "beyond_so", "k", "heard_so", "top_so", "saying_so", "x", "y", "z"], ["script"], d49⟩
def L : List Ent := [E0, E1, E2, E3, E4, E5, E6, E7, E8, E9, E10, E11, E12, E13, E14, E15, E16, E17, E18, E19, E20, E21, E22, E23, E24, E25, E26, E27, E28, E29, E30, E31, E32, E33, E34, E35, E36, E37, E38, E39, E40, E41, E42, E43, E44, E45, E46, E47, E48, E49]
section
variable {P : Program} {w : World} {K : PySem.W.Frag} {mg : Str → Option Value} {base : Heap}
theorem okv1_ok {k : Nat} (ih : Lv L P w K mg base (tp.G K) k) (m : Nat) (h : okv1 m = true) : ∃ ps, COk P w K mg base (tp.G K) (calls (tab L) k) k m ps false ∧ ps.length = 1 := by
  cases h
theorem okv2_ok {k : Nat} (ih : Lv L P w K mg base (tp.G K) k) (m : Nat) (h : okv2 m = true) : ∃ ps, COk P w K mg base (tp.G K) (calls (tab L) k) k m ps false ∧ ps.length = 2 := by
  unfold okv2 at h
  simp only [Bool.or_eq_true, beq_iff_eq] at h
  subst h
  exact ⟨_, ih 31 E31 rfl, rfl⟩
theorem okv3_ok {k : Nat} (ih : Lv L P w K mg base (tp.G K) k) (m : Nat) (h : okv3 m = true) : ∃ ps, COk P w K mg base (tp.G K) (calls (tab L) k) k m ps false ∧ ps.length = 3 := by
  unfold okv3 at h
  simp only [Bool.or_eq_true, beq_iff_eq] at h
  rcases h with (h | h) | h
  · subst h; exact ⟨_, ih 27 E27 rfl, rfl⟩
  · subst h; exact ⟨_, ih 28 E28 rfl, rfl⟩
  · subst h; exact ⟨_, ih 29 E29 rfl, rfl⟩
theorem okv4_ok {k : Nat} (ih : Lv L P w K mg base (tp.G K) k) (m : Nat) (h : okv4 m = true) : ∃ ps, COk P w K mg base (tp.G K) (calls (tab L) k) k m ps false ∧ ps.length = 4 := by
  cases h
theorem Sc0 : FnScope E0.N E0.ps E0.scope := ⟨rfl, rfl, rfl, by decide +kernel, rfl, by decide +kernel, by decide +kernel⟩
theorem ok0 (F : Fx tp K mg) (D : ∃ fd, FunD K E0.nm E0.nm E0.args E0.body E0.scope [] [] (tp.G K 0) fd) : EntOk L P w K mg base (tp.G K) 0 E0 :=
  ⟨D, Sc0, rfl, rfl, fun _ _ _ _ _ _ us hl => match us, hl with | [_], _ => rfl, fun _ _ _ _ _ _ us hl => match us, hl with | [_], _ => rfl,
    EV.walk_of Sc0 fun k ih f cdv A outer s H E F0 S0 H0 fb g => show PSs _ _ (TSof _ _ (B0 (calls (tab L) k))) from sc (zRet (eAnd g.K (eBl (lIsi g.K) (F.bl 7 _ rfl) v_isinstance (b1 (bV nv) (b1 (bO (eT (F.bl 6 _ rfl) v_int)) (b0)))) (e1 (eNot g.K (eBl (lIsi g.K) (F.bl 7 _ rfl) v_isinstance (b1 (bV nv) (b1 (bO (eT (F.bl 3 _ rfl) v_bool)) (b0)))))))) (s0)⟩
theorem Sc1 : FnScope E1.N E1.ps E1.scope := ⟨rfl, rfl, rfl, by decide +kernel, rfl, by decide +kernel, by decide +kernel⟩
theorem ok1 (F : Fx tp K mg) (D : ∃ fd, FunD K E1.nm E1.nm E1.args E1.body E1.scope [] [] (tp.G K 1) fd) : EntOk L P w K mg base (tp.G K) 1 E1 :=
  ⟨D, Sc1, rfl, rfl, fun _ _ _ _ _ _ us hl => match us, hl with | [_, _, _], _ => rfl, fun _ _ _ _ _ _ us hl => match us, hl with | [_, _, _], _ => rfl,
    EV.walk_of Sc1 fun k ih f cdv A outer s H E F0 S0 H0 fb g => show PSs _ _ (TSof _ _ (B1 (calls (tab L) k))) from sc (zRet (eAnd g.K (eCall g (ih 0 E0 rfl) (F.gl 0 _ rfl) (a1 (eV nv) (a0))) (e1 (eCh (oLe g) (oLe g) (bV nv) (bV nv) (bV nv))))) (s0)⟩
theorem Sc2 : FnScope E2.N E2.ps E2.scope := ⟨rfl, rfl, rfl, by decide +kernel, rfl, by decide +kernel, by decide +kernel⟩
theorem ok2 (F : Fx tp K mg) (D : ∃ fd, FunD K E2.nm E2.nm E2.args E2.body E2.scope [] [] (tp.G K 2) fd) : EntOk L P w K mg base (tp.G K) 2 E2 :=
  ⟨D, Sc2, rfl, rfl, fun _ _ _ _ _ _ us hl => match us, hl with | [_, _], _ => rfl, fun _ _ _ _ _ _ us hl => match us, hl with | [_, _], _ => rfl,
    EV.walk_of Sc2 fun k ih f cdv A outer s H E F0 S0 H0 fb g => show PSs _ _ (TSof _ _ (B2 (calls (tab L) k))) from sc (zRet (eAnd g.K (eBl (lIsi g.K) (F.bl 7 _ rfl) v_isinstance (b1 (bV nv) (b1 (bO (eT (F.bl 14 _ rfl) v_tuple)) (b0)))) (e1 (eCmp (oEq g) (bO (eBl (lLen g.K) (F.bl 8 _ rfl) v_len (b1 (bV nv) (b0)))) (bV nv))))) (s0)⟩
theorem Sc3 : FnScope E3.N E3.ps E3.scope := ⟨rfl, rfl, rfl, by decide +kernel, rfl, by decide +kernel, by decide +kernel⟩
theorem ok3 (F : Fx tp K mg) (D : ∃ fd, FunD K E3.nm E3.nm E3.args E3.body E3.scope [] [] (tp.G K 3) fd) : EntOk L P w K mg base (tp.G K) 3 E3 :=
  ⟨D, Sc3, rfl, rfl, fun _ _ _ _ _ _ us hl => match us, hl with | [_, _, _], _ => rfl, fun _ _ _ _ _ _ us hl => match us, hl with | [_, _, _], _ => rfl,
    EV.walk_of Sc3 fun k ih f cdv A outer s H E F0 S0 H0 fb g => show PSs _ _ (TSof _ _ (B3 (calls (tab L) k))) from sc (zRet (eAnd g.K (eBl (lIsi g.K) (F.bl 7 _ rfl) v_isinstance (b1 (bV nv) (b1 (bO (eT (F.bl 14 _ rfl) v_tuple)) (b0)))) (e1 (eBl (lAll g) (F.bl 2 _ rfl) v_all (b1 (bO (eLCS g nv (mkBlk (own := [("own", 3)]) g (blkOk_by (by rfl)) (by decide) (fun _ _ _ _ _ g => g1 (gN g.nd)) (fun _ _ _ _ _ g => f0) (fun _ _ _ _ _ g => eCall g (ih 1 E1 rfl) (F.gl 1 _ rfl) (a1 (eV nv) (a1 (eV nv) (a1 (eV nv) (a0)))))))) (b0)))))) (s0)⟩
theorem Sc4 : FnScope E4.N E4.ps E4.scope := ⟨rfl, rfl, rfl, by decide +kernel, rfl, by decide +kernel, by decide +kernel⟩
theorem ok4 (F : Fx tp K mg) (D : ∃ fd, FunD K E4.nm E4.nm E4.args E4.body E4.scope [] [] (tp.G K 4) fd) : EntOk L P w K mg base (tp.G K) 4 E4 :=
  ⟨D, Sc4, rfl, rfl, fun _ _ _ _ _ _ us hl => match us, hl with | [_], _ => rfl, fun _ _ _ _ _ _ us hl => match us, hl with | [_], _ => rfl,
    EV.walk_of Sc4 fun k ih f cdv A outer s H E F0 S0 H0 fb g => show PSs _ _ (TSof _ _ (B4 (calls (tab L) k))) from sc (zRet (eBl (lAll g) (F.bl 2 _ rfl) v_all (b1 (bO (eLC g (iZ g.K (F.bl 15 _ rfl) (eV nv) (eSl g.K (bV nv) (o1 (bO (eI))) (o0))) (mkBlk (own := [("one", 1), ("other", 2)]) g (blkOk_by (by rfl)) (by decide) (fun _ _ _ _ _ g => gT g.K g.calm (gm1 (gN g.nd) (gm1 (gN g.nd) (gm0)))) (fun _ _ _ _ _ g => f0) (fun _ _ _ _ _ g => eCmp (oLt) (bV nv) (bV nv))))) (b0)))) (s0)⟩
theorem Sc5 : FnScope E5.N E5.ps E5.scope := ⟨rfl, rfl, rfl, by decide +kernel, rfl, by decide +kernel, by decide +kernel⟩
theorem ok5 (F : Fx tp K mg) (D : ∃ fd, FunD K E5.nm E5.nm E5.args E5.body E5.scope [] [] (tp.G K 5) fd) : EntOk L P w K mg base (tp.G K) 5 E5 :=
  ⟨D, Sc5, rfl, rfl, fun _ _ _ _ _ _ us hl => match us, hl with | [_], _ => rfl, fun _ _ _ _ _ _ us hl => match us, hl with | [_], _ => rfl,
    EV.walk_of Sc5 fun k ih f cdv A outer s H E F0 S0 H0 fb g => show PSs _ _ (TSof _ _ (B5 (calls (tab L) k))) from sc (zRet (eIf (tV g.K (bO (eBl (lIsi g.K) (F.bl 7 _ rfl) v_isinstance (b1 (bV nv) (b1 (bO (eTup (a1 (eT (F.bl 9 _ rfl) v_list) (a1 (eT (F.bl 14 _ rfl) v_tuple) (a0))))) (b0)))))) (eBlT (lTuple g.K) (F.bl 14 _ rfl) v_tuple (b1 (bO (eLCS g nv (mkBlk (own := [("own", 1)]) g (blkOk_by (by rfl)) (by decide) (fun _ _ _ _ _ g => g1 (gN g.nd)) (fun _ _ _ _ _ g => f0) (fun _ _ _ _ _ g => eCall g (ih 5 E5 rfl) (F.gl 5 _ rfl) (a1 (eV nv) (a0)))))) (b0))) (eV nv))) (s0)⟩
theorem Sc6 : FnScope E6.N E6.ps E6.scope := ⟨rfl, rfl, rfl, by decide +kernel, rfl, by decide +kernel, by decide +kernel⟩
theorem ok6 (F : Fx tp K mg) (D : ∃ fd, FunD K E6.nm E6.nm E6.args E6.body E6.scope [] [] (tp.G K 6) fd) : EntOk L P w K mg base (tp.G K) 6 E6 :=
  ⟨D, Sc6, rfl, rfl, fun _ _ _ _ _ _ us hl => match us, hl with | [_, _, _], _ => rfl, fun _ _ _ _ _ _ us hl => match us, hl with | [_, _, _], _ => rfl,
    EV.walk_of Sc6 fun k ih f cdv A outer s H E F0 S0 H0 fb g => show PSs _ _ (TSof _ _ (B6 (calls (tab L) k))) from sc (zIf (tN (tV g.K (bO (eCall g (ih 1 E1 rfl) (F.gl 1 _ rfl) (a1 (eV nv) (a1 (eV nv) (a1 (eV nv) (a0)))))))) (sc (zRaise g (F.ex 52 rfl).1 (F.gl 52 _ rfl)) (s0)) (s0)) (sc (zRetV nv) (s0))⟩
theorem Sc7 : FnScope E7.N E7.ps E7.scope := ⟨rfl, rfl, rfl, by decide +kernel, rfl, by decide +kernel, by decide +kernel⟩
theorem ok7 (F : Fx tp K mg) (D : ∃ fd, FunD K E7.nm E7.nm E7.args E7.body E7.scope [] [] (tp.G K 7) fd) : EntOk L P w K mg base (tp.G K) 7 E7 :=
  ⟨D, Sc7, rfl, rfl, fun _ _ _ _ _ _ us hl => match us, hl with | [_], _ => rfl, fun _ _ _ _ _ _ us hl => match us, hl with | [_], _ => rfl,
    EV.walk_of Sc7 fun k ih f cdv A outer s H E F0 S0 H0 fb g => show PSs _ _ (TSof _ _ (B7 (calls (tab L) k))) from sc (zPar g (eLst (a1 (eTup (a1 (eV nv) (a1 (eI) (a0)))) (a0))) (eI)) (sc (zWhile g (tCmp (oNe g) (bV nv) (bO (eLst (a0)))) (sc (zTup (bO (ePop nv)) (gT g.K g.calm (gm1 (gN g.nd) (gm1 (gN g.nd) (gm0))))) (sc (zAug g oIAdd (bO (eI))) (sc (zIf (PW.pt (wOr (tCmp (oGt) (bV nv) (bO (eC g.K (F.cst 3 _ _ rfl)))) (wOr (tCmp (oGt) (bV nv) (bO (eC g.K (F.cst 4 _ _ rfl)))) (wOr (tN (tV g.K (bO (eBl (lIsi g.K) (F.bl 7 _ rfl) v_isinstance (b1 (bV nv) (b1 (bO (eT (F.bl 14 _ rfl) v_tuple)) (b0))))))) (wOr1 (tCmp (oEq g) (bV nv) (bO (eTup (a0))))))))) (sc (zRet (eB)) (s0)) (s0)) (sc (zIf (tN (tV g.K (bO (eBl (lIsi g.K) (F.bl 7 _ rfl) v_isinstance (b1 (bO (eIx g.K (bV nv) (bO (eI)))) (b1 (bO (eT (F.bl 13 _ rfl) v_str)) (b0))))))) (sc (zRet (eB)) (s0)) (s0)) (sc (zIf (PW.pt (wAnd (tCmp (oIn g) (bO (eIx g.K (bV nv) (bO (eI)))) (bO (eC g.K (F.cst 2 _ _ rfl)))) (wAnd1 (tCmp (oEq g) (bO (eBl (lLen g.K) (F.bl 8 _ rfl) v_len (b1 (bV nv) (b0)))) (bO (eI)))))) (sc (zDrop (eExt nv (bO (eLst (a1 (eTup (a1 (eIx g.K (bV nv) (bO (eI))) (a1 (eBin (oAdd g.K) (bV nv) (bO (eI))) (a0)))) (a1 (eTup (a1 (eIx g.K (bV nv) (bO (eI))) (a1 (eBin (oAdd g.K) (bV nv) (bO (eI))) (a0)))) (a0))))))) (s0)) (sc (zIf (tCmp (oNotIn g) (bV nv) (bO (eTup (a1 (eC g.K (F.cst 0 _ _ rfl)) (a1 (eC g.K (F.cst 1 _ _ rfl)) (a0)))))) (sc (zRet (eB)) (s0)) (s0)) (s0))) (s0))))))) (sc (zRet (eB)) (s0)))⟩
theorem Sc8 : FnScope E8.N E8.ps E8.scope := ⟨rfl, rfl, rfl, by decide +kernel, rfl, by decide +kernel, by decide +kernel⟩
theorem ok8 (F : Fx tp K mg) (D : ∃ fd, FunD K E8.nm E8.nm E8.args E8.body E8.scope [] [] (tp.G K 8) fd) : EntOk L P w K mg base (tp.G K) 8 E8 :=
  ⟨D, Sc8, rfl, rfl, fun _ _ _ _ _ _ us hl => match us, hl with | [_], _ => rfl, fun _ _ _ _ _ _ us hl => match us, hl with | [_], _ => rfl,
    EV.walk_of Sc8 fun k ih f cdv A outer s H E F0 S0 H0 fb g => show PSs _ _ (TSof _ _ (B8 (calls (tab L) k))) from sc (zSet g (eCall g (ih 5 E5 rfl) (F.gl 5 _ rfl) (a1 (eV nv) (a0)))) (sc (zIf (tN (tV g.K (bO (eCall g (ih 7 E7 rfl) (F.gl 7 _ rfl) (a1 (eV nv) (a0)))))) (sc (zRaise g (F.ex 52 rfl).1 (F.gl 52 _ rfl)) (s0)) (s0)) (sc (zRetV nv) (s0)))⟩
theorem Sc9 : FnScope E9.N E9.ps E9.scope := ⟨rfl, rfl, rfl, by decide +kernel, rfl, by decide +kernel, by decide +kernel⟩
theorem ok9 (F : Fx tp K mg) (D : ∃ fd, FunD K E9.nm E9.nm E9.args E9.body E9.scope [] [] (tp.G K 9) fd) : EntOk L P w K mg base (tp.G K) 9 E9 :=
  ⟨D, Sc9, rfl, rfl, fun _ _ _ _ _ _ us hl => match us, hl with | [_], _ => rfl, fun _ _ _ _ _ _ us hl => match us, hl with | [_], _ => rfl,
    EV.walk_of Sc9 fun k ih f cdv A outer s H E F0 S0 H0 fb g => show PSs _ _ (TSof _ _ (B9 (calls (tab L) k))) from sc (zRet (eAnd g.K (eCall g (ih 0 E0 rfl) (F.gl 0 _ rfl) (a1 (eV nv) (a0))) (e1 (eCh (oLe g) (oLe g) (bO (eC g.K (F.cst 5 _ _ rfl))) (bV nv) (bO (eC g.K (F.cst 6 _ _ rfl))))))) (s0)⟩
theorem Sc10 : FnScope E10.N E10.ps E10.scope := ⟨rfl, rfl, rfl, by decide +kernel, rfl, by decide +kernel, by decide +kernel⟩
theorem ok10 (F : Fx tp K mg) (D : ∃ fd, FunD K E10.nm E10.nm E10.args E10.body E10.scope [] [] (tp.G K 10) fd) : EntOk L P w K mg base (tp.G K) 10 E10 :=
  ⟨D, Sc10, rfl, rfl, fun _ _ _ _ _ _ us hl => match us, hl with | [_], _ => rfl, fun _ _ _ _ _ _ us hl => match us, hl with | [_], _ => rfl,
    EV.walk_of Sc10 fun k ih f cdv A outer s H E F0 S0 H0 fb g => show PSs _ _ (TSof _ _ (B10 (calls (tab L) k))) from sc (zIf (tCmp (oEq g) (bV nv) (bO (eI))) (sc (zRet (eTup (a1 (eNeg (bO (eI))) (a1 (eB) (a0))))) (s0)) (s0)) (sc (zIf (tCmp (oEq g) (bV nv) (bO (eI))) (sc (zRet (eTup (a1 (eNeg (bO (eI))) (a1 (eB) (a0))))) (s0)) (s0)) (sc (zRet (eIf (tCmp (oEq g) (bO (eBin (oMod) (bV nv) (bO (eI)))) (bO (eI))) (eTup (a1 (eBin (oDiv) (bV nv) (bO (eI))) (a1 (eB) (a0)))) (eTup (a1 (eBin (oSub) (bO (eBin (oDiv) (bV nv) (bO (eI)))) (bO (eI))) (a1 (eB) (a0)))))) (s0)))⟩
theorem Sc11 : FnScope E11.N E11.ps E11.scope := ⟨rfl, rfl, rfl, by decide +kernel, rfl, by decide +kernel, by decide +kernel⟩
theorem ok11 (F : Fx tp K mg) (D : ∃ fd, FunD K E11.nm E11.nm E11.args E11.body E11.scope [] [] (tp.G K 11) fd) : EntOk L P w K mg base (tp.G K) 11 E11 :=
  ⟨D, Sc11, rfl, rfl, fun _ _ _ _ _ _ us hl => match us, hl with | [_, _], _ => rfl, fun _ _ _ _ _ _ us hl => match us, hl with | [_, _], _ => rfl,
    EV.walk_of Sc11 fun k ih f cdv A outer s H E F0 S0 H0 fb g => show PSs _ _ (TSof _ _ (B11 (calls (tab L) k))) from sc (zIf (tV g.K (bV nv)) (sc (zRet (eBin (oAdd g.K) (bO (eBin (oMul) (bO (eI)) (bV nv))) (bO (eI)))) (s0)) (s0)) (sc (zRet (eIf (tCmp (oGe) (bV nv) (bO (eI))) (eBin (oAdd g.K) (bO (eBin (oMul) (bO (eI)) (bV nv))) (bO (eI))) (eI))) (s0))⟩
theorem Sc12 : FnScope E12.N E12.ps E12.scope := ⟨rfl, rfl, rfl, by decide +kernel, rfl, by decide +kernel, by decide +kernel⟩
theorem ok12 (F : Fx tp K mg) (D : ∃ fd, FunD K E12.nm E12.nm E12.args E12.body E12.scope [] [] (tp.G K 12) fd) : EntOk L P w K mg base (tp.G K) 12 E12 :=
  ⟨D, Sc12, rfl, rfl, fun _ _ _ _ _ _ us hl => match us, hl with | [_, _], _ => rfl, fun _ _ _ _ _ _ us hl => match us, hl with | [_, _], _ => rfl,
    EV.walk_of Sc12 fun k ih f cdv A outer s H E F0 S0 H0 fb g => show PSs _ _ (TSof _ _ (B12 (calls (tab L) k))) from sc (zIf (tCmp (oEq g) (bV nv) (bO (eC g.K (F.cst 5 _ _ rfl)))) (sc (zRet (eB)) (s0)) (s0)) (sc (zTup (bO (eCall g (ih 10 E10 rfl) (F.gl 10 _ rfl) (a1 (eV nv) (a0)))) (gT g.K g.calm (gm1 (gN g.nd) (gm1 (gN g.nd) (gm0))))) (sc (zRet (eOr g.K (eCmp (oLe g) (bV nv) (bV nv)) (e1 (eAnd g.K (eV nv) (e1 (eCmp (oEq g) (bV nv) (bO (eBin (oAdd g.K) (bV nv) (bO (eI)))))))))) (s0)))⟩
theorem Sc13 : FnScope E13.N E13.ps E13.scope := ⟨rfl, rfl, rfl, by decide +kernel, rfl, by decide +kernel, by decide +kernel⟩
theorem ok13 (F : Fx tp K mg) (D : ∃ fd, FunD K E13.nm E13.nm E13.args E13.body E13.scope [] [] (tp.G K 13) fd) : EntOk L P w K mg base (tp.G K) 13 E13 :=
  ⟨D, Sc13, rfl, rfl, fun _ _ _ _ _ _ us hl => match us, hl with | [_, _], _ => rfl, fun _ _ _ _ _ _ us hl => match us, hl with | [_, _], _ => rfl,
    EV.walk_of Sc13 fun k ih f cdv A outer s H E F0 S0 H0 fb g => show PSs _ _ (TSof _ _ (B13 (calls (tab L) k))) from sc (zIf (PW.pt (wOr (tCmp (oEq g) (bV nv) (bO (eC g.K (F.cst 5 _ _ rfl)))) (wOr1 (tCmp (oEq g) (bV nv) (bO (eC g.K (F.cst 5 _ _ rfl))))))) (sc (zRet (eBl (lMax g) (F.bl 10 _ rfl) v_max (b1 (bV nv) (b1 (bV nv) (b0))))) (s0)) (s0)) (sc (zTup (bO (eIf (tCmp (oLe g) (bO (eCall g (ih 10 E10 rfl) (F.gl 10 _ rfl) (a1 (eV nv) (a0)))) (bO (eCall g (ih 10 E10 rfl) (F.gl 10 _ rfl) (a1 (eV nv) (a0))))) (eTup (a1 (eV nv) (a1 (eV nv) (a0)))) (eTup (a1 (eV nv) (a1 (eV nv) (a0)))))) (gT g.K g.calm (gm1 (gN g.nd) (gm1 (gN g.nd) (gm0))))) (sc (zTup (bO (eCall g (ih 10 E10 rfl) (F.gl 10 _ rfl) (a1 (eV nv) (a0)))) (gT g.K g.calm (gm1 (gN g.nd) (gm1 (gN g.nd) (gm0))))) (sc (zRet (eCall g (ih 11 E11 rfl) (F.gl 11 _ rfl) (a1 (eV nv) (a1 (eAnd g.K (eV nv) (e1 (eCall g (ih 12 E12 rfl) (F.gl 12 _ rfl) (a1 (eV nv) (a1 (eBin (oAdd g.K) (bV nv) (bO (eI))) (a0)))))) (a0))))) (s0))))⟩
theorem Sc14 : FnScope E14.N E14.ps E14.scope := ⟨rfl, rfl, rfl, by decide +kernel, rfl, by decide +kernel, by decide +kernel⟩
theorem ok14 (F : Fx tp K mg) (D : ∃ fd, FunD K E14.nm E14.nm E14.args E14.body E14.scope [] [] (tp.G K 14) fd) : EntOk L P w K mg base (tp.G K) 14 E14 :=
  ⟨D, Sc14, rfl, rfl, fun _ _ _ _ _ _ us hl => match us, hl with | [_, _], _ => rfl, fun _ _ _ _ _ _ us hl => match us, hl with | [_, _], _ => rfl,
    EV.walk_of Sc14 fun k ih f cdv A outer s H E F0 S0 H0 fb g => show PSs _ _ (TSof _ _ (B14 (calls (tab L) k))) from sc (zIf (PW.pt (wOr (tCmp (oEq g) (bV nv) (bO (eC g.K (F.cst 5 _ _ rfl)))) (wOr1 (tCmp (oEq g) (bV nv) (bO (eC g.K (F.cst 5 _ _ rfl))))))) (sc (zRet (eC g.K (F.cst 5 _ _ rfl))) (s0)) (s0)) (sc (zSet g (eBl (lMax g) (F.bl 10 _ rfl) v_max (b1 (bO (eIx g.K (bO (eCall g (ih 10 E10 rfl) (F.gl 10 _ rfl) (a1 (eV nv) (a0)))) (bO (eI)))) (b1 (bO (eIx g.K (bO (eCall g (ih 10 E10 rfl) (F.gl 10 _ rfl) (a1 (eV nv) (a0)))) (bO (eI)))) (b0))))) (sc (zWhile g (PW.pt (wOr (tV g.K (bO (eCall g (ih 12 E12 rfl) (F.gl 12 _ rfl) (a1 (eV nv) (a1 (eBin (oAdd g.K) (bV nv) (bO (eI))) (a0)))))) (wOr1 (tV g.K (bO (eCall g (ih 12 E12 rfl) (F.gl 12 _ rfl) (a1 (eV nv) (a1 (eBin (oAdd g.K) (bV nv) (bO (eI))) (a0))))))))) (sc (zAug g oIAdd (bO (eI))) (s0))) (sc (zRet (eCall g (ih 11 E11 rfl) (F.gl 11 _ rfl) (a1 (eV nv) (a1 (eOr g.K (eCall g (ih 12 E12 rfl) (F.gl 12 _ rfl) (a1 (eV nv) (a1 (eBin (oAdd g.K) (bV nv) (bO (eI))) (a0)))) (e1 (eCall g (ih 12 E12 rfl) (F.gl 12 _ rfl) (a1 (eV nv) (a1 (eBin (oAdd g.K) (bV nv) (bO (eI))) (a0)))))) (a0))))) (s0))))⟩
theorem Sc15 : FnScope E15.N E15.ps E15.scope := ⟨rfl, rfl, rfl, by decide +kernel, rfl, by decide +kernel, by decide +kernel⟩
theorem ok15 (F : Fx tp K mg) (D : ∃ fd, FunD K E15.nm E15.nm E15.args E15.body E15.scope [] [] (tp.G K 15) fd) : EntOk L P w K mg base (tp.G K) 15 E15 :=
  ⟨D, Sc15, rfl, rfl, fun _ _ _ _ _ _ us hl => match us, hl with | [_, _], _ => rfl, fun _ _ _ _ _ _ us hl => match us, hl with | [_, _], _ => rfl,
    EV.walk_of Sc15 fun k ih f cdv A outer s H E F0 S0 H0 fb g => show PSs _ _ (TSof _ _ (B15 (calls (tab L) k))) from sc (zTup (bO (eCall g (ih 10 E10 rfl) (F.gl 10 _ rfl) (a1 (eV nv) (a0)))) (gT g.K g.calm (gm1 (gN g.nd) (gm1 (gN g.nd) (gm0))))) (sc (zIf (tCmp (oEq g) (bV nv) (bO (eC g.K (F.cst 5 _ _ rfl)))) (sc (zRet (eNeg (bO (eI)))) (s0)) (s0)) (sc (zIf (tCmp (oGt) (bV nv) (bO (eIx g.K (bO (eCall g (ih 10 E10 rfl) (F.gl 10 _ rfl) (a1 (eV nv) (a0)))) (bO (eI))))) (sc (zRet (eBin (oAdd g.K) (bO (eIx g.K (bO (eCall g (ih 10 E10 rfl) (F.gl 10 _ rfl) (a1 (eV nv) (a0)))) (bO (eI)))) (bO (eI)))) (s0)) (s0)) (sc (zRet (eIf (PW.pt (wAnd (tV g.K (bV nv)) (wAnd1 (tN (tV g.K (bO (eCall g (ih 12 E12 rfl) (F.gl 12 _ rfl) (a1 (eV nv) (a1 (eBin (oAdd g.K) (bV nv) (bO (eI))) (a0)))))))))) (eBin (oAdd g.K) (bV nv) (bO (eI))) (eNeg (bO (eI))))) (s0))))⟩
theorem Sc16 : FnScope E16.N E16.ps E16.scope := ⟨rfl, rfl, rfl, by decide +kernel, rfl, by decide +kernel, by decide +kernel⟩
theorem ok16 (F : Fx tp K mg) (D : ∃ fd, FunD K E16.nm E16.nm E16.args E16.body E16.scope [] [] (tp.G K 16) fd) : EntOk L P w K mg base (tp.G K) 16 E16 :=
  ⟨D, Sc16, rfl, rfl, fun _ _ _ _ _ _ us hl => match us, hl with | [_, _], _ => rfl, fun _ _ _ _ _ _ us hl => match us, hl with | [_, _], _ => rfl,
    EV.walk_of Sc16 fun k ih f cdv A outer s H E F0 S0 H0 fb g => show PSs _ _ (TSof _ _ (B16 (calls (tab L) k))) from sc (zIf (tCmp (oEq g) (bV nv) (bO (eC g.K (F.cst 5 _ _ rfl)))) (sc (zRet (eB)) (s0)) (s0)) (sc (zRet (eAnd g.K (eCmp (oNe g) (bV nv) (bO (eC g.K (F.cst 5 _ _ rfl)))) (e1 (eCmp (oLt) (bO (eCall g (ih 15 E15 rfl) (F.gl 15 _ rfl) (a1 (eV nv) (a1 (eV nv) (a0))))) (bO (eI)))))) (s0))⟩
theorem Sc17 : FnScope E17.N E17.ps E17.scope := ⟨rfl, rfl, rfl, by decide +kernel, rfl, by decide +kernel, by decide +kernel⟩
theorem ok17 (F : Fx tp K mg) (D : ∃ fd, FunD K E17.nm E17.nm E17.args E17.body E17.scope [] [] (tp.G K 17) fd) : EntOk L P w K mg base (tp.G K) 17 E17 :=
  ⟨D, Sc17, rfl, rfl, fun _ _ _ _ _ _ us hl => match us, hl with | [_, _], _ => rfl, fun _ _ _ _ _ _ us hl => match us, hl with | [_, _], _ => rfl,
    EV.walk_of Sc17 fun k ih f cdv A outer s H E F0 S0 H0 fb g => show PSs _ _ (TSof _ _ (B17 (calls (tab L) k))) from sc (zIf (tV g.K (bO (eCall g (ih 16 E16 rfl) (F.gl 16 _ rfl) (a1 (eV nv) (a1 (eV nv) (a0)))))) (sc (zRet (eC g.K (F.cst 5 _ _ rfl))) (s0)) (s0)) (sc (zIf (tCmp (oEq g) (bV nv) (bO (eC g.K (F.cst 5 _ _ rfl)))) (sc (zRetV nv) (s0)) (s0)) (sc (zSet g (eCall g (ih 15 E15 rfl) (F.gl 15 _ rfl) (a1 (eV nv) (a1 (eV nv) (a0))))) (sc (zRet (eCall g (ih 11 E11 rfl) (F.gl 11 _ rfl) (a1 (eBin (oSub) (bV nv) (bO (eI))) (a1 (eOr g.K (eNot g.K (eCall g (ih 12 E12 rfl) (F.gl 12 _ rfl) (a1 (eV nv) (a1 (eBin (oAdd g.K) (bV nv) (bO (eI))) (a0))))) (e1 (eCall g (ih 12 E12 rfl) (F.gl 12 _ rfl) (a1 (eV nv) (a1 (eBin (oAdd g.K) (bV nv) (bO (eI))) (a0)))))) (a0))))) (s0))))⟩
theorem Sc18 : FnScope E18.N E18.ps E18.scope := ⟨rfl, rfl, rfl, by decide +kernel, rfl, by decide +kernel, by decide +kernel⟩
theorem ok18 (F : Fx tp K mg) (D : ∃ fd, FunD K E18.nm E18.nm E18.args E18.body E18.scope [] [] (tp.G K 18) fd) : EntOk L P w K mg base (tp.G K) 18 E18 :=
  ⟨D, Sc18, rfl, rfl, fun _ _ _ _ _ _ us hl => match us, hl with | [_, _], _ => rfl, fun _ _ _ _ _ _ us hl => match us, hl with | [_, _], _ => rfl,
    EV.walk_of Sc18 fun k ih f cdv A outer s H E F0 S0 H0 fb g => show PSs _ _ (TSof _ _ (B18 (calls (tab L) k))) from sc (zIf (tCmp (oEq g) (bV nv) (bO (eC g.K (F.cst 0 _ _ rfl)))) (sc (zRetV nv) (s0)) (s0)) (sc (zIf (tCmp (oEq g) (bV nv) (bO (eC g.K (F.cst 1 _ _ rfl)))) (sc (zRet (eI)) (s0)) (s0)) (sc (zPar g (eCall g (ih 18 E18 rfl) (F.gl 18 _ rfl) (a1 (eIx g.K (bV nv) (bO (eI))) (a1 (eV nv) (a0)))) (eCall g (ih 18 E18 rfl) (F.gl 18 _ rfl) (a1 (eIx g.K (bV nv) (bO (eI))) (a1 (eV nv) (a0))))) (sc (zIf (tCmp (oEq g) (bO (eIx g.K (bV nv) (bO (eI)))) (bO (eS))) (sc (zRet (eCall g (ih 13 E13 rfl) (F.gl 13 _ rfl) (a1 (eV nv) (a1 (eV nv) (a0))))) (s0)) (s0)) (sc (zRet (eIf (tCmp (oEq g) (bO (eIx g.K (bV nv) (bO (eI)))) (bO (eS))) (eCall g (ih 14 E14 rfl) (F.gl 14 _ rfl) (a1 (eV nv) (a1 (eV nv) (a0)))) (eCall g (ih 17 E17 rfl) (F.gl 17 _ rfl) (a1 (eV nv) (a1 (eV nv) (a0)))))) (s0)))))⟩
theorem Sc19 : FnScope E19.N E19.ps E19.scope := ⟨rfl, rfl, rfl, by decide +kernel, rfl, by decide +kernel, by decide +kernel⟩
theorem ok19 (F : Fx tp K mg) (D : ∃ fd, FunD K E19.nm E19.nm E19.args E19.body E19.scope [] [] (tp.G K 19) fd) : EntOk L P w K mg base (tp.G K) 19 E19 :=
  ⟨D, Sc19, rfl, rfl, fun _ _ _ _ _ _ us hl => match us, hl with | [_], _ => rfl, fun _ _ _ _ _ _ us hl => match us, hl with | [_], _ => rfl,
    EV.walk_of Sc19 fun k ih f cdv A outer s H E F0 S0 H0 fb g => show PSs _ _ (TSof _ _ (B19 (calls (tab L) k))) from sc (zIf (tN (tV g.K (bO (eCall g (ih 9 E9 rfl) (F.gl 9 _ rfl) (a1 (eV nv) (a0)))))) (sc (zRaise g (F.ex 52 rfl).1 (F.gl 52 _ rfl)) (s0)) (s0)) (sc (zRetV nv) (s0))⟩
theorem Sc20 : FnScope E20.N E20.ps E20.scope := ⟨rfl, rfl, rfl, by decide +kernel, rfl, by decide +kernel, by decide +kernel⟩
theorem ok20 (F : Fx tp K mg) (D : ∃ fd, FunD K E20.nm E20.nm E20.args E20.body E20.scope [] [] (tp.G K 20) fd) : EntOk L P w K mg base (tp.G K) 20 E20 :=
  ⟨D, Sc20, rfl, rfl, fun _ _ _ _ _ _ us hl => match us, hl with | [_], _ => rfl, fun _ _ _ _ _ _ us hl => match us, hl with | [_], _ => rfl,
    EV.walk_of Sc20 fun k ih f cdv A outer s H E F0 S0 H0 fb g => show PSs _ _ (TSof _ _ (B20 (calls (tab L) k))) from sc (zRet (eCall g (ih 18 E18 rfl) (F.gl 18 _ rfl) (a1 (eCall g (ih 8 E8 rfl) (F.gl 8 _ rfl) (a1 (eV nv) (a0))) (a1 (eI) (a0))))) (s0)⟩
theorem Sc21 : FnScope E21.N E21.ps E21.scope := ⟨rfl, rfl, rfl, by decide +kernel, rfl, by decide +kernel, by decide +kernel⟩
theorem ok21 (F : Fx tp K mg) (D : ∃ fd, FunD K E21.nm E21.nm E21.args E21.body E21.scope [] [] (tp.G K 21) fd) : EntOk L P w K mg base (tp.G K) 21 E21 :=
  ⟨D, Sc21, rfl, rfl, fun _ _ _ _ _ _ us hl => match us, hl with | [_, _], _ => rfl, fun _ _ _ _ _ _ us hl => match us, hl with | [_, _], _ => rfl,
    EV.walk_of Sc21 fun k ih f cdv A outer s H E F0 S0 H0 fb g => show PSs _ _ (TSof _ _ (B21 (calls (tab L) k))) from sc (zSet g (eCall g (ih 19 E19 rfl) (F.gl 19 _ rfl) (a1 (eV nv) (a0)))) (sc (zRet (eCall g (ih 13 E13 rfl) (F.gl 13 _ rfl) (a1 (eV nv) (a1 (eCall g (ih 19 E19 rfl) (F.gl 19 _ rfl) (a1 (eV nv) (a0))) (a0))))) (s0))⟩
theorem Sc22 : FnScope E22.N E22.ps E22.scope := ⟨rfl, rfl, rfl, by decide +kernel, rfl, by decide +kernel, by decide +kernel⟩
theorem ok22 (F : Fx tp K mg) (D : ∃ fd, FunD K E22.nm E22.nm E22.args E22.body E22.scope [] [] (tp.G K 22) fd) : EntOk L P w K mg base (tp.G K) 22 E22 :=
  ⟨D, Sc22, rfl, rfl, fun _ _ _ _ _ _ us hl => match us, hl with | [_, _], _ => rfl, fun _ _ _ _ _ _ us hl => match us, hl with | [_, _], _ => rfl,
    EV.walk_of Sc22 fun k ih f cdv A outer s H E F0 S0 H0 fb g => show PSs _ _ (TSof _ _ (B22 (calls (tab L) k))) from sc (zSet g (eCall g (ih 19 E19 rfl) (F.gl 19 _ rfl) (a1 (eV nv) (a0)))) (sc (zRet (eCall g (ih 14 E14 rfl) (F.gl 14 _ rfl) (a1 (eV nv) (a1 (eCall g (ih 19 E19 rfl) (F.gl 19 _ rfl) (a1 (eV nv) (a0))) (a0))))) (s0))⟩
theorem Sc23 : FnScope E23.N E23.ps E23.scope := ⟨rfl, rfl, rfl, by decide +kernel, rfl, by decide +kernel, by decide +kernel⟩
theorem ok23 (F : Fx tp K mg) (D : ∃ fd, FunD K E23.nm E23.nm E23.args E23.body E23.scope [] [] (tp.G K 23) fd) : EntOk L P w K mg base (tp.G K) 23 E23 :=
  ⟨D, Sc23, rfl, rfl, fun _ _ _ _ _ _ us hl => match us, hl with | [_, _], _ => rfl, fun _ _ _ _ _ _ us hl => match us, hl with | [_, _], _ => rfl,
    EV.walk_of Sc23 fun k ih f cdv A outer s H E F0 S0 H0 fb g => show PSs _ _ (TSof _ _ (B23 (calls (tab L) k))) from sc (zSet g (eCall g (ih 19 E19 rfl) (F.gl 19 _ rfl) (a1 (eV nv) (a0)))) (sc (zRet (eCall g (ih 17 E17 rfl) (F.gl 17 _ rfl) (a1 (eV nv) (a1 (eCall g (ih 19 E19 rfl) (F.gl 19 _ rfl) (a1 (eV nv) (a0))) (a0))))) (s0))⟩
theorem Sc24 : FnScope E24.N E24.ps E24.scope := ⟨rfl, rfl, rfl, by decide +kernel, rfl, by decide +kernel, by decide +kernel⟩
theorem ok24 (F : Fx tp K mg) (D : ∃ fd, FunD K E24.nm E24.nm E24.args E24.body E24.scope [] [] (tp.G K 24) fd) : EntOk L P w K mg base (tp.G K) 24 E24 :=
  ⟨D, Sc24, rfl, rfl, fun _ _ _ _ _ _ us hl => match us, hl with | [_, _], _ => rfl, fun _ _ _ _ _ _ us hl => match us, hl with | [_, _], _ => rfl,
    EV.walk_of Sc24 fun k ih f cdv A outer s H E F0 S0 H0 fb g => show PSs _ _ (TSof _ _ (B24 (calls (tab L) k))) from sc (zSet g (eCall g (ih 19 E19 rfl) (F.gl 19 _ rfl) (a1 (eV nv) (a0)))) (sc (zRet (eCall g (ih 16 E16 rfl) (F.gl 16 _ rfl) (a1 (eV nv) (a1 (eCall g (ih 19 E19 rfl) (F.gl 19 _ rfl) (a1 (eV nv) (a0))) (a0))))) (s0))⟩
theorem Sc25 : FnScope E25.N E25.ps E25.scope := ⟨rfl, rfl, rfl, by decide +kernel, rfl, by decide +kernel, by decide +kernel⟩
theorem ok25 (F : Fx tp K mg) (D : ∃ fd, FunD K E25.nm E25.nm E25.args E25.body E25.scope [] [] (tp.G K 25) fd) : EntOk L P w K mg base (tp.G K) 25 E25 :=
  ⟨D, Sc25, rfl, rfl, fun _ _ _ _ _ _ us hl => match us, hl with | [_], _ => rfl, fun _ _ _ _ _ _ us hl => match us, hl with | [_], _ => rfl,
    EV.walk_of Sc25 fun k ih f cdv A outer s H E F0 S0 H0 fb g => show PSs _ _ (TSof _ _ (B25 (calls (tab L) k))) from sc (zSet g (eCall g (ih 19 E19 rfl) (F.gl 19 _ rfl) (a1 (eV nv) (a0)))) (sc (zIf (tCmp (oEq g) (bV nv) (bO (eC g.K (F.cst 5 _ _ rfl)))) (sc (zRaise g (F.ex 50 rfl).1 (F.gl 50 _ rfl)) (s0)) (s0)) (sc (zIf (tCmp (oLt) (bV nv) (bO (eI))) (sc (zRet (eIx g.K (bO (eTup (a1 (eI) (a1 (eI) (a1 (eI) (a0)))))) (bV nv))) (s0)) (s0)) (sc (zRet (eIf (tCmp (oEq g) (bO (eBin (oMod) (bV nv) (bO (eI)))) (bO (eI))) (eBin (oAdd g.K) (bV nv) (bO (eI))) (eBin (oSub) (bV nv) (bO (eI))))) (s0))))⟩
theorem Sc26 : FnScope E26.N E26.ps E26.scope := ⟨rfl, rfl, rfl, by decide +kernel, rfl, by decide +kernel, by decide +kernel⟩
theorem ok26 (F : Fx tp K mg) (D : ∃ fd, FunD K E26.nm E26.nm E26.args E26.body E26.scope [] [] (tp.G K 26) fd) : EntOk L P w K mg base (tp.G K) 26 E26 :=
  ⟨D, Sc26, rfl, rfl, fun _ _ _ _ _ _ us hl => match us, hl with | [_, _], _ => rfl, fun _ _ _ _ _ _ us hl => match us, hl with | [_, _], _ => rfl,
    EV.walk_of Sc26 fun k ih f cdv A outer s H E F0 S0 H0 fb g => show PSs _ _ (TSof _ _ (B26 (calls (tab L) k))) from sc (zSet g (eCall g (ih 19 E19 rfl) (F.gl 19 _ rfl) (a1 (eV nv) (a0)))) (sc (zRet (eCall g (ih 13 E13 rfl) (F.gl 13 _ rfl) (a1 (eV nv) (a1 (eCall g (ih 18 E18 rfl) (F.gl 18 _ rfl) (a1 (eCall g (ih 8 E8 rfl) (F.gl 8 _ rfl) (a1 (eV nv) (a0))) (a1 (eI) (a0)))) (a0))))) (s0))⟩
theorem Sc27 : FnScope E27.N E27.ps E27.scope := ⟨rfl, rfl, rfl, by decide +kernel, rfl, by decide +kernel, by decide +kernel⟩
theorem ok27 (F : Fx tp K mg) (D : ∃ fd, FunD K E27.nm E27.nm E27.args E27.body E27.scope [] [] (tp.G K 27) fd) : EntOk L P w K mg base (tp.G K) 27 E27 :=
  ⟨D, Sc27, rfl, rfl, fun _ _ _ _ _ _ us hl => match us, hl with | [_, _, _], _ => rfl, fun _ _ _ _ _ _ us hl => match us, hl with | [_, _, _], _ => rfl,
    EV.walk_of Sc27 fun k ih f cdv A outer s H E F0 S0 H0 fb g => show PSs _ _ (TSof _ _ (B27 (calls (tab L) k))) from sc (zTup (bO (eCall g (ih 30 E30 rfl) (F.gl 30 _ rfl) (a1 (eV nv) (a1 (eV nv) (a1 (eV nv) (a0)))))) (gT g.K g.calm (gm1 (gN g.nd) (gm1 (gN g.nd) (gm1 (gN g.nd) (gm0)))))) (sc (zRet (eCall g (ih 13 E13 rfl) (F.gl 13 _ rfl) (a1 (eCall g (ih 13 E13 rfl) (F.gl 13 _ rfl) (a1 (eV nv) (a1 (eV nv) (a0)))) (a1 (eV nv) (a0))))) (s0))⟩
theorem Sc28 : FnScope E28.N E28.ps E28.scope := ⟨rfl, rfl, rfl, by decide +kernel, rfl, by decide +kernel, by decide +kernel⟩
theorem ok28 (F : Fx tp K mg) (D : ∃ fd, FunD K E28.nm E28.nm E28.args E28.body E28.scope [] [] (tp.G K 28) fd) : EntOk L P w K mg base (tp.G K) 28 E28 :=
  ⟨D, Sc28, rfl, rfl, fun _ _ _ _ _ _ us hl => match us, hl with | [_, _, _], _ => rfl, fun _ _ _ _ _ _ us hl => match us, hl with | [_, _, _], _ => rfl,
    EV.walk_of Sc28 fun k ih f cdv A outer s H E F0 S0 H0 fb g => show PSs _ _ (TSof _ _ (B28 (calls (tab L) k))) from sc (zTup (bO (eCall g (ih 30 E30 rfl) (F.gl 30 _ rfl) (a1 (eV nv) (a1 (eV nv) (a1 (eV nv) (a0)))))) (gT g.K g.calm (gm1 (gN g.nd) (gm1 (gN g.nd) (gm1 (gN g.nd) (gm0)))))) (sc (zRet (eCall g (ih 13 E13 rfl) (F.gl 13 _ rfl) (a1 (eCall g (ih 14 E14 rfl) (F.gl 14 _ rfl) (a1 (eV nv) (a1 (eV nv) (a0)))) (a1 (eV nv) (a0))))) (s0))⟩
theorem Sc29 : FnScope E29.N E29.ps E29.scope := ⟨rfl, rfl, rfl, by decide +kernel, rfl, by decide +kernel, by decide +kernel⟩
theorem ok29 (F : Fx tp K mg) (D : ∃ fd, FunD K E29.nm E29.nm E29.args E29.body E29.scope [] [] (tp.G K 29) fd) : EntOk L P w K mg base (tp.G K) 29 E29 :=
  ⟨D, Sc29, rfl, rfl, fun _ _ _ _ _ _ us hl => match us, hl with | [_, _, _], _ => rfl, fun _ _ _ _ _ _ us hl => match us, hl with | [_, _, _], _ => rfl,
    EV.walk_of Sc29 fun k ih f cdv A outer s H E F0 S0 H0 fb g => show PSs _ _ (TSof _ _ (B29 (calls (tab L) k))) from sc (zTup (bO (eCall g (ih 30 E30 rfl) (F.gl 30 _ rfl) (a1 (eV nv) (a1 (eV nv) (a1 (eV nv) (a0)))))) (gT g.K g.calm (gm1 (gN g.nd) (gm1 (gN g.nd) (gm1 (gN g.nd) (gm0)))))) (sc (zRet (eCall g (ih 13 E13 rfl) (F.gl 13 _ rfl) (a1 (eV nv) (a1 (eCall g (ih 17 E17 rfl) (F.gl 17 _ rfl) (a1 (eV nv) (a1 (eV nv) (a0)))) (a0))))) (s0))⟩
theorem Sc30 : FnScope E30.N E30.ps E30.scope := ⟨rfl, rfl, rfl, by decide +kernel, rfl, by decide +kernel, by decide +kernel⟩
theorem ok30 (F : Fx tp K mg) (D : ∃ fd, FunD K E30.nm E30.nm E30.args E30.body E30.scope [] [] (tp.G K 30) fd) : EntOk L P w K mg base (tp.G K) 30 E30 :=
  ⟨D, Sc30, rfl, rfl, fun _ _ _ _ _ _ us hl => match us, hl with | [_, _, _], _ => rfl, fun _ _ _ _ _ _ us hl => match us, hl with | [_, _, _], _ => rfl,
    EV.walk_of Sc30 fun k ih f cdv A outer s H E F0 S0 H0 fb g => show PSs _ _ (TSof _ _ (B30 (calls (tab L) k))) from sc (zSet g (eCall g (ih 19 E19 rfl) (F.gl 19 _ rfl) (a1 (eV nv) (a0)))) (sc (zSet g (eCall g (ih 19 E19 rfl) (F.gl 19 _ rfl) (a1 (eV nv) (a0)))) (sc (zSet g (eCall g (ih 19 E19 rfl) (F.gl 19 _ rfl) (a1 (eV nv) (a0)))) (sc (zIf (PW.pt (wOr (tN (tV g.K (bO (eCall g (ih 16 E16 rfl) (F.gl 16 _ rfl) (a1 (eV nv) (a1 (eV nv) (a0))))))) (wOr1 (tN (tV g.K (bO (eCall g (ih 16 E16 rfl) (F.gl 16 _ rfl) (a1 (eV nv) (a1 (eV nv) (a0)))))))))) (sc (zRaise g (F.ex 50 rfl).1 (F.gl 50 _ rfl)) (s0)) (s0)) (sc (zRet (eTup (a1 (eV nv) (a1 (eV nv) (a1 (eV nv) (a0)))))) (s0)))))⟩
theorem Sc31 : FnScope E31.N E31.ps E31.scope := ⟨rfl, rfl, rfl, by decide +kernel, rfl, by decide +kernel, by decide +kernel⟩
theorem ok31 (F : Fx tp K mg) (D : ∃ fd, FunD K E31.nm E31.nm E31.args E31.body E31.scope [] [] (tp.G K 31) fd) : EntOk L P w K mg base (tp.G K) 31 E31 :=
  ⟨D, Sc31, rfl, rfl, fun _ _ _ _ _ _ us hl => match us, hl with | [_, _], _ => rfl, fun _ _ _ _ _ _ us hl => match us, hl with | [_, _], _ => rfl,
    EV.walk_of Sc31 fun k ih f cdv A outer s H E F0 S0 H0 fb g => show PSs _ _ (TSof _ _ (B31 (calls (tab L) k))) from sc (zSet g (eVal (eCall g (ih 6 E6 rfl) (F.gl 6 _ rfl) (a1 (eCall g (ih 19 E19 rfl) (F.gl 19 _ rfl) (a1 (eV nv) (a0))) (a1 (eI) (a1 (eC g.K (F.cst 7 _ _ rfl)) (a0))))))) (sc (zSet g (eVal (eCall g (ih 19 E19 rfl) (F.gl 19 _ rfl) (a1 (eV nv) (a0))))) (sc (zIf (tN (tV g.K (bO (eCall g (ih 16 E16 rfl) (F.gl 16 _ rfl) (a1 (eV nv) (a1 (eV nv) (a0))))))) (sc (zRaise g (F.ex 50 rfl).1 (F.gl 50 _ rfl)) (s0)) (s0)) (sc (zRet (eLC g (iR1 (F.bl 11 _ rfl) (b1 (bO (eBin (oAdd g.K) (bV nv) (bO (eI)))) (b0))) (mkBlk (own := [("near", 4)]) g (blkOk_by (by rfl)) (by decide) (fun _ _ _ _ _ g => g1 (gN g.nd)) (fun _ _ _ _ _ g => f1 (tV g.K (bO (eCall g (ih 16 E16 rfl) (F.gl 16 _ rfl) (a1 (eV nv) (a1 (eV nv) (a0))))))) (fun _ _ _ _ _ g => eCall g (ih 13 E13 rfl) (F.gl 13 _ rfl) (a1 (eV nv) (a1 (eV nv) (a0))))))) (s0))))⟩
theorem Sc32 : FnScope E32.N E32.ps E32.scope := ⟨rfl, rfl, rfl, by decide +kernel, rfl, by decide +kernel, by decide +kernel⟩
theorem ok32 (F : Fx tp K mg) (D : ∃ fd, FunD K E32.nm E32.nm E32.args E32.body E32.scope [] [] (tp.G K 32) fd) : EntOk L P w K mg base (tp.G K) 32 E32 :=
  ⟨D, Sc32, rfl, rfl, fun _ _ _ _ _ _ us hl => match us, hl with | [_], _ => rfl, fun _ _ _ _ _ _ us hl => match us, hl with | [_], _ => rfl,
    EV.walk_of Sc32 fun k ih f cdv A outer s H E F0 S0 H0 fb g => show PSs _ _ (TSof _ _ (B32 (calls (tab L) k))) from sc (zIf (PW.pt (wOr (tN (tV g.K (bO (eCall g (ih 2 E2 rfl) (F.gl 2 _ rfl) (a1 (eV nv) (a1 (eI) (a0))))))) (wOr (tN (tV g.K (bO (eBl (lIsi g.K) (F.bl 7 _ rfl) v_isinstance (b1 (bO (eIx g.K (bV nv) (bO (eI)))) (b1 (bO (eT (F.bl 14 _ rfl) v_tuple)) (b0))))))) (wOr1 (tN (tCh (oLe g) (oLe g) (bO (eI)) (bO (eBl (lLen g.K) (F.bl 8 _ rfl) v_len (b1 (bO (eIx g.K (bV nv) (bO (eI)))) (b0)))) (bO (eC g.K (F.cst 8 _ _ rfl))))))))) (sc (zRet (eB)) (s0)) (s0)) (sc (zTup (bV nv) (gT g.K g.calm (gm1 (gN g.nd) (gm1 (gN g.nd) (gm0))))) (sc (zSet g (eVal (eBl (lLen g.K) (F.bl 8 _ rfl) v_len (b1 (bV nv) (b0))))) (sc (zIf (tN (tV g.K (bO (eBl (lAll g) (F.bl 2 _ rfl) v_all (b1 (bO (eLC g (iS g.K (eBin (oAdd g.K) (bV nv) (bO (eTup (a1 (eV nv) (a0)))))) (mkBlk (own := [("own", 5)]) g (blkOk_by (by rfl)) (by decide) (fun _ _ _ _ _ g => g1 (gN g.nd)) (fun _ _ _ _ _ g => f0) (fun _ _ _ _ _ g => eAnd g.K (eCall g (ih 3 E3 rfl) (F.gl 3 _ rfl) (a1 (eV nv) (a1 (eI) (a1 (eBin (oSub) (bV nv) (bO (eI))) (a0))))) (e1 (eCall g (ih 4 E4 rfl) (F.gl 4 _ rfl) (a1 (eV nv) (a0)))))))) (b0)))))) (sc (zRet (eB)) (s0)) (s0)) (sc (zFor g (iEA g.K (F.bl 5 _ rfl) (eV nv)) (gT g.K g.calm (gm1 (gN g.nd) (gm1 (gN g.nd) (gm0)))) (sc (zIf (PW.pt (wOr (tCmp (oIn g) (bV nv) (bV nv)) (wOr1 (tN (tV g.K (bO (eBl (lAll g) (F.bl 2 _ rfl) v_all (b1 (bO (eLC2 g (iS g.K (eV nv)) (mkBlk2 (vs1 := [7]) g (mkBlk (own := [("near", 6), ("other", 7)]) g (blkOk_by (by rfl)) (by decide) (fun _ _ _ _ _ g => g1 (gN g.nd)) (fun _ _ _ _ _ g => f0) (fun _ _ _ _ _ g => eCmp (oIn g) (bV nv) (bV nv))) (by decide) (by decide) (fun _ _ _ _ _ g => iS g.K (eIx g.K (bV nv) (bV nv))) (fun _ _ _ _ _ g => g1 (gN g.nd)) (fun _ _ _ _ _ g => f0)))) (b0))))))))) (sc (zRet (eB)) (s0)) (s0)) (s0))) (sc (zRet (eBl (lAll g) (F.bl 2 _ rfl) v_all (b1 (bO (eLC2 g (iS g.K (eV nv)) (mkBlk2 (vs1 := [6]) g (mkBlk (own := [("world", 4), ("near", 6)]) g (blkOk_by (by rfl)) (by decide) (fun _ _ _ _ _ g => g1 (gN g.nd)) (fun _ _ _ _ _ g => f0) (fun _ _ _ _ _ g => eCmp (oIn g) (bV nv) (bV nv))) (by decide) (by decide) (fun _ _ _ _ _ g => iS g.K (eIx g.K (bV nv) (bV nv))) (fun _ _ _ _ _ g => g1 (gN g.nd)) (fun _ _ _ _ _ g => f0)))) (b0)))) (s0))))))⟩
theorem Sc33 : FnScope E33.N E33.ps E33.scope := ⟨rfl, rfl, rfl, by decide +kernel, rfl, by decide +kernel, by decide +kernel⟩
theorem ok33 (F : Fx tp K mg) (D : ∃ fd, FunD K E33.nm E33.nm E33.args E33.body E33.scope [] [] (tp.G K 33) fd) : EntOk L P w K mg base (tp.G K) 33 E33 :=
  ⟨D, Sc33, rfl, rfl, fun _ _ _ _ _ _ us hl => match us, hl with | [_], _ => rfl, fun _ _ _ _ _ _ us hl => match us, hl with | [_], _ => rfl,
    EV.walk_of Sc33 fun k ih f cdv A outer s H E F0 S0 H0 fb g => show PSs _ _ (TSof _ _ (B33 (calls (tab L) k))) from sc (zRet (eCall g (ih 32 E32 rfl) (F.gl 32 _ rfl) (a1 (eTup (a1 (eV nv) (a1 (eTup (a0)) (a0)))) (a0)))) (s0)⟩
theorem Sc34 : FnScope E34.N E34.ps E34.scope := ⟨rfl, rfl, rfl, by decide +kernel, rfl, by decide +kernel, by decide +kernel⟩
theorem ok34 (F : Fx tp K mg) (D : ∃ fd, FunD K E34.nm E34.nm E34.args E34.body E34.scope [] [] (tp.G K 34) fd) : EntOk L P w K mg base (tp.G K) 34 E34 :=
  ⟨D, Sc34, rfl, rfl, fun _ _ _ _ _ _ us hl => match us, hl with | [_], _ => rfl, fun _ _ _ _ _ _ us hl => match us, hl with | [_], _ => rfl,
    EV.walk_of Sc34 fun k ih f cdv A outer s H E F0 S0 H0 fb g => show PSs _ _ (TSof _ _ (B34 (calls (tab L) k))) from sc (zSet g (eCall g (ih 5 E5 rfl) (F.gl 5 _ rfl) (a1 (eV nv) (a0)))) (sc (zIf (tN (tV g.K (bO (eCall g (ih 33 E33 rfl) (F.gl 33 _ rfl) (a1 (eV nv) (a0)))))) (sc (zRaise g (F.ex 52 rfl).1 (F.gl 52 _ rfl)) (s0)) (s0)) (sc (zRetV nv) (s0)))⟩
theorem Sc35 : FnScope E35.N E35.ps E35.scope := ⟨rfl, rfl, rfl, by decide +kernel, rfl, by decide +kernel, by decide +kernel⟩
theorem ok35 (F : Fx tp K mg) (D : ∃ fd, FunD K E35.nm E35.nm E35.args E35.body E35.scope [] [] (tp.G K 35) fd) : EntOk L P w K mg base (tp.G K) 35 E35 :=
  ⟨D, Sc35, rfl, rfl, fun _ _ _ _ _ _ us hl => match us, hl with | [_], _ => rfl, fun _ _ _ _ _ _ us hl => match us, hl with | [_], _ => rfl,
    EV.walk_of Sc35 fun k ih f cdv A outer s H E F0 S0 H0 fb g => show PSs _ _ (TSof _ _ (B35 (calls (tab L) k))) from sc (zLC g (iS g.K (eBl (lSorted g) (F.bl 12 _ rfl) v_sorted (b1 (bO (eLC g (iEA g.K (F.bl 5 _ rfl) (eV nv)) (mkBlk (own := [("world", 3), ("its", 5)]) g (blkOk_by (by rfl)) (by decide) (fun _ _ _ _ _ g => gT g.K g.calm (gm1 (gN g.nd) (gm1 (gN g.nd) (gm0)))) (fun _ _ _ _ _ g => f0) (fun _ _ _ _ _ g => eTup (a1 (eBl (lLen g.K) (F.bl 8 _ rfl) v_len (b1 (bV nv) (b0))) (a1 (eV nv) (a0))))))) (b0)))) (mkBlk (own := [("own", 4)]) g (blkOk_by (by rfl)) (by decide) (fun _ _ _ _ _ g => g1 (gN g.nd)) (fun _ _ _ _ _ g => f0) (fun _ _ _ _ _ g => eIx g.K (bV nv) (bO (eI))))) (sc (zSet g (eLst (a1 (eTup (a0)) (a0)))) (sc (zFor g (iS g.K (eV nv)) (g1 (gN g.nd)) (sc (zDrop (eExt nv (bO (eLCS g nv (mkBlk (own := [("own", 4)]) g (blkOk_by (by rfl)) (by decide) (fun _ _ _ _ _ g => g1 (gN g.nd)) (fun _ _ _ _ _ g => f1 (tV g.K (bO (eBl (lAll g) (F.bl 2 _ rfl) v_all (b1 (bO (eLC g (iS g.K (eIx g.K (bV nv) (bV nv))) (mkBlk (own := [("near", 6)]) g (blkOk_by (by rfl)) (by decide) (fun _ _ _ _ _ g => g1 (gN g.nd)) (fun _ _ _ _ _ g => f0) (fun _ _ _ _ _ g => eCmp (oIn g) (bV nv) (bV nv))))) (b0)))))) (fun _ _ _ _ _ g => eBin (oAdd g.K) (bV nv) (bO (eTup (a1 (eV nv) (a0)))))))))) (sc (zIf (tCmp (oGt) (bO (eBl (lLen g.K) (F.bl 8 _ rfl) v_len (b1 (bV nv) (b0)))) (bO (eC g.K (F.cst 9 _ _ rfl)))) (sc (zRaise g (F.ex 51 rfl).1 (F.gl 51 _ rfl)) (s0)) (s0)) (s0)))) (sc (zRet (eBl (lSorted g) (F.bl 12 _ rfl) v_sorted (b1 (bO (eLCS g nv (mkBlk (own := [("own", 4)]) g (blkOk_by (by rfl)) (by decide) (fun _ _ _ _ _ g => g1 (gN g.nd)) (fun _ _ _ _ _ g => f0) (fun _ _ _ _ _ g => eBlT (lTuple g.K) (F.bl 14 _ rfl) v_tuple (b1 (bO (eBl (lSorted g) (F.bl 12 _ rfl) v_sorted (b1 (bV nv) (b0)))) (b0)))))) (b0)))) (s0))))⟩
theorem Sc36 : FnScope E36.N E36.ps E36.scope := ⟨rfl, rfl, rfl, by decide +kernel, rfl, by decide +kernel, by decide +kernel⟩
theorem ok36 (F : Fx tp K mg) (D : ∃ fd, FunD K E36.nm E36.nm E36.args E36.body E36.scope [] [] (tp.G K 36) fd) : EntOk L P w K mg base (tp.G K) 36 E36 :=
  ⟨D, Sc36, rfl, rfl, fun _ _ _ _ _ _ us hl => match us, hl with | [_], _ => rfl, fun _ _ _ _ _ _ us hl => match us, hl with | [_], _ => rfl,
    EV.walk_of Sc36 fun k ih f cdv A outer s H E F0 S0 H0 fb g => show PSs _ _ (TSof _ _ (B36 (calls (tab L) k))) from sc (zRet (eCall g (ih 35 E35 rfl) (F.gl 35 _ rfl) (a1 (eCall g (ih 34 E34 rfl) (F.gl 34 _ rfl) (a1 (eV nv) (a0))) (a0)))) (s0)⟩
theorem Sc37 : FnScope E37.N E37.ps E37.scope := ⟨rfl, rfl, rfl, by decide +kernel, rfl, by decide +kernel, by decide +kernel⟩
theorem ok37 (F : Fx tp K mg) (D : ∃ fd, FunD K E37.nm E37.nm E37.args E37.body E37.scope [] [] (tp.G K 37) fd) : EntOk L P w K mg base (tp.G K) 37 E37 :=
  ⟨D, Sc37, rfl, rfl, fun _ _ _ _ _ _ us hl => match us, hl with | [_], _ => rfl, fun _ _ _ _ _ _ us hl => match us, hl with | [_], _ => rfl,
    EV.walk_of Sc37 fun k ih f cdv A outer s H E F0 S0 H0 fb g => show PSs _ _ (TSof _ _ (B37 (calls (tab L) k))) from sc (zRet (eIf (tCmp (oGt) (bV nv) (bO (eI))) (eBin (oMul) (bO (eI)) (bV nv)) (eBin (oAdd g.K) (bV nv) (bO (eI))))) (s0)⟩
theorem Sc38 : FnScope E38.N E38.ps E38.scope := ⟨rfl, rfl, rfl, by decide +kernel, rfl, by decide +kernel, by decide +kernel⟩
theorem ok38 (F : Fx tp K mg) (D : ∃ fd, FunD K E38.nm E38.nm E38.args E38.body E38.scope [] [] (tp.G K 38) fd) : EntOk L P w K mg base (tp.G K) 38 E38 :=
  ⟨D, Sc38, rfl, rfl, fun _ _ _ _ _ _ us hl => match us, hl with | [_], _ => rfl, fun _ _ _ _ _ _ us hl => match us, hl with | [_], _ => rfl,
    EV.walk_of Sc38 fun k ih f cdv A outer s H E F0 S0 H0 fb g => show PSs _ _ (TSof _ _ (B38 (calls (tab L) k))) from sc (zIf (tN (tV g.K (bO (eCall g (ih 33 E33 rfl) (F.gl 33 _ rfl) (a1 (eV nv) (a0)))))) (sc (zRaise g (F.ex 51 rfl).1 (F.gl 51 _ rfl)) (s0)) (s0)) (sc (zRetV nv) (s0))⟩
theorem Sc39 : FnScope E39.N E39.ps E39.scope := ⟨rfl, rfl, rfl, by decide +kernel, rfl, by decide +kernel, by decide +kernel⟩
theorem ok39 (F : Fx tp K mg) (D : ∃ fd, FunD K E39.nm E39.nm E39.args E39.body E39.scope [] [] (tp.G K 39) fd) : EntOk L P w K mg base (tp.G K) 39 E39 :=
  ⟨D, Sc39, rfl, rfl, fun _ _ _ _ _ _ us hl => match us, hl with | [_], _ => rfl, fun _ _ _ _ _ _ us hl => match us, hl with | [_], _ => rfl,
    EV.walk_of Sc39 fun k ih f cdv A outer s H E F0 S0 H0 fb g => show PSs _ _ (TSof _ _ (B39 (calls (tab L) k))) from sc (zSet g (eVal (eCall g (ih 19 E19 rfl) (F.gl 19 _ rfl) (a1 (eV nv) (a0))))) (sc (zIf (tCmp (oLt) (bV nv) (bO (eI))) (sc (zRaise g (F.ex 50 rfl).1 (F.gl 50 _ rfl)) (s0)) (s0)) (sc (zIf (tCmp (oGt) (bV nv) (bO (eBin (oMul) (bO (eI)) (bO (eC g.K (F.cst 8 _ _ rfl)))))) (sc (zRaise g (F.ex 51 rfl).1 (F.gl 51 _ rfl)) (s0)) (s0)) (sc (zSet g (eVal (eLC g (iR1 (F.bl 11 _ rfl) (b1 (bO (eBin (oAdd g.K) (bO (eBin (oDiv) (bV nv) (bO (eI)))) (bO (eI)))) (b0))) (mkBlk (own := [("point", 4)]) g (blkOk_by (by rfl)) (by decide) (fun _ _ _ _ _ g => g1 (gN g.nd)) (fun _ _ _ _ _ g => f1 (tV g.K (bO (eCall g (ih 16 E16 rfl) (F.gl 16 _ rfl) (a1 (eCall g (ih 37 E37 rfl) (F.gl 37 _ rfl) (a1 (eV nv) (a0))) (a1 (eV nv) (a0))))))) (fun _ _ _ _ _ g => eV nv))))) (sc (zLCS g nv (mkBlk (own := [("point", 4)]) g (blkOk_by (by rfl)) (by decide) (fun _ _ _ _ _ g => g1 (gN g.nd)) (fun _ _ _ _ _ g => f0) (fun _ _ _ _ _ g => eLC g (iEA g.K (F.bl 5 _ rfl) (eV nv)) (mkBlk (own := [("at", 5), ("near", 6)]) g (blkOk_by (by rfl)) (by decide) (fun _ _ _ _ _ g => gT g.K g.calm (gm1 (gN g.nd) (gm1 (gN g.nd) (gm0)))) (fun _ _ _ _ _ g => f1 (tCmp (oLe g) (bV nv) (bO (eBin (oSub) (bV nv) (bO (eI)))))) (fun _ _ _ _ _ g => eV nv))))) (sc (zRet (eCall g (ih 38 E38 rfl) (F.gl 38 _ rfl) (a1 (eBlT (lTuple g.K) (F.bl 14 _ rfl) v_tuple (b1 (bO (eLCS g nv (mkBlk (own := [("row", 7)]) g (blkOk_by (by rfl)) (by decide) (fun _ _ _ _ _ g => g1 (gN g.nd)) (fun _ _ _ _ _ g => f0) (fun _ _ _ _ _ g => eBlT (lTuple g.K) (F.bl 14 _ rfl) v_tuple (b1 (bV nv) (b0)))))) (b0))) (a0)))) (s0))))))⟩
theorem Sc40 : FnScope E40.N E40.ps E40.scope := ⟨rfl, rfl, rfl, by decide +kernel, rfl, by decide +kernel, by decide +kernel⟩
theorem ok40 (F : Fx tp K mg) (D : ∃ fd, FunD K E40.nm E40.nm E40.args E40.body E40.scope [] [] (tp.G K 40) fd) : EntOk L P w K mg base (tp.G K) 40 E40 :=
  ⟨D, Sc40, rfl, rfl, fun _ _ _ _ _ _ us hl => match us, hl with | [_, _], _ => rfl, fun _ _ _ _ _ _ us hl => match us, hl with | [_, _], _ => rfl,
    EV.walk_of Sc40 fun k ih f cdv A outer s H E F0 S0 H0 fb g => show PSs _ _ (TSof _ _ (B40 (calls (tab L) k))) from sc (zSet g (eIf (tCmp (oLt) (bV nv) (bO (eBl (lLen g.K) (F.bl 8 _ rfl) v_len (b1 (bV nv) (b0))))) (eIx g.K (bV nv) (bV nv)) (eI))) (sc (zRet (eLst (a1 (eBin (oMul) (bO (eBl (lAbs) (F.bl 1 _ rfl) v_abs (b1 (bV nv) (b0)))) (bO (eBlT (lInt) (F.bl 6 _ rfl) v_int (b1 (bO (eCmp (oGe) (bO (eBl (lAbs) (F.bl 1 _ rfl) v_abs (b1 (bV nv) (b0)))) (bO (eBin (oPow) (bO (eI)) (bO (eI)))))) (b0))))) (a1 (eBin (oAdd g.K) (bO (eBin (oAdd g.K) (bO (eBin (oMod) (bO (eBlT (lInt) (F.bl 6 _ rfl) v_int (b1 (bV nv) (b0)))) (bO (eI)))) (bO (eBin (oMul) (bO (eI)) (bV nv))))) (bO (eI))) (a1 (eI) (a0)))))) (s0))⟩
theorem Sc41 : FnScope E41.N E41.ps E41.scope := ⟨rfl, rfl, rfl, by decide +kernel, rfl, by decide +kernel, by decide +kernel⟩
theorem ok41 (F : Fx tp K mg) (D : ∃ fd, FunD K E41.nm E41.nm E41.args E41.body E41.scope [] [] (tp.G K 41) fd) : EntOk L P w K mg base (tp.G K) 41 E41 :=
  ⟨D, Sc41, rfl, rfl, fun _ _ _ _ _ _ us hl => match us, hl with | [_, _], _ => rfl, fun _ _ _ _ _ _ us hl => match us, hl with | [_, _], _ => rfl,
    EV.walk_of Sc41 fun k ih f cdv A outer s H E F0 S0 H0 fb g => show PSs _ _ (TSof _ _ (B41 (calls (tab L) k))) from sc (zIf (tCmp (oGt) (bO (eIx g.K (bV nv) (bO (eI)))) (bO (eI))) (sc (zSet g (eBin (oMod) (bO (eBlT (lInt) (F.bl 6 _ rfl) v_int (b1 (bO (eIx g.K (bV nv) (bO (eI)))) (b0)))) (bV nv))) (sc (zPut (eBin (oDiv) (bO (eIx g.K (bV nv) (bO (eI)))) (bV nv)) nv (bO (eI))) (sc (zRetV nv) (s0)))) (s0)) (sc (zPut (eBin (oAdd g.K) (bO (eIx g.K (bV nv) (bO (eI)))) (bO (eI))) nv (bO (eI))) (sc (zSet g (eBin (oMod) (bO (eBlT (lInt) (F.bl 6 _ rfl) v_int (b1 (bO (eBin (oMul) (bO (eBin (oAdd g.K) (bO (eIx g.K (bV nv) (bO (eI)))) (bO (eBin (oMul) (bO (eI)) (bO (eIx g.K (bV nv) (bO (eI)))))))) (bO (eBin (oAdd g.K) (bO (eI)) (bO (eIx g.K (bV nv) (bO (eI)))))))) (b0)))) (bO (eI)))) (sc (zSet g (eBin (oAdd g.K) (bO (eBin (oMod) (bO (eBlT (lInt) (F.bl 6 _ rfl) v_int (b1 (bV nv) (b0)))) (bO (eI)))) (bO (eI)))) (sc (zSet g (eBin (oMod) (bO (eBlT (lInt) (F.bl 6 _ rfl) v_int (b1 (bO (eBin (oMul) (bO (eBin (oAdd g.K) (bO (eBin (oAdd g.K) (bV nv) (bO (eIx g.K (bV nv) (bO (eI)))))) (bO (eBin (oDiv) (bO (eIx g.K (bV nv) (bO (eI)))) (bO (eI)))))) (bV nv))) (b0)))) (bO (eI)))) (sc (zRet (eBin (oMod) (bO (eBlT (lInt) (F.bl 6 _ rfl) v_int (b1 (bO (eBin (oDiv) (bO (eBin (oMod) (bO (eBlT (lInt) (F.bl 6 _ rfl) v_int (b1 (bO (eBin (oAdd g.K) (bO (eBin (oMul) (bV nv) (bO (eI)))) (bV nv))) (b0)))) (bO (eI)))) (bO (eI)))) (b0)))) (bV nv))) (s0))))))⟩
theorem Sc42 : FnScope E42.N E42.ps E42.scope := ⟨rfl, rfl, rfl, by decide +kernel, rfl, by decide +kernel, by decide +kernel⟩
theorem ok42 (F : Fx tp K mg) (D : ∃ fd, FunD K E42.nm E42.nm E42.args E42.body E42.scope [] [] (tp.G K 42) fd) : EntOk L P w K mg base (tp.G K) 42 E42 :=
  ⟨D, Sc42, rfl, rfl, fun _ _ _ _ _ _ us hl => match us, hl with | [_, _], _ => rfl, fun _ _ _ _ _ _ us hl => match us, hl with | [_, _], _ => rfl,
    EV.walk_of Sc42 fun k ih f cdv A outer s H E F0 S0 H0 fb g => show PSs _ _ (TSof _ _ (B42 (calls (tab L) k))) from sc (zSet g (eOr g.K (eBlT (lList g.K) (F.bl 9 _ rfl) v_list (b1 (bO (eSl g.K (bV nv) (o0) (o1 (bV nv)))) (b0))) (e1 (eLst (a1 (eI) (a0)))))) (sc (zFor g (iE g.K (F.bl 5 _ rfl) (eSl g.K (bV nv) (o1 (bV nv)) (o1 (bO (eI))))) (gT g.K g.calm (gm1 (gN g.nd) (gm1 (gN g.nd) (gm0)))) (sc (zSet g (eBin (oMod) (bO (eBlT (lInt) (F.bl 6 _ rfl) v_int (b1 (bV nv) (b0)))) (bV nv))) (sc (zPut (eBin (oAdd g.K) (bO (eIx g.K (bV nv) (bV nv))) (bO (eBin (oMul) (bV nv) (bO (eBin (oAdd g.K) (bV nv) (bO (eI))))))) nv (bV nv)) (s0)))) (sc (zRetV nv) (s0)))⟩
theorem Sc43 : FnScope E43.N E43.ps E43.scope := ⟨rfl, rfl, rfl, by decide +kernel, rfl, by decide +kernel, by decide +kernel⟩
theorem ok43 (F : Fx tp K mg) (D : ∃ fd, FunD K E43.nm E43.nm E43.args E43.body E43.scope [] [] (tp.G K 43) fd) : EntOk L P w K mg base (tp.G K) 43 E43 :=
  ⟨D, Sc43, rfl, rfl, fun _ _ _ _ _ _ us hl => match us, hl with | [_, _], _ => rfl, fun _ _ _ _ _ _ us hl => match us, hl with | [_, _], _ => rfl,
    EV.walk_of Sc43 fun k ih f cdv A outer s H E F0 S0 H0 fb g => show PSs _ _ (TSof _ _ (B43 (calls (tab L) k))) from sc (zRet (eIx g.K (bV nv) (bO (eCallIO g (ih 41 E41 rfl) (F.gl 41 _ rfl) nv (a1 (eBl (lLen g.K) (F.bl 8 _ rfl) v_len (b1 (bV nv) (b0))) (a0)))))) (s0)⟩
theorem Sc44 : FnScope E44.N E44.ps E44.scope := ⟨rfl, rfl, rfl, by decide +kernel, rfl, by decide +kernel, by decide +kernel⟩
theorem ok44 (F : Fx tp K mg) (D : ∃ fd, FunD K E44.nm E44.nm E44.args E44.body E44.scope [] [] (tp.G K 44) fd) : EntOk L P w K mg base (tp.G K) 44 E44 :=
  ⟨D, Sc44, rfl, rfl, fun _ _ _ _ _ _ us hl => match us, hl with | [_, _], _ => rfl, fun _ _ _ _ _ _ us hl => match us, hl with | [_, _], _ => rfl,
    EV.walk_of Sc44 fun k ih f cdv A outer s H E F0 S0 H0 fb g => show PSs _ _ (TSof _ _ (B44 (calls (tab L) k))) from sc (zIf (tV g.K (bO (eBl (lIsi g.K) (F.bl 7 _ rfl) v_isinstance (b1 (bV nv) (b1 (bO (eTup (a1 (eT (F.bl 9 _ rfl) v_list) (a1 (eT (F.bl 14 _ rfl) v_tuple) (a0))))) (b0)))))) (sc (zIf (PW.pt (wOr (tCmp (oNe g) (bO (eBl (lIsi g.K) (F.bl 7 _ rfl) v_isinstance (b1 (bV nv) (b1 (bO (eT (F.bl 9 _ rfl) v_list)) (b0))))) (bO (eBl (lIsi g.K) (F.bl 7 _ rfl) v_isinstance (b1 (bV nv) (b1 (bO (eT (F.bl 9 _ rfl) v_list)) (b0)))))) (wOr1 (tCmp (oNe g) (bO (eBl (lIsi g.K) (F.bl 7 _ rfl) v_isinstance (b1 (bV nv) (b1 (bO (eT (F.bl 14 _ rfl) v_tuple)) (b0))))) (bO (eBl (lIsi g.K) (F.bl 7 _ rfl) v_isinstance (b1 (bV nv) (b1 (bO (eT (F.bl 14 _ rfl) v_tuple)) (b0))))))))) (sc (zRet (eB)) (s0)) (s0)) (sc (zRet (eAnd g.K (eCmp (oEq g) (bO (eBl (lLen g.K) (F.bl 8 _ rfl) v_len (b1 (bV nv) (b0)))) (bO (eBl (lLen g.K) (F.bl 8 _ rfl) v_len (b1 (bV nv) (b0))))) (e1 (eBl (lAll g) (F.bl 2 _ rfl) v_all (b1 (bO (eLC g (iZ g.K (F.bl 15 _ rfl) (eV nv) (eV nv)) (mkBlk (own := [("mine", 2), ("its", 3)]) g (blkOk_by (by rfl)) (by decide) (fun _ _ _ _ _ g => gT g.K g.calm (gm1 (gN g.nd) (gm1 (gN g.nd) (gm0)))) (fun _ _ _ _ _ g => f0) (fun _ _ _ _ _ g => eCall g (ih 44 E44 rfl) (F.gl 44 _ rfl) (a1 (eV nv) (a1 (eV nv) (a0))))))) (b0)))))) (s0))) (s0)) (sc (zIf (tCmp (oIs) (bV nv) (bO (eN))) (sc (zRet (eCmp (oIs) (bV nv) (bO (eN)))) (s0)) (s0)) (sc (zIf (tV g.K (bO (eBl (lIsi g.K) (F.bl 7 _ rfl) v_isinstance (b1 (bV nv) (b1 (bO (eTup (a1 (eT (F.bl 3 _ rfl) v_bool) (a1 (eT (F.bl 13 _ rfl) v_str) (a0))))) (b0)))))) (sc (zRet (eAnd g.K (eCmp (oEq g) (bO (eBl (lIsi g.K) (F.bl 7 _ rfl) v_isinstance (b1 (bV nv) (b1 (bO (eT (F.bl 3 _ rfl) v_bool)) (b0))))) (bO (eBl (lIsi g.K) (F.bl 7 _ rfl) v_isinstance (b1 (bV nv) (b1 (bO (eT (F.bl 3 _ rfl) v_bool)) (b0)))))) (eAnd g.K (eCmp (oEq g) (bO (eBl (lIsi g.K) (F.bl 7 _ rfl) v_isinstance (b1 (bV nv) (b1 (bO (eT (F.bl 13 _ rfl) v_str)) (b0))))) (bO (eBl (lIsi g.K) (F.bl 7 _ rfl) v_isinstance (b1 (bV nv) (b1 (bO (eT (F.bl 13 _ rfl) v_str)) (b0)))))) (e1 (eCmp (oEq g) (bV nv) (bV nv)))))) (s0)) (s0)) (sc (zRet (eAnd g.K (eBl (lIsi g.K) (F.bl 7 _ rfl) v_isinstance (b1 (bV nv) (b1 (bO (eT (F.bl 6 _ rfl) v_int)) (b0)))) (eAnd g.K (eNot g.K (eBl (lIsi g.K) (F.bl 7 _ rfl) v_isinstance (b1 (bV nv) (b1 (bO (eT (F.bl 3 _ rfl) v_bool)) (b0))))) (e1 (eCmp (oEq g) (bV nv) (bV nv)))))) (s0))))⟩
theorem Sc45 : FnScope E45.N E45.ps E45.scope := ⟨rfl, rfl, rfl, by decide +kernel, rfl, by decide +kernel, by decide +kernel⟩
theorem ok45 (F : Fx tp K mg) (D : ∃ fd, FunD K E45.nm E45.nm E45.args E45.body E45.scope [] [] (tp.G K 45) fd) : EntOk L P w K mg base (tp.G K) 45 E45 :=
  ⟨D, Sc45, rfl, rfl, fun _ _ _ _ _ _ us hl => match us, hl with | [_, _], _ => rfl, fun _ _ _ _ _ _ us hl => match us, hl with | [_, _], _ => rfl,
    EV.walk_of Sc45 fun k ih f cdv A outer s H E F0 S0 H0 fb g => show PSs _ _ (TSof _ _ (B45 (calls (tab L) k))) from sc (zIf (tCmp (oEq g) (bO (eBl (lLen g.K) (F.bl 8 _ rfl) v_len (b1 (bV nv) (b0)))) (bO (eI))) (sc (zRet (eCallV g (okv1_ok ih) nv (a1 (eIx g.K (bV nv) (bO (eI))) (a0)))) (s0)) (s0)) (sc (zIf (tCmp (oEq g) (bO (eBl (lLen g.K) (F.bl 8 _ rfl) v_len (b1 (bV nv) (b0)))) (bO (eI))) (sc (zRet (eCallV g (okv2_ok ih) nv (a1 (eIx g.K (bV nv) (bO (eI))) (a1 (eIx g.K (bV nv) (bO (eI))) (a0))))) (s0)) (s0)) (sc (zIf (tCmp (oEq g) (bO (eBl (lLen g.K) (F.bl 8 _ rfl) v_len (b1 (bV nv) (b0)))) (bO (eI))) (sc (zRet (eCallV g (okv3_ok ih) nv (a1 (eIx g.K (bV nv) (bO (eI))) (a1 (eIx g.K (bV nv) (bO (eI))) (a1 (eIx g.K (bV nv) (bO (eI))) (a0)))))) (s0)) (s0)) (sc (zRet (eCallV g (okv4_ok ih) nv (a1 (eIx g.K (bV nv) (bO (eI))) (a1 (eIx g.K (bV nv) (bO (eI))) (a1 (eIx g.K (bV nv) (bO (eI))) (a1 (eIx g.K (bV nv) (bO (eI))) (a0))))))) (s0))))⟩
theorem Sc46 : FnScope E46.N E46.ps E46.scope := ⟨rfl, rfl, rfl, by decide +kernel, rfl, by decide +kernel, by decide +kernel⟩
theorem ok46 (F : Fx tp K mg) (D : ∃ fd, FunD K E46.nm E46.nm E46.args E46.body E46.scope [] [] (tp.G K 46) fd) : EntOk L P w K mg base (tp.G K) 46 E46 :=
  ⟨D, Sc46, rfl, rfl, fun _ _ _ _ _ _ us hl => match us, hl with | [_, _], _ => rfl, fun _ _ _ _ _ _ us hl => match us, hl with | [_, _], _ => rfl,
    EV.walk_of Sc46 fun k ih f cdv A outer s H E F0 S0 H0 fb g => show PSs _ _ (TSof _ _ (B46 (calls (tab L) k))) from sc (zIf (PW.pt (wOr (tCmp (oEq g) (bV nv) (bO (eI))) (wOr1 (tCmp (oEq g) (bO (eCallIO g (ih 41 E41 rfl) (F.gl 41 _ rfl) nv (a1 (eI) (a0)))) (bO (eI)))))) (sc (zRet (eCallIO g (ih 43 E43 rfl) (F.gl 43 _ rfl) nv (a1 (eLst (a1 (eTup (a1 (eS) (a0))) (a1 (eTup (a1 (eS) (a0))) (a1 (eTup (a1 (eS) (a0))) (a1 (eTup (a1 (eS) (a1 (eTup (a1 (eS) (a0))) (a1 (eTup (a1 (eS) (a0))) (a0))))) (a0)))))) (a0)))) (s0)) (s0)) (sc (zSet g (eCallIO g (ih 43 E43 rfl) (F.gl 43 _ rfl) nv (a1 (eLst (a1 (eS) (a1 (eS) (a1 (eS) (a1 (eS) (a1 (eS) (a0))))))) (a0)))) (sc (zRet (eTup (a1 (eV nv) (a1 (eCallIO g (ih 46 E46 rfl) (F.gl 46 _ rfl) nv (a1 (eBin (oSub) (bV nv) (bO (eI))) (a0))) (a1 (eCallIO g (ih 46 E46 rfl) (F.gl 46 _ rfl) nv (a1 (eBin (oSub) (bV nv) (bO (eI))) (a0))) (a0)))))) (s0)))⟩
theorem Sc47 : FnScope E47.N E47.ps E47.scope := ⟨rfl, rfl, rfl, by decide +kernel, rfl, by decide +kernel, by decide +kernel⟩
theorem ok47 (F : Fx tp K mg) (D : ∃ fd, FunD K E47.nm E47.nm E47.args E47.body E47.scope [] [] (tp.G K 47) fd) : EntOk L P w K mg base (tp.G K) 47 E47 :=
  ⟨D, Sc47, rfl, rfl, fun _ _ _ _ _ _ us hl => match us, hl with | [_, _, _], _ => rfl, fun _ _ _ _ _ _ us hl => match us, hl with | [_, _, _], _ => rfl,
    EV.walk_of Sc47 fun k ih f cdv A outer s H E F0 S0 H0 fb g => show PSs _ _ (TSof _ _ (B47 (calls (tab L) k))) from sc (zTup (bO (eTup (a1 (eN) (a1 (eN) (a0))))) (gT g.K g.calm (gm1 (gN g.nd) (gm1 (gN g.nd) (gm0))))) (sc (zTry [(50, 3, 4, "cannot"), (51, 3, 4, "many"), (52, 3, 4, "unfit")] g F rfl (fun _ _ _ g => sc (zSet g (eCall g (ih 45 E45 rfl) (F.gl 45 _ rfl) (a1 (eV nv) (a1 (eV nv) (a0))))) (s0)) (q1 g F rfl (F.gl 50 _ rfl) (F.bl 7 _ rfl) (F.bl 0 _ rfl) (q1 g F rfl (F.gl 51 _ rfl) (F.bl 7 _ rfl) (F.bl 0 _ rfl) (q1 g F rfl (F.gl 52 _ rfl) (F.bl 7 _ rfl) (F.bl 0 _ rfl) (q0))))) (sc (zRet (eAnd g.K (eCmp (oIs) (bV nv) (bO (eN))) (e1 (eCmp (oEq g) (bV nv) (bV nv))))) (s0)))⟩
theorem Sc48 : FnScope E48.N E48.ps E48.scope := ⟨rfl, rfl, rfl, by decide +kernel, rfl, by decide +kernel, by decide +kernel⟩
theorem ok48 (F : Fx tp K mg) (D : ∃ fd, FunD K E48.nm E48.nm E48.args E48.body E48.scope [] [] (tp.G K 48) fd) : EntOk L P w K mg base (tp.G K) 48 E48 :=
  ⟨D, Sc48, rfl, rfl, fun _ _ _ _ _ _ us hl => match us, hl with | [_, _], _ => rfl, fun _ _ _ _ _ _ us hl => match us, hl with | [_, _], _ => rfl,
    EV.walk_of Sc48 fun k ih f cdv A outer s H E F0 S0 H0 fb g => show PSs _ _ (TSof _ _ (B48 (calls (tab L) k))) from sc (zIf (tCmp (oIn g) (bO (eIx g.K (bV nv) (bO (eI)))) (bO (eTup (a1 (eS) (a1 (eS) (a0)))))) (sc (zRet (eIf (tCmp (oEq g) (bO (eIx g.K (bV nv) (bO (eI)))) (bO (eS))) (eCall g (ih 21 E21 rfl) (F.gl 21 _ rfl) (a1 (eV nv) (a1 (eI) (a0)))) (eI))) (s0)) (s0)) (sc (zPar g (eCall g (ih 48 E48 rfl) (F.gl 48 _ rfl) (a1 (eV nv) (a1 (eIx g.K (bV nv) (bO (eI))) (a0)))) (eCall g (ih 48 E48 rfl) (F.gl 48 _ rfl) (a1 (eV nv) (a1 (eIx g.K (bV nv) (bO (eI))) (a0))))) (sc (zIf (tCmp (oEq g) (bO (eIx g.K (bV nv) (bO (eI)))) (bO (eS))) (sc (zRet (eCall g (ih 27 E27 rfl) (F.gl 27 _ rfl) (a1 (eV nv) (a1 (eV nv) (a1 (eV nv) (a0)))))) (s0)) (s0)) (sc (zRet (eIf (tCmp (oEq g) (bO (eIx g.K (bV nv) (bO (eI)))) (bO (eS))) (eCall g (ih 28 E28 rfl) (F.gl 28 _ rfl) (a1 (eV nv) (a1 (eV nv) (a1 (eV nv) (a0))))) (eCall g (ih 29 E29 rfl) (F.gl 29 _ rfl) (a1 (eV nv) (a1 (eV nv) (a1 (eV nv) (a0))))))) (s0))))⟩
theorem Sc49 : FnScope E49.N E49.ps E49.scope := ⟨rfl, rfl, rfl, by decide +kernel, rfl, by decide +kernel, by decide +kernel⟩
theorem ok49 (F : Fx tp K mg) (D : ∃ fd, FunD K E49.nm E49.nm E49.args E49.body E49.scope [] [] (tp.G K 49) fd) : EntOk L P w K mg base (tp.G K) 49 E49 :=
  ⟨D, Sc49, rfl, rfl, fun _ _ _ _ _ _ us hl => match us, hl with | [_], _ => rfl, fun _ _ _ _ _ _ us hl => match us, hl with | [_], _ => rfl,
    EV.walk_of Sc49 fun k ih f cdv A outer s H E F0 S0 H0 fb g => show PSs _ _ (TSof _ _ (B49 (calls (tab L) k))) from sc (zSet g (eCall g (ih 40 E40 rfl) (F.gl 40 _ rfl) (a1 (eCall g (ih 42 E42 rfl) (F.gl 42 _ rfl) (a1 (eV nv) (a1 (eI) (a0)))) (a1 (eI) (a0))))) (sc (zFor g (iR1 (F.bl 11 _ rfl) (b1 (bO (eI)) (b0))) (g1 (gN g.nd)) (sc (zTup (bO (eTup (a1 (eCallIO g (ih 41 E41 rfl) (F.gl 41 _ rfl) nv (a1 (eI) (a0))) (a1 (eCallIO g (ih 46 E46 rfl) (F.gl 46 _ rfl) nv (a1 (eI) (a0))) (a0))))) (gT g.K g.calm (gm1 (gN g.nd) (gm1 (gN g.nd) (gm0))))) (sc (zLC g (iR1 (F.bl 11 _ rfl) (b1 (bO (eBin (oAdd g.K) (bV nv) (bO (eI)))) (b0))) (mkBlk (own := [("k", 10)]) g (blkOk_by (by rfl)) (by decide) (fun _ _ _ _ _ g => g1 (gN g.nd)) (fun _ _ _ _ _ g => f1 (tV g.K (bO (eCall g (ih 24 E24 rfl) (F.gl 24 _ rfl) (a1 (eV nv) (a1 (eV nv) (a0))))))) (fun _ _ _ _ _ g => eV nv))) (sc (zIf (tN (tV g.K (bO (eCall g (ih 44 E44 rfl) (F.gl 44 _ rfl) (a1 (eLst (a1 (eBl (lLen g.K) (F.bl 8 _ rfl) v_len (b1 (bV nv) (b0))) (a1 (eCallK g (ih 26 E26 rfl) (F.gl 26 _ rfl) (k1 (eV nv) (k1 (eV nv) (k0)))) (a1 (eCall g (ih 26 E26 rfl) (F.gl 26 _ rfl) (a1 (eNeg (bO (eI))) (a1 (eV nv) (a0)))) (a0))))) (a1 (eLst (a1 (eCall g (ih 25 E25 rfl) (F.gl 25 _ rfl) (a1 (eV nv) (a0))) (a1 (eCall g (ih 48 E48 rfl) (F.gl 48 _ rfl) (a1 (eV nv) (a1 (eV nv) (a0)))) (a1 (eCall g (ih 20 E20 rfl) (F.gl 20 _ rfl) (a1 (eV nv) (a0))) (a0))))) (a0))))))) (sc (zRet (eB)) (s0)) (s0)) (sc (zTup (bO (eTup (a1 (eCallIO g (ih 43 E43 rfl) (F.gl 43 _ rfl) nv (a1 (eV nv) (a0))) (a1 (eCallIO g (ih 43 E43 rfl) (F.gl 43 _ rfl) nv (a1 (eV nv) (a0))) (a1 (eCallIO g (ih 43 E43 rfl) (F.gl 43 _ rfl) nv (a1 (eV nv) (a0))) (a0)))))) (gT g.K g.calm (gm1 (gN g.nd) (gm1 (gN g.nd) (gm1 (gN g.nd) (gm0)))))) (sc (zSet g (eLst (a1 (eCallK g (ih 27 E27 rfl) (F.gl 27 _ rfl) (k1 (eV nv) (k1 (eV nv) (k1 (eV nv) (k0))))) (a1 (eCallK g (ih 28 E28 rfl) (F.gl 28 _ rfl) (k1 (eV nv) (k1 (eV nv) (k1 (eV nv) (k0))))) (a1 (eCallK g (ih 29 E29 rfl) (F.gl 29 _ rfl) (k1 (eV nv) (k1 (eV nv) (k1 (eV nv) (k0))))) (a1 (eCall g (ih 29 E29 rfl) (F.gl 29 _ rfl) (a1 (eV nv) (a1 (eV nv) (a1 (eV nv) (a0))))) (a1 (eCall g (ih 29 E29 rfl) (F.gl 29 _ rfl) (a1 (eV nv) (a1 (eV nv) (a1 (eV nv) (a0))))) (a1 (eCall g (ih 29 E29 rfl) (F.gl 29 _ rfl) (a1 (eV nv) (a1 (eCall g (ih 27 E27 rfl) (F.gl 27 _ rfl) (a1 (eV nv) (a1 (eV nv) (a1 (eV nv) (a0))))) (a1 (eV nv) (a0))))) (a0))))))))) (sc (zSet g (eLst (a1 (eCall g (ih 21 E21 rfl) (F.gl 21 _ rfl) (a1 (eV nv) (a1 (eV nv) (a0)))) (a1 (eCall g (ih 22 E22 rfl) (F.gl 22 _ rfl) (a1 (eV nv) (a1 (eV nv) (a0)))) (a1 (eCall g (ih 21 E21 rfl) (F.gl 21 _ rfl) (a1 (eV nv) (a1 (eCall g (ih 23 E23 rfl) (F.gl 23 _ rfl) (a1 (eV nv) (a1 (eV nv) (a0)))) (a0)))) (a1 (eV nv) (a1 (eV nv) (a1 (eCall g (ih 29 E29 rfl) (F.gl 29 _ rfl) (a1 (eV nv) (a1 (eV nv) (a1 (eCall g (ih 29 E29 rfl) (F.gl 29 _ rfl) (a1 (eV nv) (a1 (eV nv) (a1 (eV nv) (a0))))) (a0))))) (a0))))))))) (sc (zIf (tN (tV g.K (bO (eCall g (ih 44 E44 rfl) (F.gl 44 _ rfl) (a1 (eV nv) (a1 (eV nv) (a0))))))) (sc (zRet (eB)) (s0)) (s0)) (sc (zSet g (eVal (eCall g (ih 29 E29 rfl) (F.gl 29 _ rfl) (a1 (eV nv) (a1 (eV nv) (a1 (eV nv) (a0))))))) (sc (zIf (tN (tV g.K (bO (eBl (lAll g) (F.bl 2 _ rfl) v_all (b1 (bO (eLCS g nv (mkBlk (own := [("k", 10)]) g (blkOk_by (by rfl)) (by decide) (fun _ _ _ _ _ g => g1 (gN g.nd)) (fun _ _ _ _ _ g => f0) (fun _ _ _ _ _ g => eCmp (oEq g) (bO (eCall g (ih 24 E24 rfl) (F.gl 24 _ rfl) (a1 (eV nv) (a1 (eV nv) (a0))))) (bO (eCall g (ih 24 E24 rfl) (F.gl 24 _ rfl) (a1 (eCall g (ih 21 E21 rfl) (F.gl 21 _ rfl) (a1 (eV nv) (a1 (eV nv) (a0)))) (a1 (eV nv) (a0))))))))) (b0)))))) (sc (zRet (eB)) (s0)) (s0)) (sc (zSet g (eVal (eCallIO g (ih 43 E43 rfl) (F.gl 43 _ rfl) nv (a1 (eV nv) (a0))))) (sc (zSet g (eVal (eDictZ g (F.bl 4 _ rfl) (F.bl 15 _ rfl) (a1 (eV nv) (a1 (eCallK g (ih 31 E31 rfl) (F.gl 31 _ rfl) (k1 (eV nv) (k1 (eV nv) (k0)))) (a0)))))) (sc (zIf (tN (tV g.K (bO (eCall g (ih 44 E44 rfl) (F.gl 44 _ rfl) (a1 (eLCS g nv (mkBlk (own := [("k", 10)]) g (blkOk_by (by rfl)) (by decide) (fun _ _ _ _ _ g => g1 (gN g.nd)) (fun _ _ _ _ _ g => f0) (fun _ _ _ _ _ g => eDx g (bV nv) (bV nv)))) (a1 (eLCS g nv (mkBlk (own := [("k", 10)]) g (blkOk_by (by rfl)) (by decide) (fun _ _ _ _ _ g => g1 (gN g.nd)) (fun _ _ _ _ _ g => f0) (fun _ _ _ _ _ g => eCall g (ih 21 E21 rfl) (F.gl 21 _ rfl) (a1 (eV nv) (a1 (eV nv) (a0)))))) (a0))))))) (sc (zRet (eB)) (s0)) (s0)) (sc (zIf (tN (tV g.K (bO (eCall g (ih 44 E44 rfl) (F.gl 44 _ rfl) (a1 (eLst (a1 (eDx g (bV nv) (bO (eCall g (ih 21 E21 rfl) (F.gl 21 _ rfl) (a1 (eV nv) (a1 (eV nv) (a0)))))) (a1 (eDx g (bV nv) (bO (eCall g (ih 22 E22 rfl) (F.gl 22 _ rfl) (a1 (eV nv) (a1 (eV nv) (a0)))))) (a1 (eDx g (bV nv) (bV nv)) (a1 (eDx g (bV nv) (bO (eCall g (ih 26 E26 rfl) (F.gl 26 _ rfl) (a1 (eV nv) (a1 (eV nv) (a0)))))) (a0)))))) (a1 (eLst (a1 (eCall g (ih 27 E27 rfl) (F.gl 27 _ rfl) (a1 (eV nv) (a1 (eDx g (bV nv) (bV nv)) (a1 (eDx g (bV nv) (bV nv)) (a0))))) (a1 (eCall g (ih 28 E28 rfl) (F.gl 28 _ rfl) (a1 (eV nv) (a1 (eDx g (bV nv) (bV nv)) (a1 (eDx g (bV nv) (bV nv)) (a0))))) (a1 (eCall g (ih 29 E29 rfl) (F.gl 29 _ rfl) (a1 (eV nv) (a1 (eDx g (bV nv) (bV nv)) (a1 (eDx g (bV nv) (bV nv)) (a0))))) (a1 (eCall g (ih 26 E26 rfl) (F.gl 26 _ rfl) (a1 (eV nv) (a1 (eV nv) (a0)))) (a0)))))) (a0))))))) (sc (zRet (eB)) (s0)) (s0)) (sc (zLC g (iR1 (F.bl 11 _ rfl) (b1 (bO (eI)) (b0))) (mkBlk (own := [("k", 10)]) g (blkOk_by (by rfl)) (by decide) (fun _ _ _ _ _ g => g1 (gN g.nd)) (fun _ _ _ _ _ g => f1 (tN (tV g.K (bO (eCall g (ih 24 E24 rfl) (F.gl 24 _ rfl) (a1 (eV nv) (a1 (eV nv) (a0)))))))) (fun _ _ _ _ _ g => eV nv))) (sc (zSet g (eCallIO g (ih 43 E43 rfl) (F.gl 43 _ rfl) nv (a1 (eV nv) (a0)))) (sc (zSet g (eLst (a1 (eCall g (ih 47 E47 rfl) (F.gl 47 _ rfl) (a1 (eG (F.gl 27 _ rfl)) (a1 (eTup (a1 (eV nv) (a1 (eV nv) (a1 (eV nv) (a0))))) (a1 (eS) (a0))))) (a1 (eCall g (ih 47 E47 rfl) (F.gl 47 _ rfl) (a1 (eG (F.gl 28 _ rfl)) (a1 (eTup (a1 (eV nv) (a1 (eV nv) (a1 (eV nv) (a0))))) (a1 (eS) (a0))))) (a1 (eCall g (ih 47 E47 rfl) (F.gl 47 _ rfl) (a1 (eG (F.gl 29 _ rfl)) (a1 (eTup (a1 (eV nv) (a1 (eNeg (bO (eI))) (a1 (eV nv) (a0))))) (a1 (eS) (a0))))) (a1 (eCall g (ih 47 E47 rfl) (F.gl 47 _ rfl) (a1 (eG (F.gl 31 _ rfl)) (a1 (eTup (a1 (eV nv) (a1 (eV nv) (a0)))) (a1 (eS) (a0))))) (a1 (eCall g (ih 47 E47 rfl) (F.gl 47 _ rfl) (a1 (eG (F.gl 31 _ rfl)) (a1 (eTup (a1 (eNeg (bO (eI))) (a1 (eI) (a0)))) (a1 (eS) (a0))))) (a0)))))))) (sc (zIf (tCmp (oNe g) (bV nv) (bO (eBin (oMulB g.K) (bO (eLst (a1 (eB) (a0)))) (bO (eI))))) (sc (zRet (eB)) (s0)) (s0)) (sc (zIf (PW.pt (wAnd (tCmp (oGt) (bV nv) (bO (eI))) (wAnd1 (tN (tV g.K (bO (eCall g (ih 44 E44 rfl) (F.gl 44 _ rfl) (a1 (eBl (lLen g.K) (F.bl 8 _ rfl) v_len (b1 (bO (eCall g (ih 36 E36 rfl) (F.gl 36 _ rfl) (a1 (eCall g (ih 39 E39 rfl) (F.gl 39 _ rfl) (a1 (eV nv) (a0))) (a0)))) (b0))) (a1 (eCall g (ih 25 E25 rfl) (F.gl 25 _ rfl) (a1 (eV nv) (a0))) (a0)))))))))) (sc (zRet (eB)) (s0)) (s0)) (s0)))))))))))))))))))) (sc (zRet (eCall g (ih 44 E44 rfl) (F.gl 44 _ rfl) (a1 (eLst (a1 (eCall g (ih 26 E26 rfl) (F.gl 26 _ rfl) (a1 (eI) (a1 (eTup (a1 (eS) (a1 (eTup (a1 (eS) (a1 (eTup (a1 (eS) (a0))) (a1 (eTup (a1 (eS) (a0))) (a0))))) (a1 (eTup (a1 (eS) (a0))) (a0))))) (a0)))) (a1 (eCall g (ih 27 E27 rfl) (F.gl 27 _ rfl) (a1 (eI) (a1 (eI) (a1 (eI) (a0))))) (a1 (eCall g (ih 28 E28 rfl) (F.gl 28 _ rfl) (a1 (eI) (a1 (eI) (a1 (eI) (a0))))) (a1 (eCall g (ih 29 E29 rfl) (F.gl 29 _ rfl) (a1 (eI) (a1 (eI) (a1 (eI) (a0))))) (a1 (eCall g (ih 31 E31 rfl) (F.gl 31 _ rfl) (a1 (eI) (a1 (eI) (a0)))) (a0))))))) (a1 (eLst (a1 (eI) (a1 (eI) (a1 (eI) (a1 (eI) (a1 (eLst (a1 (eI) (a1 (eI) (a1 (eI) (a1 (eI) (a0)))))) (a0))))))) (a0))))) (s0)))⟩
theorem ents (F : Fx tp K mg) (D : ∀ (n : Nat) (e : Ent), L[n]? = some e → ∃ fd, FunD K e.nm e.nm e.args e.body e.scope [] [] (tp.G K n) fd) : ∀ (n : Nat) (e : Ent), L[n]? = some e → EntOk L P w K mg base (tp.G K) n e := by
  have h : AllFrom (EntOk L P w K mg base (tp.G K)) 0 L := ⟨ok0 F (D 0 _ rfl), ok1 F (D 1 _ rfl), ok2 F (D 2 _ rfl), ok3 F (D 3 _ rfl), ok4 F (D 4 _ rfl), ok5 F (D 5 _ rfl), ok6 F (D 6 _ rfl), ok7 F (D 7 _ rfl), ok8 F (D 8 _ rfl), ok9 F (D 9 _ rfl), ok10 F (D 10 _ rfl), ok11 F (D 11 _ rfl), ok12 F (D 12 _ rfl), ok13 F (D 13 _ rfl), ok14 F (D 14 _ rfl), ok15 F (D 15 _ rfl), ok16 F (D 16 _ rfl), ok17 F (D 17 _ rfl), ok18 F (D 18 _ rfl), ok19 F (D 19 _ rfl), ok20 F (D 20 _ rfl), ok21 F (D 21 _ rfl), ok22 F (D 22 _ rfl), ok23 F (D 23 _ rfl), ok24 F (D 24 _ rfl), ok25 F (D 25 _ rfl), ok26 F (D 26 _ rfl), ok27 F (D 27 _ rfl), ok28 F (D 28 _ rfl), ok29 F (D 29 _ rfl), ok30 F (D 30 _ rfl), ok31 F (D 31 _ rfl), ok32 F (D 32 _ rfl), ok33 F (D 33 _ rfl), ok34 F (D 34 _ rfl), ok35 F (D 35 _ rfl), ok36 F (D 36 _ rfl), ok37 F (D 37 _ rfl), ok38 F (D 38 _ rfl), ok39 F (D 39 _ rfl), ok40 F (D 40 _ rfl), ok41 F (D 41 _ rfl), ok42 F (D 42 _ rfl), ok43 F (D 43 _ rfl), ok44 F (D 44 _ rfl), ok45 F (D 45 _ rfl), ok46 F (D 46 _ rfl), ok47 F (D 47 _ rfl), ok48 F (D 48 _ rfl), ok49 F (D 49 _ rfl), trivial⟩
  exact fun n e he => by have := h.get n e he; rw [Nat.zero_add] at this; exact this
end
end Hd


set_option Elab.async false
set_option linter.all false
set_option maxRecDepth 100000
set_option maxHeartbeats 400000
namespace Hd
open PySem PySem.Spec PyProof.Rows L2 EV MA
theorem call0 (k : Nat) (io : Option (List PV)) (ps : List PV) : calls (tab L) (k + 1) 0 io ps = d0.run (calls (tab L) k) io ps := rfl
theorem call1 (k : Nat) (io : Option (List PV)) (ps : List PV) : calls (tab L) (k + 1) 1 io ps = d1.run (calls (tab L) k) io ps := rfl
theorem call2 (k : Nat) (io : Option (List PV)) (ps : List PV) : calls (tab L) (k + 1) 2 io ps = d2.run (calls (tab L) k) io ps := rfl
theorem call3 (k : Nat) (io : Option (List PV)) (ps : List PV) : calls (tab L) (k + 1) 3 io ps = d3.run (calls (tab L) k) io ps := rfl
theorem call4 (k : Nat) (io : Option (List PV)) (ps : List PV) : calls (tab L) (k + 1) 4 io ps = d4.run (calls (tab L) k) io ps := rfl
theorem call5 (k : Nat) (io : Option (List PV)) (ps : List PV) : calls (tab L) (k + 1) 5 io ps = d5.run (calls (tab L) k) io ps := rfl
theorem call6 (k : Nat) (io : Option (List PV)) (ps : List PV) : calls (tab L) (k + 1) 6 io ps = d6.run (calls (tab L) k) io ps := rfl
theorem call7 (k : Nat) (io : Option (List PV)) (ps : List PV) : calls (tab L) (k + 1) 7 io ps = d7.run (calls (tab L) k) io ps := rfl
theorem call8 (k : Nat) (io : Option (List PV)) (ps : List PV) : calls (tab L) (k + 1) 8 io ps = d8.run (calls (tab L) k) io ps := rfl
theorem call9 (k : Nat) (io : Option (List PV)) (ps : List PV) : calls (tab L) (k + 1) 9 io ps = d9.run (calls (tab L) k) io ps := rfl
theorem call10 (k : Nat) (io : Option (List PV)) (ps : List PV) : calls (tab L) (k + 1) 10 io ps = d10.run (calls (tab L) k) io ps := rfl
theorem call11 (k : Nat) (io : Option (List PV)) (ps : List PV) : calls (tab L) (k + 1) 11 io ps = d11.run (calls (tab L) k) io ps := rfl
theorem call12 (k : Nat) (io : Option (List PV)) (ps : List PV) : calls (tab L) (k + 1) 12 io ps = d12.run (calls (tab L) k) io ps := rfl
theorem call13 (k : Nat) (io : Option (List PV)) (ps : List PV) : calls (tab L) (k + 1) 13 io ps = d13.run (calls (tab L) k) io ps := rfl
theorem call14 (k : Nat) (io : Option (List PV)) (ps : List PV) : calls (tab L) (k + 1) 14 io ps = d14.run (calls (tab L) k) io ps := rfl
theorem call15 (k : Nat) (io : Option (List PV)) (ps : List PV) : calls (tab L) (k + 1) 15 io ps = d15.run (calls (tab L) k) io ps := rfl
theorem call16 (k : Nat) (io : Option (List PV)) (ps : List PV) : calls (tab L) (k + 1) 16 io ps = d16.run (calls (tab L) k) io ps := rfl
theorem call17 (k : Nat) (io : Option (List PV)) (ps : List PV) : calls (tab L) (k + 1) 17 io ps = d17.run (calls (tab L) k) io ps := rfl
theorem call18 (k : Nat) (io : Option (List PV)) (ps : List PV) : calls (tab L) (k + 1) 18 io ps = d18.run (calls (tab L) k) io ps := rfl
theorem call19 (k : Nat) (io : Option (List PV)) (ps : List PV) : calls (tab L) (k + 1) 19 io ps = d19.run (calls (tab L) k) io ps := rfl
theorem call20 (k : Nat) (io : Option (List PV)) (ps : List PV) : calls (tab L) (k + 1) 20 io ps = d20.run (calls (tab L) k) io ps := rfl
theorem call21 (k : Nat) (io : Option (List PV)) (ps : List PV) : calls (tab L) (k + 1) 21 io ps = d21.run (calls (tab L) k) io ps := rfl
theorem call22 (k : Nat) (io : Option (List PV)) (ps : List PV) : calls (tab L) (k + 1) 22 io ps = d22.run (calls (tab L) k) io ps := rfl
theorem call23 (k : Nat) (io : Option (List PV)) (ps : List PV) : calls (tab L) (k + 1) 23 io ps = d23.run (calls (tab L) k) io ps := rfl
theorem call24 (k : Nat) (io : Option (List PV)) (ps : List PV) : calls (tab L) (k + 1) 24 io ps = d24.run (calls (tab L) k) io ps := rfl
theorem call25 (k : Nat) (io : Option (List PV)) (ps : List PV) : calls (tab L) (k + 1) 25 io ps = d25.run (calls (tab L) k) io ps := rfl
theorem call26 (k : Nat) (io : Option (List PV)) (ps : List PV) : calls (tab L) (k + 1) 26 io ps = d26.run (calls (tab L) k) io ps := rfl
theorem call27 (k : Nat) (io : Option (List PV)) (ps : List PV) : calls (tab L) (k + 1) 27 io ps = d27.run (calls (tab L) k) io ps := rfl
theorem call28 (k : Nat) (io : Option (List PV)) (ps : List PV) : calls (tab L) (k + 1) 28 io ps = d28.run (calls (tab L) k) io ps := rfl
theorem call29 (k : Nat) (io : Option (List PV)) (ps : List PV) : calls (tab L) (k + 1) 29 io ps = d29.run (calls (tab L) k) io ps := rfl
theorem call30 (k : Nat) (io : Option (List PV)) (ps : List PV) : calls (tab L) (k + 1) 30 io ps = d30.run (calls (tab L) k) io ps := rfl
theorem call31 (k : Nat) (io : Option (List PV)) (ps : List PV) : calls (tab L) (k + 1) 31 io ps = d31.run (calls (tab L) k) io ps := rfl
theorem call32 (k : Nat) (io : Option (List PV)) (ps : List PV) : calls (tab L) (k + 1) 32 io ps = d32.run (calls (tab L) k) io ps := rfl
theorem call33 (k : Nat) (io : Option (List PV)) (ps : List PV) : calls (tab L) (k + 1) 33 io ps = d33.run (calls (tab L) k) io ps := rfl
theorem call34 (k : Nat) (io : Option (List PV)) (ps : List PV) : calls (tab L) (k + 1) 34 io ps = d34.run (calls (tab L) k) io ps := rfl
theorem call35 (k : Nat) (io : Option (List PV)) (ps : List PV) : calls (tab L) (k + 1) 35 io ps = d35.run (calls (tab L) k) io ps := rfl
theorem call36 (k : Nat) (io : Option (List PV)) (ps : List PV) : calls (tab L) (k + 1) 36 io ps = d36.run (calls (tab L) k) io ps := rfl
theorem call37 (k : Nat) (io : Option (List PV)) (ps : List PV) : calls (tab L) (k + 1) 37 io ps = d37.run (calls (tab L) k) io ps := rfl
theorem call38 (k : Nat) (io : Option (List PV)) (ps : List PV) : calls (tab L) (k + 1) 38 io ps = d38.run (calls (tab L) k) io ps := rfl
theorem call39 (k : Nat) (io : Option (List PV)) (ps : List PV) : calls (tab L) (k + 1) 39 io ps = d39.run (calls (tab L) k) io ps := rfl
theorem call40 (k : Nat) (io : Option (List PV)) (ps : List PV) : calls (tab L) (k + 1) 40 io ps = d40.run (calls (tab L) k) io ps := rfl
theorem call41 (k : Nat) (io : Option (List PV)) (ps : List PV) : calls (tab L) (k + 1) 41 io ps = d41.run (calls (tab L) k) io ps := rfl
theorem call42 (k : Nat) (io : Option (List PV)) (ps : List PV) : calls (tab L) (k + 1) 42 io ps = d42.run (calls (tab L) k) io ps := rfl
theorem call43 (k : Nat) (io : Option (List PV)) (ps : List PV) : calls (tab L) (k + 1) 43 io ps = d43.run (calls (tab L) k) io ps := rfl
theorem call44 (k : Nat) (io : Option (List PV)) (ps : List PV) : calls (tab L) (k + 1) 44 io ps = d44.run (calls (tab L) k) io ps := rfl
theorem call45 (k : Nat) (io : Option (List PV)) (ps : List PV) : calls (tab L) (k + 1) 45 io ps = d45.run (calls (tab L) k) io ps := rfl
theorem call46 (k : Nat) (io : Option (List PV)) (ps : List PV) : calls (tab L) (k + 1) 46 io ps = d46.run (calls (tab L) k) io ps := rfl
theorem call47 (k : Nat) (io : Option (List PV)) (ps : List PV) : calls (tab L) (k + 1) 47 io ps = d47.run (calls (tab L) k) io ps := rfl
theorem call48 (k : Nat) (io : Option (List PV)) (ps : List PV) : calls (tab L) (k + 1) 48 io ps = d48.run (calls (tab L) k) io ps := rfl
theorem call49 (k : Nat) (io : Option (List PV)) (ps : List PV) : calls (tab L) (k + 1) 49 io ps = d49.run (calls (tab L) k) io ps := rfl
theorem r_isiI (x : Int) : fIsi [.int x, .ty "int"] = some (.v (.bl true)) := by unfold fIsi tyP; simp only [Option.bind_some, kit_tab.1, Option.map_some]
theorem r_isiB (x : Int) : fIsi [.int x, .ty "bool"] = some (.v (.bl false)) := by unfold fIsi tyP; simp only [Option.bind_some, kit_tab2.1, Option.map_some]
theorem lMaxI (x y : Int) : fMax [.int x, .int y] = some (.v (.int (maxZ x y))) := rfl
theorem sp0 (k : Nat) (n : Int) : calls (tab L) (k + 1) 0 none [.int n] = .ok (.v (.bl true)) [] := by
  rw [call0, run_body (D := d0) (B := B0) rfl rfl rfl]; show d0.fin (B0 _ [.val (.int n)]) = _; unfold B0
  simp only [r_cC, r_bV, r_bO, r_o1, r_o2, r_t2, r_asB, r_ret, r_tch, r_ofT, r_aN, r_aC, r_bN, r_bC, r_tup, r_lst, r_blt, r_if, r_tval, r_tand, r_tor, r_tnot, r_orT, r_andT, r_orTs, r_not, r_call, r_afterOk, r_afterX, r_seq, r_next, r_brk, r_cnt, r_set, r_par, r_stup, r_aug, r_drop, r_sif, r_sret, r_retnone, r_raise, bind_ok, bind_exc, bind_stk, bind_ite, bind_cond, fin_ite, r_eqI, r_neI, r_leI, r_ltI, r_geI, r_gtI, r_addI, r_iaddI, r_subI, r_mulL, r_mulR, r_divI, r_modI, r_negI, r_leP, r_ixT0, r_ixT1, r_ixT2, r_ixL0, r_ixL1, r_ixL2, r_pv, r_pvF, r_slv, r_slF, r_sv, r_so, r_rp, r_rs, r_rsN, r_rsC, r_cV, r_trB, r_trI, r_retV, r_tgM, r_tgO, r_saN, r_saC, List.getElem?_cons_zero, List.getElem?_cons_succ, List.set_cons_zero, List.set_cons_succ, Bool.cond_decide, cond_true, cond_false, Int.reduceLT, Int.reduceLE, Int.reduceNeg, Int.reduceAdd, Int.reduceSub, Int.reduceMul, Int.reducePow, and_self, decide_true, decide_false, and_true, true_and, reduceIte, if_true, if_false, Bool.not_true, Bool.not_false, r_for, r_forN, r_forC, r_iSeq, r_iRet, r_itT, r_itL, r_itF, r_iRange, r_own, r_isO, r_app, r_ext, r_put, r_callIO, r_afIO, fl_len, ft_len, r_clN, r_clC, r_tTrue, Nat.zero_add, Nat.reduceAdd, List.length_cons, List.length_nil, Int.reduceEq, r_isiI, r_isiB, finR (D := d0) rfl]
theorem sp1 (k : Nat) (n a b : Int) : calls (tab L) (k + 2) 1 none [.int n, .int a, .int b] = .ok (.v (.bl (decide (a ≤ n) && decide (n ≤ b)))) [] := by
  rw [call1, run_body (D := d1) (B := B1) rfl rfl rfl]; show d1.fin (B1 _ [.val (.int n), .val (.int a), .val (.int b)]) = _; unfold B1
  simp only [r_cC, r_bV, r_bO, r_o1, r_o2, r_t2, r_asB, r_ret, r_tch, r_ofT, r_aN, r_aC, r_bN, r_bC, r_tup, r_lst, r_blt, r_if, r_tval, r_tand, r_tor, r_tnot, r_orT, r_andT, r_orTs, r_not, r_call, r_afterOk, r_afterX, r_seq, r_next, r_brk, r_cnt, r_set, r_par, r_stup, r_aug, r_drop, r_sif, r_sret, r_retnone, r_raise, bind_ok, bind_exc, bind_stk, bind_ite, bind_cond, fin_ite, r_eqI, r_neI, r_leI, r_ltI, r_geI, r_gtI, r_addI, r_iaddI, r_subI, r_mulL, r_mulR, r_divI, r_modI, r_negI, r_leP, r_ixT0, r_ixT1, r_ixT2, r_ixL0, r_ixL1, r_ixL2, r_pv, r_pvF, r_slv, r_slF, r_sv, r_so, r_rp, r_rs, r_rsN, r_rsC, r_cV, r_trB, r_trI, r_retV, r_tgM, r_tgO, r_saN, r_saC, List.getElem?_cons_zero, List.getElem?_cons_succ, List.set_cons_zero, List.set_cons_succ, Bool.cond_decide, cond_true, cond_false, Int.reduceLT, Int.reduceLE, Int.reduceNeg, Int.reduceAdd, Int.reduceSub, Int.reduceMul, Int.reducePow, and_self, decide_true, decide_false, and_true, true_and, reduceIte, if_true, if_false, Bool.not_true, Bool.not_false, r_for, r_forN, r_forC, r_iSeq, r_iRet, r_itT, r_itL, r_itF, r_iRange, r_own, r_isO, r_app, r_ext, r_put, r_callIO, r_afIO, fl_len, ft_len, r_clN, r_clC, r_tTrue, Nat.zero_add, Nat.reduceAdd, List.length_cons, List.length_nil, Int.reduceEq, sp0]
  by_cases h1 : a ≤ n <;> by_cases h2 : n ≤ b <;> simp only [h1, h2, r_cC, r_bV, r_bO, r_o1, r_o2, r_t2, r_asB, r_ret, r_tch, r_ofT, r_aN, r_aC, r_bN, r_bC, r_tup, r_lst, r_blt, r_if, r_tval, r_tand, r_tor, r_tnot, r_orT, r_andT, r_orTs, r_not, r_call, r_afterOk, r_afterX, r_seq, r_next, r_brk, r_cnt, r_set, r_par, r_stup, r_aug, r_drop, r_sif, r_sret, r_retnone, r_raise, bind_ok, bind_exc, bind_stk, bind_ite, bind_cond, fin_ite, r_eqI, r_neI, r_leI, r_ltI, r_geI, r_gtI, r_addI, r_iaddI, r_subI, r_mulL, r_mulR, r_divI, r_modI, r_negI, r_leP, r_ixT0, r_ixT1, r_ixT2, r_ixL0, r_ixL1, r_ixL2, r_pv, r_pvF, r_slv, r_slF, r_sv, r_so, r_rp, r_rs, r_rsN, r_rsC, r_cV, r_trB, r_trI, r_retV, r_tgM, r_tgO, r_saN, r_saC, List.getElem?_cons_zero, List.getElem?_cons_succ, List.set_cons_zero, List.set_cons_succ, Bool.cond_decide, cond_true, cond_false, Int.reduceLT, Int.reduceLE, Int.reduceNeg, Int.reduceAdd, Int.reduceSub, Int.reduceMul, Int.reducePow, and_self, decide_true, decide_false, and_true, true_and, reduceIte, if_true, if_false, Bool.not_true, Bool.not_false, r_for, r_forN, r_forC, r_iSeq, r_iRet, r_itT, r_itL, r_itF, r_iRange, r_own, r_isO, r_app, r_ext, r_put, r_callIO, r_afIO, fl_len, ft_len, r_clN, r_clC, r_tTrue, Nat.zero_add, Nat.reduceAdd, List.length_cons, List.length_nil, Int.reduceEq, finR (D := d1) rfl] <;> rfl
theorem sp3 (k : Nat) (n a b : Int) (h1 : a ≤ n) (h2 : n ≤ b) : calls (tab L) (k + 3) 6 none [.int n, .int a, .int b] = .ok (.v (.int n)) [] := by
  rw [call6, run_body (D := d6) (B := B6) rfl rfl rfl]; show d6.fin (B6 _ [.val (.int n), .val (.int a), .val (.int b)]) = _; unfold B6
  simp only [r_cC, r_bV, r_bO, r_o1, r_o2, r_t2, r_asB, r_ret, r_tch, r_ofT, r_aN, r_aC, r_bN, r_bC, r_tup, r_lst, r_blt, r_if, r_tval, r_tand, r_tor, r_tnot, r_orT, r_andT, r_orTs, r_not, r_call, r_afterOk, r_afterX, r_seq, r_next, r_brk, r_cnt, r_set, r_par, r_stup, r_aug, r_drop, r_sif, r_sret, r_retnone, r_raise, bind_ok, bind_exc, bind_stk, bind_ite, bind_cond, fin_ite, r_eqI, r_neI, r_leI, r_ltI, r_geI, r_gtI, r_addI, r_iaddI, r_subI, r_mulL, r_mulR, r_divI, r_modI, r_negI, r_leP, r_ixT0, r_ixT1, r_ixT2, r_ixL0, r_ixL1, r_ixL2, r_pv, r_pvF, r_slv, r_slF, r_sv, r_so, r_rp, r_rs, r_rsN, r_rsC, r_cV, r_trB, r_trI, r_retV, r_tgM, r_tgO, r_saN, r_saC, List.getElem?_cons_zero, List.getElem?_cons_succ, List.set_cons_zero, List.set_cons_succ, Bool.cond_decide, cond_true, cond_false, Int.reduceLT, Int.reduceLE, Int.reduceNeg, Int.reduceAdd, Int.reduceSub, Int.reduceMul, Int.reducePow, and_self, decide_true, decide_false, and_true, true_and, reduceIte, if_true, if_false, Bool.not_true, Bool.not_false, r_for, r_forN, r_forC, r_iSeq, r_iRet, r_itT, r_itL, r_itF, r_iRange, r_own, r_isO, r_app, r_ext, r_put, r_callIO, r_afIO, fl_len, ft_len, r_clN, r_clC, r_tTrue, Nat.zero_add, Nat.reduceAdd, List.length_cons, List.length_nil, Int.reduceEq, sp1, h1, h2, Bool.and_self, finR (D := d6) rfl]
theorem sp6 (k : Nat) (n : Int) (h1 : -1 ≤ n) (h2 : n ≤ 1000000) : calls (tab L) (k + 2) 9 none [.int n] = .ok (.v (.bl true)) [] := by
  rw [call9, run_body (D := d9) (B := B9) rfl rfl rfl]; show d9.fin (B9 _ [.val (.int n)]) = _; unfold B9
  simp only [r_cC, r_bV, r_bO, r_o1, r_o2, r_t2, r_asB, r_ret, r_tch, r_ofT, r_aN, r_aC, r_bN, r_bC, r_tup, r_lst, r_blt, r_if, r_tval, r_tand, r_tor, r_tnot, r_orT, r_andT, r_orTs, r_not, r_call, r_afterOk, r_afterX, r_seq, r_next, r_brk, r_cnt, r_set, r_par, r_stup, r_aug, r_drop, r_sif, r_sret, r_retnone, r_raise, bind_ok, bind_exc, bind_stk, bind_ite, bind_cond, fin_ite, r_eqI, r_neI, r_leI, r_ltI, r_geI, r_gtI, r_addI, r_iaddI, r_subI, r_mulL, r_mulR, r_divI, r_modI, r_negI, r_leP, r_ixT0, r_ixT1, r_ixT2, r_ixL0, r_ixL1, r_ixL2, r_pv, r_pvF, r_slv, r_slF, r_sv, r_so, r_rp, r_rs, r_rsN, r_rsC, r_cV, r_trB, r_trI, r_retV, r_tgM, r_tgO, r_saN, r_saC, List.getElem?_cons_zero, List.getElem?_cons_succ, List.set_cons_zero, List.set_cons_succ, Bool.cond_decide, cond_true, cond_false, Int.reduceLT, Int.reduceLE, Int.reduceNeg, Int.reduceAdd, Int.reduceSub, Int.reduceMul, Int.reducePow, and_self, decide_true, decide_false, and_true, true_and, reduceIte, if_true, if_false, Bool.not_true, Bool.not_false, r_for, r_forN, r_forC, r_iSeq, r_iRet, r_itT, r_itL, r_itF, r_iRange, r_own, r_isO, r_app, r_ext, r_put, r_callIO, r_afIO, fl_len, ft_len, r_clN, r_clC, r_tTrue, Nat.zero_add, Nat.reduceAdd, List.length_cons, List.length_nil, Int.reduceEq, sp0, h1, h2, finR (D := d9) rfl]
theorem sp7 (k : Nat) (n : Int) : calls (tab L) (k + 1) 10 none [.int n] = .ok (.v (.tup [.int (lastZ n), .bl (moreZ n)])) [] := by
  rw [call10, run_body (D := d10) (B := B10) rfl rfl rfl]; show d10.fin (B10 _ [.val (.int n)]) = _; unfold B10
  simp only [r_cC, r_bV, r_bO, r_o1, r_o2, r_t2, r_asB, r_ret, r_tch, r_ofT, r_aN, r_aC, r_bN, r_bC, r_tup, r_lst, r_blt, r_if, r_tval, r_tand, r_tor, r_tnot, r_orT, r_andT, r_orTs, r_not, r_call, r_afterOk, r_afterX, r_seq, r_next, r_brk, r_cnt, r_set, r_par, r_stup, r_aug, r_drop, r_sif, r_sret, r_retnone, r_raise, bind_ok, bind_exc, bind_stk, bind_ite, bind_cond, fin_ite, r_eqI, r_neI, r_leI, r_ltI, r_geI, r_gtI, r_addI, r_iaddI, r_subI, r_mulL, r_mulR, r_divI, r_modI, r_negI, r_leP, r_ixT0, r_ixT1, r_ixT2, r_ixL0, r_ixL1, r_ixL2, r_pv, r_pvF, r_slv, r_slF, r_sv, r_so, r_rp, r_rs, r_rsN, r_rsC, r_cV, r_trB, r_trI, r_retV, r_tgM, r_tgO, r_saN, r_saC, List.getElem?_cons_zero, List.getElem?_cons_succ, List.set_cons_zero, List.set_cons_succ, Bool.cond_decide, cond_true, cond_false, Int.reduceLT, Int.reduceLE, Int.reduceNeg, Int.reduceAdd, Int.reduceSub, Int.reduceMul, Int.reducePow, and_self, decide_true, decide_false, and_true, true_and, reduceIte, if_true, if_false, Bool.not_true, Bool.not_false, r_for, r_forN, r_forC, r_iSeq, r_iRet, r_itT, r_itL, r_itF, r_iRange, r_own, r_isO, r_app, r_ext, r_put, r_callIO, r_afIO, fl_len, ft_len, r_clN, r_clC, r_tTrue, Nat.zero_add, Nat.reduceAdd, List.length_cons, List.length_nil, Int.reduceEq, finR (D := d10) rfl]
  unfold lastZ moreZ
  split <;> try rfl
  split <;> try rfl
  split <;> rfl
theorem sp8 (k : Nat) (l : Int) (m : Bool) : calls (tab L) (k + 1) 11 none [.int l, .bl m] = .ok (.v (.int (placeZ l m))) [] := by
  rw [call11, run_body (D := d11) (B := B11) rfl rfl rfl]; show d11.fin (B11 _ [.val (.int l), .val (.bl m)]) = _; unfold B11
  simp only [r_cC, r_bV, r_bO, r_o1, r_o2, r_t2, r_asB, r_ret, r_tch, r_ofT, r_aN, r_aC, r_bN, r_bC, r_tup, r_lst, r_blt, r_if, r_tval, r_tand, r_tor, r_tnot, r_orT, r_andT, r_orTs, r_not, r_call, r_afterOk, r_afterX, r_seq, r_next, r_brk, r_cnt, r_set, r_par, r_stup, r_aug, r_drop, r_sif, r_sret, r_retnone, r_raise, bind_ok, bind_exc, bind_stk, bind_ite, bind_cond, fin_ite, r_eqI, r_neI, r_leI, r_ltI, r_geI, r_gtI, r_addI, r_iaddI, r_subI, r_mulL, r_mulR, r_divI, r_modI, r_negI, r_leP, r_ixT0, r_ixT1, r_ixT2, r_ixL0, r_ixL1, r_ixL2, r_pv, r_pvF, r_slv, r_slF, r_sv, r_so, r_rp, r_rs, r_rsN, r_rsC, r_cV, r_trB, r_trI, r_retV, r_tgM, r_tgO, r_saN, r_saC, List.getElem?_cons_zero, List.getElem?_cons_succ, List.set_cons_zero, List.set_cons_succ, Bool.cond_decide, cond_true, cond_false, Int.reduceLT, Int.reduceLE, Int.reduceNeg, Int.reduceAdd, Int.reduceSub, Int.reduceMul, Int.reducePow, and_self, decide_true, decide_false, and_true, true_and, reduceIte, if_true, if_false, Bool.not_true, Bool.not_false, r_for, r_forN, r_forC, r_iSeq, r_iRet, r_itT, r_itL, r_itF, r_iRange, r_own, r_isO, r_app, r_ext, r_put, r_callIO, r_afIO, fl_len, ft_len, r_clN, r_clC, r_tTrue, Nat.zero_add, Nat.reduceAdd, List.length_cons, List.length_nil, Int.reduceEq, finR (D := d11) rfl]
  unfold placeZ
  cases m
  · simp only [r_cC, r_bV, r_bO, r_o1, r_o2, r_t2, r_asB, r_ret, r_tch, r_ofT, r_aN, r_aC, r_bN, r_bC, r_tup, r_lst, r_blt, r_if, r_tval, r_tand, r_tor, r_tnot, r_orT, r_andT, r_orTs, r_not, r_call, r_afterOk, r_afterX, r_seq, r_next, r_brk, r_cnt, r_set, r_par, r_stup, r_aug, r_drop, r_sif, r_sret, r_retnone, r_raise, bind_ok, bind_exc, bind_stk, bind_ite, bind_cond, fin_ite, r_eqI, r_neI, r_leI, r_ltI, r_geI, r_gtI, r_addI, r_iaddI, r_subI, r_mulL, r_mulR, r_divI, r_modI, r_negI, r_leP, r_ixT0, r_ixT1, r_ixT2, r_ixL0, r_ixL1, r_ixL2, r_pv, r_pvF, r_slv, r_slF, r_sv, r_so, r_rp, r_rs, r_rsN, r_rsC, r_cV, r_trB, r_trI, r_retV, r_tgM, r_tgO, r_saN, r_saC, List.getElem?_cons_zero, List.getElem?_cons_succ, List.set_cons_zero, List.set_cons_succ, Bool.cond_decide, cond_true, cond_false, Int.reduceLT, Int.reduceLE, Int.reduceNeg, Int.reduceAdd, Int.reduceSub, Int.reduceMul, Int.reducePow, and_self, decide_true, decide_false, and_true, true_and, reduceIte, if_true, if_false, Bool.not_true, Bool.not_false, r_for, r_forN, r_forC, r_iSeq, r_iRet, r_itT, r_itL, r_itF, r_iRange, r_own, r_isO, r_app, r_ext, r_put, r_callIO, r_afIO, fl_len, ft_len, r_clN, r_clC, r_tTrue, Nat.zero_add, Nat.reduceAdd, List.length_cons, List.length_nil, Int.reduceEq, finR (D := d11) rfl]
    by_cases h : 0 ≤ l
    · simp only [h, r_cC, r_bV, r_bO, r_o1, r_o2, r_t2, r_asB, r_ret, r_tch, r_ofT, r_aN, r_aC, r_bN, r_bC, r_tup, r_lst, r_blt, r_if, r_tval, r_tand, r_tor, r_tnot, r_orT, r_andT, r_orTs, r_not, r_call, r_afterOk, r_afterX, r_seq, r_next, r_brk, r_cnt, r_set, r_par, r_stup, r_aug, r_drop, r_sif, r_sret, r_retnone, r_raise, bind_ok, bind_exc, bind_stk, bind_ite, bind_cond, fin_ite, r_eqI, r_neI, r_leI, r_ltI, r_geI, r_gtI, r_addI, r_iaddI, r_subI, r_mulL, r_mulR, r_divI, r_modI, r_negI, r_leP, r_ixT0, r_ixT1, r_ixT2, r_ixL0, r_ixL1, r_ixL2, r_pv, r_pvF, r_slv, r_slF, r_sv, r_so, r_rp, r_rs, r_rsN, r_rsC, r_cV, r_trB, r_trI, r_retV, r_tgM, r_tgO, r_saN, r_saC, List.getElem?_cons_zero, List.getElem?_cons_succ, List.set_cons_zero, List.set_cons_succ, Bool.cond_decide, cond_true, cond_false, Int.reduceLT, Int.reduceLE, Int.reduceNeg, Int.reduceAdd, Int.reduceSub, Int.reduceMul, Int.reducePow, and_self, decide_true, decide_false, and_true, true_and, reduceIte, if_true, if_false, Bool.not_true, Bool.not_false, r_for, r_forN, r_forC, r_iSeq, r_iRet, r_itT, r_itL, r_itF, r_iRange, r_own, r_isO, r_app, r_ext, r_put, r_callIO, r_afIO, fl_len, ft_len, r_clN, r_clC, r_tTrue, Nat.zero_add, Nat.reduceAdd, List.length_cons, List.length_nil, Int.reduceEq, finR (D := d11) rfl]; rfl
    · simp only [h, r_cC, r_bV, r_bO, r_o1, r_o2, r_t2, r_asB, r_ret, r_tch, r_ofT, r_aN, r_aC, r_bN, r_bC, r_tup, r_lst, r_blt, r_if, r_tval, r_tand, r_tor, r_tnot, r_orT, r_andT, r_orTs, r_not, r_call, r_afterOk, r_afterX, r_seq, r_next, r_brk, r_cnt, r_set, r_par, r_stup, r_aug, r_drop, r_sif, r_sret, r_retnone, r_raise, bind_ok, bind_exc, bind_stk, bind_ite, bind_cond, fin_ite, r_eqI, r_neI, r_leI, r_ltI, r_geI, r_gtI, r_addI, r_iaddI, r_subI, r_mulL, r_mulR, r_divI, r_modI, r_negI, r_leP, r_ixT0, r_ixT1, r_ixT2, r_ixL0, r_ixL1, r_ixL2, r_pv, r_pvF, r_slv, r_slF, r_sv, r_so, r_rp, r_rs, r_rsN, r_rsC, r_cV, r_trB, r_trI, r_retV, r_tgM, r_tgO, r_saN, r_saC, List.getElem?_cons_zero, List.getElem?_cons_succ, List.set_cons_zero, List.set_cons_succ, Bool.cond_decide, cond_true, cond_false, Int.reduceLT, Int.reduceLE, Int.reduceNeg, Int.reduceAdd, Int.reduceSub, Int.reduceMul, Int.reducePow, and_self, decide_true, decide_false, and_true, true_and, reduceIte, if_true, if_false, Bool.not_true, Bool.not_false, r_for, r_forN, r_forC, r_iSeq, r_iRet, r_itT, r_itL, r_itF, r_iRange, r_own, r_isO, r_app, r_ext, r_put, r_callIO, r_afIO, fl_len, ft_len, r_clN, r_clC, r_tTrue, Nat.zero_add, Nat.reduceAdd, List.length_cons, List.length_nil, Int.reduceEq, finR (D := d11) rfl]; simp [h]
  · simp only [r_cC, r_bV, r_bO, r_o1, r_o2, r_t2, r_asB, r_ret, r_tch, r_ofT, r_aN, r_aC, r_bN, r_bC, r_tup, r_lst, r_blt, r_if, r_tval, r_tand, r_tor, r_tnot, r_orT, r_andT, r_orTs, r_not, r_call, r_afterOk, r_afterX, r_seq, r_next, r_brk, r_cnt, r_set, r_par, r_stup, r_aug, r_drop, r_sif, r_sret, r_retnone, r_raise, bind_ok, bind_exc, bind_stk, bind_ite, bind_cond, fin_ite, r_eqI, r_neI, r_leI, r_ltI, r_geI, r_gtI, r_addI, r_iaddI, r_subI, r_mulL, r_mulR, r_divI, r_modI, r_negI, r_leP, r_ixT0, r_ixT1, r_ixT2, r_ixL0, r_ixL1, r_ixL2, r_pv, r_pvF, r_slv, r_slF, r_sv, r_so, r_rp, r_rs, r_rsN, r_rsC, r_cV, r_trB, r_trI, r_retV, r_tgM, r_tgO, r_saN, r_saC, List.getElem?_cons_zero, List.getElem?_cons_succ, List.set_cons_zero, List.set_cons_succ, Bool.cond_decide, cond_true, cond_false, Int.reduceLT, Int.reduceLE, Int.reduceNeg, Int.reduceAdd, Int.reduceSub, Int.reduceMul, Int.reducePow, and_self, decide_true, decide_false, and_true, true_and, reduceIte, if_true, if_false, Bool.not_true, Bool.not_false, r_for, r_forN, r_forC, r_iSeq, r_iRet, r_itT, r_itL, r_itF, r_iRange, r_own, r_isO, r_app, r_ext, r_put, r_callIO, r_afIO, fl_len, ft_len, r_clN, r_clC, r_tTrue, Nat.zero_add, Nat.reduceAdd, List.length_cons, List.length_nil, Int.reduceEq, finR (D := d11) rfl]
theorem sp9 (k : Nat) (n p : Int) : calls (tab L) (k + 2) 12 none [.int n, .int p] = .ok (.v (.bl (hasZ n p))) [] := by
  rw [call12, run_body (D := d12) (B := B12) rfl rfl rfl]; show d12.fin (B12 _ [.val (.int n), .val (.int p), .emp, .emp]) = _; unfold B12
  simp only [r_cC, r_bV, r_bO, r_o1, r_o2, r_t2, r_asB, r_ret, r_tch, r_ofT, r_aN, r_aC, r_bN, r_bC, r_tup, r_lst, r_blt, r_if, r_tval, r_tand, r_tor, r_tnot, r_orT, r_andT, r_orTs, r_not, r_call, r_afterOk, r_afterX, r_seq, r_next, r_brk, r_cnt, r_set, r_par, r_stup, r_aug, r_drop, r_sif, r_sret, r_retnone, r_raise, bind_ok, bind_exc, bind_stk, bind_ite, bind_cond, fin_ite, r_eqI, r_neI, r_leI, r_ltI, r_geI, r_gtI, r_addI, r_iaddI, r_subI, r_mulL, r_mulR, r_divI, r_modI, r_negI, r_leP, r_ixT0, r_ixT1, r_ixT2, r_ixL0, r_ixL1, r_ixL2, r_pv, r_pvF, r_slv, r_slF, r_sv, r_so, r_rp, r_rs, r_rsN, r_rsC, r_cV, r_trB, r_trI, r_retV, r_tgM, r_tgO, r_saN, r_saC, List.getElem?_cons_zero, List.getElem?_cons_succ, List.set_cons_zero, List.set_cons_succ, Bool.cond_decide, cond_true, cond_false, Int.reduceLT, Int.reduceLE, Int.reduceNeg, Int.reduceAdd, Int.reduceSub, Int.reduceMul, Int.reducePow, and_self, decide_true, decide_false, and_true, true_and, reduceIte, if_true, if_false, Bool.not_true, Bool.not_false, r_for, r_forN, r_forC, r_iSeq, r_iRet, r_itT, r_itL, r_itF, r_iRange, r_own, r_isO, r_app, r_ext, r_put, r_callIO, r_afIO, fl_len, ft_len, r_clN, r_clC, r_tTrue, Nat.zero_add, Nat.reduceAdd, List.length_cons, List.length_nil, Int.reduceEq, sp7, finR (D := d12) rfl]
  unfold hasZ MA.Hp
  by_cases h : n = -1
  · simp only [h, r_cC, r_bV, r_bO, r_o1, r_o2, r_t2, r_asB, r_ret, r_tch, r_ofT, r_aN, r_aC, r_bN, r_bC, r_tup, r_lst, r_blt, r_if, r_tval, r_tand, r_tor, r_tnot, r_orT, r_andT, r_orTs, r_not, r_call, r_afterOk, r_afterX, r_seq, r_next, r_brk, r_cnt, r_set, r_par, r_stup, r_aug, r_drop, r_sif, r_sret, r_retnone, r_raise, bind_ok, bind_exc, bind_stk, bind_ite, bind_cond, fin_ite, r_eqI, r_neI, r_leI, r_ltI, r_geI, r_gtI, r_addI, r_iaddI, r_subI, r_mulL, r_mulR, r_divI, r_modI, r_negI, r_leP, r_ixT0, r_ixT1, r_ixT2, r_ixL0, r_ixL1, r_ixL2, r_pv, r_pvF, r_slv, r_slF, r_sv, r_so, r_rp, r_rs, r_rsN, r_rsC, r_cV, r_trB, r_trI, r_retV, r_tgM, r_tgO, r_saN, r_saC, List.getElem?_cons_zero, List.getElem?_cons_succ, List.set_cons_zero, List.set_cons_succ, Bool.cond_decide, cond_true, cond_false, Int.reduceLT, Int.reduceLE, Int.reduceNeg, Int.reduceAdd, Int.reduceSub, Int.reduceMul, Int.reducePow, and_self, decide_true, decide_false, and_true, true_and, reduceIte, if_true, if_false, Bool.not_true, Bool.not_false, r_for, r_forN, r_forC, r_iSeq, r_iRet, r_itT, r_itL, r_itF, r_iRange, r_own, r_isO, r_app, r_ext, r_put, r_callIO, r_afIO, fl_len, ft_len, r_clN, r_clC, r_tTrue, Nat.zero_add, Nat.reduceAdd, List.length_cons, List.length_nil, Int.reduceEq, finR (D := d12) rfl]
  · simp only [h, r_cC, r_bV, r_bO, r_o1, r_o2, r_t2, r_asB, r_ret, r_tch, r_ofT, r_aN, r_aC, r_bN, r_bC, r_tup, r_lst, r_blt, r_if, r_tval, r_tand, r_tor, r_tnot, r_orT, r_andT, r_orTs, r_not, r_call, r_afterOk, r_afterX, r_seq, r_next, r_brk, r_cnt, r_set, r_par, r_stup, r_aug, r_drop, r_sif, r_sret, r_retnone, r_raise, bind_ok, bind_exc, bind_stk, bind_ite, bind_cond, fin_ite, r_eqI, r_neI, r_leI, r_ltI, r_geI, r_gtI, r_addI, r_iaddI, r_subI, r_mulL, r_mulR, r_divI, r_modI, r_negI, r_leP, r_ixT0, r_ixT1, r_ixT2, r_ixL0, r_ixL1, r_ixL2, r_pv, r_pvF, r_slv, r_slF, r_sv, r_so, r_rp, r_rs, r_rsN, r_rsC, r_cV, r_trB, r_trI, r_retV, r_tgM, r_tgO, r_saN, r_saC, List.getElem?_cons_zero, List.getElem?_cons_succ, List.set_cons_zero, List.set_cons_succ, Bool.cond_decide, cond_true, cond_false, Int.reduceLT, Int.reduceLE, Int.reduceNeg, Int.reduceAdd, Int.reduceSub, Int.reduceMul, Int.reducePow, and_self, decide_true, decide_false, and_true, true_and, reduceIte, if_true, if_false, Bool.not_true, Bool.not_false, r_for, r_forN, r_forC, r_iSeq, r_iRet, r_itT, r_itL, r_itF, r_iRange, r_own, r_isO, r_app, r_ext, r_put, r_callIO, r_afIO, fl_len, ft_len, r_clN, r_clC, r_tTrue, Nat.zero_add, Nat.reduceAdd, List.length_cons, List.length_nil, Int.reduceEq, finR (D := d12) rfl]
    by_cases h2 : p ≤ lastZ n
    · simp only [h2, r_cC, r_bV, r_bO, r_o1, r_o2, r_t2, r_asB, r_ret, r_tch, r_ofT, r_aN, r_aC, r_bN, r_bC, r_tup, r_lst, r_blt, r_if, r_tval, r_tand, r_tor, r_tnot, r_orT, r_andT, r_orTs, r_not, r_call, r_afterOk, r_afterX, r_seq, r_next, r_brk, r_cnt, r_set, r_par, r_stup, r_aug, r_drop, r_sif, r_sret, r_retnone, r_raise, bind_ok, bind_exc, bind_stk, bind_ite, bind_cond, fin_ite, r_eqI, r_neI, r_leI, r_ltI, r_geI, r_gtI, r_addI, r_iaddI, r_subI, r_mulL, r_mulR, r_divI, r_modI, r_negI, r_leP, r_ixT0, r_ixT1, r_ixT2, r_ixL0, r_ixL1, r_ixL2, r_pv, r_pvF, r_slv, r_slF, r_sv, r_so, r_rp, r_rs, r_rsN, r_rsC, r_cV, r_trB, r_trI, r_retV, r_tgM, r_tgO, r_saN, r_saC, List.getElem?_cons_zero, List.getElem?_cons_succ, List.set_cons_zero, List.set_cons_succ, Bool.cond_decide, cond_true, cond_false, Int.reduceLT, Int.reduceLE, Int.reduceNeg, Int.reduceAdd, Int.reduceSub, Int.reduceMul, Int.reducePow, and_self, decide_true, decide_false, and_true, true_and, reduceIte, if_true, if_false, Bool.not_true, Bool.not_false, r_for, r_forN, r_forC, r_iSeq, r_iRet, r_itT, r_itL, r_itF, r_iRange, r_own, r_isO, r_app, r_ext, r_put, r_callIO, r_afIO, fl_len, ft_len, r_clN, r_clC, r_tTrue, Nat.zero_add, Nat.reduceAdd, List.length_cons, List.length_nil, Int.reduceEq, finR (D := d12) rfl]; simp
    · simp only [h2, r_cC, r_bV, r_bO, r_o1, r_o2, r_t2, r_asB, r_ret, r_tch, r_ofT, r_aN, r_aC, r_bN, r_bC, r_tup, r_lst, r_blt, r_if, r_tval, r_tand, r_tor, r_tnot, r_orT, r_andT, r_orTs, r_not, r_call, r_afterOk, r_afterX, r_seq, r_next, r_brk, r_cnt, r_set, r_par, r_stup, r_aug, r_drop, r_sif, r_sret, r_retnone, r_raise, bind_ok, bind_exc, bind_stk, bind_ite, bind_cond, fin_ite, r_eqI, r_neI, r_leI, r_ltI, r_geI, r_gtI, r_addI, r_iaddI, r_subI, r_mulL, r_mulR, r_divI, r_modI, r_negI, r_leP, r_ixT0, r_ixT1, r_ixT2, r_ixL0, r_ixL1, r_ixL2, r_pv, r_pvF, r_slv, r_slF, r_sv, r_so, r_rp, r_rs, r_rsN, r_rsC, r_cV, r_trB, r_trI, r_retV, r_tgM, r_tgO, r_saN, r_saC, List.getElem?_cons_zero, List.getElem?_cons_succ, List.set_cons_zero, List.set_cons_succ, Bool.cond_decide, cond_true, cond_false, Int.reduceLT, Int.reduceLE, Int.reduceNeg, Int.reduceAdd, Int.reduceSub, Int.reduceMul, Int.reducePow, and_self, decide_true, decide_false, and_true, true_and, reduceIte, if_true, if_false, Bool.not_true, Bool.not_false, r_for, r_forN, r_forC, r_iSeq, r_iRet, r_itT, r_itL, r_itF, r_iRange, r_own, r_isO, r_app, r_ext, r_put, r_callIO, r_afIO, fl_len, ft_len, r_clN, r_clC, r_tTrue, Nat.zero_add, Nat.reduceAdd, List.length_cons, List.length_nil, Int.reduceEq, finR (D := d12) rfl]
      cases moreZ n <;> simp only [r_cC, r_bV, r_bO, r_o1, r_o2, r_t2, r_asB, r_ret, r_tch, r_ofT, r_aN, r_aC, r_bN, r_bC, r_tup, r_lst, r_blt, r_if, r_tval, r_tand, r_tor, r_tnot, r_orT, r_andT, r_orTs, r_not, r_call, r_afterOk, r_afterX, r_seq, r_next, r_brk, r_cnt, r_set, r_par, r_stup, r_aug, r_drop, r_sif, r_sret, r_retnone, r_raise, bind_ok, bind_exc, bind_stk, bind_ite, bind_cond, fin_ite, r_eqI, r_neI, r_leI, r_ltI, r_geI, r_gtI, r_addI, r_iaddI, r_subI, r_mulL, r_mulR, r_divI, r_modI, r_negI, r_leP, r_ixT0, r_ixT1, r_ixT2, r_ixL0, r_ixL1, r_ixL2, r_pv, r_pvF, r_slv, r_slF, r_sv, r_so, r_rp, r_rs, r_rsN, r_rsC, r_cV, r_trB, r_trI, r_retV, r_tgM, r_tgO, r_saN, r_saC, List.getElem?_cons_zero, List.getElem?_cons_succ, List.set_cons_zero, List.set_cons_succ, Bool.cond_decide, cond_true, cond_false, Int.reduceLT, Int.reduceLE, Int.reduceNeg, Int.reduceAdd, Int.reduceSub, Int.reduceMul, Int.reducePow, and_self, decide_true, decide_false, and_true, true_and, reduceIte, if_true, if_false, Bool.not_true, Bool.not_false, r_for, r_forN, r_forC, r_iSeq, r_iRet, r_itT, r_itL, r_itF, r_iRange, r_own, r_isO, r_app, r_ext, r_put, r_callIO, r_afIO, fl_len, ft_len, r_clN, r_clC, r_tTrue, Nat.zero_add, Nat.reduceAdd, List.length_cons, List.length_nil, Int.reduceEq, finR (D := d12) rfl] <;> simp
theorem r_leZ (x y : Int) (a b : Bool) : leP x a y b = leZ x a y b := rfl
theorem sp10 (k : Nat) (a b : Int) : calls (tab L) (k + 3) 13 none [.int a, .int b] = .ok (.v (.int (bothZ a b))) [] := by
  rw [call13, run_body (D := d13) (B := B13) rfl rfl rfl]; show d13.fin (B13 _ [.val (.int a), .val (.int b), .emp, .emp, .emp, .emp]) = _; unfold B13
  simp only [r_cC, r_bV, r_bO, r_o1, r_o2, r_t2, r_asB, r_ret, r_tch, r_ofT, r_aN, r_aC, r_bN, r_bC, r_tup, r_lst, r_blt, r_if, r_tval, r_tand, r_tor, r_tnot, r_orT, r_andT, r_orTs, r_not, r_call, r_afterOk, r_afterX, r_seq, r_next, r_brk, r_cnt, r_set, r_par, r_stup, r_aug, r_drop, r_sif, r_sret, r_retnone, r_raise, bind_ok, bind_exc, bind_stk, bind_ite, bind_cond, fin_ite, r_eqI, r_neI, r_leI, r_ltI, r_geI, r_gtI, r_addI, r_iaddI, r_subI, r_mulL, r_mulR, r_divI, r_modI, r_negI, r_leP, r_ixT0, r_ixT1, r_ixT2, r_ixL0, r_ixL1, r_ixL2, r_pv, r_pvF, r_slv, r_slF, r_sv, r_so, r_rp, r_rs, r_rsN, r_rsC, r_cV, r_trB, r_trI, r_retV, r_tgM, r_tgO, r_saN, r_saC, List.getElem?_cons_zero, List.getElem?_cons_succ, List.set_cons_zero, List.set_cons_succ, Bool.cond_decide, cond_true, cond_false, Int.reduceLT, Int.reduceLE, Int.reduceNeg, Int.reduceAdd, Int.reduceSub, Int.reduceMul, Int.reducePow, and_self, decide_true, decide_false, and_true, true_and, reduceIte, if_true, if_false, Bool.not_true, Bool.not_false, r_for, r_forN, r_forC, r_iSeq, r_iRet, r_itT, r_itL, r_itF, r_iRange, r_own, r_isO, r_app, r_ext, r_put, r_callIO, r_afIO, fl_len, ft_len, r_clN, r_clC, r_tTrue, Nat.zero_add, Nat.reduceAdd, List.length_cons, List.length_nil, Int.reduceEq, lMaxI, finR (D := d13) rfl]
  unfold bothZ
  by_cases h1 : a = -1
  · simp only [h1, r_cC, r_bV, r_bO, r_o1, r_o2, r_t2, r_asB, r_ret, r_tch, r_ofT, r_aN, r_aC, r_bN, r_bC, r_tup, r_lst, r_blt, r_if, r_tval, r_tand, r_tor, r_tnot, r_orT, r_andT, r_orTs, r_not, r_call, r_afterOk, r_afterX, r_seq, r_next, r_brk, r_cnt, r_set, r_par, r_stup, r_aug, r_drop, r_sif, r_sret, r_retnone, r_raise, bind_ok, bind_exc, bind_stk, bind_ite, bind_cond, fin_ite, r_eqI, r_neI, r_leI, r_ltI, r_geI, r_gtI, r_addI, r_iaddI, r_subI, r_mulL, r_mulR, r_divI, r_modI, r_negI, r_leP, r_ixT0, r_ixT1, r_ixT2, r_ixL0, r_ixL1, r_ixL2, r_pv, r_pvF, r_slv, r_slF, r_sv, r_so, r_rp, r_rs, r_rsN, r_rsC, r_cV, r_trB, r_trI, r_retV, r_tgM, r_tgO, r_saN, r_saC, List.getElem?_cons_zero, List.getElem?_cons_succ, List.set_cons_zero, List.set_cons_succ, Bool.cond_decide, cond_true, cond_false, Int.reduceLT, Int.reduceLE, Int.reduceNeg, Int.reduceAdd, Int.reduceSub, Int.reduceMul, Int.reducePow, and_self, decide_true, decide_false, and_true, true_and, reduceIte, if_true, if_false, Bool.not_true, Bool.not_false, r_for, r_forN, r_forC, r_iSeq, r_iRet, r_itT, r_itL, r_itF, r_iRange, r_own, r_isO, r_app, r_ext, r_put, r_callIO, r_afIO, fl_len, ft_len, r_clN, r_clC, r_tTrue, Nat.zero_add, Nat.reduceAdd, List.length_cons, List.length_nil, Int.reduceEq, true_or, finR (D := d13) rfl]
  · by_cases h2 : b = -1
    · simp only [h1, h2, r_cC, r_bV, r_bO, r_o1, r_o2, r_t2, r_asB, r_ret, r_tch, r_ofT, r_aN, r_aC, r_bN, r_bC, r_tup, r_lst, r_blt, r_if, r_tval, r_tand, r_tor, r_tnot, r_orT, r_andT, r_orTs, r_not, r_call, r_afterOk, r_afterX, r_seq, r_next, r_brk, r_cnt, r_set, r_par, r_stup, r_aug, r_drop, r_sif, r_sret, r_retnone, r_raise, bind_ok, bind_exc, bind_stk, bind_ite, bind_cond, fin_ite, r_eqI, r_neI, r_leI, r_ltI, r_geI, r_gtI, r_addI, r_iaddI, r_subI, r_mulL, r_mulR, r_divI, r_modI, r_negI, r_leP, r_ixT0, r_ixT1, r_ixT2, r_ixL0, r_ixL1, r_ixL2, r_pv, r_pvF, r_slv, r_slF, r_sv, r_so, r_rp, r_rs, r_rsN, r_rsC, r_cV, r_trB, r_trI, r_retV, r_tgM, r_tgO, r_saN, r_saC, List.getElem?_cons_zero, List.getElem?_cons_succ, List.set_cons_zero, List.set_cons_succ, Bool.cond_decide, cond_true, cond_false, Int.reduceLT, Int.reduceLE, Int.reduceNeg, Int.reduceAdd, Int.reduceSub, Int.reduceMul, Int.reducePow, and_self, decide_true, decide_false, and_true, true_and, reduceIte, if_true, if_false, Bool.not_true, Bool.not_false, r_for, r_forN, r_forC, r_iSeq, r_iRet, r_itT, r_itL, r_itF, r_iRange, r_own, r_isO, r_app, r_ext, r_put, r_callIO, r_afIO, fl_len, ft_len, r_clN, r_clC, r_tTrue, Nat.zero_add, Nat.reduceAdd, List.length_cons, List.length_nil, Int.reduceEq, or_true, finR (D := d13) rfl]
    · simp only [h1, h2, r_cC, r_bV, r_bO, r_o1, r_o2, r_t2, r_asB, r_ret, r_tch, r_ofT, r_aN, r_aC, r_bN, r_bC, r_tup, r_lst, r_blt, r_if, r_tval, r_tand, r_tor, r_tnot, r_orT, r_andT, r_orTs, r_not, r_call, r_afterOk, r_afterX, r_seq, r_next, r_brk, r_cnt, r_set, r_par, r_stup, r_aug, r_drop, r_sif, r_sret, r_retnone, r_raise, bind_ok, bind_exc, bind_stk, bind_ite, bind_cond, fin_ite, r_eqI, r_neI, r_leI, r_ltI, r_geI, r_gtI, r_addI, r_iaddI, r_subI, r_mulL, r_mulR, r_divI, r_modI, r_negI, r_leP, r_ixT0, r_ixT1, r_ixT2, r_ixL0, r_ixL1, r_ixL2, r_pv, r_pvF, r_slv, r_slF, r_sv, r_so, r_rp, r_rs, r_rsN, r_rsC, r_cV, r_trB, r_trI, r_retV, r_tgM, r_tgO, r_saN, r_saC, List.getElem?_cons_zero, List.getElem?_cons_succ, List.set_cons_zero, List.set_cons_succ, Bool.cond_decide, cond_true, cond_false, Int.reduceLT, Int.reduceLE, Int.reduceNeg, Int.reduceAdd, Int.reduceSub, Int.reduceMul, Int.reducePow, and_self, decide_true, decide_false, and_true, true_and, reduceIte, if_true, if_false, Bool.not_true, Bool.not_false, r_for, r_forN, r_forC, r_iSeq, r_iRet, r_itT, r_itL, r_itF, r_iRange, r_own, r_isO, r_app, r_ext, r_put, r_callIO, r_afIO, fl_len, ft_len, r_clN, r_clC, r_tTrue, Nat.zero_add, Nat.reduceAdd, List.length_cons, List.length_nil, Int.reduceEq, or_self, sp7, sp8, sp9, r_leZ, finR (D := d13) rfl]
      cases leZ (lastZ a) (moreZ a) (lastZ b) (moreZ b)
      · simp only [r_cC, r_bV, r_bO, r_o1, r_o2, r_t2, r_asB, r_ret, r_tch, r_ofT, r_aN, r_aC, r_bN, r_bC, r_tup, r_lst, r_blt, r_if, r_tval, r_tand, r_tor, r_tnot, r_orT, r_andT, r_orTs, r_not, r_call, r_afterOk, r_afterX, r_seq, r_next, r_brk, r_cnt, r_set, r_par, r_stup, r_aug, r_drop, r_sif, r_sret, r_retnone, r_raise, bind_ok, bind_exc, bind_stk, bind_ite, bind_cond, fin_ite, r_eqI, r_neI, r_leI, r_ltI, r_geI, r_gtI, r_addI, r_iaddI, r_subI, r_mulL, r_mulR, r_divI, r_modI, r_negI, r_leP, r_ixT0, r_ixT1, r_ixT2, r_ixL0, r_ixL1, r_ixL2, r_pv, r_pvF, r_slv, r_slF, r_sv, r_so, r_rp, r_rs, r_rsN, r_rsC, r_cV, r_trB, r_trI, r_retV, r_tgM, r_tgO, r_saN, r_saC, List.getElem?_cons_zero, List.getElem?_cons_succ, List.set_cons_zero, List.set_cons_succ, Bool.cond_decide, cond_true, cond_false, Int.reduceLT, Int.reduceLE, Int.reduceNeg, Int.reduceAdd, Int.reduceSub, Int.reduceMul, Int.reducePow, and_self, decide_true, decide_false, and_true, true_and, reduceIte, if_true, if_false, Bool.not_true, Bool.not_false, r_for, r_forN, r_forC, r_iSeq, r_iRet, r_itT, r_itL, r_itF, r_iRange, r_own, r_isO, r_app, r_ext, r_put, r_callIO, r_afIO, fl_len, ft_len, r_clN, r_clC, r_tTrue, Nat.zero_add, Nat.reduceAdd, List.length_cons, List.length_nil, Int.reduceEq, sp7, sp8, sp9, finR (D := d13) rfl]
        cases moreZ b <;> simp only [r_cC, r_bV, r_bO, r_o1, r_o2, r_t2, r_asB, r_ret, r_tch, r_ofT, r_aN, r_aC, r_bN, r_bC, r_tup, r_lst, r_blt, r_if, r_tval, r_tand, r_tor, r_tnot, r_orT, r_andT, r_orTs, r_not, r_call, r_afterOk, r_afterX, r_seq, r_next, r_brk, r_cnt, r_set, r_par, r_stup, r_aug, r_drop, r_sif, r_sret, r_retnone, r_raise, bind_ok, bind_exc, bind_stk, bind_ite, bind_cond, fin_ite, r_eqI, r_neI, r_leI, r_ltI, r_geI, r_gtI, r_addI, r_iaddI, r_subI, r_mulL, r_mulR, r_divI, r_modI, r_negI, r_leP, r_ixT0, r_ixT1, r_ixT2, r_ixL0, r_ixL1, r_ixL2, r_pv, r_pvF, r_slv, r_slF, r_sv, r_so, r_rp, r_rs, r_rsN, r_rsC, r_cV, r_trB, r_trI, r_retV, r_tgM, r_tgO, r_saN, r_saC, List.getElem?_cons_zero, List.getElem?_cons_succ, List.set_cons_zero, List.set_cons_succ, Bool.cond_decide, cond_true, cond_false, Int.reduceLT, Int.reduceLE, Int.reduceNeg, Int.reduceAdd, Int.reduceSub, Int.reduceMul, Int.reducePow, and_self, decide_true, decide_false, and_true, true_and, reduceIte, if_true, if_false, Bool.not_true, Bool.not_false, r_for, r_forN, r_forC, r_iSeq, r_iRet, r_itT, r_itL, r_itF, r_iRange, r_own, r_isO, r_app, r_ext, r_put, r_callIO, r_afIO, fl_len, ft_len, r_clN, r_clC, r_tTrue, Nat.zero_add, Nat.reduceAdd, List.length_cons, List.length_nil, Int.reduceEq, sp7, sp8, sp9, finR (D := d13) rfl, Bool.true_and, Bool.false_and, Bool.false_eq_true]
      · simp only [r_cC, r_bV, r_bO, r_o1, r_o2, r_t2, r_asB, r_ret, r_tch, r_ofT, r_aN, r_aC, r_bN, r_bC, r_tup, r_lst, r_blt, r_if, r_tval, r_tand, r_tor, r_tnot, r_orT, r_andT, r_orTs, r_not, r_call, r_afterOk, r_afterX, r_seq, r_next, r_brk, r_cnt, r_set, r_par, r_stup, r_aug, r_drop, r_sif, r_sret, r_retnone, r_raise, bind_ok, bind_exc, bind_stk, bind_ite, bind_cond, fin_ite, r_eqI, r_neI, r_leI, r_ltI, r_geI, r_gtI, r_addI, r_iaddI, r_subI, r_mulL, r_mulR, r_divI, r_modI, r_negI, r_leP, r_ixT0, r_ixT1, r_ixT2, r_ixL0, r_ixL1, r_ixL2, r_pv, r_pvF, r_slv, r_slF, r_sv, r_so, r_rp, r_rs, r_rsN, r_rsC, r_cV, r_trB, r_trI, r_retV, r_tgM, r_tgO, r_saN, r_saC, List.getElem?_cons_zero, List.getElem?_cons_succ, List.set_cons_zero, List.set_cons_succ, Bool.cond_decide, cond_true, cond_false, Int.reduceLT, Int.reduceLE, Int.reduceNeg, Int.reduceAdd, Int.reduceSub, Int.reduceMul, Int.reducePow, and_self, decide_true, decide_false, and_true, true_and, reduceIte, if_true, if_false, Bool.not_true, Bool.not_false, r_for, r_forN, r_forC, r_iSeq, r_iRet, r_itT, r_itL, r_itF, r_iRange, r_own, r_isO, r_app, r_ext, r_put, r_callIO, r_afIO, fl_len, ft_len, r_clN, r_clC, r_tTrue, Nat.zero_add, Nat.reduceAdd, List.length_cons, List.length_nil, Int.reduceEq, sp7, sp8, sp9, finR (D := d13) rfl]
        cases moreZ a <;> simp only [r_cC, r_bV, r_bO, r_o1, r_o2, r_t2, r_asB, r_ret, r_tch, r_ofT, r_aN, r_aC, r_bN, r_bC, r_tup, r_lst, r_blt, r_if, r_tval, r_tand, r_tor, r_tnot, r_orT, r_andT, r_orTs, r_not, r_call, r_afterOk, r_afterX, r_seq, r_next, r_brk, r_cnt, r_set, r_par, r_stup, r_aug, r_drop, r_sif, r_sret, r_retnone, r_raise, bind_ok, bind_exc, bind_stk, bind_ite, bind_cond, fin_ite, r_eqI, r_neI, r_leI, r_ltI, r_geI, r_gtI, r_addI, r_iaddI, r_subI, r_mulL, r_mulR, r_divI, r_modI, r_negI, r_leP, r_ixT0, r_ixT1, r_ixT2, r_ixL0, r_ixL1, r_ixL2, r_pv, r_pvF, r_slv, r_slF, r_sv, r_so, r_rp, r_rs, r_rsN, r_rsC, r_cV, r_trB, r_trI, r_retV, r_tgM, r_tgO, r_saN, r_saC, List.getElem?_cons_zero, List.getElem?_cons_succ, List.set_cons_zero, List.set_cons_succ, Bool.cond_decide, cond_true, cond_false, Int.reduceLT, Int.reduceLE, Int.reduceNeg, Int.reduceAdd, Int.reduceSub, Int.reduceMul, Int.reducePow, and_self, decide_true, decide_false, and_true, true_and, reduceIte, if_true, if_false, Bool.not_true, Bool.not_false, r_for, r_forN, r_forC, r_iSeq, r_iRet, r_itT, r_itL, r_itF, r_iRange, r_own, r_isO, r_app, r_ext, r_put, r_callIO, r_afIO, fl_len, ft_len, r_clN, r_clC, r_tTrue, Nat.zero_add, Nat.reduceAdd, List.length_cons, List.length_nil, Int.reduceEq, sp7, sp8, sp9, finR (D := d13) rfl, Bool.true_and, Bool.false_and, Bool.false_eq_true]
theorem sp12 (k : Nat) (a b : Int) : calls (tab L) (k + 3) 15 none [.int a, .int b] = .ok (.v (.int (firstZ a b))) [] := by
  rw [call15, run_body (D := d15) (B := B15) rfl rfl rfl]; show d15.fin (B15 _ [.val (.int a), .val (.int b), .emp, .emp]) = _; unfold B15
  simp only [r_cC, r_bV, r_bO, r_o1, r_o2, r_t2, r_asB, r_ret, r_tch, r_ofT, r_aN, r_aC, r_bN, r_bC, r_tup, r_lst, r_blt, r_if, r_tval, r_tand, r_tor, r_tnot, r_orT, r_andT, r_orTs, r_not, r_call, r_afterOk, r_afterX, r_seq, r_next, r_brk, r_cnt, r_set, r_par, r_stup, r_aug, r_drop, r_sif, r_sret, r_retnone, r_raise, bind_ok, bind_exc, bind_stk, bind_ite, bind_cond, fin_ite, r_eqI, r_neI, r_leI, r_ltI, r_geI, r_gtI, r_addI, r_iaddI, r_subI, r_mulL, r_mulR, r_divI, r_modI, r_negI, r_leP, r_ixT0, r_ixT1, r_ixT2, r_ixL0, r_ixL1, r_ixL2, r_pv, r_pvF, r_slv, r_slF, r_sv, r_so, r_rp, r_rs, r_rsN, r_rsC, r_cV, r_trB, r_trI, r_retV, r_tgM, r_tgO, r_saN, r_saC, List.getElem?_cons_zero, List.getElem?_cons_succ, List.set_cons_zero, List.set_cons_succ, Bool.cond_decide, cond_true, cond_false, Int.reduceLT, Int.reduceLE, Int.reduceNeg, Int.reduceAdd, Int.reduceSub, Int.reduceMul, Int.reducePow, and_self, decide_true, decide_false, and_true, true_and, reduceIte, if_true, if_false, Bool.not_true, Bool.not_false, r_for, r_forN, r_forC, r_iSeq, r_iRet, r_itT, r_itL, r_itF, r_iRange, r_own, r_isO, r_app, r_ext, r_put, r_callIO, r_afIO, fl_len, ft_len, r_clN, r_clC, r_tTrue, Nat.zero_add, Nat.reduceAdd, List.length_cons, List.length_nil, Int.reduceEq, sp7, r_ixT0, finR (D := d15) rfl]
  unfold firstZ
  by_cases h2 : b = -1
  · simp only [h2, r_cC, r_bV, r_bO, r_o1, r_o2, r_t2, r_asB, r_ret, r_tch, r_ofT, r_aN, r_aC, r_bN, r_bC, r_tup, r_lst, r_blt, r_if, r_tval, r_tand, r_tor, r_tnot, r_orT, r_andT, r_orTs, r_not, r_call, r_afterOk, r_afterX, r_seq, r_next, r_brk, r_cnt, r_set, r_par, r_stup, r_aug, r_drop, r_sif, r_sret, r_retnone, r_raise, bind_ok, bind_exc, bind_stk, bind_ite, bind_cond, fin_ite, r_eqI, r_neI, r_leI, r_ltI, r_geI, r_gtI, r_addI, r_iaddI, r_subI, r_mulL, r_mulR, r_divI, r_modI, r_negI, r_leP, r_ixT0, r_ixT1, r_ixT2, r_ixL0, r_ixL1, r_ixL2, r_pv, r_pvF, r_slv, r_slF, r_sv, r_so, r_rp, r_rs, r_rsN, r_rsC, r_cV, r_trB, r_trI, r_retV, r_tgM, r_tgO, r_saN, r_saC, List.getElem?_cons_zero, List.getElem?_cons_succ, List.set_cons_zero, List.set_cons_succ, Bool.cond_decide, cond_true, cond_false, Int.reduceLT, Int.reduceLE, Int.reduceNeg, Int.reduceAdd, Int.reduceSub, Int.reduceMul, Int.reducePow, and_self, decide_true, decide_false, and_true, true_and, reduceIte, if_true, if_false, Bool.not_true, Bool.not_false, r_for, r_forN, r_forC, r_iSeq, r_iRet, r_itT, r_itL, r_itF, r_iRange, r_own, r_isO, r_app, r_ext, r_put, r_callIO, r_afIO, fl_len, ft_len, r_clN, r_clC, r_tTrue, Nat.zero_add, Nat.reduceAdd, List.length_cons, List.length_nil, Int.reduceEq, finR (D := d15) rfl]
  · simp only [h2, r_cC, r_bV, r_bO, r_o1, r_o2, r_t2, r_asB, r_ret, r_tch, r_ofT, r_aN, r_aC, r_bN, r_bC, r_tup, r_lst, r_blt, r_if, r_tval, r_tand, r_tor, r_tnot, r_orT, r_andT, r_orTs, r_not, r_call, r_afterOk, r_afterX, r_seq, r_next, r_brk, r_cnt, r_set, r_par, r_stup, r_aug, r_drop, r_sif, r_sret, r_retnone, r_raise, bind_ok, bind_exc, bind_stk, bind_ite, bind_cond, fin_ite, r_eqI, r_neI, r_leI, r_ltI, r_geI, r_gtI, r_addI, r_iaddI, r_subI, r_mulL, r_mulR, r_divI, r_modI, r_negI, r_leP, r_ixT0, r_ixT1, r_ixT2, r_ixL0, r_ixL1, r_ixL2, r_pv, r_pvF, r_slv, r_slF, r_sv, r_so, r_rp, r_rs, r_rsN, r_rsC, r_cV, r_trB, r_trI, r_retV, r_tgM, r_tgO, r_saN, r_saC, List.getElem?_cons_zero, List.getElem?_cons_succ, List.set_cons_zero, List.set_cons_succ, Bool.cond_decide, cond_true, cond_false, Int.reduceLT, Int.reduceLE, Int.reduceNeg, Int.reduceAdd, Int.reduceSub, Int.reduceMul, Int.reducePow, and_self, decide_true, decide_false, and_true, true_and, reduceIte, if_true, if_false, Bool.not_true, Bool.not_false, r_for, r_forN, r_forC, r_iSeq, r_iRet, r_itT, r_itL, r_itF, r_iRange, r_own, r_isO, r_app, r_ext, r_put, r_callIO, r_afIO, fl_len, ft_len, r_clN, r_clC, r_tTrue, Nat.zero_add, Nat.reduceAdd, List.length_cons, List.length_nil, Int.reduceEq, finR (D := d15) rfl]
    by_cases h3 : lastZ b < lastZ a
    · simp only [h3, r_cC, r_bV, r_bO, r_o1, r_o2, r_t2, r_asB, r_ret, r_tch, r_ofT, r_aN, r_aC, r_bN, r_bC, r_tup, r_lst, r_blt, r_if, r_tval, r_tand, r_tor, r_tnot, r_orT, r_andT, r_orTs, r_not, r_call, r_afterOk, r_afterX, r_seq, r_next, r_brk, r_cnt, r_set, r_par, r_stup, r_aug, r_drop, r_sif, r_sret, r_retnone, r_raise, bind_ok, bind_exc, bind_stk, bind_ite, bind_cond, fin_ite, r_eqI, r_neI, r_leI, r_ltI, r_geI, r_gtI, r_addI, r_iaddI, r_subI, r_mulL, r_mulR, r_divI, r_modI, r_negI, r_leP, r_ixT0, r_ixT1, r_ixT2, r_ixL0, r_ixL1, r_ixL2, r_pv, r_pvF, r_slv, r_slF, r_sv, r_so, r_rp, r_rs, r_rsN, r_rsC, r_cV, r_trB, r_trI, r_retV, r_tgM, r_tgO, r_saN, r_saC, List.getElem?_cons_zero, List.getElem?_cons_succ, List.set_cons_zero, List.set_cons_succ, Bool.cond_decide, cond_true, cond_false, Int.reduceLT, Int.reduceLE, Int.reduceNeg, Int.reduceAdd, Int.reduceSub, Int.reduceMul, Int.reducePow, and_self, decide_true, decide_false, and_true, true_and, reduceIte, if_true, if_false, Bool.not_true, Bool.not_false, r_for, r_forN, r_forC, r_iSeq, r_iRet, r_itT, r_itL, r_itF, r_iRange, r_own, r_isO, r_app, r_ext, r_put, r_callIO, r_afIO, fl_len, ft_len, r_clN, r_clC, r_tTrue, Nat.zero_add, Nat.reduceAdd, List.length_cons, List.length_nil, Int.reduceEq, gt_iff_lt, finR (D := d15) rfl]
    · simp only [h3, r_cC, r_bV, r_bO, r_o1, r_o2, r_t2, r_asB, r_ret, r_tch, r_ofT, r_aN, r_aC, r_bN, r_bC, r_tup, r_lst, r_blt, r_if, r_tval, r_tand, r_tor, r_tnot, r_orT, r_andT, r_orTs, r_not, r_call, r_afterOk, r_afterX, r_seq, r_next, r_brk, r_cnt, r_set, r_par, r_stup, r_aug, r_drop, r_sif, r_sret, r_retnone, r_raise, bind_ok, bind_exc, bind_stk, bind_ite, bind_cond, fin_ite, r_eqI, r_neI, r_leI, r_ltI, r_geI, r_gtI, r_addI, r_iaddI, r_subI, r_mulL, r_mulR, r_divI, r_modI, r_negI, r_leP, r_ixT0, r_ixT1, r_ixT2, r_ixL0, r_ixL1, r_ixL2, r_pv, r_pvF, r_slv, r_slF, r_sv, r_so, r_rp, r_rs, r_rsN, r_rsC, r_cV, r_trB, r_trI, r_retV, r_tgM, r_tgO, r_saN, r_saC, List.getElem?_cons_zero, List.getElem?_cons_succ, List.set_cons_zero, List.set_cons_succ, Bool.cond_decide, cond_true, cond_false, Int.reduceLT, Int.reduceLE, Int.reduceNeg, Int.reduceAdd, Int.reduceSub, Int.reduceMul, Int.reducePow, and_self, decide_true, decide_false, and_true, true_and, reduceIte, if_true, if_false, Bool.not_true, Bool.not_false, r_for, r_forN, r_forC, r_iSeq, r_iRet, r_itT, r_itL, r_itF, r_iRange, r_own, r_isO, r_app, r_ext, r_put, r_callIO, r_afIO, fl_len, ft_len, r_clN, r_clC, r_tTrue, Nat.zero_add, Nat.reduceAdd, List.length_cons, List.length_nil, Int.reduceEq, gt_iff_lt, finR (D := d15) rfl]
      cases moreZ a
      · simp only [r_cC, r_bV, r_bO, r_o1, r_o2, r_t2, r_asB, r_ret, r_tch, r_ofT, r_aN, r_aC, r_bN, r_bC, r_tup, r_lst, r_blt, r_if, r_tval, r_tand, r_tor, r_tnot, r_orT, r_andT, r_orTs, r_not, r_call, r_afterOk, r_afterX, r_seq, r_next, r_brk, r_cnt, r_set, r_par, r_stup, r_aug, r_drop, r_sif, r_sret, r_retnone, r_raise, bind_ok, bind_exc, bind_stk, bind_ite, bind_cond, fin_ite, r_eqI, r_neI, r_leI, r_ltI, r_geI, r_gtI, r_addI, r_iaddI, r_subI, r_mulL, r_mulR, r_divI, r_modI, r_negI, r_leP, r_ixT0, r_ixT1, r_ixT2, r_ixL0, r_ixL1, r_ixL2, r_pv, r_pvF, r_slv, r_slF, r_sv, r_so, r_rp, r_rs, r_rsN, r_rsC, r_cV, r_trB, r_trI, r_retV, r_tgM, r_tgO, r_saN, r_saC, List.getElem?_cons_zero, List.getElem?_cons_succ, List.set_cons_zero, List.set_cons_succ, Bool.cond_decide, cond_true, cond_false, Int.reduceLT, Int.reduceLE, Int.reduceNeg, Int.reduceAdd, Int.reduceSub, Int.reduceMul, Int.reducePow, and_self, decide_true, decide_false, and_true, true_and, reduceIte, if_true, if_false, Bool.not_true, Bool.not_false, r_for, r_forN, r_forC, r_iSeq, r_iRet, r_itT, r_itL, r_itF, r_iRange, r_own, r_isO, r_app, r_ext, r_put, r_callIO, r_afIO, fl_len, ft_len, r_clN, r_clC, r_tTrue, Nat.zero_add, Nat.reduceAdd, List.length_cons, List.length_nil, Int.reduceEq, finR (D := d15) rfl, Bool.false_and, Bool.false_eq_true]
      · simp only [r_cC, r_bV, r_bO, r_o1, r_o2, r_t2, r_asB, r_ret, r_tch, r_ofT, r_aN, r_aC, r_bN, r_bC, r_tup, r_lst, r_blt, r_if, r_tval, r_tand, r_tor, r_tnot, r_orT, r_andT, r_orTs, r_not, r_call, r_afterOk, r_afterX, r_seq, r_next, r_brk, r_cnt, r_set, r_par, r_stup, r_aug, r_drop, r_sif, r_sret, r_retnone, r_raise, bind_ok, bind_exc, bind_stk, bind_ite, bind_cond, fin_ite, r_eqI, r_neI, r_leI, r_ltI, r_geI, r_gtI, r_addI, r_iaddI, r_subI, r_mulL, r_mulR, r_divI, r_modI, r_negI, r_leP, r_ixT0, r_ixT1, r_ixT2, r_ixL0, r_ixL1, r_ixL2, r_pv, r_pvF, r_slv, r_slF, r_sv, r_so, r_rp, r_rs, r_rsN, r_rsC, r_cV, r_trB, r_trI, r_retV, r_tgM, r_tgO, r_saN, r_saC, List.getElem?_cons_zero, List.getElem?_cons_succ, List.set_cons_zero, List.set_cons_succ, Bool.cond_decide, cond_true, cond_false, Int.reduceLT, Int.reduceLE, Int.reduceNeg, Int.reduceAdd, Int.reduceSub, Int.reduceMul, Int.reducePow, and_self, decide_true, decide_false, and_true, true_and, reduceIte, if_true, if_false, Bool.not_true, Bool.not_false, r_for, r_forN, r_forC, r_iSeq, r_iRet, r_itT, r_itL, r_itF, r_iRange, r_own, r_isO, r_app, r_ext, r_put, r_callIO, r_afIO, fl_len, ft_len, r_clN, r_clC, r_tTrue, Nat.zero_add, Nat.reduceAdd, List.length_cons, List.length_nil, Int.reduceEq, sp9, finR (D := d15) rfl, Bool.true_and]
        cases hasZ b (lastZ a + 2) <;> simp only [r_cC, r_bV, r_bO, r_o1, r_o2, r_t2, r_asB, r_ret, r_tch, r_ofT, r_aN, r_aC, r_bN, r_bC, r_tup, r_lst, r_blt, r_if, r_tval, r_tand, r_tor, r_tnot, r_orT, r_andT, r_orTs, r_not, r_call, r_afterOk, r_afterX, r_seq, r_next, r_brk, r_cnt, r_set, r_par, r_stup, r_aug, r_drop, r_sif, r_sret, r_retnone, r_raise, bind_ok, bind_exc, bind_stk, bind_ite, bind_cond, fin_ite, r_eqI, r_neI, r_leI, r_ltI, r_geI, r_gtI, r_addI, r_iaddI, r_subI, r_mulL, r_mulR, r_divI, r_modI, r_negI, r_leP, r_ixT0, r_ixT1, r_ixT2, r_ixL0, r_ixL1, r_ixL2, r_pv, r_pvF, r_slv, r_slF, r_sv, r_so, r_rp, r_rs, r_rsN, r_rsC, r_cV, r_trB, r_trI, r_retV, r_tgM, r_tgO, r_saN, r_saC, List.getElem?_cons_zero, List.getElem?_cons_succ, List.set_cons_zero, List.set_cons_succ, Bool.cond_decide, cond_true, cond_false, Int.reduceLT, Int.reduceLE, Int.reduceNeg, Int.reduceAdd, Int.reduceSub, Int.reduceMul, Int.reducePow, and_self, decide_true, decide_false, and_true, true_and, reduceIte, if_true, if_false, Bool.not_true, Bool.not_false, r_for, r_forN, r_forC, r_iSeq, r_iRet, r_itT, r_itL, r_itF, r_iRange, r_own, r_isO, r_app, r_ext, r_put, r_callIO, r_afIO, fl_len, ft_len, r_clN, r_clC, r_tTrue, Nat.zero_add, Nat.reduceAdd, List.length_cons, List.length_nil, Int.reduceEq, finR (D := d15) rfl, Bool.false_eq_true]
theorem sp13 (k : Nat) (a b : Int) : calls (tab L) (k + 4) 16 none [.int a, .int b] = .ok (.v (.bl (belowZ a b))) [] := by
  rw [call16, run_body (D := d16) (B := B16) rfl rfl rfl]; show d16.fin (B16 _ [.val (.int a), .val (.int b)]) = _; unfold B16
  simp only [r_cC, r_bV, r_bO, r_o1, r_o2, r_t2, r_asB, r_ret, r_tch, r_ofT, r_aN, r_aC, r_bN, r_bC, r_tup, r_lst, r_blt, r_if, r_tval, r_tand, r_tor, r_tnot, r_orT, r_andT, r_orTs, r_not, r_call, r_afterOk, r_afterX, r_seq, r_next, r_brk, r_cnt, r_set, r_par, r_stup, r_aug, r_drop, r_sif, r_sret, r_retnone, r_raise, bind_ok, bind_exc, bind_stk, bind_ite, bind_cond, fin_ite, r_eqI, r_neI, r_leI, r_ltI, r_geI, r_gtI, r_addI, r_iaddI, r_subI, r_mulL, r_mulR, r_divI, r_modI, r_negI, r_leP, r_ixT0, r_ixT1, r_ixT2, r_ixL0, r_ixL1, r_ixL2, r_pv, r_pvF, r_slv, r_slF, r_sv, r_so, r_rp, r_rs, r_rsN, r_rsC, r_cV, r_trB, r_trI, r_retV, r_tgM, r_tgO, r_saN, r_saC, List.getElem?_cons_zero, List.getElem?_cons_succ, List.set_cons_zero, List.set_cons_succ, Bool.cond_decide, cond_true, cond_false, Int.reduceLT, Int.reduceLE, Int.reduceNeg, Int.reduceAdd, Int.reduceSub, Int.reduceMul, Int.reducePow, and_self, decide_true, decide_false, and_true, true_and, reduceIte, if_true, if_false, Bool.not_true, Bool.not_false, r_for, r_forN, r_forC, r_iSeq, r_iRet, r_itT, r_itL, r_itF, r_iRange, r_own, r_isO, r_app, r_ext, r_put, r_callIO, r_afIO, fl_len, ft_len, r_clN, r_clC, r_tTrue, Nat.zero_add, Nat.reduceAdd, List.length_cons, List.length_nil, Int.reduceEq, finR (D := d16) rfl]
  unfold belowZ
  by_cases h2 : b = -1
  · simp only [h2, r_cC, r_bV, r_bO, r_o1, r_o2, r_t2, r_asB, r_ret, r_tch, r_ofT, r_aN, r_aC, r_bN, r_bC, r_tup, r_lst, r_blt, r_if, r_tval, r_tand, r_tor, r_tnot, r_orT, r_andT, r_orTs, r_not, r_call, r_afterOk, r_afterX, r_seq, r_next, r_brk, r_cnt, r_set, r_par, r_stup, r_aug, r_drop, r_sif, r_sret, r_retnone, r_raise, bind_ok, bind_exc, bind_stk, bind_ite, bind_cond, fin_ite, r_eqI, r_neI, r_leI, r_ltI, r_geI, r_gtI, r_addI, r_iaddI, r_subI, r_mulL, r_mulR, r_divI, r_modI, r_negI, r_leP, r_ixT0, r_ixT1, r_ixT2, r_ixL0, r_ixL1, r_ixL2, r_pv, r_pvF, r_slv, r_slF, r_sv, r_so, r_rp, r_rs, r_rsN, r_rsC, r_cV, r_trB, r_trI, r_retV, r_tgM, r_tgO, r_saN, r_saC, List.getElem?_cons_zero, List.getElem?_cons_succ, List.set_cons_zero, List.set_cons_succ, Bool.cond_decide, cond_true, cond_false, Int.reduceLT, Int.reduceLE, Int.reduceNeg, Int.reduceAdd, Int.reduceSub, Int.reduceMul, Int.reducePow, and_self, decide_true, decide_false, and_true, true_and, reduceIte, if_true, if_false, Bool.not_true, Bool.not_false, r_for, r_forN, r_forC, r_iSeq, r_iRet, r_itT, r_itL, r_itF, r_iRange, r_own, r_isO, r_app, r_ext, r_put, r_callIO, r_afIO, fl_len, ft_len, r_clN, r_clC, r_tTrue, Nat.zero_add, Nat.reduceAdd, List.length_cons, List.length_nil, Int.reduceEq, finR (D := d16) rfl]
  · simp only [h2, r_cC, r_bV, r_bO, r_o1, r_o2, r_t2, r_asB, r_ret, r_tch, r_ofT, r_aN, r_aC, r_bN, r_bC, r_tup, r_lst, r_blt, r_if, r_tval, r_tand, r_tor, r_tnot, r_orT, r_andT, r_orTs, r_not, r_call, r_afterOk, r_afterX, r_seq, r_next, r_brk, r_cnt, r_set, r_par, r_stup, r_aug, r_drop, r_sif, r_sret, r_retnone, r_raise, bind_ok, bind_exc, bind_stk, bind_ite, bind_cond, fin_ite, r_eqI, r_neI, r_leI, r_ltI, r_geI, r_gtI, r_addI, r_iaddI, r_subI, r_mulL, r_mulR, r_divI, r_modI, r_negI, r_leP, r_ixT0, r_ixT1, r_ixT2, r_ixL0, r_ixL1, r_ixL2, r_pv, r_pvF, r_slv, r_slF, r_sv, r_so, r_rp, r_rs, r_rsN, r_rsC, r_cV, r_trB, r_trI, r_retV, r_tgM, r_tgO, r_saN, r_saC, List.getElem?_cons_zero, List.getElem?_cons_succ, List.set_cons_zero, List.set_cons_succ, Bool.cond_decide, cond_true, cond_false, Int.reduceLT, Int.reduceLE, Int.reduceNeg, Int.reduceAdd, Int.reduceSub, Int.reduceMul, Int.reducePow, and_self, decide_true, decide_false, and_true, true_and, reduceIte, if_true, if_false, Bool.not_true, Bool.not_false, r_for, r_forN, r_forC, r_iSeq, r_iRet, r_itT, r_itL, r_itF, r_iRange, r_own, r_isO, r_app, r_ext, r_put, r_callIO, r_afIO, fl_len, ft_len, r_clN, r_clC, r_tTrue, Nat.zero_add, Nat.reduceAdd, List.length_cons, List.length_nil, Int.reduceEq, finR (D := d16) rfl]
    by_cases h1 : a = -1
    · simp only [h1, r_cC, r_bV, r_bO, r_o1, r_o2, r_t2, r_asB, r_ret, r_tch, r_ofT, r_aN, r_aC, r_bN, r_bC, r_tup, r_lst, r_blt, r_if, r_tval, r_tand, r_tor, r_tnot, r_orT, r_andT, r_orTs, r_not, r_call, r_afterOk, r_afterX, r_seq, r_next, r_brk, r_cnt, r_set, r_par, r_stup, r_aug, r_drop, r_sif, r_sret, r_retnone, r_raise, bind_ok, bind_exc, bind_stk, bind_ite, bind_cond, fin_ite, r_eqI, r_neI, r_leI, r_ltI, r_geI, r_gtI, r_addI, r_iaddI, r_subI, r_mulL, r_mulR, r_divI, r_modI, r_negI, r_leP, r_ixT0, r_ixT1, r_ixT2, r_ixL0, r_ixL1, r_ixL2, r_pv, r_pvF, r_slv, r_slF, r_sv, r_so, r_rp, r_rs, r_rsN, r_rsC, r_cV, r_trB, r_trI, r_retV, r_tgM, r_tgO, r_saN, r_saC, List.getElem?_cons_zero, List.getElem?_cons_succ, List.set_cons_zero, List.set_cons_succ, Bool.cond_decide, cond_true, cond_false, Int.reduceLT, Int.reduceLE, Int.reduceNeg, Int.reduceAdd, Int.reduceSub, Int.reduceMul, Int.reducePow, and_self, decide_true, decide_false, and_true, true_and, reduceIte, if_true, if_false, Bool.not_true, Bool.not_false, r_for, r_forN, r_forC, r_iSeq, r_iRet, r_itT, r_itL, r_itF, r_iRange, r_own, r_isO, r_app, r_ext, r_put, r_callIO, r_afIO, fl_len, ft_len, r_clN, r_clC, r_tTrue, Nat.zero_add, Nat.reduceAdd, List.length_cons, List.length_nil, Int.reduceEq, finR (D := d16) rfl]; simp
    · simp only [h1, r_cC, r_bV, r_bO, r_o1, r_o2, r_t2, r_asB, r_ret, r_tch, r_ofT, r_aN, r_aC, r_bN, r_bC, r_tup, r_lst, r_blt, r_if, r_tval, r_tand, r_tor, r_tnot, r_orT, r_andT, r_orTs, r_not, r_call, r_afterOk, r_afterX, r_seq, r_next, r_brk, r_cnt, r_set, r_par, r_stup, r_aug, r_drop, r_sif, r_sret, r_retnone, r_raise, bind_ok, bind_exc, bind_stk, bind_ite, bind_cond, fin_ite, r_eqI, r_neI, r_leI, r_ltI, r_geI, r_gtI, r_addI, r_iaddI, r_subI, r_mulL, r_mulR, r_divI, r_modI, r_negI, r_leP, r_ixT0, r_ixT1, r_ixT2, r_ixL0, r_ixL1, r_ixL2, r_pv, r_pvF, r_slv, r_slF, r_sv, r_so, r_rp, r_rs, r_rsN, r_rsC, r_cV, r_trB, r_trI, r_retV, r_tgM, r_tgO, r_saN, r_saC, List.getElem?_cons_zero, List.getElem?_cons_succ, List.set_cons_zero, List.set_cons_succ, Bool.cond_decide, cond_true, cond_false, Int.reduceLT, Int.reduceLE, Int.reduceNeg, Int.reduceAdd, Int.reduceSub, Int.reduceMul, Int.reducePow, and_self, decide_true, decide_false, and_true, true_and, reduceIte, if_true, if_false, Bool.not_true, Bool.not_false, r_for, r_forN, r_forC, r_iSeq, r_iRet, r_itT, r_itL, r_itF, r_iRange, r_own, r_isO, r_app, r_ext, r_put, r_callIO, r_afIO, fl_len, ft_len, r_clN, r_clC, r_tTrue, Nat.zero_add, Nat.reduceAdd, List.length_cons, List.length_nil, Int.reduceEq, sp12, finR (D := d16) rfl]; simp [h1]
theorem sp14 (k : Nat) (a b : Int) : calls (tab L) (k + 5) 17 none [.int a, .int b] = .ok (.v (.int (leadsZ a b))) [] := by
  rw [call17, run_body (D := d17) (B := B17) rfl rfl rfl]; show d17.fin (B17 _ [.val (.int a), .val (.int b), .emp]) = _; unfold B17
  simp only [r_cC, r_bV, r_bO, r_o1, r_o2, r_t2, r_asB, r_ret, r_tch, r_ofT, r_aN, r_aC, r_bN, r_bC, r_tup, r_lst, r_blt, r_if, r_tval, r_tand, r_tor, r_tnot, r_orT, r_andT, r_orTs, r_not, r_call, r_afterOk, r_afterX, r_seq, r_next, r_brk, r_cnt, r_set, r_par, r_stup, r_aug, r_drop, r_sif, r_sret, r_retnone, r_raise, bind_ok, bind_exc, bind_stk, bind_ite, bind_cond, fin_ite, r_eqI, r_neI, r_leI, r_ltI, r_geI, r_gtI, r_addI, r_iaddI, r_subI, r_mulL, r_mulR, r_divI, r_modI, r_negI, r_leP, r_ixT0, r_ixT1, r_ixT2, r_ixL0, r_ixL1, r_ixL2, r_pv, r_pvF, r_slv, r_slF, r_sv, r_so, r_rp, r_rs, r_rsN, r_rsC, r_cV, r_trB, r_trI, r_retV, r_tgM, r_tgO, r_saN, r_saC, List.getElem?_cons_zero, List.getElem?_cons_succ, List.set_cons_zero, List.set_cons_succ, Bool.cond_decide, cond_true, cond_false, Int.reduceLT, Int.reduceLE, Int.reduceNeg, Int.reduceAdd, Int.reduceSub, Int.reduceMul, Int.reducePow, and_self, decide_true, decide_false, and_true, true_and, reduceIte, if_true, if_false, Bool.not_true, Bool.not_false, r_for, r_forN, r_forC, r_iSeq, r_iRet, r_itT, r_itL, r_itF, r_iRange, r_own, r_isO, r_app, r_ext, r_put, r_callIO, r_afIO, fl_len, ft_len, r_clN, r_clC, r_tTrue, Nat.zero_add, Nat.reduceAdd, List.length_cons, List.length_nil, Int.reduceEq, sp13, finR (D := d17) rfl]
  unfold leadsZ
  cases belowZ a b
  · simp only [r_cC, r_bV, r_bO, r_o1, r_o2, r_t2, r_asB, r_ret, r_tch, r_ofT, r_aN, r_aC, r_bN, r_bC, r_tup, r_lst, r_blt, r_if, r_tval, r_tand, r_tor, r_tnot, r_orT, r_andT, r_orTs, r_not, r_call, r_afterOk, r_afterX, r_seq, r_next, r_brk, r_cnt, r_set, r_par, r_stup, r_aug, r_drop, r_sif, r_sret, r_retnone, r_raise, bind_ok, bind_exc, bind_stk, bind_ite, bind_cond, fin_ite, r_eqI, r_neI, r_leI, r_ltI, r_geI, r_gtI, r_addI, r_iaddI, r_subI, r_mulL, r_mulR, r_divI, r_modI, r_negI, r_leP, r_ixT0, r_ixT1, r_ixT2, r_ixL0, r_ixL1, r_ixL2, r_pv, r_pvF, r_slv, r_slF, r_sv, r_so, r_rp, r_rs, r_rsN, r_rsC, r_cV, r_trB, r_trI, r_retV, r_tgM, r_tgO, r_saN, r_saC, List.getElem?_cons_zero, List.getElem?_cons_succ, List.set_cons_zero, List.set_cons_succ, Bool.cond_decide, cond_true, cond_false, Int.reduceLT, Int.reduceLE, Int.reduceNeg, Int.reduceAdd, Int.reduceSub, Int.reduceMul, Int.reducePow, and_self, decide_true, decide_false, and_true, true_and, reduceIte, if_true, if_false, Bool.not_true, Bool.not_false, r_for, r_forN, r_forC, r_iSeq, r_iRet, r_itT, r_itL, r_itF, r_iRange, r_own, r_isO, r_app, r_ext, r_put, r_callIO, r_afIO, fl_len, ft_len, r_clN, r_clC, r_tTrue, Nat.zero_add, Nat.reduceAdd, List.length_cons, List.length_nil, Int.reduceEq, finR (D := d17) rfl, Bool.false_eq_true]
    by_cases h1 : a = -1
    · simp only [h1, r_cC, r_bV, r_bO, r_o1, r_o2, r_t2, r_asB, r_ret, r_tch, r_ofT, r_aN, r_aC, r_bN, r_bC, r_tup, r_lst, r_blt, r_if, r_tval, r_tand, r_tor, r_tnot, r_orT, r_andT, r_orTs, r_not, r_call, r_afterOk, r_afterX, r_seq, r_next, r_brk, r_cnt, r_set, r_par, r_stup, r_aug, r_drop, r_sif, r_sret, r_retnone, r_raise, bind_ok, bind_exc, bind_stk, bind_ite, bind_cond, fin_ite, r_eqI, r_neI, r_leI, r_ltI, r_geI, r_gtI, r_addI, r_iaddI, r_subI, r_mulL, r_mulR, r_divI, r_modI, r_negI, r_leP, r_ixT0, r_ixT1, r_ixT2, r_ixL0, r_ixL1, r_ixL2, r_pv, r_pvF, r_slv, r_slF, r_sv, r_so, r_rp, r_rs, r_rsN, r_rsC, r_cV, r_trB, r_trI, r_retV, r_tgM, r_tgO, r_saN, r_saC, List.getElem?_cons_zero, List.getElem?_cons_succ, List.set_cons_zero, List.set_cons_succ, Bool.cond_decide, cond_true, cond_false, Int.reduceLT, Int.reduceLE, Int.reduceNeg, Int.reduceAdd, Int.reduceSub, Int.reduceMul, Int.reducePow, and_self, decide_true, decide_false, and_true, true_and, reduceIte, if_true, if_false, Bool.not_true, Bool.not_false, r_for, r_forN, r_forC, r_iSeq, r_iRet, r_itT, r_itL, r_itF, r_iRange, r_own, r_isO, r_app, r_ext, r_put, r_callIO, r_afIO, fl_len, ft_len, r_clN, r_clC, r_tTrue, Nat.zero_add, Nat.reduceAdd, List.length_cons, List.length_nil, Int.reduceEq, finR (D := d17) rfl]
    · simp only [h1, r_cC, r_bV, r_bO, r_o1, r_o2, r_t2, r_asB, r_ret, r_tch, r_ofT, r_aN, r_aC, r_bN, r_bC, r_tup, r_lst, r_blt, r_if, r_tval, r_tand, r_tor, r_tnot, r_orT, r_andT, r_orTs, r_not, r_call, r_afterOk, r_afterX, r_seq, r_next, r_brk, r_cnt, r_set, r_par, r_stup, r_aug, r_drop, r_sif, r_sret, r_retnone, r_raise, bind_ok, bind_exc, bind_stk, bind_ite, bind_cond, fin_ite, r_eqI, r_neI, r_leI, r_ltI, r_geI, r_gtI, r_addI, r_iaddI, r_subI, r_mulL, r_mulR, r_divI, r_modI, r_negI, r_leP, r_ixT0, r_ixT1, r_ixT2, r_ixL0, r_ixL1, r_ixL2, r_pv, r_pvF, r_slv, r_slF, r_sv, r_so, r_rp, r_rs, r_rsN, r_rsC, r_cV, r_trB, r_trI, r_retV, r_tgM, r_tgO, r_saN, r_saC, List.getElem?_cons_zero, List.getElem?_cons_succ, List.set_cons_zero, List.set_cons_succ, Bool.cond_decide, cond_true, cond_false, Int.reduceLT, Int.reduceLE, Int.reduceNeg, Int.reduceAdd, Int.reduceSub, Int.reduceMul, Int.reducePow, and_self, decide_true, decide_false, and_true, true_and, reduceIte, if_true, if_false, Bool.not_true, Bool.not_false, r_for, r_forN, r_forC, r_iSeq, r_iRet, r_itT, r_itL, r_itF, r_iRange, r_own, r_isO, r_app, r_ext, r_put, r_callIO, r_afIO, fl_len, ft_len, r_clN, r_clC, r_tTrue, Nat.zero_add, Nat.reduceAdd, List.length_cons, List.length_nil, Int.reduceEq, sp12, sp9, finR (D := d17) rfl]
      cases hasZ a (firstZ a b + 1) <;> simp only [r_cC, r_bV, r_bO, r_o1, r_o2, r_t2, r_asB, r_ret, r_tch, r_ofT, r_aN, r_aC, r_bN, r_bC, r_tup, r_lst, r_blt, r_if, r_tval, r_tand, r_tor, r_tnot, r_orT, r_andT, r_orTs, r_not, r_call, r_afterOk, r_afterX, r_seq, r_next, r_brk, r_cnt, r_set, r_par, r_stup, r_aug, r_drop, r_sif, r_sret, r_retnone, r_raise, bind_ok, bind_exc, bind_stk, bind_ite, bind_cond, fin_ite, r_eqI, r_neI, r_leI, r_ltI, r_geI, r_gtI, r_addI, r_iaddI, r_subI, r_mulL, r_mulR, r_divI, r_modI, r_negI, r_leP, r_ixT0, r_ixT1, r_ixT2, r_ixL0, r_ixL1, r_ixL2, r_pv, r_pvF, r_slv, r_slF, r_sv, r_so, r_rp, r_rs, r_rsN, r_rsC, r_cV, r_trB, r_trI, r_retV, r_tgM, r_tgO, r_saN, r_saC, List.getElem?_cons_zero, List.getElem?_cons_succ, List.set_cons_zero, List.set_cons_succ, Bool.cond_decide, cond_true, cond_false, Int.reduceLT, Int.reduceLE, Int.reduceNeg, Int.reduceAdd, Int.reduceSub, Int.reduceMul, Int.reducePow, and_self, decide_true, decide_false, and_true, true_and, reduceIte, if_true, if_false, Bool.not_true, Bool.not_false, r_for, r_forN, r_forC, r_iSeq, r_iRet, r_itT, r_itL, r_itF, r_iRange, r_own, r_isO, r_app, r_ext, r_put, r_callIO, r_afIO, fl_len, ft_len, r_clN, r_clC, r_tTrue, Nat.zero_add, Nat.reduceAdd, List.length_cons, List.length_nil, Int.reduceEq, sp8, sp9, finR (D := d17) rfl, Bool.true_or, Bool.false_or]
  · simp only [r_cC, r_bV, r_bO, r_o1, r_o2, r_t2, r_asB, r_ret, r_tch, r_ofT, r_aN, r_aC, r_bN, r_bC, r_tup, r_lst, r_blt, r_if, r_tval, r_tand, r_tor, r_tnot, r_orT, r_andT, r_orTs, r_not, r_call, r_afterOk, r_afterX, r_seq, r_next, r_brk, r_cnt, r_set, r_par, r_stup, r_aug, r_drop, r_sif, r_sret, r_retnone, r_raise, bind_ok, bind_exc, bind_stk, bind_ite, bind_cond, fin_ite, r_eqI, r_neI, r_leI, r_ltI, r_geI, r_gtI, r_addI, r_iaddI, r_subI, r_mulL, r_mulR, r_divI, r_modI, r_negI, r_leP, r_ixT0, r_ixT1, r_ixT2, r_ixL0, r_ixL1, r_ixL2, r_pv, r_pvF, r_slv, r_slF, r_sv, r_so, r_rp, r_rs, r_rsN, r_rsC, r_cV, r_trB, r_trI, r_retV, r_tgM, r_tgO, r_saN, r_saC, List.getElem?_cons_zero, List.getElem?_cons_succ, List.set_cons_zero, List.set_cons_succ, Bool.cond_decide, cond_true, cond_false, Int.reduceLT, Int.reduceLE, Int.reduceNeg, Int.reduceAdd, Int.reduceSub, Int.reduceMul, Int.reducePow, and_self, decide_true, decide_false, and_true, true_and, reduceIte, if_true, if_false, Bool.not_true, Bool.not_false, r_for, r_forN, r_forC, r_iSeq, r_iRet, r_itT, r_itL, r_itF, r_iRange, r_own, r_isO, r_app, r_ext, r_put, r_callIO, r_afIO, fl_len, ft_len, r_clN, r_clC, r_tTrue, Nat.zero_add, Nat.reduceAdd, List.length_cons, List.length_nil, Int.reduceEq, finR (D := d17) rfl]
theorem sp16 (k : Nat) (n : Int) (h1 : -1 ≤ n) (h2 : n ≤ 1000000) : calls (tab L) (k + 3) 19 none [.int n] = .ok (.v (.int n)) [] := by
  rw [call19, run_body (D := d19) (B := B19) rfl rfl rfl]; show d19.fin (B19 _ [.val (.int n)]) = _; unfold B19
  simp only [r_cC, r_bV, r_bO, r_o1, r_o2, r_t2, r_asB, r_ret, r_tch, r_ofT, r_aN, r_aC, r_bN, r_bC, r_tup, r_lst, r_blt, r_if, r_tval, r_tand, r_tor, r_tnot, r_orT, r_andT, r_orTs, r_not, r_call, r_afterOk, r_afterX, r_seq, r_next, r_brk, r_cnt, r_set, r_par, r_stup, r_aug, r_drop, r_sif, r_sret, r_retnone, r_raise, bind_ok, bind_exc, bind_stk, bind_ite, bind_cond, fin_ite, r_eqI, r_neI, r_leI, r_ltI, r_geI, r_gtI, r_addI, r_iaddI, r_subI, r_mulL, r_mulR, r_divI, r_modI, r_negI, r_leP, r_ixT0, r_ixT1, r_ixT2, r_ixL0, r_ixL1, r_ixL2, r_pv, r_pvF, r_slv, r_slF, r_sv, r_so, r_rp, r_rs, r_rsN, r_rsC, r_cV, r_trB, r_trI, r_retV, r_tgM, r_tgO, r_saN, r_saC, List.getElem?_cons_zero, List.getElem?_cons_succ, List.set_cons_zero, List.set_cons_succ, Bool.cond_decide, cond_true, cond_false, Int.reduceLT, Int.reduceLE, Int.reduceNeg, Int.reduceAdd, Int.reduceSub, Int.reduceMul, Int.reducePow, and_self, decide_true, decide_false, and_true, true_and, reduceIte, if_true, if_false, Bool.not_true, Bool.not_false, r_for, r_forN, r_forC, r_iSeq, r_iRet, r_itT, r_itL, r_itF, r_iRange, r_own, r_isO, r_app, r_ext, r_put, r_callIO, r_afIO, fl_len, ft_len, r_clN, r_clC, r_tTrue, Nat.zero_add, Nat.reduceAdd, List.length_cons, List.length_nil, Int.reduceEq, sp6 _ _ h1 h2, finR (D := d19) rfl]
theorem sp18 (k : Nat) (a b : Int) (a1 : -1 ≤ a) (a2 : a ≤ 1000000) (b1 : -1 ≤ b) (b2 : b ≤ 1000000) : calls (tab L) (k + 4) 21 none [.int a, .int b] = .ok (.v (.int (bothZ a b))) [] := by
  rw [call21, run_body (D := d21) (B := B21) rfl rfl rfl]; show d21.fin (B21 _ [.val (.int a), .val (.int b), .emp]) = _; unfold B21
  simp only [r_cC, r_bV, r_bO, r_o1, r_o2, r_t2, r_asB, r_ret, r_tch, r_ofT, r_aN, r_aC, r_bN, r_bC, r_tup, r_lst, r_blt, r_if, r_tval, r_tand, r_tor, r_tnot, r_orT, r_andT, r_orTs, r_not, r_call, r_afterOk, r_afterX, r_seq, r_next, r_brk, r_cnt, r_set, r_par, r_stup, r_aug, r_drop, r_sif, r_sret, r_retnone, r_raise, bind_ok, bind_exc, bind_stk, bind_ite, bind_cond, fin_ite, r_eqI, r_neI, r_leI, r_ltI, r_geI, r_gtI, r_addI, r_iaddI, r_subI, r_mulL, r_mulR, r_divI, r_modI, r_negI, r_leP, r_ixT0, r_ixT1, r_ixT2, r_ixL0, r_ixL1, r_ixL2, r_pv, r_pvF, r_slv, r_slF, r_sv, r_so, r_rp, r_rs, r_rsN, r_rsC, r_cV, r_trB, r_trI, r_retV, r_tgM, r_tgO, r_saN, r_saC, List.getElem?_cons_zero, List.getElem?_cons_succ, List.set_cons_zero, List.set_cons_succ, Bool.cond_decide, cond_true, cond_false, Int.reduceLT, Int.reduceLE, Int.reduceNeg, Int.reduceAdd, Int.reduceSub, Int.reduceMul, Int.reducePow, and_self, decide_true, decide_false, and_true, true_and, reduceIte, if_true, if_false, Bool.not_true, Bool.not_false, r_for, r_forN, r_forC, r_iSeq, r_iRet, r_itT, r_itL, r_itF, r_iRange, r_own, r_isO, r_app, r_ext, r_put, r_callIO, r_afIO, fl_len, ft_len, r_clN, r_clC, r_tTrue, Nat.zero_add, Nat.reduceAdd, List.length_cons, List.length_nil, Int.reduceEq, sp16 _ _ a1 a2, sp16 _ _ b1 b2, sp10, finR (D := d21) rfl]
theorem sp19 (k : Nat) (a b : Int) (a1 : -1 ≤ a) (a2 : a ≤ 1000000) (b1 : -1 ≤ b) (b2 : b ≤ 1000000) : calls (tab L) (k + 5) 24 none [.int a, .int b] = .ok (.v (.bl (belowZ a b))) [] := by
  rw [call24, run_body (D := d24) (B := B24) rfl rfl rfl]; show d24.fin (B24 _ [.val (.int a), .val (.int b), .emp]) = _; unfold B24
  simp only [r_cC, r_bV, r_bO, r_o1, r_o2, r_t2, r_asB, r_ret, r_tch, r_ofT, r_aN, r_aC, r_bN, r_bC, r_tup, r_lst, r_blt, r_if, r_tval, r_tand, r_tor, r_tnot, r_orT, r_andT, r_orTs, r_not, r_call, r_afterOk, r_afterX, r_seq, r_next, r_brk, r_cnt, r_set, r_par, r_stup, r_aug, r_drop, r_sif, r_sret, r_retnone, r_raise, bind_ok, bind_exc, bind_stk, bind_ite, bind_cond, fin_ite, r_eqI, r_neI, r_leI, r_ltI, r_geI, r_gtI, r_addI, r_iaddI, r_subI, r_mulL, r_mulR, r_divI, r_modI, r_negI, r_leP, r_ixT0, r_ixT1, r_ixT2, r_ixL0, r_ixL1, r_ixL2, r_pv, r_pvF, r_slv, r_slF, r_sv, r_so, r_rp, r_rs, r_rsN, r_rsC, r_cV, r_trB, r_trI, r_retV, r_tgM, r_tgO, r_saN, r_saC, List.getElem?_cons_zero, List.getElem?_cons_succ, List.set_cons_zero, List.set_cons_succ, Bool.cond_decide, cond_true, cond_false, Int.reduceLT, Int.reduceLE, Int.reduceNeg, Int.reduceAdd, Int.reduceSub, Int.reduceMul, Int.reducePow, and_self, decide_true, decide_false, and_true, true_and, reduceIte, if_true, if_false, Bool.not_true, Bool.not_false, r_for, r_forN, r_forC, r_iSeq, r_iRet, r_itT, r_itL, r_itF, r_iRange, r_own, r_isO, r_app, r_ext, r_put, r_callIO, r_afIO, fl_len, ft_len, r_clN, r_clC, r_tTrue, Nat.zero_add, Nat.reduceAdd, List.length_cons, List.length_nil, Int.reduceEq, sp16 _ _ a1 a2, sp16 _ _ b1 b2, sp13, finR (D := d24) rfl]
end Hd


set_option Elab.async false
set_option linter.all false
set_option maxRecDepth 100000
set_option maxHeartbeats 400000
namespace Hd
open PySem PySem.Spec PyProof.Rows L2 EV MA
/-! either -/
theorem wh11 (k : Nat) (a b : Int) (j : Nat) : ∀ (m : Nat) (l r : Int), climb a b m l = r → (hasZ a (r + 1) || hasZ b (r + 1)) = false →
    sWhile (B14t1 (calls (tab L) (k + 2))) (B14s2 (calls (tab L) (k + 2))) (m + j + 1) [.val (.int a), .val (.int b), .val (.int l)] = .ok .nx [.val (.int a), .val (.int b), .val (.int r)]
  | 0, l, r, e, h => by
    have e : l = r := e
    subst e
    rw [Bool.or_eq_false_iff] at h
    rw [r_while]
    unfold B14t1
    simp only [r_cC, r_bV, r_bO, r_o1, r_o2, r_t2, r_asB, r_ret, r_tch, r_ofT, r_aN, r_aC, r_bN, r_bC, r_tup, r_lst, r_blt, r_if, r_tval, r_tand, r_tor, r_tnot, r_orT, r_andT, r_orTs, r_not, r_call, r_afterOk, r_afterX, r_seq, r_next, r_brk, r_cnt, r_set, r_par, r_stup, r_aug, r_drop, r_sif, r_sret, r_retnone, r_raise, bind_ok, bind_exc, bind_stk, bind_ite, bind_cond, fin_ite, r_eqI, r_neI, r_leI, r_ltI, r_geI, r_gtI, r_addI, r_iaddI, r_subI, r_mulL, r_mulR, r_divI, r_modI, r_negI, r_leP, r_ixT0, r_ixT1, r_ixT2, r_ixL0, r_ixL1, r_ixL2, r_pv, r_pvF, r_slv, r_slF, r_sv, r_so, r_rp, r_rs, r_rsN, r_rsC, r_cV, r_trB, r_trI, r_retV, r_tgM, r_tgO, r_saN, r_saC, List.getElem?_cons_zero, List.getElem?_cons_succ, List.set_cons_zero, List.set_cons_succ, Bool.cond_decide, cond_true, cond_false, Int.reduceLT, Int.reduceLE, Int.reduceNeg, Int.reduceAdd, Int.reduceSub, Int.reduceMul, Int.reducePow, and_self, decide_true, decide_false, and_true, true_and, reduceIte, if_true, if_false, Bool.not_true, Bool.not_false, r_for, r_forN, r_forC, r_iSeq, r_iRet, r_itT, r_itL, r_itF, r_iRange, r_own, r_isO, r_app, r_ext, r_put, r_callIO, r_afIO, fl_len, ft_len, r_clN, r_clC, r_tTrue, Nat.zero_add, Nat.reduceAdd, List.length_cons, List.length_nil, Int.reduceEq, sp9, h.1, h.2]
  | m + 1, l, r, e, h => by
    rw [show m + 1 + j + 1 = (m + j + 1) + 1 by omega, r_while]
    unfold climb at e
    by_cases c : (hasZ a (l + 1) || hasZ b (l + 1)) = true
    · rw [if_pos c] at e
      have ih := wh11 k a b j m (l + 1) r e h
      have t : B14t1 (calls (tab L) (k + 2)) [.val (.int a), .val (.int b), .val (.int l)] = .ok true [.val (.int a), .val (.int b), .val (.int l)] := by
        unfold B14t1
        rw [Bool.or_eq_true] at c
        simp only [r_cC, r_bV, r_bO, r_o1, r_o2, r_t2, r_asB, r_ret, r_tch, r_ofT, r_aN, r_aC, r_bN, r_bC, r_tup, r_lst, r_blt, r_if, r_tval, r_tand, r_tor, r_tnot, r_orT, r_andT, r_orTs, r_not, r_call, r_afterOk, r_afterX, r_seq, r_next, r_brk, r_cnt, r_set, r_par, r_stup, r_aug, r_drop, r_sif, r_sret, r_retnone, r_raise, bind_ok, bind_exc, bind_stk, bind_ite, bind_cond, fin_ite, r_eqI, r_neI, r_leI, r_ltI, r_geI, r_gtI, r_addI, r_iaddI, r_subI, r_mulL, r_mulR, r_divI, r_modI, r_negI, r_leP, r_ixT0, r_ixT1, r_ixT2, r_ixL0, r_ixL1, r_ixL2, r_pv, r_pvF, r_slv, r_slF, r_sv, r_so, r_rp, r_rs, r_rsN, r_rsC, r_cV, r_trB, r_trI, r_retV, r_tgM, r_tgO, r_saN, r_saC, List.getElem?_cons_zero, List.getElem?_cons_succ, List.set_cons_zero, List.set_cons_succ, Bool.cond_decide, cond_true, cond_false, Int.reduceLT, Int.reduceLE, Int.reduceNeg, Int.reduceAdd, Int.reduceSub, Int.reduceMul, Int.reducePow, and_self, decide_true, decide_false, and_true, true_and, reduceIte, if_true, if_false, Bool.not_true, Bool.not_false, r_for, r_forN, r_forC, r_iSeq, r_iRet, r_itT, r_itL, r_itF, r_iRange, r_own, r_isO, r_app, r_ext, r_put, r_callIO, r_afIO, fl_len, ft_len, r_clN, r_clC, r_tTrue, Nat.zero_add, Nat.reduceAdd, List.length_cons, List.length_nil, Int.reduceEq, sp9]
        rcases c with c | c
        · simp only [c, r_cC, r_bV, r_bO, r_o1, r_o2, r_t2, r_asB, r_ret, r_tch, r_ofT, r_aN, r_aC, r_bN, r_bC, r_tup, r_lst, r_blt, r_if, r_tval, r_tand, r_tor, r_tnot, r_orT, r_andT, r_orTs, r_not, r_call, r_afterOk, r_afterX, r_seq, r_next, r_brk, r_cnt, r_set, r_par, r_stup, r_aug, r_drop, r_sif, r_sret, r_retnone, r_raise, bind_ok, bind_exc, bind_stk, bind_ite, bind_cond, fin_ite, r_eqI, r_neI, r_leI, r_ltI, r_geI, r_gtI, r_addI, r_iaddI, r_subI, r_mulL, r_mulR, r_divI, r_modI, r_negI, r_leP, r_ixT0, r_ixT1, r_ixT2, r_ixL0, r_ixL1, r_ixL2, r_pv, r_pvF, r_slv, r_slF, r_sv, r_so, r_rp, r_rs, r_rsN, r_rsC, r_cV, r_trB, r_trI, r_retV, r_tgM, r_tgO, r_saN, r_saC, List.getElem?_cons_zero, List.getElem?_cons_succ, List.set_cons_zero, List.set_cons_succ, Bool.cond_decide, cond_true, cond_false, Int.reduceLT, Int.reduceLE, Int.reduceNeg, Int.reduceAdd, Int.reduceSub, Int.reduceMul, Int.reducePow, and_self, decide_true, decide_false, and_true, true_and, reduceIte, if_true, if_false, Bool.not_true, Bool.not_false, r_for, r_forN, r_forC, r_iSeq, r_iRet, r_itT, r_itL, r_itF, r_iRange, r_own, r_isO, r_app, r_ext, r_put, r_callIO, r_afIO, fl_len, ft_len, r_clN, r_clC, r_tTrue, Nat.zero_add, Nat.reduceAdd, List.length_cons, List.length_nil, Int.reduceEq]
        · cases hasZ a (l + 1) <;> simp only [c, r_cC, r_bV, r_bO, r_o1, r_o2, r_t2, r_asB, r_ret, r_tch, r_ofT, r_aN, r_aC, r_bN, r_bC, r_tup, r_lst, r_blt, r_if, r_tval, r_tand, r_tor, r_tnot, r_orT, r_andT, r_orTs, r_not, r_call, r_afterOk, r_afterX, r_seq, r_next, r_brk, r_cnt, r_set, r_par, r_stup, r_aug, r_drop, r_sif, r_sret, r_retnone, r_raise, bind_ok, bind_exc, bind_stk, bind_ite, bind_cond, fin_ite, r_eqI, r_neI, r_leI, r_ltI, r_geI, r_gtI, r_addI, r_iaddI, r_subI, r_mulL, r_mulR, r_divI, r_modI, r_negI, r_leP, r_ixT0, r_ixT1, r_ixT2, r_ixL0, r_ixL1, r_ixL2, r_pv, r_pvF, r_slv, r_slF, r_sv, r_so, r_rp, r_rs, r_rsN, r_rsC, r_cV, r_trB, r_trI, r_retV, r_tgM, r_tgO, r_saN, r_saC, List.getElem?_cons_zero, List.getElem?_cons_succ, List.set_cons_zero, List.set_cons_succ, Bool.cond_decide, cond_true, cond_false, Int.reduceLT, Int.reduceLE, Int.reduceNeg, Int.reduceAdd, Int.reduceSub, Int.reduceMul, Int.reducePow, and_self, decide_true, decide_false, and_true, true_and, reduceIte, if_true, if_false, Bool.not_true, Bool.not_false, r_for, r_forN, r_forC, r_iSeq, r_iRet, r_itT, r_itL, r_itF, r_iRange, r_own, r_isO, r_app, r_ext, r_put, r_callIO, r_afIO, fl_len, ft_len, r_clN, r_clC, r_tTrue, Nat.zero_add, Nat.reduceAdd, List.length_cons, List.length_nil, Int.reduceEq, sp9]
      rw [t, bind_ok, cond_true]
      have b : B14s2 (calls (tab L) (k + 2)) [.val (.int a), .val (.int b), .val (.int l)] = .ok .nx [.val (.int a), .val (.int b), .val (.int (l + 1))] := by
        unfold B14s2
        simp only [r_cC, r_bV, r_bO, r_o1, r_o2, r_t2, r_asB, r_ret, r_tch, r_ofT, r_aN, r_aC, r_bN, r_bC, r_tup, r_lst, r_blt, r_if, r_tval, r_tand, r_tor, r_tnot, r_orT, r_andT, r_orTs, r_not, r_call, r_afterOk, r_afterX, r_seq, r_next, r_brk, r_cnt, r_set, r_par, r_stup, r_aug, r_drop, r_sif, r_sret, r_retnone, r_raise, bind_ok, bind_exc, bind_stk, bind_ite, bind_cond, fin_ite, r_eqI, r_neI, r_leI, r_ltI, r_geI, r_gtI, r_addI, r_iaddI, r_subI, r_mulL, r_mulR, r_divI, r_modI, r_negI, r_leP, r_ixT0, r_ixT1, r_ixT2, r_ixL0, r_ixL1, r_ixL2, r_pv, r_pvF, r_slv, r_slF, r_sv, r_so, r_rp, r_rs, r_rsN, r_rsC, r_cV, r_trB, r_trI, r_retV, r_tgM, r_tgO, r_saN, r_saC, List.getElem?_cons_zero, List.getElem?_cons_succ, List.set_cons_zero, List.set_cons_succ, Bool.cond_decide, cond_true, cond_false, Int.reduceLT, Int.reduceLE, Int.reduceNeg, Int.reduceAdd, Int.reduceSub, Int.reduceMul, Int.reducePow, and_self, decide_true, decide_false, and_true, true_and, reduceIte, if_true, if_false, Bool.not_true, Bool.not_false, r_for, r_forN, r_forC, r_iSeq, r_iRet, r_itT, r_itL, r_itF, r_iRange, r_own, r_isO, r_app, r_ext, r_put, r_callIO, r_afIO, fl_len, ft_len, r_clN, r_clC, r_tTrue, Nat.zero_add, Nat.reduceAdd, List.length_cons, List.length_nil, Int.reduceEq]
      rw [b, bind_ok]
      exact ih
    · rw [if_neg c] at e
      have c := Bool.eq_false_iff.mpr c
      rw [Bool.or_eq_false_iff] at c
      subst e
      unfold B14t1
      simp only [r_cC, r_bV, r_bO, r_o1, r_o2, r_t2, r_asB, r_ret, r_tch, r_ofT, r_aN, r_aC, r_bN, r_bC, r_tup, r_lst, r_blt, r_if, r_tval, r_tand, r_tor, r_tnot, r_orT, r_andT, r_orTs, r_not, r_call, r_afterOk, r_afterX, r_seq, r_next, r_brk, r_cnt, r_set, r_par, r_stup, r_aug, r_drop, r_sif, r_sret, r_retnone, r_raise, bind_ok, bind_exc, bind_stk, bind_ite, bind_cond, fin_ite, r_eqI, r_neI, r_leI, r_ltI, r_geI, r_gtI, r_addI, r_iaddI, r_subI, r_mulL, r_mulR, r_divI, r_modI, r_negI, r_leP, r_ixT0, r_ixT1, r_ixT2, r_ixL0, r_ixL1, r_ixL2, r_pv, r_pvF, r_slv, r_slF, r_sv, r_so, r_rp, r_rs, r_rsN, r_rsC, r_cV, r_trB, r_trI, r_retV, r_tgM, r_tgO, r_saN, r_saC, List.getElem?_cons_zero, List.getElem?_cons_succ, List.set_cons_zero, List.set_cons_succ, Bool.cond_decide, cond_true, cond_false, Int.reduceLT, Int.reduceLE, Int.reduceNeg, Int.reduceAdd, Int.reduceSub, Int.reduceMul, Int.reducePow, and_self, decide_true, decide_false, and_true, true_and, reduceIte, if_true, if_false, Bool.not_true, Bool.not_false, r_for, r_forN, r_forC, r_iSeq, r_iRet, r_itT, r_itL, r_itF, r_iRange, r_own, r_isO, r_app, r_ext, r_put, r_callIO, r_afIO, fl_len, ft_len, r_clN, r_clC, r_tTrue, Nat.zero_add, Nat.reduceAdd, List.length_cons, List.length_nil, Int.reduceEq, sp9, c.1, c.2]
theorem sp11 (k : Nat) (a b : Int) (ha : -1 ≤ a) (hb : -1 ≤ b) : calls (tab L) (k + 3) 14 none [.int a, .int b] = .ok (.v (.int (eitherZ a b))) [] := by
  rw [call14, run_body (D := d14) (B := B14) rfl rfl rfl]; show d14.fin (B14 _ [.val (.int a), .val (.int b), .emp]) = _; unfold B14
  simp only [r_cC, r_bV, r_bO, r_o1, r_o2, r_t2, r_asB, r_ret, r_tch, r_ofT, r_aN, r_aC, r_bN, r_bC, r_tup, r_lst, r_blt, r_if, r_tval, r_tand, r_tor, r_tnot, r_orT, r_andT, r_orTs, r_not, r_call, r_afterOk, r_afterX, r_seq, r_next, r_brk, r_cnt, r_set, r_par, r_stup, r_aug, r_drop, r_sif, r_sret, r_retnone, r_raise, bind_ok, bind_exc, bind_stk, bind_ite, bind_cond, fin_ite, r_eqI, r_neI, r_leI, r_ltI, r_geI, r_gtI, r_addI, r_iaddI, r_subI, r_mulL, r_mulR, r_divI, r_modI, r_negI, r_leP, r_ixT0, r_ixT1, r_ixT2, r_ixL0, r_ixL1, r_ixL2, r_pv, r_pvF, r_slv, r_slF, r_sv, r_so, r_rp, r_rs, r_rsN, r_rsC, r_cV, r_trB, r_trI, r_retV, r_tgM, r_tgO, r_saN, r_saC, List.getElem?_cons_zero, List.getElem?_cons_succ, List.set_cons_zero, List.set_cons_succ, Bool.cond_decide, cond_true, cond_false, Int.reduceLT, Int.reduceLE, Int.reduceNeg, Int.reduceAdd, Int.reduceSub, Int.reduceMul, Int.reducePow, and_self, decide_true, decide_false, and_true, true_and, reduceIte, if_true, if_false, Bool.not_true, Bool.not_false, r_for, r_forN, r_forC, r_iSeq, r_iRet, r_itT, r_itL, r_itF, r_iRange, r_own, r_isO, r_app, r_ext, r_put, r_callIO, r_afIO, fl_len, ft_len, r_clN, r_clC, r_tTrue, Nat.zero_add, Nat.reduceAdd, List.length_cons, List.length_nil, Int.reduceEq, finR (D := d14) rfl]
  unfold eitherZ
  by_cases h1 : a = -1
  · simp only [h1, r_cC, r_bV, r_bO, r_o1, r_o2, r_t2, r_asB, r_ret, r_tch, r_ofT, r_aN, r_aC, r_bN, r_bC, r_tup, r_lst, r_blt, r_if, r_tval, r_tand, r_tor, r_tnot, r_orT, r_andT, r_orTs, r_not, r_call, r_afterOk, r_afterX, r_seq, r_next, r_brk, r_cnt, r_set, r_par, r_stup, r_aug, r_drop, r_sif, r_sret, r_retnone, r_raise, bind_ok, bind_exc, bind_stk, bind_ite, bind_cond, fin_ite, r_eqI, r_neI, r_leI, r_ltI, r_geI, r_gtI, r_addI, r_iaddI, r_subI, r_mulL, r_mulR, r_divI, r_modI, r_negI, r_leP, r_ixT0, r_ixT1, r_ixT2, r_ixL0, r_ixL1, r_ixL2, r_pv, r_pvF, r_slv, r_slF, r_sv, r_so, r_rp, r_rs, r_rsN, r_rsC, r_cV, r_trB, r_trI, r_retV, r_tgM, r_tgO, r_saN, r_saC, List.getElem?_cons_zero, List.getElem?_cons_succ, List.set_cons_zero, List.set_cons_succ, Bool.cond_decide, cond_true, cond_false, Int.reduceLT, Int.reduceLE, Int.reduceNeg, Int.reduceAdd, Int.reduceSub, Int.reduceMul, Int.reducePow, and_self, decide_true, decide_false, and_true, true_and, reduceIte, if_true, if_false, Bool.not_true, Bool.not_false, r_for, r_forN, r_forC, r_iSeq, r_iRet, r_itT, r_itL, r_itF, r_iRange, r_own, r_isO, r_app, r_ext, r_put, r_callIO, r_afIO, fl_len, ft_len, r_clN, r_clC, r_tTrue, Nat.zero_add, Nat.reduceAdd, List.length_cons, List.length_nil, Int.reduceEq, true_or, finR (D := d14) rfl]
  · by_cases h2 : b = -1
    · simp only [h1, h2, r_cC, r_bV, r_bO, r_o1, r_o2, r_t2, r_asB, r_ret, r_tch, r_ofT, r_aN, r_aC, r_bN, r_bC, r_tup, r_lst, r_blt, r_if, r_tval, r_tand, r_tor, r_tnot, r_orT, r_andT, r_orTs, r_not, r_call, r_afterOk, r_afterX, r_seq, r_next, r_brk, r_cnt, r_set, r_par, r_stup, r_aug, r_drop, r_sif, r_sret, r_retnone, r_raise, bind_ok, bind_exc, bind_stk, bind_ite, bind_cond, fin_ite, r_eqI, r_neI, r_leI, r_ltI, r_geI, r_gtI, r_addI, r_iaddI, r_subI, r_mulL, r_mulR, r_divI, r_modI, r_negI, r_leP, r_ixT0, r_ixT1, r_ixT2, r_ixL0, r_ixL1, r_ixL2, r_pv, r_pvF, r_slv, r_slF, r_sv, r_so, r_rp, r_rs, r_rsN, r_rsC, r_cV, r_trB, r_trI, r_retV, r_tgM, r_tgO, r_saN, r_saC, List.getElem?_cons_zero, List.getElem?_cons_succ, List.set_cons_zero, List.set_cons_succ, Bool.cond_decide, cond_true, cond_false, Int.reduceLT, Int.reduceLE, Int.reduceNeg, Int.reduceAdd, Int.reduceSub, Int.reduceMul, Int.reducePow, and_self, decide_true, decide_false, and_true, true_and, reduceIte, if_true, if_false, Bool.not_true, Bool.not_false, r_for, r_forN, r_forC, r_iSeq, r_iRet, r_itT, r_itL, r_itF, r_iRange, r_own, r_isO, r_app, r_ext, r_put, r_callIO, r_afIO, fl_len, ft_len, r_clN, r_clC, r_tTrue, Nat.zero_add, Nat.reduceAdd, List.length_cons, List.length_nil, Int.reduceEq, or_true, finR (D := d14) rfl]
    · obtain ⟨l, e1, _, _, _, _, e2⟩ := climb_end (a := a) (b := b) (by omega) (by omega)
      have w := wh11 k a b (FUEL - 4) 3 (maxZ (lastZ a) (lastZ b)) l e1 e2
      have w : sWhile (B14t1 (calls (tab L) (k + 2))) (B14s2 (calls (tab L) (k + 2))) FUEL [.val (.int a), .val (.int b), .val (.int (maxZ (lastZ a) (lastZ b)))] = .ok .nx [.val (.int a), .val (.int b), .val (.int l)] := w
      simp only [h1, h2, r_cC, r_bV, r_bO, r_o1, r_o2, r_t2, r_asB, r_ret, r_tch, r_ofT, r_aN, r_aC, r_bN, r_bC, r_tup, r_lst, r_blt, r_if, r_tval, r_tand, r_tor, r_tnot, r_orT, r_andT, r_orTs, r_not, r_call, r_afterOk, r_afterX, r_seq, r_next, r_brk, r_cnt, r_set, r_par, r_stup, r_aug, r_drop, r_sif, r_sret, r_retnone, r_raise, bind_ok, bind_exc, bind_stk, bind_ite, bind_cond, fin_ite, r_eqI, r_neI, r_leI, r_ltI, r_geI, r_gtI, r_addI, r_iaddI, r_subI, r_mulL, r_mulR, r_divI, r_modI, r_negI, r_leP, r_ixT0, r_ixT1, r_ixT2, r_ixL0, r_ixL1, r_ixL2, r_pv, r_pvF, r_slv, r_slF, r_sv, r_so, r_rp, r_rs, r_rsN, r_rsC, r_cV, r_trB, r_trI, r_retV, r_tgM, r_tgO, r_saN, r_saC, List.getElem?_cons_zero, List.getElem?_cons_succ, List.set_cons_zero, List.set_cons_succ, Bool.cond_decide, cond_true, cond_false, Int.reduceLT, Int.reduceLE, Int.reduceNeg, Int.reduceAdd, Int.reduceSub, Int.reduceMul, Int.reducePow, and_self, decide_true, decide_false, and_true, true_and, reduceIte, if_true, if_false, Bool.not_true, Bool.not_false, r_for, r_forN, r_forC, r_iSeq, r_iRet, r_itT, r_itL, r_itF, r_iRange, r_own, r_isO, r_app, r_ext, r_put, r_callIO, r_afIO, fl_len, ft_len, r_clN, r_clC, r_tTrue, Nat.zero_add, Nat.reduceAdd, List.length_cons, List.length_nil, Int.reduceEq, or_self, sp7, lMaxI, w, e1, sp9, finR (D := d14) rfl]
      cases hasZ a (l + 2) <;> simp only [r_cC, r_bV, r_bO, r_o1, r_o2, r_t2, r_asB, r_ret, r_tch, r_ofT, r_aN, r_aC, r_bN, r_bC, r_tup, r_lst, r_blt, r_if, r_tval, r_tand, r_tor, r_tnot, r_orT, r_andT, r_orTs, r_not, r_call, r_afterOk, r_afterX, r_seq, r_next, r_brk, r_cnt, r_set, r_par, r_stup, r_aug, r_drop, r_sif, r_sret, r_retnone, r_raise, bind_ok, bind_exc, bind_stk, bind_ite, bind_cond, fin_ite, r_eqI, r_neI, r_leI, r_ltI, r_geI, r_gtI, r_addI, r_iaddI, r_subI, r_mulL, r_mulR, r_divI, r_modI, r_negI, r_leP, r_ixT0, r_ixT1, r_ixT2, r_ixL0, r_ixL1, r_ixL2, r_pv, r_pvF, r_slv, r_slF, r_sv, r_so, r_rp, r_rs, r_rsN, r_rsC, r_cV, r_trB, r_trI, r_retV, r_tgM, r_tgO, r_saN, r_saC, List.getElem?_cons_zero, List.getElem?_cons_succ, List.set_cons_zero, List.set_cons_succ, Bool.cond_decide, cond_true, cond_false, Int.reduceLT, Int.reduceLE, Int.reduceNeg, Int.reduceAdd, Int.reduceSub, Int.reduceMul, Int.reducePow, and_self, decide_true, decide_false, and_true, true_and, reduceIte, if_true, if_false, Bool.not_true, Bool.not_false, r_for, r_forN, r_forC, r_iSeq, r_iRet, r_itT, r_itL, r_itF, r_iRange, r_own, r_isO, r_app, r_ext, r_put, r_callIO, r_afIO, fl_len, ft_len, r_clN, r_clC, r_tTrue, Nat.zero_add, Nat.reduceAdd, List.length_cons, List.length_nil, Int.reduceEq, sp8, sp9, finR (D := d14) rfl, Bool.true_or, Bool.false_or]
end Hd


set_option Elab.async false
set_option linter.all false
set_option maxRecDepth 100000
set_option maxHeartbeats 400000
namespace Hd
open PySem PySem.Spec PyProof.Rows L2 EV MA
def nmJ : J → Str
  | .and => "and"
  | .or => "or"
  | .to => "to"
def toPV : Say → PV
  | .p => .tup [.str "p"]
  | .no => .tup [.str "no"]
  | .bin j a b => .tup [.str (nmJ j), toPV a, toPV b]
def pdS : Say → PyData
  | .p => .tuple [.str "p"]
  | .no => .tuple [.str "no"]
  | .bin j a b => .tuple [.str (nmJ j), pdS a, pdS b]
def dep : Say → Nat
  | .p => 1
  | .no => 1
  | .bin _ a b => max (dep a) (dep b) + 1
def siz : Say → Nat
  | .p => 1
  | .no => 1
  | .bin _ a b => siz a + siz b + 1
theorem pd_S : ∀ s, PV.pd (toPV s) = some (pdS s)
  | .p => pd_tup (pds_cons (pd_str _) pds_nil)
  | .no => pd_tup (pds_cons (pd_str _) pds_nil)
  | .bin j a b => pd_tup (pds_cons (pd_str _) (pds_cons (pd_S a) (pds_cons (pd_S b) pds_nil)))
theorem okJ (j : J) : PyData.strOk (nmJ j) = true := by cases j <;> decide +kernel
theorem lay_S : ∀ s, PyData.canLay0 (pdS s) = true
  | .p => by decide +kernel
  | .no => by decide +kernel
  | .bin j a b => by
    unfold pdS
    simp only [PyData.canLay0, PyData.canLayAll0, okJ, lay_S a, lay_S b, Bool.and_self]
theorem depth_S : ∀ s, PyData.depth (pdS s) ≤ dep s
  | .p => by unfold pdS dep; simp [PyData.depth, PyData.depthAll]
  | .no => by unfold pdS dep; simp [PyData.depth, PyData.depthAll]
  | .bin j a b => by
    unfold pdS dep
    have := depth_S a
    have := depth_S b
    simp only [PyData.depth, PyData.depthAll]
    omega
theorem shp_S {s : Say} (h : dep s ≤ 64) : SeqAt.shaped (pdS s) = true := by
  unfold SeqAt.shaped
  have := depth_S s
  rw [lay_S, Bool.true_and]
  exact decide_eq_true (by omega)
theorem eqv_p : ∀ s, PyData.eqv (pdS s) (.tuple [.str "p"]) = decide (s = .p)
  | .p => by decide +kernel
  | .no => by decide +kernel
  | .bin j a b => by
    have h : PyData.eqv (pdS (.bin j a b)) (.tuple [.str "p"]) = (PyData.eqv (.str (nmJ j)) (.str "p") && PyData.eqvAll [pdS a, pdS b] []) := by unfold pdS; simp only [PyData.eqv, PyData.eqvAll]
    have h2 : PyData.eqvAll [pdS a, pdS b] [] = false := by simp only [PyData.eqvAll]
    rw [h, h2, Bool.and_false]; simp
theorem eqv_no : ∀ s, PyData.eqv (pdS s) (.tuple [.str "no"]) = decide (s = .no)
  | .p => by decide +kernel
  | .no => by decide +kernel
  | .bin j a b => by
    have h : PyData.eqv (pdS (.bin j a b)) (.tuple [.str "no"]) = (PyData.eqv (.str (nmJ j)) (.str "no") && PyData.eqvAll [pdS a, pdS b] []) := by unfold pdS; simp only [PyData.eqv, PyData.eqvAll]
    have h2 : PyData.eqvAll [pdS a, pdS b] [] = false := by simp only [PyData.eqvAll]
    rw [h, h2, Bool.and_false]; simp
theorem e_p {s : Say} (h : dep s ≤ 64) : fEq (toPV s) (.tup [.str "p"]) = some (.v (.bl (decide (s = .p)))) := eq_of (pd_S s) (pd_S .p) (shp_S h) (by decide +kernel) (eqv_p s)
theorem e_no {s : Say} (h : dep s ≤ 64) : fEq (toPV s) (.tup [.str "no"]) = some (.v (.bl (decide (s = .no)))) := eq_of (pd_S s) (pd_S .no) (shp_S h) (by decide +kernel) (eqv_no s)
theorem e_and (j : J) : fEq (.str (nmJ j)) (.str "and") = some (.v (.bl (decide (j = .and)))) := by cases j <;> exact eq_of (pd_str _) (pd_str _) (by decide +kernel) (by decide +kernel) (by decide +kernel)
theorem e_or (j : J) : fEq (.str (nmJ j)) (.str "or") = some (.v (.bl (decide (j = .or)))) := by cases j <;> exact eq_of (pd_str _) (pd_str _) (by decide +kernel) (by decide +kernel) (by decide +kernel)
theorem sp15 : ∀ (s : Say) (k : Nat) (x : Int), dep s ≤ 64 → -1 ≤ x → calls (tab L) (k + 5 + dep s) 18 none [toPV s, .int x] = .ok (.v (.int (valZ s x))) []
  | .p, k, x, h, hx => by
    show calls (tab L) ((k + 5) + 1) 18 none _ = _
    rw [call18, run_body (D := d18) (B := B18) rfl rfl rfl]; show d18.fin (B18 _ [.val (toPV .p), .val (.int x), .emp, .emp]) = _; unfold B18
    have e1 : fEq (toPV .p) (.tup [.str "p"]) = some (.v (.bl true)) := e_p (s := .p) h
    simp only [r_cC, r_bV, r_bO, r_o1, r_o2, r_t2, r_asB, r_ret, r_tch, r_ofT, r_aN, r_aC, r_bN, r_bC, r_tup, r_lst, r_blt, r_if, r_tval, r_tand, r_tor, r_tnot, r_orT, r_andT, r_orTs, r_not, r_call, r_afterOk, r_afterX, r_seq, r_next, r_brk, r_cnt, r_set, r_par, r_stup, r_aug, r_drop, r_sif, r_sret, r_retnone, r_raise, bind_ok, bind_exc, bind_stk, bind_ite, bind_cond, fin_ite, r_eqI, r_neI, r_leI, r_ltI, r_geI, r_gtI, r_addI, r_iaddI, r_subI, r_mulL, r_mulR, r_divI, r_modI, r_negI, r_leP, r_ixT0, r_ixT1, r_ixT2, r_ixL0, r_ixL1, r_ixL2, r_pv, r_pvF, r_slv, r_slF, r_sv, r_so, r_rp, r_rs, r_rsN, r_rsC, r_cV, r_trB, r_trI, r_retV, r_tgM, r_tgO, r_saN, r_saC, List.getElem?_cons_zero, List.getElem?_cons_succ, List.set_cons_zero, List.set_cons_succ, Bool.cond_decide, cond_true, cond_false, Int.reduceLT, Int.reduceLE, Int.reduceNeg, Int.reduceAdd, Int.reduceSub, Int.reduceMul, Int.reducePow, and_self, decide_true, decide_false, and_true, true_and, reduceIte, if_true, if_false, Bool.not_true, Bool.not_false, r_for, r_forN, r_forC, r_iSeq, r_iRet, r_itT, r_itL, r_itF, r_iRange, r_own, r_isO, r_app, r_ext, r_put, r_callIO, r_afIO, fl_len, ft_len, r_clN, r_clC, r_tTrue, Nat.zero_add, Nat.reduceAdd, List.length_cons, List.length_nil, Int.reduceEq, e1, finR (D := d18) rfl]
    rfl
  | .no, k, x, h, hx => by
    show calls (tab L) ((k + 5) + 1) 18 none _ = _
    rw [call18, run_body (D := d18) (B := B18) rfl rfl rfl]; show d18.fin (B18 _ [.val (toPV .no), .val (.int x), .emp, .emp]) = _; unfold B18
    have e1 : fEq (toPV .no) (.tup [.str "p"]) = some (.v (.bl false)) := e_p (s := .no) h
    have e2 : fEq (toPV .no) (.tup [.str "no"]) = some (.v (.bl true)) := e_no (s := .no) h
    simp only [r_cC, r_bV, r_bO, r_o1, r_o2, r_t2, r_asB, r_ret, r_tch, r_ofT, r_aN, r_aC, r_bN, r_bC, r_tup, r_lst, r_blt, r_if, r_tval, r_tand, r_tor, r_tnot, r_orT, r_andT, r_orTs, r_not, r_call, r_afterOk, r_afterX, r_seq, r_next, r_brk, r_cnt, r_set, r_par, r_stup, r_aug, r_drop, r_sif, r_sret, r_retnone, r_raise, bind_ok, bind_exc, bind_stk, bind_ite, bind_cond, fin_ite, r_eqI, r_neI, r_leI, r_ltI, r_geI, r_gtI, r_addI, r_iaddI, r_subI, r_mulL, r_mulR, r_divI, r_modI, r_negI, r_leP, r_ixT0, r_ixT1, r_ixT2, r_ixL0, r_ixL1, r_ixL2, r_pv, r_pvF, r_slv, r_slF, r_sv, r_so, r_rp, r_rs, r_rsN, r_rsC, r_cV, r_trB, r_trI, r_retV, r_tgM, r_tgO, r_saN, r_saC, List.getElem?_cons_zero, List.getElem?_cons_succ, List.set_cons_zero, List.set_cons_succ, Bool.cond_decide, cond_true, cond_false, Int.reduceLT, Int.reduceLE, Int.reduceNeg, Int.reduceAdd, Int.reduceSub, Int.reduceMul, Int.reducePow, and_self, decide_true, decide_false, and_true, true_and, reduceIte, if_true, if_false, Bool.not_true, Bool.not_false, r_for, r_forN, r_forC, r_iSeq, r_iRet, r_itT, r_itL, r_itF, r_iRange, r_own, r_isO, r_app, r_ext, r_put, r_callIO, r_afIO, fl_len, ft_len, r_clN, r_clC, r_tTrue, Nat.zero_add, Nat.reduceAdd, List.length_cons, List.length_nil, Int.reduceEq, e1, e2, finR (D := d18) rfl]
    rfl
  | .bin j a b, k, x, h, hx => by
    have hd : dep (.bin j a b) = max (dep a) (dep b) + 1 := rfl
    have ia : calls (tab L) (k + 5 + max (dep a) (dep b)) 18 none [toPV a, .int x] = .ok (.v (.int (valZ a x))) [] := by
      rw [show k + 5 + max (dep a) (dep b) = (k + (max (dep a) (dep b) - dep a)) + 5 + dep a by omega]
      exact sp15 a _ x (by omega) hx
    have ib : calls (tab L) (k + 5 + max (dep a) (dep b)) 18 none [toPV b, .int x] = .ok (.v (.int (valZ b x))) [] := by
      rw [show k + 5 + max (dep a) (dep b) = (k + (max (dep a) (dep b) - dep b)) + 5 + dep b by omega]
      exact sp15 b _ x (by omega) hx
    have ga := val_ge hx a
    have gb := val_ge hx b
    have c10 : calls (tab L) (k + 5 + max (dep a) (dep b)) 13 none [.int (valZ a x), .int (valZ b x)] = .ok (.v (.int (bothZ (valZ a x) (valZ b x)))) [] := by
      rw [show k + 5 + max (dep a) (dep b) = (k + 2 + max (dep a) (dep b)) + 3 by omega]; exact sp10 _ _ _
    have c11 : calls (tab L) (k + 5 + max (dep a) (dep b)) 14 none [.int (valZ a x), .int (valZ b x)] = .ok (.v (.int (eitherZ (valZ a x) (valZ b x)))) [] := by
      rw [show k + 5 + max (dep a) (dep b) = (k + 2 + max (dep a) (dep b)) + 3 by omega]; exact sp11 _ _ _ ga gb
    have c14 : calls (tab L) (k + 5 + max (dep a) (dep b)) 17 none [.int (valZ a x), .int (valZ b x)] = .ok (.v (.int (leadsZ (valZ a x) (valZ b x)))) [] := by
      rw [show k + 5 + max (dep a) (dep b) = (k + max (dep a) (dep b)) + 5 by omega]; exact sp14 _ _ _
    have e1 := e_p (s := .bin j a b) h
    have e2 := e_no (s := .bin j a b) h
    rw [hd, ← Nat.add_assoc]
    rw [call18, run_body (D := d18) (B := B18) rfl rfl rfl]; show d18.fin (B18 _ [.val (toPV (.bin j a b)), .val (.int x), .emp, .emp]) = _; unfold B18
    have t : toPV (.bin j a b) = .tup [.str (nmJ j), toPV a, toPV b] := rfl
    rw [t] at e1 e2 ⊢
    generalize toPV a = pa at *
    generalize toPV b = pb at *
    simp only [r_cC, r_bV, r_bO, r_o1, r_o2, r_t2, r_asB, r_ret, r_tch, r_ofT, r_aN, r_aC, r_bN, r_bC, r_tup, r_lst, r_blt, r_if, r_tval, r_tand, r_tor, r_tnot, r_orT, r_andT, r_orTs, r_not, r_call, r_afterOk, r_afterX, r_seq, r_next, r_brk, r_cnt, r_set, r_par, r_stup, r_aug, r_drop, r_sif, r_sret, r_retnone, r_raise, bind_ok, bind_exc, bind_stk, bind_ite, bind_cond, fin_ite, r_eqI, r_neI, r_leI, r_ltI, r_geI, r_gtI, r_addI, r_iaddI, r_subI, r_mulL, r_mulR, r_divI, r_modI, r_negI, r_leP, r_ixT0, r_ixT1, r_ixT2, r_ixL0, r_ixL1, r_ixL2, r_pv, r_pvF, r_slv, r_slF, r_sv, r_so, r_rp, r_rs, r_rsN, r_rsC, r_cV, r_trB, r_trI, r_retV, r_tgM, r_tgO, r_saN, r_saC, List.getElem?_cons_zero, List.getElem?_cons_succ, List.set_cons_zero, List.set_cons_succ, Bool.cond_decide, cond_true, cond_false, Int.reduceLT, Int.reduceLE, Int.reduceNeg, Int.reduceAdd, Int.reduceSub, Int.reduceMul, Int.reducePow, and_self, decide_true, decide_false, and_true, true_and, reduceIte, if_true, if_false, Bool.not_true, Bool.not_false, r_for, r_forN, r_forC, r_iSeq, r_iRet, r_itT, r_itL, r_itF, r_iRange, r_own, r_isO, r_app, r_ext, r_put, r_callIO, r_afIO, fl_len, ft_len, r_clN, r_clC, r_tTrue, Nat.zero_add, Nat.reduceAdd, List.length_cons, List.length_nil, Int.reduceEq, e1, e2, reduceCtorEq, ia, ib, e_and, e_or, finR (D := d18) rfl]
    cases j
    · simp only [r_cC, r_bV, r_bO, r_o1, r_o2, r_t2, r_asB, r_ret, r_tch, r_ofT, r_aN, r_aC, r_bN, r_bC, r_tup, r_lst, r_blt, r_if, r_tval, r_tand, r_tor, r_tnot, r_orT, r_andT, r_orTs, r_not, r_call, r_afterOk, r_afterX, r_seq, r_next, r_brk, r_cnt, r_set, r_par, r_stup, r_aug, r_drop, r_sif, r_sret, r_retnone, r_raise, bind_ok, bind_exc, bind_stk, bind_ite, bind_cond, fin_ite, r_eqI, r_neI, r_leI, r_ltI, r_geI, r_gtI, r_addI, r_iaddI, r_subI, r_mulL, r_mulR, r_divI, r_modI, r_negI, r_leP, r_ixT0, r_ixT1, r_ixT2, r_ixL0, r_ixL1, r_ixL2, r_pv, r_pvF, r_slv, r_slF, r_sv, r_so, r_rp, r_rs, r_rsN, r_rsC, r_cV, r_trB, r_trI, r_retV, r_tgM, r_tgO, r_saN, r_saC, List.getElem?_cons_zero, List.getElem?_cons_succ, List.set_cons_zero, List.set_cons_succ, Bool.cond_decide, cond_true, cond_false, Int.reduceLT, Int.reduceLE, Int.reduceNeg, Int.reduceAdd, Int.reduceSub, Int.reduceMul, Int.reducePow, and_self, decide_true, decide_false, and_true, true_and, reduceIte, if_true, if_false, Bool.not_true, Bool.not_false, r_for, r_forN, r_forC, r_iSeq, r_iRet, r_itT, r_itL, r_itF, r_iRange, r_own, r_isO, r_app, r_ext, r_put, r_callIO, r_afIO, fl_len, ft_len, r_clN, r_clC, r_tTrue, Nat.zero_add, Nat.reduceAdd, List.length_cons, List.length_nil, Int.reduceEq, e_and, e_or, c10, finR (D := d18) rfl, reduceCtorEq]; rfl
    · simp only [r_cC, r_bV, r_bO, r_o1, r_o2, r_t2, r_asB, r_ret, r_tch, r_ofT, r_aN, r_aC, r_bN, r_bC, r_tup, r_lst, r_blt, r_if, r_tval, r_tand, r_tor, r_tnot, r_orT, r_andT, r_orTs, r_not, r_call, r_afterOk, r_afterX, r_seq, r_next, r_brk, r_cnt, r_set, r_par, r_stup, r_aug, r_drop, r_sif, r_sret, r_retnone, r_raise, bind_ok, bind_exc, bind_stk, bind_ite, bind_cond, fin_ite, r_eqI, r_neI, r_leI, r_ltI, r_geI, r_gtI, r_addI, r_iaddI, r_subI, r_mulL, r_mulR, r_divI, r_modI, r_negI, r_leP, r_ixT0, r_ixT1, r_ixT2, r_ixL0, r_ixL1, r_ixL2, r_pv, r_pvF, r_slv, r_slF, r_sv, r_so, r_rp, r_rs, r_rsN, r_rsC, r_cV, r_trB, r_trI, r_retV, r_tgM, r_tgO, r_saN, r_saC, List.getElem?_cons_zero, List.getElem?_cons_succ, List.set_cons_zero, List.set_cons_succ, Bool.cond_decide, cond_true, cond_false, Int.reduceLT, Int.reduceLE, Int.reduceNeg, Int.reduceAdd, Int.reduceSub, Int.reduceMul, Int.reducePow, and_self, decide_true, decide_false, and_true, true_and, reduceIte, if_true, if_false, Bool.not_true, Bool.not_false, r_for, r_forN, r_forC, r_iSeq, r_iRet, r_itT, r_itL, r_itF, r_iRange, r_own, r_isO, r_app, r_ext, r_put, r_callIO, r_afIO, fl_len, ft_len, r_clN, r_clC, r_tTrue, Nat.zero_add, Nat.reduceAdd, List.length_cons, List.length_nil, Int.reduceEq, e_and, e_or, c11, finR (D := d18) rfl, reduceCtorEq]; rfl
    · simp only [r_cC, r_bV, r_bO, r_o1, r_o2, r_t2, r_asB, r_ret, r_tch, r_ofT, r_aN, r_aC, r_bN, r_bC, r_tup, r_lst, r_blt, r_if, r_tval, r_tand, r_tor, r_tnot, r_orT, r_andT, r_orTs, r_not, r_call, r_afterOk, r_afterX, r_seq, r_next, r_brk, r_cnt, r_set, r_par, r_stup, r_aug, r_drop, r_sif, r_sret, r_retnone, r_raise, bind_ok, bind_exc, bind_stk, bind_ite, bind_cond, fin_ite, r_eqI, r_neI, r_leI, r_ltI, r_geI, r_gtI, r_addI, r_iaddI, r_subI, r_mulL, r_mulR, r_divI, r_modI, r_negI, r_leP, r_ixT0, r_ixT1, r_ixT2, r_ixL0, r_ixL1, r_ixL2, r_pv, r_pvF, r_slv, r_slF, r_sv, r_so, r_rp, r_rs, r_rsN, r_rsC, r_cV, r_trB, r_trI, r_retV, r_tgM, r_tgO, r_saN, r_saC, List.getElem?_cons_zero, List.getElem?_cons_succ, List.set_cons_zero, List.set_cons_succ, Bool.cond_decide, cond_true, cond_false, Int.reduceLT, Int.reduceLE, Int.reduceNeg, Int.reduceAdd, Int.reduceSub, Int.reduceMul, Int.reducePow, and_self, decide_true, decide_false, and_true, true_and, reduceIte, if_true, if_false, Bool.not_true, Bool.not_false, r_for, r_forN, r_forC, r_iSeq, r_iRet, r_itT, r_itL, r_itF, r_iRange, r_own, r_isO, r_app, r_ext, r_put, r_callIO, r_afIO, fl_len, ft_len, r_clN, r_clC, r_tTrue, Nat.zero_add, Nat.reduceAdd, List.length_cons, List.length_nil, Int.reduceEq, e_and, e_or, c14, finR (D := d18) rfl, reduceCtorEq]; rfl
end Hd


set_option Elab.async false
set_option linter.all false
set_option maxRecDepth 100000
set_option maxHeartbeats 800000
namespace Hd
open PySem PySem.Spec PyProof.Rows L2 EV MA
theorem ft_lst (ps : List PV) : fTuple [.lst ps] = some (.v (.tup ps)) := rfl
theorem sp2s (k : Nat) (x : Str) : calls (tab L) (k + 1) 5 none [.str x] = .ok (.v (.str x)) [] := by
  rw [call5, run_body (D := d5) (B := B5) rfl rfl rfl]; show d5.fin (B5 _ [.val (.str x), .emp]) = _; unfold B5
  simp only [r_cC, r_bV, r_bO, r_o1, r_o2, r_t2, r_asB, r_ret, r_tch, r_ofT, r_aN, r_aC, r_bN, r_bC, r_tup, r_lst, r_blt, r_if, r_tval, r_tand, r_tor, r_tnot, r_orT, r_andT, r_orTs, r_not, r_call, r_afterOk, r_afterX, r_seq, r_next, r_brk, r_cnt, r_set, r_par, r_stup, r_aug, r_drop, r_sif, r_sret, r_retnone, r_raise, bind_ok, bind_exc, bind_stk, bind_ite, bind_cond, fin_ite, r_eqI, r_neI, r_leI, r_ltI, r_geI, r_gtI, r_addI, r_iaddI, r_subI, r_mulL, r_mulR, r_divI, r_modI, r_negI, r_leP, r_ixT0, r_ixT1, r_ixT2, r_ixL0, r_ixL1, r_ixL2, r_pv, r_pvF, r_slv, r_slF, r_sv, r_so, r_rp, r_rs, r_rsN, r_rsC, r_cV, r_trB, r_trI, r_retV, r_tgM, r_tgO, r_saN, r_saC, List.getElem?_cons_zero, List.getElem?_cons_succ, List.set_cons_zero, List.set_cons_succ, Bool.cond_decide, cond_true, cond_false, Int.reduceLT, Int.reduceLE, Int.reduceNeg, Int.reduceAdd, Int.reduceSub, Int.reduceMul, Int.reducePow, and_self, decide_true, decide_false, and_true, true_and, reduceIte, if_true, if_false, Bool.not_true, Bool.not_false, r_for, r_forN, r_forC, r_iSeq, r_iRet, r_itT, r_itL, r_itF, r_iRange, r_own, r_isO, r_app, r_ext, r_put, r_callIO, r_afIO, fl_len, ft_len, r_clN, r_clC, r_tTrue, Nat.zero_add, Nat.reduceAdd, List.length_cons, List.length_nil, Int.reduceEq, isi_st, finR (D := d5) rfl]
/-- a tuple of what stays itself stays itself -/
theorem sp2t (k : Nat) (ps : List PV) (hl : ps.length < 1000000) (h : ∀ p ∈ ps, calls (tab L) k 5 none [p] = .ok (.v p) []) : calls (tab L) (k + 1) 5 none [.tup ps] = .ok (.v (.tup ps)) [] := by
  rw [call5, run_body (D := d5) (B := B5) rfl rfl rfl]; show d5.fin (B5 _ [.val (.tup ps), .emp]) = _; unfold B5
  have c := compS_fm (j := 0) (v := 1) (ε := [.val (.tup ps), .emp]) (t := tTrue) (e := B5e1 (calls (tab L) k)) (fun _ => true) (fun p => p) (p := .tup ps) (ps := ps) rfl rfl rfl (by simp) (sz_lt hl) (fun p hp => ⟨rfl, fun _ => by
    unfold B5e1
    show cCall (calls (tab L) k) 5 (aCons (cVar 1) aNil) [.val (.tup ps), .val p] = .ok (.v p) [.val (.tup ps), .val p]
    simp only [r_cC, r_bV, r_bO, r_o1, r_o2, r_t2, r_asB, r_ret, r_tch, r_ofT, r_aN, r_aC, r_bN, r_bC, r_tup, r_lst, r_blt, r_if, r_tval, r_tand, r_tor, r_tnot, r_orT, r_andT, r_orTs, r_not, r_call, r_afterOk, r_afterX, r_seq, r_next, r_brk, r_cnt, r_set, r_par, r_stup, r_aug, r_drop, r_sif, r_sret, r_retnone, r_raise, bind_ok, bind_exc, bind_stk, bind_ite, bind_cond, fin_ite, r_eqI, r_neI, r_leI, r_ltI, r_geI, r_gtI, r_addI, r_iaddI, r_subI, r_mulL, r_mulR, r_divI, r_modI, r_negI, r_leP, r_ixT0, r_ixT1, r_ixT2, r_ixL0, r_ixL1, r_ixL2, r_pv, r_pvF, r_slv, r_slF, r_sv, r_so, r_rp, r_rs, r_rsN, r_rsC, r_cV, r_trB, r_trI, r_retV, r_tgM, r_tgO, r_saN, r_saC, List.getElem?_cons_zero, List.getElem?_cons_succ, List.set_cons_zero, List.set_cons_succ, Bool.cond_decide, cond_true, cond_false, Int.reduceLT, Int.reduceLE, Int.reduceNeg, Int.reduceAdd, Int.reduceSub, Int.reduceMul, Int.reducePow, and_self, decide_true, decide_false, and_true, true_and, reduceIte, if_true, if_false, Bool.not_true, Bool.not_false, r_for, r_forN, r_forC, r_iSeq, r_iRet, r_itT, r_itL, r_itF, r_iRange, r_own, r_isO, r_app, r_ext, r_put, r_callIO, r_afIO, fl_len, ft_len, r_clN, r_clC, r_tTrue, Nat.zero_add, Nat.reduceAdd, List.length_cons, List.length_nil, Int.reduceEq, h p hp]⟩)
  rw [show ps.filter (fun _ => true) = ps from List.filter_eq_self.mpr fun _ _ => rfl] at c
  simp only [r_cC, r_bV, r_bO, r_o1, r_o2, r_t2, r_asB, r_ret, r_tch, r_ofT, r_aN, r_aC, r_bN, r_bC, r_tup, r_lst, r_blt, r_if, r_tval, r_tand, r_tor, r_tnot, r_orT, r_andT, r_orTs, r_not, r_call, r_afterOk, r_afterX, r_seq, r_next, r_brk, r_cnt, r_set, r_par, r_stup, r_aug, r_drop, r_sif, r_sret, r_retnone, r_raise, bind_ok, bind_exc, bind_stk, bind_ite, bind_cond, fin_ite, r_eqI, r_neI, r_leI, r_ltI, r_geI, r_gtI, r_addI, r_iaddI, r_subI, r_mulL, r_mulR, r_divI, r_modI, r_negI, r_leP, r_ixT0, r_ixT1, r_ixT2, r_ixL0, r_ixL1, r_ixL2, r_pv, r_pvF, r_slv, r_slF, r_sv, r_so, r_rp, r_rs, r_rsN, r_rsC, r_cV, r_trB, r_trI, r_retV, r_tgM, r_tgO, r_saN, r_saC, List.getElem?_cons_zero, List.getElem?_cons_succ, List.set_cons_zero, List.set_cons_succ, Bool.cond_decide, cond_true, cond_false, Int.reduceLT, Int.reduceLE, Int.reduceNeg, Int.reduceAdd, Int.reduceSub, Int.reduceMul, Int.reducePow, and_self, decide_true, decide_false, and_true, true_and, reduceIte, if_true, if_false, Bool.not_true, Bool.not_false, r_for, r_forN, r_forC, r_iSeq, r_iRet, r_itT, r_itL, r_itF, r_iRange, r_own, r_isO, r_app, r_ext, r_put, r_callIO, r_afIO, fl_len, ft_len, r_clN, r_clC, r_tTrue, Nat.zero_add, Nat.reduceAdd, List.length_cons, List.length_nil, Int.reduceEq, isi_tt, c, ft_lst, finR (D := d5) rfl, List.map_id']
theorem sp2 : ∀ (s : Say) (k : Nat), calls (tab L) (k + 1 + dep s) 5 none [toPV s] = .ok (.v (toPV s)) []
  | .p, k => sp2t (k + 1) _ (by decide) fun p hp => by
    rw [List.mem_singleton.mp hp]; exact sp2s _ _
  | .no, k => sp2t (k + 1) _ (by decide) fun p hp => by
    rw [List.mem_singleton.mp hp]; exact sp2s _ _
  | .bin j a b, k => by
    have hd : dep (.bin j a b) = max (dep a) (dep b) + 1 := rfl
    rw [hd, ← Nat.add_assoc]
    refine sp2t (k + 1 + max (dep a) (dep b)) _ (by simp) fun p hp => ?_
    rcases List.mem_cons.mp hp with rfl | hp
    · rw [show k + 1 + max (dep a) (dep b) = (k + max (dep a) (dep b)) + 1 by omega]; exact sp2s _ _
    · rcases List.mem_cons.mp hp with rfl | hp
      · rw [show k + 1 + max (dep a) (dep b) = (k + (max (dep a) (dep b) - dep a)) + 1 + dep a by omega]; exact sp2 a _
      · rw [List.mem_singleton.mp hp, show k + 1 + max (dep a) (dep b) = (k + (max (dep a) (dep b) - dep b)) + 1 + dep b by omega]; exact sp2 b _
/-! is_saying_in -/
def it1 (q : Say × Nat) : PV := .tup [toPV q.1, .int (q.2 : Nat)]
def stk (st : List (Say × Nat)) : List PV := (st.map it1).reverse
theorem pd_it (q : Say × Nat) : PV.pd (it1 q) = some (.tuple [pdS q.1, .int (q.2 : Nat)]) := pd_tup (pds_cons (pd_S q.1) (pds_cons (by unfold PV.pd; rfl) pds_nil))
theorem pds_map {α : Type} (f : α → PV) (g : α → PyData) (h : ∀ a, PV.pd (f a) = some (g a)) : ∀ l : List α, PV.pds (l.map f) = some (l.map g)
  | [] => pds_nil
  | a :: l => pds_cons (h a) (pds_map f g h l)
theorem pd_stk (st : List (Say × Nat)) : PV.pd (.lst (stk st)) = some (.list ((st.map fun q => PyData.tuple [pdS q.1, .int (q.2 : Nat)]).reverse)) := by
  unfold PV.pd stk
  rw [← List.map_reverse, ← List.map_reverse, pds_map _ _ pd_it]
  rfl
theorem layAll_map {α : Type} (g : α → PyData) (h : ∀ a, PyData.canLay0 (g a) = true) : ∀ l : List α, PyData.canLayAll0 (l.map g) = true
  | [] => by simp only [List.map_nil, PyData.canLayAll0]
  | a :: l => by rw [List.map_cons]; simp only [PyData.canLayAll0, h a, layAll_map g h l, Bool.and_self]
theorem depAll_map {α : Type} (g : α → PyData) (m : Nat) : ∀ l : List α, (∀ a ∈ l, (g a).depth ≤ m) → PyData.depthAll (l.map g) ≤ m
  | [], _ => by simp only [List.map_nil, PyData.depthAll]; omega
  | a :: l, h => by
    rw [List.map_cons]; simp only [PyData.depthAll]
    have := h a List.mem_cons_self
    have := depAll_map g m l fun b hb => h b (List.mem_cons_of_mem _ hb)
    omega
theorem ne_stk (st : List (Say × Nat)) (h : ∀ q ∈ st, dep q.1 ≤ 61) : fNe (.lst (stk st)) (.lst []) = some (.v (.bl (!st.isEmpty))) := by
  have e1 : PV.pd (.lst []) = some (.list []) := by unfold PV.pd; rw [pds_nil]; rfl
  refine ne_of (pd_stk st) e1 ?_ (by decide +kernel) ?_
  · unfold SeqAt.shaped
    rw [← List.map_reverse]
    rw [Bool.and_eq_true]
    refine ⟨?_, decide_eq_true ?_⟩
    · simp only [PyData.canLay0]
      refine layAll_map _ (fun q => ?_) _
      simp only [PyData.canLay0, PyData.canLayAll0, lay_S, Bool.and_self]
    · simp only [PyData.depth]
      have := depAll_map (fun q : Say × Nat => PyData.tuple [pdS q.1, .int (q.2 : Nat)]) 62 st.reverse fun q hq => by
        have h1 := depth_S q.1
        have h2 := h q (List.mem_reverse.mp hq)
        simp only [PyData.depth, PyData.depthAll]
        omega
      omega
  · rw [← List.map_reverse]
    cases hr : st.reverse with
    | nil =>
      have : st = [] := List.reverse_eq_nil_iff.mp hr
      subst this
      simp only [List.map_nil, PyData.eqv, PyData.eqvAll, List.isEmpty_nil]
    | cons q l =>
      have : st ≠ [] := fun e => by subst e; cases hr
      cases st with
      | nil => exact absurd rfl this
      | cons a b => simp only [List.map_cons, PyData.eqv, PyData.eqvAll, List.isEmpty_cons]
theorem e_nil {s : Say} (h : dep s ≤ 64) : fEq (toPV s) (.tup []) = some (.v (.bl false)) := by
  refine eq_of (pd_S s) (pd_tup pds_nil) (shp_S h) (by decide +kernel) ?_
  cases s <;> (unfold pdS; simp only [PyData.eqv, PyData.eqvAll])
theorem pd_joins : PV.pd (.tup [(.str "and"), (.str "or"), (.str "to")]) = some (.tuple [.str "and", .str "or", .str "to"]) := pd_tup (pds_cons (pd_str _) (pds_cons (pd_str _) (pds_cons (pd_str _) pds_nil)))
theorem in_of {p q : PV} {d : PyData} {ds : List PyData} {b : Bool} (h1 : PV.pd p = some d) (h2 : PV.pd q = some (.tuple ds)) (s1 : SeqAt.shaped d = true) (s2 : SeqAt.shaped (.tuple ds) = true) (hb : (ds.any fun z => PyData.eqv z d) = b) : fIn p q = some (.v (.bl b)) := by
  unfold fIn; rw [datas_of h1 h2 s1 s2, ← hb]; rfl
theorem notIn_of {p q : PV} {d : PyData} {ds : List PyData} {b : Bool} (h1 : PV.pd p = some d) (h2 : PV.pd q = some (.tuple ds)) (s1 : SeqAt.shaped d = true) (s2 : SeqAt.shaped (.tuple ds) = true) (hb : (ds.any fun z => PyData.eqv z d) = b) : fNotIn p q = some (.v (.bl (!b))) := by
  unfold fNotIn; rw [datas_of h1 h2 s1 s2, ← hb]; rfl
theorem in_j (j : J) : fIn (.str (nmJ j)) (.tup [(.str "and"), (.str "or"), (.str "to")]) = some (.v (.bl true)) := by
  cases j <;> exact in_of (pd_str _) pd_joins (by decide +kernel) (by decide +kernel) (by decide +kernel)
theorem in_p : fIn (.str "p") (.tup [(.str "and"), (.str "or"), (.str "to")]) = some (.v (.bl false)) := in_of (pd_str _) pd_joins (by decide +kernel) (by decide +kernel) (by decide +kernel)
theorem in_no : fIn (.str "no") (.tup [(.str "and"), (.str "or"), (.str "to")]) = some (.v (.bl false)) := in_of (pd_str _) pd_joins (by decide +kernel) (by decide +kernel) (by decide +kernel)
theorem nin_p : fNotIn (.tup [.str "p"]) (.tup [.tup [.str "p"], .tup [.str "no"]]) = some (.v (.bl false)) := notIn_of (b := true) (pd_S .p) (pd_tup (pds_cons (pd_S .p) (pds_cons (pd_S .no) pds_nil))) (by decide +kernel) (by decide +kernel) (by decide +kernel)
theorem nin_no : fNotIn (.tup [.str "no"]) (.tup [.tup [.str "p"], .tup [.str "no"]]) = some (.v (.bl false)) := notIn_of (b := true) (pd_S .no) (pd_tup (pds_cons (pd_S .p) (pds_cons (pd_S .no) pds_nil))) (by decide +kernel) (by decide +kernel) (by decide +kernel)
theorem stk_top (q : Say × Nat) (st : List (Say × Nat)) : (stk (q :: st))[(stk (q :: st)).length - 1]? = some (it1 q) := by
  unfold stk
  rw [List.map_cons, List.reverse_cons, List.length_append]
  simp
theorem stk_drop (q : Say × Nat) (st : List (Say × Nat)) : (stk (q :: st)).dropLast = stk st := by
  unfold stk
  rw [List.map_cons, List.reverse_cons, List.dropLast_concat]
theorem stk_two (a b : Say × Nat) (st : List (Say × Nat)) : stk st ++ [it1 a, it1 b] = stk (b :: a :: st) := by
  unfold stk
  simp
def tot : List (Say × Nat) → Nat
  | [] => 0
  | q :: st => siz q.1 + tot st
theorem siz_pos (s : Say) : 1 ≤ siz s := by cases s <;> unfold siz <;> omega
theorem wh4 (Φ : CallT) (x : PV) (j : Nat) : ∀ (n : Nat) (st : List (Say × Nat)) (m : Nat) (o3 o4 : Slot), tot st ≤ n → m + tot st ≤ 300 → st.length + tot st ≤ 400 → (∀ q ∈ st, q.2 + dep q.1 ≤ 61) →
    ∃ o3' o4', sWhile (B7t1 Φ) (B7s2 Φ) (n + j + 1) [.val x, .own false (stk st), .val (.int (m : Nat)), o3, o4] = .ok .nx [.val x, .own false [], .val (.int ((m + tot st : Nat))), o3', o4']
  | n, [], m, o3, o4, _, _, _, _ => by
    refine ⟨o3, o4, ?_⟩
    rw [r_while]
    unfold B7t1
    have e : fNe (.lst []) (.lst []) = some (.v (.bl false)) := ne_stk [] (fun _ h => by cases h)
    have e0 : stk [] = [] := rfl
    rw [e0]
    simp only [r_cC, r_bV, r_bO, r_o1, r_o2, r_t2, r_asB, r_ret, r_tch, r_ofT, r_aN, r_aC, r_bN, r_bC, r_tup, r_lst, r_blt, r_if, r_tval, r_tand, r_tor, r_tnot, r_orT, r_andT, r_orTs, r_not, r_call, r_afterOk, r_afterX, r_seq, r_next, r_brk, r_cnt, r_set, r_par, r_stup, r_aug, r_drop, r_sif, r_sret, r_retnone, r_raise, bind_ok, bind_exc, bind_stk, bind_ite, bind_cond, fin_ite, r_eqI, r_neI, r_leI, r_ltI, r_geI, r_gtI, r_addI, r_iaddI, r_subI, r_mulL, r_mulR, r_divI, r_modI, r_negI, r_leP, r_ixT0, r_ixT1, r_ixT2, r_ixL0, r_ixL1, r_ixL2, r_pv, r_pvF, r_slv, r_slF, r_sv, r_so, r_rp, r_rs, r_rsN, r_rsC, r_cV, r_trB, r_trI, r_retV, r_tgM, r_tgO, r_saN, r_saC, List.getElem?_cons_zero, List.getElem?_cons_succ, List.set_cons_zero, List.set_cons_succ, Bool.cond_decide, cond_true, cond_false, Int.reduceLT, Int.reduceLE, Int.reduceNeg, Int.reduceAdd, Int.reduceSub, Int.reduceMul, Int.reducePow, and_self, decide_true, decide_false, and_true, true_and, reduceIte, if_true, if_false, Bool.not_true, Bool.not_false, r_for, r_forN, r_forC, r_iSeq, r_iRet, r_itT, r_itL, r_itF, r_iRange, r_own, r_isO, r_app, r_ext, r_put, r_callIO, r_afIO, fl_len, ft_len, r_clN, r_clC, r_tTrue, Nat.zero_add, Nat.reduceAdd, List.length_cons, List.length_nil, Int.reduceEq, e]
    simp [tot]
  | 0, q :: st, _, _, _, h, _, _, _ => by
    have := siz_pos q.1
    unfold tot at h; omega
  | n + 1, (s, d) :: st, m, o3, o4, h, h3, h4, hd => by
    have dq : d + dep s ≤ 61 := hd (s, d) List.mem_cons_self
    have sp := siz_pos s
    have hd' : ∀ q ∈ st, q.2 + dep q.1 ≤ 61 := fun q hq => hd q (List.mem_cons_of_mem _ hq)
    have t0 : tot ((s, d) :: st) = siz s + tot st := rfl
    rw [t0] at h h3 h4
    rw [List.length_cons] at h4
    have ne := ne_stk ((s, d) :: st) fun q hq => by have := hd q hq; omega
    have t : B7t1 Φ [.val x, .own false (stk ((s, d) :: st)), .val (.int (m : Nat)), o3, o4] = .ok true [.val x, .own false (stk ((s, d) :: st)), .val (.int (m : Nat)), o3, o4] := by
      unfold B7t1
      simp only [r_cC, r_bV, r_bO, r_o1, r_o2, r_t2, r_asB, r_ret, r_tch, r_ofT, r_aN, r_aC, r_bN, r_bC, r_tup, r_lst, r_blt, r_if, r_tval, r_tand, r_tor, r_tnot, r_orT, r_andT, r_orTs, r_not, r_call, r_afterOk, r_afterX, r_seq, r_next, r_brk, r_cnt, r_set, r_par, r_stup, r_aug, r_drop, r_sif, r_sret, r_retnone, r_raise, bind_ok, bind_exc, bind_stk, bind_ite, bind_cond, fin_ite, r_eqI, r_neI, r_leI, r_ltI, r_geI, r_gtI, r_addI, r_iaddI, r_subI, r_mulL, r_mulR, r_divI, r_modI, r_negI, r_leP, r_ixT0, r_ixT1, r_ixT2, r_ixL0, r_ixL1, r_ixL2, r_pv, r_pvF, r_slv, r_slF, r_sv, r_so, r_rp, r_rs, r_rsN, r_rsC, r_cV, r_trB, r_trI, r_retV, r_tgM, r_tgO, r_saN, r_saC, List.getElem?_cons_zero, List.getElem?_cons_succ, List.set_cons_zero, List.set_cons_succ, Bool.cond_decide, cond_true, cond_false, Int.reduceLT, Int.reduceLE, Int.reduceNeg, Int.reduceAdd, Int.reduceSub, Int.reduceMul, Int.reducePow, and_self, decide_true, decide_false, and_true, true_and, reduceIte, if_true, if_false, Bool.not_true, Bool.not_false, r_for, r_forN, r_forC, r_iSeq, r_iRet, r_itT, r_itL, r_itF, r_iRange, r_own, r_isO, r_app, r_ext, r_put, r_callIO, r_afIO, fl_len, ft_len, r_clN, r_clC, r_tTrue, Nat.zero_add, Nat.reduceAdd, List.length_cons, List.length_nil, Int.reduceEq, ne, List.isEmpty_cons]
    rw [show n + 1 + j + 1 = (n + j + 1) + 1 by omega, r_while, t, bind_ok, cond_true]
    have p : cPop 1 [.val x, .own false (stk ((s, d) :: st)), .val (.int (m : Nat)), o3, o4] = .ok (.v (it1 (s, d))) [.val x, .own false (stk st), .val (.int (m : Nat)), o3, o4] := by
      rw [r_pop (ps := stk ((s, d) :: st)) (o := false) rfl, stk_top, stk_drop]
      rfl
    have i1 : it1 (s, d) = .tup [toPV s, .int (d : Nat)] := rfl
    have m1 : ((m : Nat) : Int) + 1 = ((m + 1 : Nat) : Int) := by omega
    have g1 : decide ((300 : Int) < ((m + 1 : Nat) : Int)) = false := decide_eq_false (by omega)
    have g2 : decide ((60 : Int) < ((d : Nat) : Int)) = false := decide_eq_false (by have : 1 ≤ dep s := (by cases s <;> unfold dep <;> omega); omega)
    have e0 := e_nil (s := s) (by omega)
    cases s with
    | p =>
      obtain ⟨o3', o4', ih⟩ := wh4 Φ x j n st (m + 1) (.val (.tup [.str "p"])) (.val (.int (d : Nat))) (by unfold siz at h; omega) (by unfold siz at h3; omega) (by unfold siz at h4; omega) hd'
      refine ⟨o3', o4', ?_⟩
      have b : B7s2 Φ [.val x, .own false (stk ((.p, d) :: st)), .val (.int (m : Nat)), o3, o4] = .ok .nx [.val x, .own false (stk st), .val (.int ((m + 1 : Nat))), .val (.tup [.str "p"]), .val (.int (d : Nat))] := by
        unfold B7s2
        have i1 : it1 (.p, d) = .tup [.tup [.str "p"], .int (d : Nat)] := rfl
        have e0 : fEq (.tup [.str "p"]) (.tup []) = some (.v (.bl false)) := e0
        simp only [r_cC, r_bV, r_bO, r_o1, r_o2, r_t2, r_asB, r_ret, r_tch, r_ofT, r_aN, r_aC, r_bN, r_bC, r_tup, r_lst, r_blt, r_if, r_tval, r_tand, r_tor, r_tnot, r_orT, r_andT, r_orTs, r_not, r_call, r_afterOk, r_afterX, r_seq, r_next, r_brk, r_cnt, r_set, r_par, r_stup, r_aug, r_drop, r_sif, r_sret, r_retnone, r_raise, bind_ok, bind_exc, bind_stk, bind_ite, bind_cond, fin_ite, r_eqI, r_neI, r_leI, r_ltI, r_geI, r_gtI, r_addI, r_iaddI, r_subI, r_mulL, r_mulR, r_divI, r_modI, r_negI, r_leP, r_ixT0, r_ixT1, r_ixT2, r_ixL0, r_ixL1, r_ixL2, r_pv, r_pvF, r_slv, r_slF, r_sv, r_so, r_rp, r_rs, r_rsN, r_rsC, r_cV, r_trB, r_trI, r_retV, r_tgM, r_tgO, r_saN, r_saC, List.getElem?_cons_zero, List.getElem?_cons_succ, List.set_cons_zero, List.set_cons_succ, Bool.cond_decide, cond_true, cond_false, Int.reduceLT, Int.reduceLE, Int.reduceNeg, Int.reduceAdd, Int.reduceSub, Int.reduceMul, Int.reducePow, and_self, decide_true, decide_false, and_true, true_and, reduceIte, if_true, if_false, Bool.not_true, Bool.not_false, r_for, r_forN, r_forC, r_iSeq, r_iRet, r_itT, r_itL, r_itF, r_iRange, r_own, r_isO, r_app, r_ext, r_put, r_callIO, r_afIO, fl_len, ft_len, r_clN, r_clC, r_tTrue, Nat.zero_add, Nat.reduceAdd, List.length_cons, List.length_nil, Int.reduceEq, p, i1, m1, g1, g2, isi_t, isi_s, e0, in_p, nin_p]
      rw [b, bind_ok]
      dsimp only
      rw [ih, t0]
      have : siz .p = 1 := rfl
      rw [this, show m + 1 + tot st = m + (1 + tot st) by omega]
    | no =>
      obtain ⟨o3', o4', ih⟩ := wh4 Φ x j n st (m + 1) (.val (.tup [.str "no"])) (.val (.int (d : Nat))) (by unfold siz at h; omega) (by unfold siz at h3; omega) (by unfold siz at h4; omega) hd'
      refine ⟨o3', o4', ?_⟩
      have b : B7s2 Φ [.val x, .own false (stk ((.no, d) :: st)), .val (.int (m : Nat)), o3, o4] = .ok .nx [.val x, .own false (stk st), .val (.int ((m + 1 : Nat))), .val (.tup [.str "no"]), .val (.int (d : Nat))] := by
        unfold B7s2
        have i1 : it1 (.no, d) = .tup [.tup [.str "no"], .int (d : Nat)] := rfl
        have e0 : fEq (.tup [.str "no"]) (.tup []) = some (.v (.bl false)) := e0
        simp only [r_cC, r_bV, r_bO, r_o1, r_o2, r_t2, r_asB, r_ret, r_tch, r_ofT, r_aN, r_aC, r_bN, r_bC, r_tup, r_lst, r_blt, r_if, r_tval, r_tand, r_tor, r_tnot, r_orT, r_andT, r_orTs, r_not, r_call, r_afterOk, r_afterX, r_seq, r_next, r_brk, r_cnt, r_set, r_par, r_stup, r_aug, r_drop, r_sif, r_sret, r_retnone, r_raise, bind_ok, bind_exc, bind_stk, bind_ite, bind_cond, fin_ite, r_eqI, r_neI, r_leI, r_ltI, r_geI, r_gtI, r_addI, r_iaddI, r_subI, r_mulL, r_mulR, r_divI, r_modI, r_negI, r_leP, r_ixT0, r_ixT1, r_ixT2, r_ixL0, r_ixL1, r_ixL2, r_pv, r_pvF, r_slv, r_slF, r_sv, r_so, r_rp, r_rs, r_rsN, r_rsC, r_cV, r_trB, r_trI, r_retV, r_tgM, r_tgO, r_saN, r_saC, List.getElem?_cons_zero, List.getElem?_cons_succ, List.set_cons_zero, List.set_cons_succ, Bool.cond_decide, cond_true, cond_false, Int.reduceLT, Int.reduceLE, Int.reduceNeg, Int.reduceAdd, Int.reduceSub, Int.reduceMul, Int.reducePow, and_self, decide_true, decide_false, and_true, true_and, reduceIte, if_true, if_false, Bool.not_true, Bool.not_false, r_for, r_forN, r_forC, r_iSeq, r_iRet, r_itT, r_itL, r_itF, r_iRange, r_own, r_isO, r_app, r_ext, r_put, r_callIO, r_afIO, fl_len, ft_len, r_clN, r_clC, r_tTrue, Nat.zero_add, Nat.reduceAdd, List.length_cons, List.length_nil, Int.reduceEq, p, i1, m1, g1, g2, isi_t, isi_s, e0, in_no, nin_no]
      rw [b, bind_ok]
      dsimp only
      rw [ih, t0]
      have : siz .no = 1 := rfl
      rw [this, show m + 1 + tot st = m + (1 + tot st) by omega]
    | bin jj a b =>
      have sz : siz (.bin jj a b) = siz a + siz b + 1 := rfl
      have dz : dep (.bin jj a b) = max (dep a) (dep b) + 1 := rfl
      have t2 : tot ((b, d + 1) :: (a, d + 1) :: st) = siz b + (siz a + tot st) := rfl
      have := siz_pos a
      have := siz_pos b
      obtain ⟨o3', o4', ih⟩ := wh4 Φ x j n ((b, d + 1) :: (a, d + 1) :: st) (m + 1) (.val (.tup [.str (nmJ jj), toPV a, toPV b])) (.val (.int (d : Nat))) (by rw [t2]; omega) (by rw [t2]; omega) (by rw [t2, List.length_cons, List.length_cons]; omega) (fun q hq => by
        rcases List.mem_cons.mp hq with rfl | hq
        · dsimp only; omega
        · rcases List.mem_cons.mp hq with rfl | hq
          · dsimp only; omega
          · exact hd' q hq)
      refine ⟨o3', o4', ?_⟩
      have d1 : ((d : Nat) : Int) + 1 = ((d + 1 : Nat) : Int) := by omega
      have len : (stk st).length + [it1 (a, d + 1), it1 (b, d + 1)].length ≤ sizeLine := sz_le (by unfold stk; rw [List.length_reverse, List.length_map]; simp; omega)
      have bd : B7s2 Φ [.val x, .own false (stk ((.bin jj a b, d) :: st)), .val (.int (m : Nat)), o3, o4] = .ok .nx [.val x, .own false (stk ((b, d + 1) :: (a, d + 1) :: st)), .val (.int ((m + 1 : Nat))), .val (.tup [.str (nmJ jj), toPV a, toPV b]), .val (.int (d : Nat))] := by
        unfold B7s2
        have i1 : it1 (.bin jj a b, d) = .tup [.tup [.str (nmJ jj), toPV a, toPV b], .int (d : Nat)] := rfl
        have e0 : fEq (.tup [.str (nmJ jj), toPV a, toPV b]) (.tup []) = some (.v (.bl false)) := e0
        have ia : PV.tup [toPV a, .int ((d + 1 : Nat) : Int)] = it1 (a, d + 1) := rfl
        have ib : PV.tup [toPV b, .int ((d + 1 : Nat) : Int)] = it1 (b, d + 1) := rfl
        rw [← stk_two]
        simp only [r_cC, r_bV, r_bO, r_o1, r_o2, r_t2, r_asB, r_ret, r_tch, r_ofT, r_aN, r_aC, r_bN, r_bC, r_tup, r_lst, r_blt, r_if, r_tval, r_tand, r_tor, r_tnot, r_orT, r_andT, r_orTs, r_not, r_call, r_afterOk, r_afterX, r_seq, r_next, r_brk, r_cnt, r_set, r_par, r_stup, r_aug, r_drop, r_sif, r_sret, r_retnone, r_raise, bind_ok, bind_exc, bind_stk, bind_ite, bind_cond, fin_ite, r_eqI, r_neI, r_leI, r_ltI, r_geI, r_gtI, r_addI, r_iaddI, r_subI, r_mulL, r_mulR, r_divI, r_modI, r_negI, r_leP, r_ixT0, r_ixT1, r_ixT2, r_ixL0, r_ixL1, r_ixL2, r_pv, r_pvF, r_slv, r_slF, r_sv, r_so, r_rp, r_rs, r_rsN, r_rsC, r_cV, r_trB, r_trI, r_retV, r_tgM, r_tgO, r_saN, r_saC, List.getElem?_cons_zero, List.getElem?_cons_succ, List.set_cons_zero, List.set_cons_succ, Bool.cond_decide, cond_true, cond_false, Int.reduceLT, Int.reduceLE, Int.reduceNeg, Int.reduceAdd, Int.reduceSub, Int.reduceMul, Int.reducePow, and_self, decide_true, decide_false, and_true, true_and, reduceIte, if_true, if_false, Bool.not_true, Bool.not_false, r_for, r_forN, r_forC, r_iSeq, r_iRet, r_itT, r_itL, r_itF, r_iRange, r_own, r_isO, r_app, r_ext, r_put, r_callIO, r_afIO, fl_len, ft_len, r_clN, r_clC, r_tTrue, Nat.zero_add, Nat.reduceAdd, List.length_cons, List.length_nil, Int.reduceEq, p, i1, m1, g1, g2, isi_t, isi_s, e0, in_j, d1, ia, ib]
        exact if_pos len
      rw [bd, bind_ok]
      dsimp only
      rw [ih, t0, t2, sz, show m + 1 + (siz b + (siz a + tot st)) = m + (siz a + siz b + 1 + tot st) by omega]
end Hd


set_option Elab.async false
set_option linter.all false
set_option maxRecDepth 100000
set_option maxHeartbeats 800000
namespace Hd
open PySem PySem.Spec PyProof.Rows L2 EV MA
theorem sp4 (k : Nat) (s : Say) (h1 : siz s ≤ 300) (h2 : dep s ≤ 60) : calls (tab L) (k + 1) 7 none [toPV s] = .ok (.v (.bl true)) [] := by
  have t1 : tot [(s, 1)] = siz s := Nat.add_zero _
  obtain ⟨o3, o4, w⟩ := wh4 (calls (tab L) k) (toPV s) (FUEL - 301) 300 [(s, 1)] 0 .emp .emp (by rw [t1]; omega) (by rw [t1]; omega) (by rw [t1]; simp; omega) (fun q hq => by rw [List.mem_singleton.mp hq]; dsimp only; omega)
  have w : sWhile (B7t1 (calls (tab L) k)) (B7s2 (calls (tab L) k)) FUEL [.val (toPV s), .own false [.tup [toPV s, .int 1]], .val (.int 0), .emp, .emp] = _ := w
  rw [call7, run_body (D := d7) (B := B7) rfl rfl rfl]; show d7.fin (B7 _ [.val (toPV s), .emp, .emp, .emp, .emp]) = _; unfold B7
  simp only [r_cC, r_bV, r_bO, r_o1, r_o2, r_t2, r_asB, r_ret, r_tch, r_ofT, r_aN, r_aC, r_bN, r_bC, r_tup, r_lst, r_blt, r_if, r_tval, r_tand, r_tor, r_tnot, r_orT, r_andT, r_orTs, r_not, r_call, r_afterOk, r_afterX, r_seq, r_next, r_brk, r_cnt, r_set, r_par, r_stup, r_aug, r_drop, r_sif, r_sret, r_retnone, r_raise, bind_ok, bind_exc, bind_stk, bind_ite, bind_cond, fin_ite, r_eqI, r_neI, r_leI, r_ltI, r_geI, r_gtI, r_addI, r_iaddI, r_subI, r_mulL, r_mulR, r_divI, r_modI, r_negI, r_leP, r_ixT0, r_ixT1, r_ixT2, r_ixL0, r_ixL1, r_ixL2, r_pv, r_pvF, r_slv, r_slF, r_sv, r_so, r_rp, r_rs, r_rsN, r_rsC, r_cV, r_trB, r_trI, r_retV, r_tgM, r_tgO, r_saN, r_saC, List.getElem?_cons_zero, List.getElem?_cons_succ, List.set_cons_zero, List.set_cons_succ, Bool.cond_decide, cond_true, cond_false, Int.reduceLT, Int.reduceLE, Int.reduceNeg, Int.reduceAdd, Int.reduceSub, Int.reduceMul, Int.reducePow, and_self, decide_true, decide_false, and_true, true_and, reduceIte, if_true, if_false, Bool.not_true, Bool.not_false, r_for, r_forN, r_forC, r_iSeq, r_iRet, r_itT, r_itL, r_itF, r_iRange, r_own, r_isO, r_app, r_ext, r_put, r_callIO, r_afIO, fl_len, ft_len, r_clN, r_clC, r_tTrue, Nat.zero_add, Nat.reduceAdd, List.length_cons, List.length_nil, Int.reduceEq, w, finR (D := d7) rfl]
theorem sp15' (k : Nat) (s : Say) (x : Int) (h : dep s ≤ 60) (hx : -1 ≤ x) : calls (tab L) (k + 65) 18 none [toPV s, .int x] = .ok (.v (.int (valZ s x))) [] := by
  rw [show k + 65 = (k + (60 - dep s)) + 5 + dep s by omega]
  exact sp15 s _ x (by omega) hx
theorem sp2' (k : Nat) (s : Say) (h : dep s ≤ 60) : calls (tab L) (k + 61) 5 none [toPV s] = .ok (.v (toPV s)) [] := by
  rw [show k + 61 = (k + (60 - dep s)) + 1 + dep s by omega]
  exact sp2 s _
theorem sp5 (k : Nat) (s : Say) (h1 : siz s ≤ 300) (h2 : dep s ≤ 60) : calls (tab L) (k + 62) 8 none [toPV s] = .ok (.v (toPV s)) [] := by
  show calls (tab L) ((k + 61) + 1) 8 none _ = _
  rw [call8, run_body (D := d8) (B := B8) rfl rfl rfl]; show d8.fin (B8 _ [.val (toPV s), .emp]) = _; unfold B8
  have e : calls (tab L) (k + 61) 7 none [toPV s] = .ok (.v (.bl true)) [] := sp4 (k + 60) s h1 h2
  simp only [r_cC, r_bV, r_bO, r_o1, r_o2, r_t2, r_asB, r_ret, r_tch, r_ofT, r_aN, r_aC, r_bN, r_bC, r_tup, r_lst, r_blt, r_if, r_tval, r_tand, r_tor, r_tnot, r_orT, r_andT, r_orTs, r_not, r_call, r_afterOk, r_afterX, r_seq, r_next, r_brk, r_cnt, r_set, r_par, r_stup, r_aug, r_drop, r_sif, r_sret, r_retnone, r_raise, bind_ok, bind_exc, bind_stk, bind_ite, bind_cond, fin_ite, r_eqI, r_neI, r_leI, r_ltI, r_geI, r_gtI, r_addI, r_iaddI, r_subI, r_mulL, r_mulR, r_divI, r_modI, r_negI, r_leP, r_ixT0, r_ixT1, r_ixT2, r_ixL0, r_ixL1, r_ixL2, r_pv, r_pvF, r_slv, r_slF, r_sv, r_so, r_rp, r_rs, r_rsN, r_rsC, r_cV, r_trB, r_trI, r_retV, r_tgM, r_tgO, r_saN, r_saC, List.getElem?_cons_zero, List.getElem?_cons_succ, List.set_cons_zero, List.set_cons_succ, Bool.cond_decide, cond_true, cond_false, Int.reduceLT, Int.reduceLE, Int.reduceNeg, Int.reduceAdd, Int.reduceSub, Int.reduceMul, Int.reducePow, and_self, decide_true, decide_false, and_true, true_and, reduceIte, if_true, if_false, Bool.not_true, Bool.not_false, r_for, r_forN, r_forC, r_iSeq, r_iRet, r_itT, r_itL, r_itF, r_iRange, r_own, r_isO, r_app, r_ext, r_put, r_callIO, r_afIO, fl_len, ft_len, r_clN, r_clC, r_tTrue, Nat.zero_add, Nat.reduceAdd, List.length_cons, List.length_nil, Int.reduceEq, sp2' k s h2, e, finR (D := d8) rfl]
theorem sp17 (k : Nat) (s : Say) (h1 : siz s ≤ 300) (h2 : dep s ≤ 60) : calls (tab L) (k + 66) 20 none [toPV s] = .ok (.v (.int (valZ s 1))) [] := by
  show calls (tab L) ((k + 65) + 1) 20 none _ = _
  rw [call20, run_body (D := d20) (B := B20) rfl rfl rfl]; show d20.fin (B20 _ [.val (toPV s)]) = _; unfold B20
  have e : calls (tab L) (k + 65) 8 none [toPV s] = .ok (.v (toPV s)) [] := sp5 (k + 3) s h1 h2
  simp only [r_cC, r_bV, r_bO, r_o1, r_o2, r_t2, r_asB, r_ret, r_tch, r_ofT, r_aN, r_aC, r_bN, r_bC, r_tup, r_lst, r_blt, r_if, r_tval, r_tand, r_tor, r_tnot, r_orT, r_andT, r_orTs, r_not, r_call, r_afterOk, r_afterX, r_seq, r_next, r_brk, r_cnt, r_set, r_par, r_stup, r_aug, r_drop, r_sif, r_sret, r_retnone, r_raise, bind_ok, bind_exc, bind_stk, bind_ite, bind_cond, fin_ite, r_eqI, r_neI, r_leI, r_ltI, r_geI, r_gtI, r_addI, r_iaddI, r_subI, r_mulL, r_mulR, r_divI, r_modI, r_negI, r_leP, r_ixT0, r_ixT1, r_ixT2, r_ixL0, r_ixL1, r_ixL2, r_pv, r_pvF, r_slv, r_slF, r_sv, r_so, r_rp, r_rs, r_rsN, r_rsC, r_cV, r_trB, r_trI, r_retV, r_tgM, r_tgO, r_saN, r_saC, List.getElem?_cons_zero, List.getElem?_cons_succ, List.set_cons_zero, List.set_cons_succ, Bool.cond_decide, cond_true, cond_false, Int.reduceLT, Int.reduceLE, Int.reduceNeg, Int.reduceAdd, Int.reduceSub, Int.reduceMul, Int.reducePow, and_self, decide_true, decide_false, and_true, true_and, reduceIte, if_true, if_false, Bool.not_true, Bool.not_false, r_for, r_forN, r_forC, r_iSeq, r_iRet, r_itT, r_itL, r_itF, r_iRange, r_own, r_isO, r_app, r_ext, r_put, r_callIO, r_afIO, fl_len, ft_len, r_clN, r_clC, r_tTrue, Nat.zero_add, Nat.reduceAdd, List.length_cons, List.length_nil, Int.reduceEq, sp15' k s 1 h2 (by omega), e, finR (D := d20) rfl]
def rows (f : Nat → PV) (c : Nat) : List PV := (List.range c).map f
theorem rows_len (f : Nat → PV) (c : Nat) : (rows f c).length = c := by unfold rows; simp
theorem rows_get (f : Nat → PV) {c i : Nat} (h : i < c) : (rows f c)[i]? = some (f i) := by unfold rows; rw [List.getElem?_map, List.getElem?_range h]; rfl
theorem rows_next (f : Nat → PV) (c : Nat) : rows f c ++ [f c] = rows f (c + 1) := by unfold rows; rw [List.range_succ, List.map_append]; rfl
theorem rows_ix (f : Nat → PV) {c : Nat} {i : Int} {m : Nat} (hi : i = (m : Int)) (h : m < c) : fIx (.lst (rows f c)) (.int i) = some (.v (f m)) := by
  rw [hi, ix_lst, rows_get f h]; rfl
/-- a loop that adds rows until there are more than P -/
theorem wh_rows {t : TDen} {s : SDen} (f : Nat → PV) (P : Nat) (st : Nat → Slot → Ev) (ht : ∀ c o, t (st c o) = .ok (decide (c ≤ P)) (st c o)) (hs : ∀ c o, 3 ≤ c → c ≤ P → ∃ o', s (st c o) = .ok .nx (st (c + 1) o')) (j : Nat) :
    ∀ (n c : Nat) (o : Slot), 3 ≤ c → P + 1 - c ≤ n → ∃ o', sWhile t s (n + j + 1) (st c o) = .ok .nx (st (max c (P + 1)) o')
  | 0, c, o, h3, h => by
    refine ⟨o, ?_⟩
    rw [r_while, ht, bind_ok, decide_eq_false (by omega), cond_false, show max c (P + 1) = c by omega]
  | n + 1, c, o, h3, h => by
    rw [show n + 1 + j + 1 = (n + j + 1) + 1 by omega]
    by_cases hc : c ≤ P
    · obtain ⟨o', e⟩ := hs c o h3 hc
      obtain ⟨o2, e2⟩ := wh_rows f P st ht hs j n (c + 1) o' (by omega) (by omega)
      refine ⟨o2, ?_⟩
      rw [r_while, ht, bind_ok, decide_eq_true hc, cond_true, e, bind_ok]
      dsimp only
      rw [e2, show max (c + 1) (P + 1) = max c (P + 1) by omega]
    · refine ⟨o, ?_⟩
      rw [r_while, ht, bind_ok, decide_eq_false hc, cond_false, show max c (P + 1) = c by omega]
theorem rung_odd {c : Nat} (h3 : 3 ≤ c) (h : c % 2 = 1) : rungS c = .bin .or (rungS (c - 2)) (rungS (c - 1)) := by
  obtain ⟨n, rfl⟩ : ∃ n, c = n + 3 := ⟨c - 3, by omega⟩
  show (if n % 2 = 0 then _ else _) = _
  rw [if_pos (by omega)]; rfl
theorem rung_even {c : Nat} (h3 : 3 ≤ c) (h : c % 2 = 0) : rungS c = .bin .to (rungS (c - 1)) (rungS (c - 3)) := by
  obtain ⟨n, rfl⟩ : ∃ n, c = n + 3 := ⟨c - 3, by omega⟩
  show (if n % 2 = 0 then _ else _) = _
  rw [if_neg (by omega)]; rfl
end Hd


set_option Elab.async false
set_option linter.all false
set_option maxRecDepth 100000
set_option maxHeartbeats 800000
namespace Hd
open PySem PySem.Spec PyProof.Rows L2 EV MA
theorem siz_bin (j : J) (a b : Say) : siz (.bin j a b) = siz a + siz b + 1 := rfl
def yesS : Say := .bin .to .no .no
theorem siz_rung (P : Nat) (h : P ≤ 12) : siz (rungS P) ≤ 300 := by
  have : ∀ i, i ≤ 12 → siz (rungS i) ≤ 300 := by decide +kernel
  exact this P h
theorem dep_rung (P : Nat) (h : P ≤ 12) : dep (rungS P) ≤ 60 := by
  have : ∀ i, i ≤ 12 → dep (rungS i) ≤ 60 := by decide +kernel
  exact this P h
/-- shut, for all places -/
def clZ (v : Int) : Bool := if v = -1 then true else shutZ v.toNat
def bl26 (v : Int) (p : PV) : PV := match p with
  | .int x => .bl (belowZ v (if v = -1 then -1 else valZ (rungS v.toNat) x))
  | p => p
end Hd


set_option Elab.async false
set_option linter.all false
set_option maxRecDepth 100000
set_option maxHeartbeats 800000
namespace Hd
open PySem PySem.Spec PyProof.Rows L2 EV MA
/-- a test of ints -/
def qI (q : Int → Bool) (p : PV) : Bool := match p with
  | .int v => q v
  | _ => false
theorem range_mem {lo : Int} {n : Nat} {p : PV} (h : p ∈ rangeL lo n) : ∃ v : Int, p = .int v ∧ lo ≤ v ∧ v < lo + n := by
  unfold rangeL at h
  obtain ⟨i, hi, rfl⟩ := List.mem_map.mp h
  have := List.mem_range.mp hi
  exact ⟨_, rfl, by omega, by omega⟩
theorem range_len (lo : Int) (n : Nat) : (rangeL lo n).length = n := by unfold rangeL; simp
theorem r_range2 (i j : Int) (h : -(2 ^ 62) ≤ i ∧ i < 2 ^ 62 ∧ -(2 ^ 62) ≤ j ∧ j < 2 ^ 62 ∧ j - i ≤ 2 ^ 24) : rangeOf [.int i, .int j] = some (rangeL i (j - i).toNat) := by
  show (if _ then _ else _) = _
  exact if_pos h
end Hd


set_option Elab.async false
set_option linter.all false
set_option maxRecDepth 100000
set_option maxHeartbeats 1600000
namespace Hd
open PySem PySem.Spec PyProof.Rows L2 EV MA
theorem fi_int (x : Int) : fInt [.int x] = some (.v (.int x)) := rfl
theorem fi_bl (b : Bool) : fInt [.bl b] = some (.v (.int (if b then 1 else 0))) := rfl
theorem fa_int (x : Int) : fAbs [.int x] = some (.v (.int (if x < 0 then -x else x))) := rfl
/-- the source of draws: a great number, a seed, a count -/
def TIN (a b n : Int) : List PV := [.int a, .int b, .int n]
structure Tin (B : Int) (a b n : Int) : Prop where
  a0 : 0 ≤ a
  b0 : 0 ≤ b
  b1 : b < 2 ^ 62
  n0 : 0 ≤ n
  n1 : n ≤ B
theorem tix0 (a b n : Int) : L2.ixN (TIN a b n).length 0 = some 0 := rfl
theorem tix2 (a b n : Int) : L2.ixN (TIN a b n).length 2 = some 2 := rfl
theorem put0 (a b n x : Int) : (TIN a b n).set 0 (.int x) = TIN x b n := rfl
theorem put2 (a b n x : Int) : (TIN a b n).set 2 (.int x) = TIN a b x := rfl
theorem tin0 (a b n : Int) : fIx (.lst (TIN a b n)) (.int 0) = some (.v (.int a)) := r_ixL0 _ _
theorem tin1 (a b n : Int) : fIx (.lst (TIN a b n)) (.int 1) = some (.v (.int b)) := r_ixL1 _ _ _
theorem tin2 (a b n : Int) : fIx (.lst (TIN a b n)) (.int 2) = some (.v (.int n)) := r_ixL2 _ _ _ _
theorem finIO {D : FD} (hio : D.io = true) {r : Val} {qs : List PV} {ε : Ev} : D.fin (.ok (.rt r) (.own true qs :: ε)) = .ok r qs := by
  unfold FD.fin ioOf; rw [hio]; rfl
theorem sp36 (k : Nat) {B a b n m : Int} (t : Tin B a b n) (hB : B ≤ 1000000) (h0 : 0 < m) (h1 : m < 1073741824) :
    ∃ d a' n', calls (tab L) (k + 1) 41 (some (TIN a b n)) [.int m] = .ok (.v (.int d)) (TIN a' b n') ∧ 0 ≤ d ∧ d < m ∧ Tin (B + 1) a' b n' := by
  obtain ⟨a0, b0, b1, n0, n1⟩ := t
  by_cases ha : 0 < a
  · refine ⟨a % m, a / m, n, ?_, Int.emod_nonneg _ (by omega), Int.emod_lt_of_pos _ h0, ⟨Int.ediv_nonneg a0 (by omega), b0, b1, n0, by omega⟩⟩
    rw [call41, run_bodyIO (D := d41) (B := B41) rfl rfl rfl]; show d41.fin (B41 _ [.own true (TIN a b n), .val (.int m), .emp, .emp, .emp, .emp]) = _; unfold B41
    have e1 := r_modI a m h0
    have e2 := r_divI a m ⟨h0, h1⟩
    simp only [r_cC, r_bV, r_bO, r_o1, r_o2, r_t2, r_asB, r_ret, r_tch, r_ofT, r_aN, r_aC, r_bN, r_bC, r_tup, r_lst, r_blt, r_if, r_tval, r_tand, r_tor, r_tnot, r_orT, r_andT, r_orTs, r_not, r_call, r_afterOk, r_afterX, r_seq, r_next, r_brk, r_cnt, r_set, r_par, r_stup, r_aug, r_drop, r_sif, r_sret, r_retnone, r_raise, bind_ok, bind_exc, bind_stk, bind_ite, bind_cond, fin_ite, r_eqI, r_neI, r_leI, r_ltI, r_geI, r_gtI, r_addI, r_iaddI, r_subI, r_mulL, r_mulR, r_divI, r_modI, r_negI, r_leP, r_ixT0, r_ixT1, r_ixT2, r_ixL0, r_ixL1, r_ixL2, r_pv, r_pvF, r_slv, r_slF, r_sv, r_so, r_rp, r_rs, r_rsN, r_rsC, r_cV, r_trB, r_trI, r_retV, r_tgM, r_tgO, r_saN, r_saC, List.getElem?_cons_zero, List.getElem?_cons_succ, List.set_cons_zero, List.set_cons_succ, Bool.cond_decide, cond_true, cond_false, Int.reduceLT, Int.reduceLE, Int.reduceNeg, Int.reduceAdd, Int.reduceSub, Int.reduceMul, Int.reducePow, and_self, decide_true, decide_false, and_true, true_and, reduceIte, if_true, if_false, Bool.not_true, Bool.not_false, r_for, r_forN, r_forC, r_iSeq, r_iRet, r_itT, r_itL, r_itF, r_iRange, r_own, r_isO, r_app, r_ext, r_put, r_callIO, r_afIO, fl_len, ft_len, r_clN, r_clC, r_tTrue, Nat.zero_add, Nat.reduceAdd, List.length_cons, List.length_nil, Int.reduceEq, tin0, decide_eq_true ha, fi_int, e1, e2, tix0, put0, finIO (D := d41) rfl]
  · have ga : decide ((0 : Int) < a) = false := decide_eq_false ha
    have p1 := r_mulL 48271 (n + 1) (by omega)
    have p2 := r_mulR (b + 48271 * (n + 1)) (39373 + (n + 1)) (by omega)
    generalize hx : (b + 48271 * (n + 1)) * (39373 + (n + 1)) = X at p2
    have p3 := r_mulR (X % 2147483647 + (n + 1) + b / 1000003) (X % 2147483647 % 40009 + 7) (by omega)
    generalize hy : (X % 2147483647 + (n + 1) + b / 1000003) * (X % 2147483647 % 40009 + 7) = Z at p3
    have p4 := r_mulR (Z % 2147483629) 48271 (by omega)
    have e1 := r_modI ((Z % 2147483629 * 48271 + X % 2147483647) % 2147483587 / 64) m h0
    refine ⟨(Z % 2147483629 * 48271 + X % 2147483647) % 2147483587 / 64 % m, a, n + 1, ?_, Int.emod_nonneg _ (by omega), Int.emod_lt_of_pos _ h0, ⟨a0, b0, b1, by omega, by omega⟩⟩
    rw [call41, run_bodyIO (D := d41) (B := B41) rfl rfl rfl]; show d41.fin (B41 _ [.own true (TIN a b n), .val (.int m), .emp, .emp, .emp, .emp]) = _; unfold B41
    simp only [r_cC, r_bV, r_bO, r_o1, r_o2, r_t2, r_asB, r_ret, r_tch, r_ofT, r_aN, r_aC, r_bN, r_bC, r_tup, r_lst, r_blt, r_if, r_tval, r_tand, r_tor, r_tnot, r_orT, r_andT, r_orTs, r_not, r_call, r_afterOk, r_afterX, r_seq, r_next, r_brk, r_cnt, r_set, r_par, r_stup, r_aug, r_drop, r_sif, r_sret, r_retnone, r_raise, bind_ok, bind_exc, bind_stk, bind_ite, bind_cond, fin_ite, r_eqI, r_neI, r_leI, r_ltI, r_geI, r_gtI, r_addI, r_iaddI, r_subI, r_mulL, r_mulR, r_divI, r_modI, r_negI, r_leP, r_ixT0, r_ixT1, r_ixT2, r_ixL0, r_ixL1, r_ixL2, r_pv, r_pvF, r_slv, r_slF, r_sv, r_so, r_rp, r_rs, r_rsN, r_rsC, r_cV, r_trB, r_trI, r_retV, r_tgM, r_tgO, r_saN, r_saC, List.getElem?_cons_zero, List.getElem?_cons_succ, List.set_cons_zero, List.set_cons_succ, Bool.cond_decide, cond_true, cond_false, Int.reduceLT, Int.reduceLE, Int.reduceNeg, Int.reduceAdd, Int.reduceSub, Int.reduceMul, Int.reducePow, and_self, decide_true, decide_false, and_true, true_and, reduceIte, if_true, if_false, Bool.not_true, Bool.not_false, r_for, r_forN, r_forC, r_iSeq, r_iRet, r_itT, r_itL, r_itF, r_iRange, r_own, r_isO, r_app, r_ext, r_put, r_callIO, r_afIO, fl_len, ft_len, r_clN, r_clC, r_tTrue, Nat.zero_add, Nat.reduceAdd, List.length_cons, List.length_nil, Int.reduceEq, tin0, tin1, tin2, ga, fi_int, p1, p2, p3, p4, e1, tix2, put2, finIO (D := d41) rfl]
end Hd


set_option Elab.async false
set_option linter.all false
set_option maxRecDepth 100000
set_option maxHeartbeats 1600000
namespace Hd
open PySem PySem.Spec PyProof.Rows L2 EV MA
theorem sp38 (k : Nat) {B a b n : Int} (gs : List PV) (t : Tin B a b n) (hB : B ≤ 1000000) (h0 : 0 < gs.length) (h1 : gs.length < 1000000) :
    ∃ p a' n', p ∈ gs ∧ calls (tab L) (k + 2) 43 (some (TIN a b n)) [.lst gs] = .ok (.v p) (TIN a' b n') ∧ Tin (B + 1) a' b n' := by
  obtain ⟨d, a', n', e, d0, d1, t'⟩ := sp36 k (m := (gs.length : Nat)) t hB (by omega) (by omega)
  have hd : d.toNat < gs.length := by omega
  refine ⟨gs[d.toNat], a', n', List.getElem_mem hd, ?_, t'⟩
  have ix : fIx (.lst gs) (.int d) = some (.v gs[d.toNat]) := by
    have := ix_lst gs d.toNat
    rw [show ((d.toNat : Nat) : Int) = d by omega, List.getElem?_eq_getElem hd] at this
    exact this
  show calls (tab L) ((k + 1) + 1) 43 _ _ = _
  rw [call43, run_bodyIO (D := d43) (B := B43) rfl rfl rfl]; show d43.fin (B43 _ [.own true (TIN a b n), .val (.lst gs)]) = _; unfold B43
  simp only [r_cC, r_bV, r_bO, r_o1, r_o2, r_t2, r_asB, r_ret, r_tch, r_ofT, r_aN, r_aC, r_bN, r_bC, r_tup, r_lst, r_blt, r_if, r_tval, r_tand, r_tor, r_tnot, r_orT, r_andT, r_orTs, r_not, r_call, r_afterOk, r_afterX, r_seq, r_next, r_brk, r_cnt, r_set, r_par, r_stup, r_aug, r_drop, r_sif, r_sret, r_retnone, r_raise, bind_ok, bind_exc, bind_stk, bind_ite, bind_cond, fin_ite, r_eqI, r_neI, r_leI, r_ltI, r_geI, r_gtI, r_addI, r_iaddI, r_subI, r_mulL, r_mulR, r_divI, r_modI, r_negI, r_leP, r_ixT0, r_ixT1, r_ixT2, r_ixL0, r_ixL1, r_ixL2, r_pv, r_pvF, r_slv, r_slF, r_sv, r_so, r_rp, r_rs, r_rsN, r_rsC, r_cV, r_trB, r_trI, r_retV, r_tgM, r_tgO, r_saN, r_saC, List.getElem?_cons_zero, List.getElem?_cons_succ, List.set_cons_zero, List.set_cons_succ, Bool.cond_decide, cond_true, cond_false, Int.reduceLT, Int.reduceLE, Int.reduceNeg, Int.reduceAdd, Int.reduceSub, Int.reduceMul, Int.reducePow, and_self, decide_true, decide_false, and_true, true_and, reduceIte, if_true, if_false, Bool.not_true, Bool.not_false, r_for, r_forN, r_forC, r_iSeq, r_iRet, r_itT, r_itL, r_itF, r_iRange, r_own, r_isO, r_app, r_ext, r_put, r_callIO, r_afIO, fl_len, ft_len, r_clN, r_clC, r_tTrue, Nat.zero_add, Nat.reduceAdd, List.length_cons, List.length_nil, Int.reduceEq, e, ix, finIO (D := d43) rfl]
def leaves : List Say := [.p, .p, .no, .bin .to .p .no]
def cS : Nat → Int
  | 0 => 1
  | d + 1 => 2 * cS d + 2
def zS : Nat → Nat
  | 0 => 3
  | d + 1 => 2 * zS d + 1
theorem cS_pos : ∀ d, 1 ≤ cS d
  | 0 => by decide
  | d + 1 => by have := cS_pos d; show 1 ≤ 2 * cS d + 2; omega
theorem zS_ge : ∀ d, 3 ≤ zS d
  | 0 => by decide
  | d + 1 => by have := zS_ge d; show 3 ≤ 2 * zS d + 1; omega
theorem leaf_ok {p : PV} (h : p ∈ [PV.tup [.str "p"], .tup [.str "p"], .tup [.str "no"], .tup [.str "to", .tup [.str "p"], .tup [.str "no"]]]) : ∃ s, p = toPV s ∧ siz s ≤ 3 ∧ dep s ≤ 2 := by
  simp only [List.mem_cons, List.not_mem_nil, or_false] at h
  rcases h with rfl | rfl | rfl | rfl
  · exact ⟨.p, rfl, by decide, by decide⟩
  · exact ⟨.p, rfl, by decide, by decide⟩
  · exact ⟨.no, rfl, by decide, by decide⟩
  · exact ⟨.bin .to .p .no, rfl, by decide, by decide⟩
theorem word_ok {p : PV} (h : p ∈ [PV.str "and", .str "or", .str "to", .str "to", .str "to"]) : ∃ j, p = .str (nmJ j) := by
  simp only [List.mem_cons, List.not_mem_nil, or_false] at h
  rcases h with rfl | rfl | rfl | rfl | rfl
  · exact ⟨.and, rfl⟩
  · exact ⟨.or, rfl⟩
  · exact ⟨.to, rfl⟩
  · exact ⟨.to, rfl⟩
  · exact ⟨.to, rfl⟩
theorem sp41 : ∀ (deep k : Nat) {B a b n : Int}, Tin B a b n → B + cS deep ≤ 1000000 →
    ∃ s a' n', calls (tab L) (k + 3 + deep) 46 (some (TIN a b n)) [.int (deep : Nat)] = .ok (.v (toPV s)) (TIN a' b n') ∧ siz s ≤ zS deep ∧ dep s ≤ deep + 2 ∧ Tin (B + cS deep) a' b n'
  | 0, k, B, a, b, n, t, hB => by
    have c0 : cS 0 = 1 := rfl
    obtain ⟨p, a', n', hp, e, t'⟩ := sp38 k [PV.tup [.str "p"], .tup [.str "p"], .tup [.str "no"], .tup [.str "to", .tup [.str "p"], .tup [.str "no"]]] t (by omega) (by simp) (by simp)
    obtain ⟨s, rfl, h1, h2⟩ := leaf_ok hp
    refine ⟨s, a', n', ?_, h1, h2, t'⟩
    show calls (tab L) ((k + 2) + 1) 46 _ _ = _
    rw [call46, run_bodyIO (D := d46) (B := B46) rfl rfl rfl]; show d46.fin (B46 _ [.own true (TIN a b n), .val (.int ((0 : Nat) : Int)), .emp]) = _; unfold B46
    have z : decide (((0 : Nat) : Int) = 0) = true := rfl
    simp only [r_cC, r_bV, r_bO, r_o1, r_o2, r_t2, r_asB, r_ret, r_tch, r_ofT, r_aN, r_aC, r_bN, r_bC, r_tup, r_lst, r_blt, r_if, r_tval, r_tand, r_tor, r_tnot, r_orT, r_andT, r_orTs, r_not, r_call, r_afterOk, r_afterX, r_seq, r_next, r_brk, r_cnt, r_set, r_par, r_stup, r_aug, r_drop, r_sif, r_sret, r_retnone, r_raise, bind_ok, bind_exc, bind_stk, bind_ite, bind_cond, fin_ite, r_eqI, r_neI, r_leI, r_ltI, r_geI, r_gtI, r_addI, r_iaddI, r_subI, r_mulL, r_mulR, r_divI, r_modI, r_negI, r_leP, r_ixT0, r_ixT1, r_ixT2, r_ixL0, r_ixL1, r_ixL2, r_pv, r_pvF, r_slv, r_slF, r_sv, r_so, r_rp, r_rs, r_rsN, r_rsC, r_cV, r_trB, r_trI, r_retV, r_tgM, r_tgO, r_saN, r_saC, List.getElem?_cons_zero, List.getElem?_cons_succ, List.set_cons_zero, List.set_cons_succ, Bool.cond_decide, cond_true, cond_false, Int.reduceLT, Int.reduceLE, Int.reduceNeg, Int.reduceAdd, Int.reduceSub, Int.reduceMul, Int.reducePow, and_self, decide_true, decide_false, and_true, true_and, reduceIte, if_true, if_false, Bool.not_true, Bool.not_false, r_for, r_forN, r_forC, r_iSeq, r_iRet, r_itT, r_itL, r_itF, r_iRange, r_own, r_isO, r_app, r_ext, r_put, r_callIO, r_afIO, fl_len, ft_len, r_clN, r_clC, r_tTrue, Nat.zero_add, Nat.reduceAdd, List.length_cons, List.length_nil, Int.reduceEq, z, e, finIO (D := d46) rfl]
  | d + 1, k, B, a, b, n, t, hB => by
    have c1 : cS (d + 1) = 2 * cS d + 2 := rfl
    have cp := cS_pos d
    have z1 : zS (d + 1) = 2 * zS d + 1 := rfl
    have zg := zS_ge d
    rw [c1] at hB ⊢
    obtain ⟨v, a1, n1, e1, v0, v5, t1⟩ := sp36 (k + 2 + d) (m := 5) t (by omega) (by omega) (by omega)
    have z : decide (((d + 1 : Nat) : Int) = 0) = false := decide_eq_false (by omega)
    rw [show k + 3 + (d + 1) = (k + 2 + d + 1) + 1 by omega]
    by_cases hv : v = 0
    · obtain ⟨p, a', n', hp, e, t'⟩ := sp38 (k + 1 + d) [PV.tup [.str "p"], .tup [.str "p"], .tup [.str "no"], .tup [.str "to", .tup [.str "p"], .tup [.str "no"]]] t1 (by omega) (by simp) (by simp)
      obtain ⟨s, rfl, h1, h2⟩ := leaf_ok hp
      refine ⟨s, a', n', ?_, by omega, by omega, ⟨t'.a0, t'.b0, t'.b1, t'.n0, by have := t'.n1; omega⟩⟩
      rw [show k + 1 + d + 2 = k + 2 + d + 1 by omega] at e
      rw [call46, run_bodyIO (D := d46) (B := B46) rfl rfl rfl]; show d46.fin (B46 _ [.own true (TIN a b n), .val (.int ((d + 1 : Nat) : Int)), .emp]) = _; unfold B46
      simp only [r_cC, r_bV, r_bO, r_o1, r_o2, r_t2, r_asB, r_ret, r_tch, r_ofT, r_aN, r_aC, r_bN, r_bC, r_tup, r_lst, r_blt, r_if, r_tval, r_tand, r_tor, r_tnot, r_orT, r_andT, r_orTs, r_not, r_call, r_afterOk, r_afterX, r_seq, r_next, r_brk, r_cnt, r_set, r_par, r_stup, r_aug, r_drop, r_sif, r_sret, r_retnone, r_raise, bind_ok, bind_exc, bind_stk, bind_ite, bind_cond, fin_ite, r_eqI, r_neI, r_leI, r_ltI, r_geI, r_gtI, r_addI, r_iaddI, r_subI, r_mulL, r_mulR, r_divI, r_modI, r_negI, r_leP, r_ixT0, r_ixT1, r_ixT2, r_ixL0, r_ixL1, r_ixL2, r_pv, r_pvF, r_slv, r_slF, r_sv, r_so, r_rp, r_rs, r_rsN, r_rsC, r_cV, r_trB, r_trI, r_retV, r_tgM, r_tgO, r_saN, r_saC, List.getElem?_cons_zero, List.getElem?_cons_succ, List.set_cons_zero, List.set_cons_succ, Bool.cond_decide, cond_true, cond_false, Int.reduceLT, Int.reduceLE, Int.reduceNeg, Int.reduceAdd, Int.reduceSub, Int.reduceMul, Int.reducePow, and_self, decide_true, decide_false, and_true, true_and, reduceIte, if_true, if_false, Bool.not_true, Bool.not_false, r_for, r_forN, r_forC, r_iSeq, r_iRet, r_itT, r_itL, r_itF, r_iRange, r_own, r_isO, r_app, r_ext, r_put, r_callIO, r_afIO, fl_len, ft_len, r_clN, r_clC, r_tTrue, Nat.zero_add, Nat.reduceAdd, List.length_cons, List.length_nil, Int.reduceEq, z, e1, hv, e, finIO (D := d46) rfl]
    · obtain ⟨p, a2, n2, hp, e2, t2⟩ := sp38 (k + 1 + d) [PV.str "and", .str "or", .str "to", .str "to", .str "to"] t1 (by omega) (by simp) (by simp)
      obtain ⟨j, rfl⟩ := word_ok hp
      obtain ⟨s1, a3, n3, e3, h31, h32, t3⟩ := sp41 d k t2 (by omega)
      obtain ⟨s2, a4, n4, e4, h41, h42, t4⟩ := sp41 d k t3 (by omega)
      refine ⟨.bin j s1 s2, a4, n4, ?_, by rw [siz_bin]; omega, (by show max (dep s1) (dep s2) + 1 ≤ _; omega), ⟨t4.a0, t4.b0, t4.b1, t4.n0, by have := t4.n1; omega⟩⟩
      rw [show k + 1 + d + 2 = k + 2 + d + 1 by omega] at e2
      rw [show k + 3 + d = k + 2 + d + 1 by omega] at e3
      rw [show k + 3 + d = k + 2 + d + 1 by omega] at e4
      have dd : ((d + 1 : Nat) : Int) - 1 = ((d : Nat) : Int) := by omega
      have g : decide (v = 0) = false := decide_eq_false hv
      rw [call46, run_bodyIO (D := d46) (B := B46) rfl rfl rfl]; show d46.fin (B46 _ [.own true (TIN a b n), .val (.int ((d + 1 : Nat) : Int)), .emp]) = _; unfold B46
      simp only [r_cC, r_bV, r_bO, r_o1, r_o2, r_t2, r_asB, r_ret, r_tch, r_ofT, r_aN, r_aC, r_bN, r_bC, r_tup, r_lst, r_blt, r_if, r_tval, r_tand, r_tor, r_tnot, r_orT, r_andT, r_orTs, r_not, r_call, r_afterOk, r_afterX, r_seq, r_next, r_brk, r_cnt, r_set, r_par, r_stup, r_aug, r_drop, r_sif, r_sret, r_retnone, r_raise, bind_ok, bind_exc, bind_stk, bind_ite, bind_cond, fin_ite, r_eqI, r_neI, r_leI, r_ltI, r_geI, r_gtI, r_addI, r_iaddI, r_subI, r_mulL, r_mulR, r_divI, r_modI, r_negI, r_leP, r_ixT0, r_ixT1, r_ixT2, r_ixL0, r_ixL1, r_ixL2, r_pv, r_pvF, r_slv, r_slF, r_sv, r_so, r_rp, r_rs, r_rsN, r_rsC, r_cV, r_trB, r_trI, r_retV, r_tgM, r_tgO, r_saN, r_saC, List.getElem?_cons_zero, List.getElem?_cons_succ, List.set_cons_zero, List.set_cons_succ, Bool.cond_decide, cond_true, cond_false, Int.reduceLT, Int.reduceLE, Int.reduceNeg, Int.reduceAdd, Int.reduceSub, Int.reduceMul, Int.reducePow, and_self, decide_true, decide_false, and_true, true_and, reduceIte, if_true, if_false, Bool.not_true, Bool.not_false, r_for, r_forN, r_forC, r_iSeq, r_iRet, r_itT, r_itL, r_itF, r_iRange, r_own, r_isO, r_app, r_ext, r_put, r_callIO, r_afIO, fl_len, ft_len, r_clN, r_clC, r_tTrue, Nat.zero_add, Nat.reduceAdd, List.length_cons, List.length_nil, Int.reduceEq, z, e1, g, e2, dd, e3, e4, finIO (D := d46) rfl]
      rfl
end Hd


set_option Elab.async false
set_option linter.all false
set_option maxRecDepth 100000
set_option maxHeartbeats 1600000
namespace Hd
open PySem PySem.Spec PyProof.Rows L2 EV MA
theorem r_sl {f : PV → Option Int → Option Int → Option Val} {a : BDen} {l h : PDen} {ε : Ev} : cSl f a l h ε = (a ε).bind fun t ε => (l ε).bind fun l ε => (h ε).bind fun h ε => (match resolve ε t with
  | some p => ret ε (f p l h)
  | none => .stk) := rfl
theorem r_pN {ε : Ev} : pNone ε = .ok none ε := rfl
theorem r_pS {a : BDen} {ε : Ev} : pSome a ε = (a ε).bind fun t ε => (match resolve ε t with
  | some (.int i) => .ok (some i) ε
  | _ => .stk) := rfl
theorem r_trL (ps : List PV) : truth (.lst ps) = some (!ps.isEmpty) := rfl
theorem r_iE {d : Den} {ε : Ev} : iEnum d ε = (d ε).bind fun r ε => iRet ε ((lstOf r.pv).map enumL) := rfl
theorem fl_list (ps : List PV) : fList [.lst ps] = some (.f ps) := rfl
theorem sl_fl (ps : List PV) (lo hi : Option Int) : fSl (.fl ps) lo hi = some (.f (cutP ps lo hi)) := rfl
theorem cut_take (ps : List PV) : cutP ps none (some 1) = ps.take 1 := by
  unfold cutP
  have h1 : HT.sIx ps.length 0 none = 0 := rfl
  have h2 : HT.sIx ps.length ps.length (some 1) = min 1 ps.length := HT.sIx_nat _ _ 1
  rw [h1, h2, List.drop_zero, Nat.sub_zero]
  cases ps with
  | nil => rfl
  | cons p ps => rw [List.length_cons, Nat.min_eq_left (by omega)]
theorem cut_mem {ps : List PV} {lo hi : Option Int} {p : PV} (h : p ∈ cutP ps lo hi) : p ∈ ps := by
  unfold cutP at h
  exact List.mem_of_mem_drop (List.mem_of_mem_take h)
theorem cut_len (ps : List PV) (lo hi : Option Int) : (cutP ps lo hi).length ≤ ps.length := by
  unfold cutP
  rw [List.length_take, List.length_drop]; omega
theorem enum_mem : ∀ {ps : List PV} {i : Nat} {t : PV}, t ∈ enumFrom i ps → ∃ (j : Nat) (p : PV), p ∈ ps ∧ t = .tup [.int (j : Nat), p] ∧ j < i + ps.length
  | [], i, t, h => by cases h
  | p :: ps, i, t, h => by
    rcases List.mem_cons.mp h with rfl | h
    · exact ⟨i, p, List.mem_cons_self, rfl, by simp⟩
    · obtain ⟨j, q, h1, h2, h3⟩ := enum_mem h
      exact ⟨j, q, List.mem_cons_of_mem _ h1, h2, by rw [List.length_cons]; omega⟩
theorem wh37 (Φ : CallT) (x0 : PV) : ∀ (ts : List PV) (z : Int) (o3 o4 o5 : Slot), (∀ t ∈ ts, ∃ (i : Nat) (b : Int), t = .tup [.int (i : Nat), .int b] ∧ i < 1000) →
    ∃ z' o3' o4' o5', forL (.many [3, 4]) (B42s1 Φ) ts [.val x0, .val (.int 1), .own false [.int z], o3, o4, o5] = .ok .nx [.val x0, .val (.int 1), .own false [.int z'], o3', o4', o5']
  | [], z, o3, o4, o5, _ => ⟨z, o3, o4, o5, rfl⟩
  | t :: ts, z, o3, o4, o5, h => by
    obtain ⟨i, b, rfl, hi⟩ := h t List.mem_cons_self
    obtain ⟨z', o3', o4', o5', ih⟩ := wh37 Φ x0 ts (z + b * ((i : Int) + 2)) (.val (.int (i : Nat))) (.val (.int b)) (.val (.int 0)) fun t ht => h t (List.mem_cons_of_mem _ ht)
    refine ⟨z', o3', o4', o5', ?_⟩
    have bd : B42s1 Φ [.val x0, .val (.int 1), .own false [.int z], .val (.int (i : Nat)), .val (.int b), o5] = .ok .nx [.val x0, .val (.int 1), .own false [.int (z + b * ((i : Int) + 2))], .val (.int (i : Nat)), .val (.int b), .val (.int 0)] := by
      unfold B42s1
      have m := r_mulR b ((i : Int) + 2) (by omega)
      have ix : L2.ixN 1 0 = some 0 := rfl
      simp only [r_cC, r_bV, r_bO, r_o1, r_o2, r_t2, r_asB, r_ret, r_tch, r_ofT, r_aN, r_aC, r_bN, r_bC, r_tup, r_lst, r_blt, r_if, r_tval, r_tand, r_tor, r_tnot, r_orT, r_andT, r_orTs, r_not, r_call, r_afterOk, r_afterX, r_seq, r_next, r_brk, r_cnt, r_set, r_par, r_stup, r_aug, r_drop, r_sif, r_sret, r_retnone, r_raise, bind_ok, bind_exc, bind_stk, bind_ite, bind_cond, fin_ite, r_eqI, r_neI, r_leI, r_ltI, r_geI, r_gtI, r_addI, r_iaddI, r_subI, r_mulL, r_mulR, r_divI, r_modI, r_negI, r_leP, r_ixT0, r_ixT1, r_ixT2, r_ixL0, r_ixL1, r_ixL2, r_pv, r_pvF, r_slv, r_slF, r_sv, r_so, r_rp, r_rs, r_rsN, r_rsC, r_cV, r_trB, r_trI, r_retV, r_tgM, r_tgO, r_saN, r_saC, List.getElem?_cons_zero, List.getElem?_cons_succ, List.set_cons_zero, List.set_cons_succ, Bool.cond_decide, cond_true, cond_false, Int.reduceLT, Int.reduceLE, Int.reduceNeg, Int.reduceAdd, Int.reduceSub, Int.reduceMul, Int.reducePow, and_self, decide_true, decide_false, and_true, true_and, reduceIte, if_true, if_false, Bool.not_true, Bool.not_false, r_for, r_forN, r_forC, r_iSeq, r_iRet, r_itT, r_itL, r_itF, r_iRange, r_own, r_isO, r_app, r_ext, r_put, r_callIO, r_afIO, fl_len, ft_len, r_clN, r_clC, r_tTrue, Nat.zero_add, Nat.reduceAdd, List.length_cons, List.length_nil, Int.reduceEq, fi_int, Int.emod_one, m, ix]
    rw [r_forC, r_tgM]
    simp only [r_saC, r_saN, List.set_cons_zero, List.set_cons_succ]
    rw [bd, bind_ok]
    exact ih
theorem sp37 (k : Nat) (ns : List Int) (hl : ns.length ≤ 63) : ∃ z : Int, calls (tab L) (k + 1) 42 none [.fl (ns.map .int), .int 1] = .ok (.f [.int z]) [] := by
  have hmem : ∀ p ∈ ns.map PV.int, ∃ b : Int, p = .int b := fun p hp => by
    obtain ⟨b, _, rfl⟩ := List.mem_map.mp hp; exact ⟨b, rfl⟩
  have key : ∀ z0 : Int, ∃ z' o3' o4' o5', forL (.many [3, 4]) (B42s1 (calls (tab L) k)) (enumL (cutP (ns.map .int) (some 1) (some 63))) [.val (.fl (ns.map .int)), .val (.int 1), .own false [.int z0], .emp, .emp, .emp] = .ok .nx [.val (.fl (ns.map .int)), .val (.int 1), .own false [.int z'], o3', o4', o5'] := fun z0 => by
    refine wh37 _ _ _ z0 _ _ _ fun t ht => ?_
    obtain ⟨j, p, h1, h2, h3⟩ := enum_mem ht
    obtain ⟨b, rfl⟩ := hmem p (cut_mem h1)
    have := cut_len (ns.map PV.int) (some 1) (some 63)
    rw [List.length_map] at this
    exact ⟨j, b, h2, by omega⟩
  cases ns with
  | nil =>
    obtain ⟨z, o3, o4, o5, e⟩ := key 0
    refine ⟨z, ?_⟩
    rw [call42, run_body (D := d42) (B := B42) rfl rfl rfl]; show d42.fin (B42 _ [.val (.fl (([] : List Int).map .int)), .val (.int 1), .emp, .emp, .emp, .emp]) = _; unfold B42
    simp only [List.map_nil] at e
    simp only [r_cC, r_bV, r_bO, r_o1, r_o2, r_t2, r_asB, r_ret, r_tch, r_ofT, r_aN, r_aC, r_bN, r_bC, r_tup, r_lst, r_blt, r_if, r_tval, r_tand, r_tor, r_tnot, r_orT, r_andT, r_orTs, r_not, r_call, r_afterOk, r_afterX, r_seq, r_next, r_brk, r_cnt, r_set, r_par, r_stup, r_aug, r_drop, r_sif, r_sret, r_retnone, r_raise, bind_ok, bind_exc, bind_stk, bind_ite, bind_cond, fin_ite, r_eqI, r_neI, r_leI, r_ltI, r_geI, r_gtI, r_addI, r_iaddI, r_subI, r_mulL, r_mulR, r_divI, r_modI, r_negI, r_leP, r_ixT0, r_ixT1, r_ixT2, r_ixL0, r_ixL1, r_ixL2, r_pv, r_pvF, r_slv, r_slF, r_sv, r_so, r_rp, r_rs, r_rsN, r_rsC, r_cV, r_trB, r_trI, r_retV, r_tgM, r_tgO, r_saN, r_saC, List.getElem?_cons_zero, List.getElem?_cons_succ, List.set_cons_zero, List.set_cons_succ, Bool.cond_decide, cond_true, cond_false, Int.reduceLT, Int.reduceLE, Int.reduceNeg, Int.reduceAdd, Int.reduceSub, Int.reduceMul, Int.reducePow, and_self, decide_true, decide_false, and_true, true_and, reduceIte, if_true, if_false, Bool.not_true, Bool.not_false, r_for, r_forN, r_forC, r_iSeq, r_iRet, r_itT, r_itL, r_itF, r_iRange, r_own, r_isO, r_app, r_ext, r_put, r_callIO, r_afIO, fl_len, ft_len, r_clN, r_clC, r_tTrue, Nat.zero_add, Nat.reduceAdd, List.length_cons, List.length_nil, Int.reduceEq, r_sl, r_pN, r_pS, r_iE, sl_fl, cut_take, fl_list, r_trL, lstOf, Option.map_some, e, finR (D := d42) rfl, List.map_nil, List.take_nil, List.isEmpty_nil]
  | cons x xs =>
    obtain ⟨z, o3, o4, o5, e⟩ := key x
    refine ⟨z, ?_⟩
    rw [call42, run_body (D := d42) (B := B42) rfl rfl rfl]; show d42.fin (B42 _ [.val (.fl ((x :: xs).map .int)), .val (.int 1), .emp, .emp, .emp, .emp]) = _; unfold B42
    simp only [List.map_cons] at e
    simp only [r_cC, r_bV, r_bO, r_o1, r_o2, r_t2, r_asB, r_ret, r_tch, r_ofT, r_aN, r_aC, r_bN, r_bC, r_tup, r_lst, r_blt, r_if, r_tval, r_tand, r_tor, r_tnot, r_orT, r_andT, r_orTs, r_not, r_call, r_afterOk, r_afterX, r_seq, r_next, r_brk, r_cnt, r_set, r_par, r_stup, r_aug, r_drop, r_sif, r_sret, r_retnone, r_raise, bind_ok, bind_exc, bind_stk, bind_ite, bind_cond, fin_ite, r_eqI, r_neI, r_leI, r_ltI, r_geI, r_gtI, r_addI, r_iaddI, r_subI, r_mulL, r_mulR, r_divI, r_modI, r_negI, r_leP, r_ixT0, r_ixT1, r_ixT2, r_ixL0, r_ixL1, r_ixL2, r_pv, r_pvF, r_slv, r_slF, r_sv, r_so, r_rp, r_rs, r_rsN, r_rsC, r_cV, r_trB, r_trI, r_retV, r_tgM, r_tgO, r_saN, r_saC, List.getElem?_cons_zero, List.getElem?_cons_succ, List.set_cons_zero, List.set_cons_succ, Bool.cond_decide, cond_true, cond_false, Int.reduceLT, Int.reduceLE, Int.reduceNeg, Int.reduceAdd, Int.reduceSub, Int.reduceMul, Int.reducePow, and_self, decide_true, decide_false, and_true, true_and, reduceIte, if_true, if_false, Bool.not_true, Bool.not_false, r_for, r_forN, r_forC, r_iSeq, r_iRet, r_itT, r_itL, r_itF, r_iRange, r_own, r_isO, r_app, r_ext, r_put, r_callIO, r_afIO, fl_len, ft_len, r_clN, r_clC, r_tTrue, Nat.zero_add, Nat.reduceAdd, List.length_cons, List.length_nil, Int.reduceEq, r_sl, r_pN, r_pS, r_iE, sl_fl, cut_take, fl_list, r_trL, lstOf, Option.map_some, e, finR (D := d42) rfl, List.map_cons, List.take_succ_cons, List.take_zero, List.isEmpty_cons]
theorem sp35 (k : Nat) (z : Int) : ∃ a b : Int, calls (tab L) (k + 1) 40 none [.lst [.int z], .int 0] = .ok (.f (TIN a b 0)) [] ∧ Tin 0 a b 0 := by
  have pw : fPow (.int 10) (.int 18) = some (.v (.int 1000000000000000000)) := by
    have c : CPow 10 18 := by unfold CPow; decide
    have e : fPow (.int 10) (.int 18) = some (.v (.int ((10 : Int) ^ (18 : Int).toNat))) := if_pos (e := none) c
    rw [e]; rfl
  have h01 : ((0 : Int) < ((1 : Nat) : Int)) = True := by simp
  have m1 := r_mulL 39373 0 (by omega)
  have dm := r_modI z 2305843009213693951 (by omega)
  by_cases c : (1000000000000000000 : Int) ≤ (if z < 0 then -z else z)
  · have m2 := r_mulR (if z < 0 then -z else z) 1 (by omega)
    refine ⟨(if z < 0 then -z else z) * 1, z % 2305843009213693951 + 39373 * 0 + 262980, ?_, ⟨by split <;> omega, by omega, by omega, by omega, by omega⟩⟩
    rw [call40, run_body (D := d40) (B := B40) rfl rfl rfl]; show d40.fin (B40 _ [.val (.lst [.int z]), .val (.int 0), .emp]) = _; unfold B40
    simp only [r_cC, r_bV, r_bO, r_o1, r_o2, r_t2, r_asB, r_ret, r_tch, r_ofT, r_aN, r_aC, r_bN, r_bC, r_tup, r_lst, r_blt, r_if, r_tval, r_tand, r_tor, r_tnot, r_orT, r_andT, r_orTs, r_not, r_call, r_afterOk, r_afterX, r_seq, r_next, r_brk, r_cnt, r_set, r_par, r_stup, r_aug, r_drop, r_sif, r_sret, r_retnone, r_raise, bind_ok, bind_exc, bind_stk, bind_ite, bind_cond, fin_ite, r_eqI, r_neI, r_leI, r_ltI, r_geI, r_gtI, r_addI, r_iaddI, r_subI, r_mulL, r_mulR, r_divI, r_modI, r_negI, r_leP, r_ixT0, r_ixT1, r_ixT2, r_ixL0, r_ixL1, r_ixL2, r_pv, r_pvF, r_slv, r_slF, r_sv, r_so, r_rp, r_rs, r_rsN, r_rsC, r_cV, r_trB, r_trI, r_retV, r_tgM, r_tgO, r_saN, r_saC, List.getElem?_cons_zero, List.getElem?_cons_succ, List.set_cons_zero, List.set_cons_succ, Bool.cond_decide, cond_true, cond_false, Int.reduceLT, Int.reduceLE, Int.reduceNeg, Int.reduceAdd, Int.reduceSub, Int.reduceMul, Int.reducePow, and_self, decide_true, decide_false, and_true, true_and, reduceIte, if_true, if_false, Bool.not_true, Bool.not_false, r_for, r_forN, r_forC, r_iSeq, r_iRet, r_itT, r_itL, r_itF, r_iRange, r_own, r_isO, r_app, r_ext, r_put, r_callIO, r_afIO, fl_len, ft_len, r_clN, r_clC, r_tTrue, Nat.zero_add, Nat.reduceAdd, List.length_cons, List.length_nil, Int.reduceEq, fa_int, fi_int, fi_bl, h01, pw, m1, m2, dm, decide_eq_true c, finR (D := d40) rfl]
    rfl
  · have m2 := r_mulR (if z < 0 then -z else z) 0 (by omega)
    refine ⟨(if z < 0 then -z else z) * 0, z % 2305843009213693951 + 39373 * 0 + 262980, ?_, ⟨by omega, by omega, by omega, by omega, by omega⟩⟩
    rw [call40, run_body (D := d40) (B := B40) rfl rfl rfl]; show d40.fin (B40 _ [.val (.lst [.int z]), .val (.int 0), .emp]) = _; unfold B40
    simp only [r_cC, r_bV, r_bO, r_o1, r_o2, r_t2, r_asB, r_ret, r_tch, r_ofT, r_aN, r_aC, r_bN, r_bC, r_tup, r_lst, r_blt, r_if, r_tval, r_tand, r_tor, r_tnot, r_orT, r_andT, r_orTs, r_not, r_call, r_afterOk, r_afterX, r_seq, r_next, r_brk, r_cnt, r_set, r_par, r_stup, r_aug, r_drop, r_sif, r_sret, r_retnone, r_raise, bind_ok, bind_exc, bind_stk, bind_ite, bind_cond, fin_ite, r_eqI, r_neI, r_leI, r_ltI, r_geI, r_gtI, r_addI, r_iaddI, r_subI, r_mulL, r_mulR, r_divI, r_modI, r_negI, r_leP, r_ixT0, r_ixT1, r_ixT2, r_ixL0, r_ixL1, r_ixL2, r_pv, r_pvF, r_slv, r_slF, r_sv, r_so, r_rp, r_rs, r_rsN, r_rsC, r_cV, r_trB, r_trI, r_retV, r_tgM, r_tgO, r_saN, r_saC, List.getElem?_cons_zero, List.getElem?_cons_succ, List.set_cons_zero, List.set_cons_succ, Bool.cond_decide, cond_true, cond_false, Int.reduceLT, Int.reduceLE, Int.reduceNeg, Int.reduceAdd, Int.reduceSub, Int.reduceMul, Int.reducePow, and_self, decide_true, decide_false, and_true, true_and, reduceIte, if_true, if_false, Bool.not_true, Bool.not_false, r_for, r_forN, r_forC, r_iSeq, r_iRet, r_itT, r_itL, r_itF, r_iRange, r_own, r_isO, r_app, r_ext, r_put, r_callIO, r_afIO, fl_len, ft_len, r_clN, r_clC, r_tTrue, Nat.zero_add, Nat.reduceAdd, List.length_cons, List.length_nil, Int.reduceEq, fa_int, fi_int, fi_bl, h01, pw, m1, m2, dm, decide_eq_false c, finR (D := d40) rfl, Bool.false_eq_true]
    rfl
end Hd


set_option Elab.async false
set_option linter.all false
set_option maxRecDepth 100000
set_option maxHeartbeats 1600000
namespace Hd
open PySem PySem.Spec PyProof.Rows L2 EV MA
theorem k_int_int : kitB "int" "int" = some true := kit_tab.1
theorem k_bool_int : kitB "bool" "int" = some true := kit_tab.2.1
theorem k_str_int : kitB "str" "int" = some false := kit_tab.2.2.1
theorem k_tuple_int : kitB "tuple" "int" = some false := kit_tab.2.2.2.1
theorem k_list_int : kitB "list" "int" = some false := kit_tab.2.2.2.2.1
theorem k_NoneType_int : kitB "NoneType" "int" = some false := kit_tab.2.2.2.2.2.1
theorem k_dict_int : kitB "dict" "int" = some false := kit_tab.2.2.2.2.2.2
theorem k_int_bool : kitB "int" "bool" = some false := kit_tab2.1
theorem k_bool_bool : kitB "bool" "bool" = some true := kit_tab2.2.1
theorem k_str_bool : kitB "str" "bool" = some false := kit_tab2.2.2.1
theorem k_tuple_bool : kitB "tuple" "bool" = some false := kit_tab2.2.2.2.1
theorem k_list_bool : kitB "list" "bool" = some false := kit_tab2.2.2.2.2.1
theorem k_NoneType_bool : kitB "NoneType" "bool" = some false := kit_tab2.2.2.2.2.2.1
theorem k_dict_bool : kitB "dict" "bool" = some false := kit_tab2.2.2.2.2.2.2
theorem k_int_str : kitB "int" "str" = some false := kit_tab3.1
theorem k_bool_str : kitB "bool" "str" = some false := kit_tab3.2.1
theorem k_str_str : kitB "str" "str" = some true := kit_tab3.2.2.1
theorem k_tuple_str : kitB "tuple" "str" = some false := kit_tab3.2.2.2.1
theorem k_list_str : kitB "list" "str" = some false := kit_tab3.2.2.2.2.1
theorem k_NoneType_str : kitB "NoneType" "str" = some false := kit_tab3.2.2.2.2.2.1
theorem k_dict_str : kitB "dict" "str" = some false := kit_tab3.2.2.2.2.2.2
theorem k_int_tuple : kitB "int" "tuple" = some false := kit_tab4.1
theorem k_bool_tuple : kitB "bool" "tuple" = some false := kit_tab4.2.1
theorem k_str_tuple : kitB "str" "tuple" = some false := kit_tab4.2.2.1
theorem k_tuple_tuple : kitB "tuple" "tuple" = some true := kit_tab4.2.2.2.1
theorem k_list_tuple : kitB "list" "tuple" = some false := kit_tab4.2.2.2.2.1
theorem k_NoneType_tuple : kitB "NoneType" "tuple" = some false := kit_tab4.2.2.2.2.2.1
theorem k_dict_tuple : kitB "dict" "tuple" = some false := kit_tab4.2.2.2.2.2.2
theorem k_int_list : kitB "int" "list" = some false := kit_tab5.1
theorem k_bool_list : kitB "bool" "list" = some false := kit_tab5.2.1
theorem k_str_list : kitB "str" "list" = some false := kit_tab5.2.2.1
theorem k_tuple_list : kitB "tuple" "list" = some false := kit_tab5.2.2.2.1
theorem k_list_list : kitB "list" "list" = some true := kit_tab5.2.2.2.2.1
theorem k_NoneType_list : kitB "NoneType" "list" = some false := kit_tab5.2.2.2.2.2.1
theorem k_dict_list : kitB "dict" "list" = some false := kit_tab5.2.2.2.2.2.2
theorem pd_bl (b : Bool) : PV.pd (.bl b) = some (.bool b) := by unfold PV.pd; rfl
theorem eq_bl (a b : Bool) : fEq (.bl a) (.bl b) = some (.v (.bl (decide (a = b)))) := by
  cases a <;> cases b <;> exact eq_of (pd_bl _) (pd_bl _) (by decide +kernel) (by decide +kernel) (by decide +kernel)
theorem ne_bl (a b : Bool) : fNe (.bl a) (.bl b) = some (.v (.bl (!decide (a = b)))) := by
  cases a <;> cases b <;> exact ne_of (pd_bl _) (pd_bl _) (by decide +kernel) (by decide +kernel) (by decide +kernel)
theorem beq_str_self (x : Str) : PyData.eqv (.str x) (.str x) = true := by
  have h : PyData.eqv (.str x) (.str x) = (x == x) := by unfold PyData.eqv; rfl
  rw [h]; exact beq_iff_eq.mpr rfl
theorem eq_str_self {x : Str} (h : PyData.strOk x = true) : fEq (.str x) (.str x) = some (.v (.bl true)) := by
  have s : SeqAt.shaped (.str x) = true := by
    simp [SeqAt.shaped, PyData.canLay0, h, PyData.depth]
  exact eq_of (pd_str _) (pd_str _) s s (beq_str_self x)
theorem fis_n (p : PV) : fIs p .non = some (.v (.bl (isNon p))) := rfl
theorem fall_true (ps : List PV) : fAll [.lst (ps.map fun _ => .bl true)] = some (.v (.bl true)) := by
  have h : ∀ ps : List PV, EV.bools (ps.map fun _ => .bl true) = some (ps.map fun _ => true) := fun ps => by
    induction ps with
    | nil => rfl
    | cons p ps ih => show (EV.bools (ps.map fun _ => .bl true)).map (true :: ·) = _; rw [ih]; rfl
  show ((EV.bools (ps.map fun _ => .bl true)).map fun bs => Val.v (.bl (bs.all id))) = _
  rw [h]
  simp
theorem r_iZ {a b : Den} {ε : Ev} : iZip a b ε = (a ε).bind fun r ε => (b ε).bind fun s ε => iRet ε (zipOf r.pv s.pv) := rfl
theorem cl39 (Φ : CallT) (x y : PV) : ∀ (ps acc : List PV), (∀ p ∈ ps, Φ 44 none [p, p] = .ok (.v (.bl true)) []) →
    compL [2, 3] (.many [2, 3]) tTrue (B44e1 Φ) (zipL ps ps) acc [.val x, .val y, .emp, .emp] = .ok (acc ++ ps.map fun _ => .bl true) [.val x, .val y, .emp, .emp]
  | [], acc, _ => by show Out.ok acc _ = _; simp
  | p :: ps, acc, h => by
    have ih := cl39 Φ x y ps (acc ++ [.bl true]) fun q hq => h q (List.mem_cons_of_mem _ hq)
    have e : B44e1 Φ [.val x, .val y, .val p, .val p] = .ok (.v (.bl true)) [.val x, .val y, .val p, .val p] := by
      unfold B44e1
      simp only [r_cC, r_bV, r_bO, r_o1, r_o2, r_t2, r_asB, r_ret, r_tch, r_ofT, r_aN, r_aC, r_bN, r_bC, r_tup, r_lst, r_blt, r_if, r_tval, r_tand, r_tor, r_tnot, r_orT, r_andT, r_orTs, r_not, r_call, r_afterOk, r_afterX, r_seq, r_next, r_brk, r_cnt, r_set, r_par, r_stup, r_aug, r_drop, r_sif, r_sret, r_retnone, r_raise, bind_ok, bind_exc, bind_stk, bind_ite, bind_cond, fin_ite, r_eqI, r_neI, r_leI, r_ltI, r_geI, r_gtI, r_addI, r_iaddI, r_subI, r_mulL, r_mulR, r_divI, r_modI, r_negI, r_leP, r_ixT0, r_ixT1, r_ixT2, r_ixL0, r_ixL1, r_ixL2, r_pv, r_pvF, r_slv, r_slF, r_sv, r_so, r_rp, r_rs, r_rsN, r_rsC, r_cV, r_trB, r_trI, r_retV, r_tgM, r_tgO, r_saN, r_saC, List.getElem?_cons_zero, List.getElem?_cons_succ, List.set_cons_zero, List.set_cons_succ, Bool.cond_decide, cond_true, cond_false, Int.reduceLT, Int.reduceLE, Int.reduceNeg, Int.reduceAdd, Int.reduceSub, Int.reduceMul, Int.reducePow, and_self, decide_true, decide_false, and_true, true_and, reduceIte, if_true, if_false, Bool.not_true, Bool.not_false, r_for, r_forN, r_forC, r_iSeq, r_iRet, r_itT, r_itL, r_itF, r_iRange, r_own, r_isO, r_app, r_ext, r_put, r_callIO, r_afIO, fl_len, ft_len, r_clN, r_clC, r_tTrue, Nat.zero_add, Nat.reduceAdd, List.length_cons, List.length_nil, Int.reduceEq, h p List.mem_cons_self]
    show compL [2, 3] (.many [2, 3]) tTrue (B44e1 Φ) (.tup [p, p] :: zipL ps ps) acc _ = _
    rw [r_clC, r_tgM]
    simp only [r_saC, r_saN, List.set_cons_zero, List.set_cons_succ, r_tTrue]
    rw [e]
    show compL [2, 3] (.many [2, 3]) tTrue (B44e1 Φ) (zipL ps ps) (acc ++ [.bl true]) [.val x, .val y, .emp, .emp] = _
    rw [ih]
    simp
/-- data that are the same as themselves, n deep -/
inductive Sm : Nat → PV → Prop
  | int (n : Nat) (i : Int) : Sm n (.int i)
  | bl (n : Nat) (b : Bool) : Sm n (.bl b)
  | str (n : Nat) (x : Str) : PyData.strOk x = true → Sm n (.str x)
  | tup (n : Nat) (ps : List PV) : ps.length < 1000000 → (∀ p ∈ ps, Sm n p) → Sm (n + 1) (.tup ps)
  | lst (n : Nat) (ps : List PV) : ps.length < 1000000 → (∀ p ∈ ps, Sm n p) → Sm (n + 1) (.lst ps)
theorem cmp39 (Φ : CallT) (p : PV) (ps : List PV) (hz : zipOf p p = some (zipL ps ps)) (hl : ps.length < 1000000) (h : ∀ q ∈ ps, Φ 44 none [q, q] = .ok (.v (.bl true)) []) :
    cComp [2, 3] (iZip (cVar 0) (cVar 1)) (.many [2, 3]) tTrue (B44e1 Φ) [.val p, .val p, .emp, .emp] = .ok (.f (ps.map fun _ => .bl true)) [.val p, .val p, .emp, .emp] := by
  unfold cComp
  have i : iZip (cVar 0) (cVar 1) [.val p, .val p, .emp, .emp] = .ok (zipL ps ps) [.val p, .val p, .emp, .emp] := by
    simp only [r_iZ, r_cC, r_bV, r_bO, r_o1, r_o2, r_t2, r_asB, r_ret, r_tch, r_ofT, r_aN, r_aC, r_bN, r_bC, r_tup, r_lst, r_blt, r_if, r_tval, r_tand, r_tor, r_tnot, r_orT, r_andT, r_orTs, r_not, r_call, r_afterOk, r_afterX, r_seq, r_next, r_brk, r_cnt, r_set, r_par, r_stup, r_aug, r_drop, r_sif, r_sret, r_retnone, r_raise, bind_ok, bind_exc, bind_stk, bind_ite, bind_cond, fin_ite, r_eqI, r_neI, r_leI, r_ltI, r_geI, r_gtI, r_addI, r_iaddI, r_subI, r_mulL, r_mulR, r_divI, r_modI, r_negI, r_leP, r_ixT0, r_ixT1, r_ixT2, r_ixL0, r_ixL1, r_ixL2, r_pv, r_pvF, r_slv, r_slF, r_sv, r_so, r_rp, r_rs, r_rsN, r_rsC, r_cV, r_trB, r_trI, r_retV, r_tgM, r_tgO, r_saN, r_saC, List.getElem?_cons_zero, List.getElem?_cons_succ, List.set_cons_zero, List.set_cons_succ, Bool.cond_decide, cond_true, cond_false, Int.reduceLT, Int.reduceLE, Int.reduceNeg, Int.reduceAdd, Int.reduceSub, Int.reduceMul, Int.reducePow, and_self, decide_true, decide_false, and_true, true_and, reduceIte, if_true, if_false, Bool.not_true, Bool.not_false, r_for, r_forN, r_forC, r_iSeq, r_iRet, r_itT, r_itL, r_itF, r_iRange, r_own, r_isO, r_app, r_ext, r_put, r_callIO, r_afIO, fl_len, ft_len, r_clN, r_clC, r_tTrue, Nat.zero_add, Nat.reduceAdd, List.length_cons, List.length_nil, Int.reduceEq, hz]
  rw [i, bind_ok]
  have l : (zipL ps ps).length < sizeLine := by rw [zipL_len]; exact sz_lt (by omega)
  have c : ([2, 3].any (fun v => isOwn ([.val p, .val p, .emp, .emp] : Ev)[v]?) || !decide ((zipL ps ps).length < sizeLine)) = false := by rw [decide_eq_true l]; rfl
  rw [c, if_neg Bool.false_ne_true]
  have w : wipeE ([.val p, .val p, .emp, .emp] : Ev) [2, 3] = [.val p, .val p, .emp, .emp] := rfl
  rw [w, cl39 Φ p p ps [] h]
  rfl
theorem sp39 : ∀ (n : Nat) (p : PV) (k : Nat), Sm n p → calls (tab L) (k + 1 + n) 44 none [p, p] = .ok (.v (.bl true)) [] := by
  intro n
  induction n with
  | zero =>
    intro p k h
    cases h with
    | int _ i =>
      rw [call44, run_body (D := d44) (B := B44) rfl rfl rfl]; show d44.fin (B44 _ [.val (.int i), .val (.int i), .emp, .emp]) = _; unfold B44
      simp only [r_cC, r_bV, r_bO, r_o1, r_o2, r_t2, r_asB, r_ret, r_tch, r_ofT, r_aN, r_aC, r_bN, r_bC, r_tup, r_lst, r_blt, r_if, r_tval, r_tand, r_tor, r_tnot, r_orT, r_andT, r_orTs, r_not, r_call, r_afterOk, r_afterX, r_seq, r_next, r_brk, r_cnt, r_set, r_par, r_stup, r_aug, r_drop, r_sif, r_sret, r_retnone, r_raise, bind_ok, bind_exc, bind_stk, bind_ite, bind_cond, fin_ite, r_eqI, r_neI, r_leI, r_ltI, r_geI, r_gtI, r_addI, r_iaddI, r_subI, r_mulL, r_mulR, r_divI, r_modI, r_negI, r_leP, r_ixT0, r_ixT1, r_ixT2, r_ixL0, r_ixL1, r_ixL2, r_pv, r_pvF, r_slv, r_slF, r_sv, r_so, r_rp, r_rs, r_rsN, r_rsC, r_cV, r_trB, r_trI, r_retV, r_tgM, r_tgO, r_saN, r_saC, List.getElem?_cons_zero, List.getElem?_cons_succ, List.set_cons_zero, List.set_cons_succ, Bool.cond_decide, cond_true, cond_false, Int.reduceLT, Int.reduceLE, Int.reduceNeg, Int.reduceAdd, Int.reduceSub, Int.reduceMul, Int.reducePow, and_self, decide_true, decide_false, and_true, true_and, reduceIte, if_true, if_false, Bool.not_true, Bool.not_false, r_for, r_forN, r_forC, r_iSeq, r_iRet, r_itT, r_itL, r_itF, r_iRange, r_own, r_isO, r_app, r_ext, r_put, r_callIO, r_afIO, fl_len, ft_len, r_clN, r_clC, r_tTrue, Nat.zero_add, Nat.reduceAdd, List.length_cons, List.length_nil, Int.reduceEq, fIsi, tyP, tysOf, kitAnyS, Option.bind_some, Option.map_some, k_int_int, k_bool_int, k_str_int, k_tuple_int, k_list_int, k_NoneType_int, k_dict_int, k_int_bool, k_bool_bool, k_str_bool, k_tuple_bool, k_list_bool, k_NoneType_bool, k_dict_bool, k_int_str, k_bool_str, k_str_str, k_tuple_str, k_list_str, k_NoneType_str, k_dict_str, k_int_tuple, k_bool_tuple, k_str_tuple, k_tuple_tuple, k_list_tuple, k_NoneType_tuple, k_dict_tuple, k_int_list, k_bool_list, k_str_list, k_tuple_list, k_list_list, k_NoneType_list, k_dict_list, fis_n, EV.isNon, eq_bl, ne_bl, finR (D := d44) rfl]
    | bl _ b =>
      rw [call44, run_body (D := d44) (B := B44) rfl rfl rfl]; show d44.fin (B44 _ [.val (.bl b), .val (.bl b), .emp, .emp]) = _; unfold B44
      simp only [r_cC, r_bV, r_bO, r_o1, r_o2, r_t2, r_asB, r_ret, r_tch, r_ofT, r_aN, r_aC, r_bN, r_bC, r_tup, r_lst, r_blt, r_if, r_tval, r_tand, r_tor, r_tnot, r_orT, r_andT, r_orTs, r_not, r_call, r_afterOk, r_afterX, r_seq, r_next, r_brk, r_cnt, r_set, r_par, r_stup, r_aug, r_drop, r_sif, r_sret, r_retnone, r_raise, bind_ok, bind_exc, bind_stk, bind_ite, bind_cond, fin_ite, r_eqI, r_neI, r_leI, r_ltI, r_geI, r_gtI, r_addI, r_iaddI, r_subI, r_mulL, r_mulR, r_divI, r_modI, r_negI, r_leP, r_ixT0, r_ixT1, r_ixT2, r_ixL0, r_ixL1, r_ixL2, r_pv, r_pvF, r_slv, r_slF, r_sv, r_so, r_rp, r_rs, r_rsN, r_rsC, r_cV, r_trB, r_trI, r_retV, r_tgM, r_tgO, r_saN, r_saC, List.getElem?_cons_zero, List.getElem?_cons_succ, List.set_cons_zero, List.set_cons_succ, Bool.cond_decide, cond_true, cond_false, Int.reduceLT, Int.reduceLE, Int.reduceNeg, Int.reduceAdd, Int.reduceSub, Int.reduceMul, Int.reducePow, and_self, decide_true, decide_false, and_true, true_and, reduceIte, if_true, if_false, Bool.not_true, Bool.not_false, r_for, r_forN, r_forC, r_iSeq, r_iRet, r_itT, r_itL, r_itF, r_iRange, r_own, r_isO, r_app, r_ext, r_put, r_callIO, r_afIO, fl_len, ft_len, r_clN, r_clC, r_tTrue, Nat.zero_add, Nat.reduceAdd, List.length_cons, List.length_nil, Int.reduceEq, fIsi, tyP, tysOf, kitAnyS, Option.bind_some, Option.map_some, k_int_int, k_bool_int, k_str_int, k_tuple_int, k_list_int, k_NoneType_int, k_dict_int, k_int_bool, k_bool_bool, k_str_bool, k_tuple_bool, k_list_bool, k_NoneType_bool, k_dict_bool, k_int_str, k_bool_str, k_str_str, k_tuple_str, k_list_str, k_NoneType_str, k_dict_str, k_int_tuple, k_bool_tuple, k_str_tuple, k_tuple_tuple, k_list_tuple, k_NoneType_tuple, k_dict_tuple, k_int_list, k_bool_list, k_str_list, k_tuple_list, k_list_list, k_NoneType_list, k_dict_list, fis_n, EV.isNon, eq_bl, ne_bl, finR (D := d44) rfl]
    | str _ x hx =>
      have e := eq_str_self hx
      rw [call44, run_body (D := d44) (B := B44) rfl rfl rfl]; show d44.fin (B44 _ [.val (.str x), .val (.str x), .emp, .emp]) = _; unfold B44
      simp only [r_cC, r_bV, r_bO, r_o1, r_o2, r_t2, r_asB, r_ret, r_tch, r_ofT, r_aN, r_aC, r_bN, r_bC, r_tup, r_lst, r_blt, r_if, r_tval, r_tand, r_tor, r_tnot, r_orT, r_andT, r_orTs, r_not, r_call, r_afterOk, r_afterX, r_seq, r_next, r_brk, r_cnt, r_set, r_par, r_stup, r_aug, r_drop, r_sif, r_sret, r_retnone, r_raise, bind_ok, bind_exc, bind_stk, bind_ite, bind_cond, fin_ite, r_eqI, r_neI, r_leI, r_ltI, r_geI, r_gtI, r_addI, r_iaddI, r_subI, r_mulL, r_mulR, r_divI, r_modI, r_negI, r_leP, r_ixT0, r_ixT1, r_ixT2, r_ixL0, r_ixL1, r_ixL2, r_pv, r_pvF, r_slv, r_slF, r_sv, r_so, r_rp, r_rs, r_rsN, r_rsC, r_cV, r_trB, r_trI, r_retV, r_tgM, r_tgO, r_saN, r_saC, List.getElem?_cons_zero, List.getElem?_cons_succ, List.set_cons_zero, List.set_cons_succ, Bool.cond_decide, cond_true, cond_false, Int.reduceLT, Int.reduceLE, Int.reduceNeg, Int.reduceAdd, Int.reduceSub, Int.reduceMul, Int.reducePow, and_self, decide_true, decide_false, and_true, true_and, reduceIte, if_true, if_false, Bool.not_true, Bool.not_false, r_for, r_forN, r_forC, r_iSeq, r_iRet, r_itT, r_itL, r_itF, r_iRange, r_own, r_isO, r_app, r_ext, r_put, r_callIO, r_afIO, fl_len, ft_len, r_clN, r_clC, r_tTrue, Nat.zero_add, Nat.reduceAdd, List.length_cons, List.length_nil, Int.reduceEq, fIsi, tyP, tysOf, kitAnyS, Option.bind_some, Option.map_some, k_int_int, k_bool_int, k_str_int, k_tuple_int, k_list_int, k_NoneType_int, k_dict_int, k_int_bool, k_bool_bool, k_str_bool, k_tuple_bool, k_list_bool, k_NoneType_bool, k_dict_bool, k_int_str, k_bool_str, k_str_str, k_tuple_str, k_list_str, k_NoneType_str, k_dict_str, k_int_tuple, k_bool_tuple, k_str_tuple, k_tuple_tuple, k_list_tuple, k_NoneType_tuple, k_dict_tuple, k_int_list, k_bool_list, k_str_list, k_tuple_list, k_list_list, k_NoneType_list, k_dict_list, fis_n, EV.isNon, eq_bl, ne_bl, e, finR (D := d44) rfl]
  | succ n ih =>
    intro p k h
    rw [show k + 1 + (n + 1) = (k + 1 + n) + 1 by omega]
    cases h with
    | int _ i =>
      rw [call44, run_body (D := d44) (B := B44) rfl rfl rfl]; show d44.fin (B44 _ [.val (.int i), .val (.int i), .emp, .emp]) = _; unfold B44
      simp only [r_cC, r_bV, r_bO, r_o1, r_o2, r_t2, r_asB, r_ret, r_tch, r_ofT, r_aN, r_aC, r_bN, r_bC, r_tup, r_lst, r_blt, r_if, r_tval, r_tand, r_tor, r_tnot, r_orT, r_andT, r_orTs, r_not, r_call, r_afterOk, r_afterX, r_seq, r_next, r_brk, r_cnt, r_set, r_par, r_stup, r_aug, r_drop, r_sif, r_sret, r_retnone, r_raise, bind_ok, bind_exc, bind_stk, bind_ite, bind_cond, fin_ite, r_eqI, r_neI, r_leI, r_ltI, r_geI, r_gtI, r_addI, r_iaddI, r_subI, r_mulL, r_mulR, r_divI, r_modI, r_negI, r_leP, r_ixT0, r_ixT1, r_ixT2, r_ixL0, r_ixL1, r_ixL2, r_pv, r_pvF, r_slv, r_slF, r_sv, r_so, r_rp, r_rs, r_rsN, r_rsC, r_cV, r_trB, r_trI, r_retV, r_tgM, r_tgO, r_saN, r_saC, List.getElem?_cons_zero, List.getElem?_cons_succ, List.set_cons_zero, List.set_cons_succ, Bool.cond_decide, cond_true, cond_false, Int.reduceLT, Int.reduceLE, Int.reduceNeg, Int.reduceAdd, Int.reduceSub, Int.reduceMul, Int.reducePow, and_self, decide_true, decide_false, and_true, true_and, reduceIte, if_true, if_false, Bool.not_true, Bool.not_false, r_for, r_forN, r_forC, r_iSeq, r_iRet, r_itT, r_itL, r_itF, r_iRange, r_own, r_isO, r_app, r_ext, r_put, r_callIO, r_afIO, fl_len, ft_len, r_clN, r_clC, r_tTrue, Nat.zero_add, Nat.reduceAdd, List.length_cons, List.length_nil, Int.reduceEq, fIsi, tyP, tysOf, kitAnyS, Option.bind_some, Option.map_some, k_int_int, k_bool_int, k_str_int, k_tuple_int, k_list_int, k_NoneType_int, k_dict_int, k_int_bool, k_bool_bool, k_str_bool, k_tuple_bool, k_list_bool, k_NoneType_bool, k_dict_bool, k_int_str, k_bool_str, k_str_str, k_tuple_str, k_list_str, k_NoneType_str, k_dict_str, k_int_tuple, k_bool_tuple, k_str_tuple, k_tuple_tuple, k_list_tuple, k_NoneType_tuple, k_dict_tuple, k_int_list, k_bool_list, k_str_list, k_tuple_list, k_list_list, k_NoneType_list, k_dict_list, fis_n, EV.isNon, eq_bl, ne_bl, finR (D := d44) rfl]
    | bl _ b =>
      rw [call44, run_body (D := d44) (B := B44) rfl rfl rfl]; show d44.fin (B44 _ [.val (.bl b), .val (.bl b), .emp, .emp]) = _; unfold B44
      simp only [r_cC, r_bV, r_bO, r_o1, r_o2, r_t2, r_asB, r_ret, r_tch, r_ofT, r_aN, r_aC, r_bN, r_bC, r_tup, r_lst, r_blt, r_if, r_tval, r_tand, r_tor, r_tnot, r_orT, r_andT, r_orTs, r_not, r_call, r_afterOk, r_afterX, r_seq, r_next, r_brk, r_cnt, r_set, r_par, r_stup, r_aug, r_drop, r_sif, r_sret, r_retnone, r_raise, bind_ok, bind_exc, bind_stk, bind_ite, bind_cond, fin_ite, r_eqI, r_neI, r_leI, r_ltI, r_geI, r_gtI, r_addI, r_iaddI, r_subI, r_mulL, r_mulR, r_divI, r_modI, r_negI, r_leP, r_ixT0, r_ixT1, r_ixT2, r_ixL0, r_ixL1, r_ixL2, r_pv, r_pvF, r_slv, r_slF, r_sv, r_so, r_rp, r_rs, r_rsN, r_rsC, r_cV, r_trB, r_trI, r_retV, r_tgM, r_tgO, r_saN, r_saC, List.getElem?_cons_zero, List.getElem?_cons_succ, List.set_cons_zero, List.set_cons_succ, Bool.cond_decide, cond_true, cond_false, Int.reduceLT, Int.reduceLE, Int.reduceNeg, Int.reduceAdd, Int.reduceSub, Int.reduceMul, Int.reducePow, and_self, decide_true, decide_false, and_true, true_and, reduceIte, if_true, if_false, Bool.not_true, Bool.not_false, r_for, r_forN, r_forC, r_iSeq, r_iRet, r_itT, r_itL, r_itF, r_iRange, r_own, r_isO, r_app, r_ext, r_put, r_callIO, r_afIO, fl_len, ft_len, r_clN, r_clC, r_tTrue, Nat.zero_add, Nat.reduceAdd, List.length_cons, List.length_nil, Int.reduceEq, fIsi, tyP, tysOf, kitAnyS, Option.bind_some, Option.map_some, k_int_int, k_bool_int, k_str_int, k_tuple_int, k_list_int, k_NoneType_int, k_dict_int, k_int_bool, k_bool_bool, k_str_bool, k_tuple_bool, k_list_bool, k_NoneType_bool, k_dict_bool, k_int_str, k_bool_str, k_str_str, k_tuple_str, k_list_str, k_NoneType_str, k_dict_str, k_int_tuple, k_bool_tuple, k_str_tuple, k_tuple_tuple, k_list_tuple, k_NoneType_tuple, k_dict_tuple, k_int_list, k_bool_list, k_str_list, k_tuple_list, k_list_list, k_NoneType_list, k_dict_list, fis_n, EV.isNon, eq_bl, ne_bl, finR (D := d44) rfl]
    | str _ x hx =>
      have e := eq_str_self hx
      rw [call44, run_body (D := d44) (B := B44) rfl rfl rfl]; show d44.fin (B44 _ [.val (.str x), .val (.str x), .emp, .emp]) = _; unfold B44
      simp only [r_cC, r_bV, r_bO, r_o1, r_o2, r_t2, r_asB, r_ret, r_tch, r_ofT, r_aN, r_aC, r_bN, r_bC, r_tup, r_lst, r_blt, r_if, r_tval, r_tand, r_tor, r_tnot, r_orT, r_andT, r_orTs, r_not, r_call, r_afterOk, r_afterX, r_seq, r_next, r_brk, r_cnt, r_set, r_par, r_stup, r_aug, r_drop, r_sif, r_sret, r_retnone, r_raise, bind_ok, bind_exc, bind_stk, bind_ite, bind_cond, fin_ite, r_eqI, r_neI, r_leI, r_ltI, r_geI, r_gtI, r_addI, r_iaddI, r_subI, r_mulL, r_mulR, r_divI, r_modI, r_negI, r_leP, r_ixT0, r_ixT1, r_ixT2, r_ixL0, r_ixL1, r_ixL2, r_pv, r_pvF, r_slv, r_slF, r_sv, r_so, r_rp, r_rs, r_rsN, r_rsC, r_cV, r_trB, r_trI, r_retV, r_tgM, r_tgO, r_saN, r_saC, List.getElem?_cons_zero, List.getElem?_cons_succ, List.set_cons_zero, List.set_cons_succ, Bool.cond_decide, cond_true, cond_false, Int.reduceLT, Int.reduceLE, Int.reduceNeg, Int.reduceAdd, Int.reduceSub, Int.reduceMul, Int.reducePow, and_self, decide_true, decide_false, and_true, true_and, reduceIte, if_true, if_false, Bool.not_true, Bool.not_false, r_for, r_forN, r_forC, r_iSeq, r_iRet, r_itT, r_itL, r_itF, r_iRange, r_own, r_isO, r_app, r_ext, r_put, r_callIO, r_afIO, fl_len, ft_len, r_clN, r_clC, r_tTrue, Nat.zero_add, Nat.reduceAdd, List.length_cons, List.length_nil, Int.reduceEq, fIsi, tyP, tysOf, kitAnyS, Option.bind_some, Option.map_some, k_int_int, k_bool_int, k_str_int, k_tuple_int, k_list_int, k_NoneType_int, k_dict_int, k_int_bool, k_bool_bool, k_str_bool, k_tuple_bool, k_list_bool, k_NoneType_bool, k_dict_bool, k_int_str, k_bool_str, k_str_str, k_tuple_str, k_list_str, k_NoneType_str, k_dict_str, k_int_tuple, k_bool_tuple, k_str_tuple, k_tuple_tuple, k_list_tuple, k_NoneType_tuple, k_dict_tuple, k_int_list, k_bool_list, k_str_list, k_tuple_list, k_list_list, k_NoneType_list, k_dict_list, fis_n, EV.isNon, eq_bl, ne_bl, e, finR (D := d44) rfl]
    | tup _ ps hl hp =>
      have c := cmp39 (calls (tab L) (k + 1 + n)) (.tup ps) ps rfl hl fun q hq => ih q k (hp q hq)
      rw [call44, run_body (D := d44) (B := B44) rfl rfl rfl]; show d44.fin (B44 _ [.val (.tup ps), .val (.tup ps), .emp, .emp]) = _; unfold B44
      simp only [r_cC, r_bV, r_bO, r_o1, r_o2, r_t2, r_asB, r_ret, r_tch, r_ofT, r_aN, r_aC, r_bN, r_bC, r_tup, r_lst, r_blt, r_if, r_tval, r_tand, r_tor, r_tnot, r_orT, r_andT, r_orTs, r_not, r_call, r_afterOk, r_afterX, r_seq, r_next, r_brk, r_cnt, r_set, r_par, r_stup, r_aug, r_drop, r_sif, r_sret, r_retnone, r_raise, bind_ok, bind_exc, bind_stk, bind_ite, bind_cond, fin_ite, r_eqI, r_neI, r_leI, r_ltI, r_geI, r_gtI, r_addI, r_iaddI, r_subI, r_mulL, r_mulR, r_divI, r_modI, r_negI, r_leP, r_ixT0, r_ixT1, r_ixT2, r_ixL0, r_ixL1, r_ixL2, r_pv, r_pvF, r_slv, r_slF, r_sv, r_so, r_rp, r_rs, r_rsN, r_rsC, r_cV, r_trB, r_trI, r_retV, r_tgM, r_tgO, r_saN, r_saC, List.getElem?_cons_zero, List.getElem?_cons_succ, List.set_cons_zero, List.set_cons_succ, Bool.cond_decide, cond_true, cond_false, Int.reduceLT, Int.reduceLE, Int.reduceNeg, Int.reduceAdd, Int.reduceSub, Int.reduceMul, Int.reducePow, and_self, decide_true, decide_false, and_true, true_and, reduceIte, if_true, if_false, Bool.not_true, Bool.not_false, r_for, r_forN, r_forC, r_iSeq, r_iRet, r_itT, r_itL, r_itF, r_iRange, r_own, r_isO, r_app, r_ext, r_put, r_callIO, r_afIO, fl_len, ft_len, r_clN, r_clC, r_tTrue, Nat.zero_add, Nat.reduceAdd, List.length_cons, List.length_nil, Int.reduceEq, fIsi, tyP, tysOf, kitAnyS, Option.bind_some, Option.map_some, k_int_int, k_bool_int, k_str_int, k_tuple_int, k_list_int, k_NoneType_int, k_dict_int, k_int_bool, k_bool_bool, k_str_bool, k_tuple_bool, k_list_bool, k_NoneType_bool, k_dict_bool, k_int_str, k_bool_str, k_str_str, k_tuple_str, k_list_str, k_NoneType_str, k_dict_str, k_int_tuple, k_bool_tuple, k_str_tuple, k_tuple_tuple, k_list_tuple, k_NoneType_tuple, k_dict_tuple, k_int_list, k_bool_list, k_str_list, k_tuple_list, k_list_list, k_NoneType_list, k_dict_list, fis_n, EV.isNon, eq_bl, ne_bl, c, fall_true, finR (D := d44) rfl]
    | lst _ ps hl hp =>
      have c := cmp39 (calls (tab L) (k + 1 + n)) (.lst ps) ps rfl hl fun q hq => ih q k (hp q hq)
      rw [call44, run_body (D := d44) (B := B44) rfl rfl rfl]; show d44.fin (B44 _ [.val (.lst ps), .val (.lst ps), .emp, .emp]) = _; unfold B44
      simp only [r_cC, r_bV, r_bO, r_o1, r_o2, r_t2, r_asB, r_ret, r_tch, r_ofT, r_aN, r_aC, r_bN, r_bC, r_tup, r_lst, r_blt, r_if, r_tval, r_tand, r_tor, r_tnot, r_orT, r_andT, r_orTs, r_not, r_call, r_afterOk, r_afterX, r_seq, r_next, r_brk, r_cnt, r_set, r_par, r_stup, r_aug, r_drop, r_sif, r_sret, r_retnone, r_raise, bind_ok, bind_exc, bind_stk, bind_ite, bind_cond, fin_ite, r_eqI, r_neI, r_leI, r_ltI, r_geI, r_gtI, r_addI, r_iaddI, r_subI, r_mulL, r_mulR, r_divI, r_modI, r_negI, r_leP, r_ixT0, r_ixT1, r_ixT2, r_ixL0, r_ixL1, r_ixL2, r_pv, r_pvF, r_slv, r_slF, r_sv, r_so, r_rp, r_rs, r_rsN, r_rsC, r_cV, r_trB, r_trI, r_retV, r_tgM, r_tgO, r_saN, r_saC, List.getElem?_cons_zero, List.getElem?_cons_succ, List.set_cons_zero, List.set_cons_succ, Bool.cond_decide, cond_true, cond_false, Int.reduceLT, Int.reduceLE, Int.reduceNeg, Int.reduceAdd, Int.reduceSub, Int.reduceMul, Int.reducePow, and_self, decide_true, decide_false, and_true, true_and, reduceIte, if_true, if_false, Bool.not_true, Bool.not_false, r_for, r_forN, r_forC, r_iSeq, r_iRet, r_itT, r_itL, r_itF, r_iRange, r_own, r_isO, r_app, r_ext, r_put, r_callIO, r_afIO, fl_len, ft_len, r_clN, r_clC, r_tTrue, Nat.zero_add, Nat.reduceAdd, List.length_cons, List.length_nil, Int.reduceEq, fIsi, tyP, tysOf, kitAnyS, Option.bind_some, Option.map_some, k_int_int, k_bool_int, k_str_int, k_tuple_int, k_list_int, k_NoneType_int, k_dict_int, k_int_bool, k_bool_bool, k_str_bool, k_tuple_bool, k_list_bool, k_NoneType_bool, k_dict_bool, k_int_str, k_bool_str, k_str_str, k_tuple_str, k_list_str, k_NoneType_str, k_dict_str, k_int_tuple, k_bool_tuple, k_str_tuple, k_tuple_tuple, k_list_tuple, k_NoneType_tuple, k_dict_tuple, k_int_list, k_bool_list, k_str_list, k_tuple_list, k_list_list, k_NoneType_list, k_dict_list, fis_n, EV.isNon, eq_bl, ne_bl, c, fall_true, finR (D := d44) rfl]
end Hd


set_option Elab.async false
set_option linter.all false
set_option maxRecDepth 100000
set_option maxHeartbeats 1600000
namespace Hd
open PySem PySem.Spec PyProof.Rows L2 EV MA
theorem r_callV {Φ : CallT} {ok : Nat → Bool} {j n : Nat} {as : ADen} {ε : Ev} (h : ε[j]? = some (.val (.gl n))) (ho : ok n = true) : cCallV Φ ok j as ε = cCall Φ n as ε := by
  unfold cCallV
  rw [h]
  dsimp only
  rw [ho]
end Hd


set_option Elab.async false
set_option linter.all false
set_option maxRecDepth 100000
set_option maxHeartbeats 1600000
namespace Hd
open PySem PySem.Spec PyProof.Rows L2 EV MA
/-- a saying is the same as itself -/
theorem sm_S : ∀ s : Say, Sm (dep s) (toPV s)
  | .p => .tup 0 _ (by simp) (by simp only [List.mem_singleton]; rintro p rfl; exact .str _ _ (by decide +kernel))
  | .no => .tup 0 _ (by simp) (by simp only [List.mem_singleton]; rintro p rfl; exact .str _ _ (by decide +kernel))
  | .bin j a b => by
    have up : ∀ (n m : Nat) (p : PV), Sm n p → n ≤ m → Sm m p := fun n m p h => by
      intro hm
      induction h generalizing m with
      | int n i => exact .int m i
      | bl n b => exact .bl m b
      | str n x h => exact .str m x h
      | tup n ps h1 h2 ih =>
        obtain ⟨m, rfl⟩ : ∃ m', m = m' + 1 := ⟨m - 1, by omega⟩
        exact .tup m ps h1 fun p hp => ih p hp m (by omega)
      | lst n ps h1 h2 ih =>
        obtain ⟨m, rfl⟩ : ∃ m', m = m' + 1 := ⟨m - 1, by omega⟩
        exact .lst m ps h1 fun p hp => ih p hp m (by omega)
    have h1 := sm_S a
    have h2 := sm_S b
    show Sm (max (dep a) (dep b) + 1) (.tup [.str (nmJ j), toPV a, toPV b])
    refine .tup _ _ (by simp) fun p hp => ?_
    simp only [List.mem_cons, List.not_mem_nil, or_false] at hp
    rcases hp with rfl | rfl | rfl
    · exact .str _ _ (by cases j <;> decide +kernel)
    · exact up _ _ _ h1 (by omega)
    · exact up _ _ _ h2 (by omega)
theorem same (C n : Nat) (h : n + 1 ≤ C) {p : PV} (s : Sm n p) : calls (tab L) C 44 none [p, p] = .ok (.v (.bl true)) [] := by
  have := sp39 n p (C - (n + 1)) s
  rw [show C - (n + 1) + 1 + n = C by omega] at this
  exact this
end Hd


set_option Elab.async false
set_option linter.all false
set_option maxRecDepth 100000
set_option maxHeartbeats 1600000
namespace Hd
open PySem PySem.Spec PyProof.Rows L2 EV MA
theorem r_cVal {d : Den} {ε : Ev} : cVal d ε = (d ε).bind fun r ε => .ok (.v r.pv) ε := rfl
theorem pv_v (p : PV) : (Val.v p).pv = p := rfl
theorem pv_f (ps : List PV) : (Val.f ps).pv = .lst ps := rfl
/-! below a place -/
theorem q22 (k : Nat) (a b : Int) (a1 : -1 ≤ a) (a2 : a ≤ 1000000) (b1 : -1 ≤ b) (b2 : b ≤ 1000000) : calls (tab L) (k + 4) 22 none [.int a, .int b] = .ok (.v (.int (eitherZ a b))) [] := by
  rw [call22, run_body (D := d22) (B := B22) rfl rfl rfl]; show d22.fin (B22 _ [.val (.int a), .val (.int b), .emp]) = _; unfold B22
  simp only [r_cC, r_bV, r_bO, r_o1, r_o2, r_t2, r_asB, r_ret, r_tch, r_ofT, r_aN, r_aC, r_bN, r_bC, r_tup, r_lst, r_blt, r_if, r_tval, r_tand, r_tor, r_tnot, r_orT, r_andT, r_orTs, r_not, r_call, r_afterOk, r_afterX, r_seq, r_next, r_brk, r_cnt, r_set, r_par, r_stup, r_aug, r_drop, r_sif, r_sret, r_retnone, r_raise, bind_ok, bind_exc, bind_stk, bind_ite, bind_cond, fin_ite, r_eqI, r_neI, r_leI, r_ltI, r_geI, r_gtI, r_addI, r_iaddI, r_subI, r_mulL, r_mulR, r_divI, r_modI, r_negI, r_leP, r_ixT0, r_ixT1, r_ixT2, r_ixL0, r_ixL1, r_ixL2, r_pv, r_pvF, r_slv, r_slF, r_sv, r_so, r_rp, r_rs, r_rsN, r_rsC, r_cV, r_trB, r_trI, r_retV, r_tgM, r_tgO, r_saN, r_saC, List.getElem?_cons_zero, List.getElem?_cons_succ, List.set_cons_zero, List.set_cons_succ, Bool.cond_decide, cond_true, cond_false, Int.reduceLT, Int.reduceLE, Int.reduceNeg, Int.reduceAdd, Int.reduceSub, Int.reduceMul, Int.reducePow, and_self, decide_true, decide_false, and_true, true_and, reduceIte, if_true, if_false, Bool.not_true, Bool.not_false, r_for, r_forN, r_forC, r_iSeq, r_iRet, r_itT, r_itL, r_itF, r_iRange, r_own, r_isO, r_app, r_ext, r_put, r_callIO, r_afIO, fl_len, ft_len, r_clN, r_clC, r_tTrue, Nat.zero_add, Nat.reduceAdd, List.length_cons, List.length_nil, Int.reduceEq, sp16 _ _ a1 a2, sp16 _ _ b1 b2, sp11 _ _ _ a1 b1, finR (D := d22) rfl]
theorem q23 (k : Nat) (a b : Int) (a1 : -1 ≤ a) (a2 : a ≤ 1000000) (b1 : -1 ≤ b) (b2 : b ≤ 1000000) : calls (tab L) (k + 6) 23 none [.int a, .int b] = .ok (.v (.int (leadsZ a b))) [] := by
  show calls (tab L) ((k + 5) + 1) 23 none _ = _
  rw [call23, run_body (D := d23) (B := B23) rfl rfl rfl]; show d23.fin (B23 _ [.val (.int a), .val (.int b), .emp]) = _; unfold B23
  simp only [r_cC, r_bV, r_bO, r_o1, r_o2, r_t2, r_asB, r_ret, r_tch, r_ofT, r_aN, r_aC, r_bN, r_bC, r_tup, r_lst, r_blt, r_if, r_tval, r_tand, r_tor, r_tnot, r_orT, r_andT, r_orTs, r_not, r_call, r_afterOk, r_afterX, r_seq, r_next, r_brk, r_cnt, r_set, r_par, r_stup, r_aug, r_drop, r_sif, r_sret, r_retnone, r_raise, bind_ok, bind_exc, bind_stk, bind_ite, bind_cond, fin_ite, r_eqI, r_neI, r_leI, r_ltI, r_geI, r_gtI, r_addI, r_iaddI, r_subI, r_mulL, r_mulR, r_divI, r_modI, r_negI, r_leP, r_ixT0, r_ixT1, r_ixT2, r_ixL0, r_ixL1, r_ixL2, r_pv, r_pvF, r_slv, r_slF, r_sv, r_so, r_rp, r_rs, r_rsN, r_rsC, r_cV, r_trB, r_trI, r_retV, r_tgM, r_tgO, r_saN, r_saC, List.getElem?_cons_zero, List.getElem?_cons_succ, List.set_cons_zero, List.set_cons_succ, Bool.cond_decide, cond_true, cond_false, Int.reduceLT, Int.reduceLE, Int.reduceNeg, Int.reduceAdd, Int.reduceSub, Int.reduceMul, Int.reducePow, and_self, decide_true, decide_false, and_true, true_and, reduceIte, if_true, if_false, Bool.not_true, Bool.not_false, r_for, r_forN, r_forC, r_iSeq, r_iRet, r_itT, r_itL, r_itF, r_iRange, r_own, r_isO, r_app, r_ext, r_put, r_callIO, r_afIO, fl_len, ft_len, r_clN, r_clC, r_tTrue, Nat.zero_add, Nat.reduceAdd, List.length_cons, List.length_nil, Int.reduceEq, sp16 _ _ a1 a2, sp16 _ _ b1 b2, sp14, finR (D := d23) rfl]
theorem q25 (k : Nat) (t : Int) (h1 : 0 ≤ t) (h2 : t ≤ 1000000) : calls (tab L) (k + 4) 25 none [.int t] = .ok (.v (.int (manyZ t))) [] := by
  by_cases c : t < 3
  · have hc : t = 0 ∨ t = 1 ∨ t = 2 := by omega
    rcases hc with rfl | rfl | rfl
    · rfl
    · rfl
    · rfl
  · have g0 : decide (t = -1) = false := decide_eq_false (by omega)
    have g1 : decide (t < 3) = false := decide_eq_false c
    have e2 := r_modI t 2 (by omega)
    have em : manyZ t = if t % 2 = 1 then t + 1 else t - 1 := by unfold manyZ; rw [if_neg c]
    rw [em]
    rw [call25, run_body (D := d25) (B := B25) rfl rfl rfl]; show d25.fin (B25 _ [.val (.int t), .emp]) = _; unfold B25
    by_cases c2 : t % 2 = 1
    · rw [if_pos c2]
      have g2 := decide_eq_true c2
      simp only [r_cC, r_bV, r_bO, r_o1, r_o2, r_t2, r_asB, r_ret, r_tch, r_ofT, r_aN, r_aC, r_bN, r_bC, r_tup, r_lst, r_blt, r_if, r_tval, r_tand, r_tor, r_tnot, r_orT, r_andT, r_orTs, r_not, r_call, r_afterOk, r_afterX, r_seq, r_next, r_brk, r_cnt, r_set, r_par, r_stup, r_aug, r_drop, r_sif, r_sret, r_retnone, r_raise, bind_ok, bind_exc, bind_stk, bind_ite, bind_cond, fin_ite, r_eqI, r_neI, r_leI, r_ltI, r_geI, r_gtI, r_addI, r_iaddI, r_subI, r_mulL, r_mulR, r_divI, r_modI, r_negI, r_leP, r_ixT0, r_ixT1, r_ixT2, r_ixL0, r_ixL1, r_ixL2, r_pv, r_pvF, r_slv, r_slF, r_sv, r_so, r_rp, r_rs, r_rsN, r_rsC, r_cV, r_trB, r_trI, r_retV, r_tgM, r_tgO, r_saN, r_saC, List.getElem?_cons_zero, List.getElem?_cons_succ, List.set_cons_zero, List.set_cons_succ, Bool.cond_decide, cond_true, cond_false, Int.reduceLT, Int.reduceLE, Int.reduceNeg, Int.reduceAdd, Int.reduceSub, Int.reduceMul, Int.reducePow, and_self, decide_true, decide_false, and_true, true_and, reduceIte, if_true, if_false, Bool.not_true, Bool.not_false, r_for, r_forN, r_forC, r_iSeq, r_iRet, r_itT, r_itL, r_itF, r_iRange, r_own, r_isO, r_app, r_ext, r_put, r_callIO, r_afIO, fl_len, ft_len, r_clN, r_clC, r_tTrue, Nat.zero_add, Nat.reduceAdd, List.length_cons, List.length_nil, Int.reduceEq, sp16 _ _ (show -1 ≤ t by omega) h2, g0, g1, e2, g2, finR (D := d25) rfl]
    · rw [if_neg c2]
      have g2 := decide_eq_false c2
      simp only [r_cC, r_bV, r_bO, r_o1, r_o2, r_t2, r_asB, r_ret, r_tch, r_ofT, r_aN, r_aC, r_bN, r_bC, r_tup, r_lst, r_blt, r_if, r_tval, r_tand, r_tor, r_tnot, r_orT, r_andT, r_orTs, r_not, r_call, r_afterOk, r_afterX, r_seq, r_next, r_brk, r_cnt, r_set, r_par, r_stup, r_aug, r_drop, r_sif, r_sret, r_retnone, r_raise, bind_ok, bind_exc, bind_stk, bind_ite, bind_cond, fin_ite, r_eqI, r_neI, r_leI, r_ltI, r_geI, r_gtI, r_addI, r_iaddI, r_subI, r_mulL, r_mulR, r_divI, r_modI, r_negI, r_leP, r_ixT0, r_ixT1, r_ixT2, r_ixL0, r_ixL1, r_ixL2, r_pv, r_pvF, r_slv, r_slF, r_sv, r_so, r_rp, r_rs, r_rsN, r_rsC, r_cV, r_trB, r_trI, r_retV, r_tgM, r_tgO, r_saN, r_saC, List.getElem?_cons_zero, List.getElem?_cons_succ, List.set_cons_zero, List.set_cons_succ, Bool.cond_decide, cond_true, cond_false, Int.reduceLT, Int.reduceLE, Int.reduceNeg, Int.reduceAdd, Int.reduceSub, Int.reduceMul, Int.reducePow, and_self, decide_true, decide_false, and_true, true_and, reduceIte, if_true, if_false, Bool.not_true, Bool.not_false, r_for, r_forN, r_forC, r_iSeq, r_iRet, r_itT, r_itL, r_itF, r_iRange, r_own, r_isO, r_app, r_ext, r_put, r_callIO, r_afIO, fl_len, ft_len, r_clN, r_clC, r_tTrue, Nat.zero_add, Nat.reduceAdd, List.length_cons, List.length_nil, Int.reduceEq, sp16 _ _ (show -1 ≤ t by omega) h2, g0, g1, e2, g2, finR (D := d25) rfl]
theorem q26 (k : Nat) (t : Int) (s : Say) (h1 : -1 ≤ t) (h2 : t ≤ 1000000) (hs : siz s ≤ 300) (hd : dep s ≤ 60) : calls (tab L) (k + 66) 26 none [.int t, toPV s] = .ok (.v (.int (bothZ t (valZ s 1)))) [] := by
  show calls (tab L) ((k + 65) + 1) 26 none _ = _
  rw [call26, run_body (D := d26) (B := B26) rfl rfl rfl]; show d26.fin (B26 _ [.val (.int t), .val (toPV s), .emp]) = _; unfold B26
  have e : calls (tab L) (k + 65) 8 none [toPV s] = .ok (.v (toPV s)) [] := sp5 (k + 3) s hs hd
  have e0 : calls (tab L) (k + 65) 19 none [.int t] = .ok (.v (.int t)) [] := sp16 (k + 62) t h1 h2
  have e3 : calls (tab L) (k + 65) 13 none [.int t, .int (valZ s 1)] = .ok (.v (.int (bothZ t (valZ s 1)))) [] := sp10 (k + 62) _ _
  simp only [r_cC, r_bV, r_bO, r_o1, r_o2, r_t2, r_asB, r_ret, r_tch, r_ofT, r_aN, r_aC, r_bN, r_bC, r_tup, r_lst, r_blt, r_if, r_tval, r_tand, r_tor, r_tnot, r_orT, r_andT, r_orTs, r_not, r_call, r_afterOk, r_afterX, r_seq, r_next, r_brk, r_cnt, r_set, r_par, r_stup, r_aug, r_drop, r_sif, r_sret, r_retnone, r_raise, bind_ok, bind_exc, bind_stk, bind_ite, bind_cond, fin_ite, r_eqI, r_neI, r_leI, r_ltI, r_geI, r_gtI, r_addI, r_iaddI, r_subI, r_mulL, r_mulR, r_divI, r_modI, r_negI, r_leP, r_ixT0, r_ixT1, r_ixT2, r_ixL0, r_ixL1, r_ixL2, r_pv, r_pvF, r_slv, r_slF, r_sv, r_so, r_rp, r_rs, r_rsN, r_rsC, r_cV, r_trB, r_trI, r_retV, r_tgM, r_tgO, r_saN, r_saC, List.getElem?_cons_zero, List.getElem?_cons_succ, List.set_cons_zero, List.set_cons_succ, Bool.cond_decide, cond_true, cond_false, Int.reduceLT, Int.reduceLE, Int.reduceNeg, Int.reduceAdd, Int.reduceSub, Int.reduceMul, Int.reducePow, and_self, decide_true, decide_false, and_true, true_and, reduceIte, if_true, if_false, Bool.not_true, Bool.not_false, r_for, r_forN, r_forC, r_iSeq, r_iRet, r_itT, r_itL, r_itF, r_iRange, r_own, r_isO, r_app, r_ext, r_put, r_callIO, r_afIO, fl_len, ft_len, r_clN, r_clC, r_tTrue, Nat.zero_add, Nat.reduceAdd, List.length_cons, List.length_nil, Int.reduceEq, sp15' k s 1 hd (by omega), e, e0, e3, finR (D := d26) rfl]
section
variable (k : Nat) (t x y : Int) (t1 : -1 ≤ t) (t2 : t ≤ 1000000) (x1 : -1 ≤ x) (x2 : x ≤ 1000000) (y1 : -1 ≤ y) (y2 : y ≤ 1000000)
include t1 t2 x1 x2 y1 y2
theorem q30 (bx : belowZ x t = true) (bY : belowZ y t = true) : calls (tab L) (k + 5) 30 none [.int t, .int x, .int y] = .ok (.v (.tup [.int t, .int x, .int y])) [] := by
  rw [call30, run_body (D := d30) (B := B30) rfl rfl rfl]; show d30.fin (B30 _ [.val (.int t), .val (.int x), .val (.int y), .emp, .emp, .emp]) = _; unfold B30
  simp only [r_cC, r_bV, r_bO, r_o1, r_o2, r_t2, r_asB, r_ret, r_tch, r_ofT, r_aN, r_aC, r_bN, r_bC, r_tup, r_lst, r_blt, r_if, r_tval, r_tand, r_tor, r_tnot, r_orT, r_andT, r_orTs, r_not, r_call, r_afterOk, r_afterX, r_seq, r_next, r_brk, r_cnt, r_set, r_par, r_stup, r_aug, r_drop, r_sif, r_sret, r_retnone, r_raise, bind_ok, bind_exc, bind_stk, bind_ite, bind_cond, fin_ite, r_eqI, r_neI, r_leI, r_ltI, r_geI, r_gtI, r_addI, r_iaddI, r_subI, r_mulL, r_mulR, r_divI, r_modI, r_negI, r_leP, r_ixT0, r_ixT1, r_ixT2, r_ixL0, r_ixL1, r_ixL2, r_pv, r_pvF, r_slv, r_slF, r_sv, r_so, r_rp, r_rs, r_rsN, r_rsC, r_cV, r_trB, r_trI, r_retV, r_tgM, r_tgO, r_saN, r_saC, List.getElem?_cons_zero, List.getElem?_cons_succ, List.set_cons_zero, List.set_cons_succ, Bool.cond_decide, cond_true, cond_false, Int.reduceLT, Int.reduceLE, Int.reduceNeg, Int.reduceAdd, Int.reduceSub, Int.reduceMul, Int.reducePow, and_self, decide_true, decide_false, and_true, true_and, reduceIte, if_true, if_false, Bool.not_true, Bool.not_false, r_for, r_forN, r_forC, r_iSeq, r_iRet, r_itT, r_itL, r_itF, r_iRange, r_own, r_isO, r_app, r_ext, r_put, r_callIO, r_afIO, fl_len, ft_len, r_clN, r_clC, r_tTrue, Nat.zero_add, Nat.reduceAdd, List.length_cons, List.length_nil, Int.reduceEq, sp16 _ _ t1 t2, sp16 _ _ x1 x2, sp16 _ _ y1 y2, sp13, bx, bY, finR (D := d30) rfl]
theorem q30x (h : belowZ x t = false ∨ (belowZ x t = true ∧ belowZ y t = false)) : calls (tab L) (k + 5) 30 none [.int t, .int x, .int y] = .exc 50 .non := by
  rw [call30, run_body (D := d30) (B := B30) rfl rfl rfl]; show d30.fin (B30 _ [.val (.int t), .val (.int x), .val (.int y), .emp, .emp, .emp]) = _; unfold B30
  rcases h with h | ⟨h, h'⟩
  · simp only [r_cC, r_bV, r_bO, r_o1, r_o2, r_t2, r_asB, r_ret, r_tch, r_ofT, r_aN, r_aC, r_bN, r_bC, r_tup, r_lst, r_blt, r_if, r_tval, r_tand, r_tor, r_tnot, r_orT, r_andT, r_orTs, r_not, r_call, r_afterOk, r_afterX, r_seq, r_next, r_brk, r_cnt, r_set, r_par, r_stup, r_aug, r_drop, r_sif, r_sret, r_retnone, r_raise, bind_ok, bind_exc, bind_stk, bind_ite, bind_cond, fin_ite, r_eqI, r_neI, r_leI, r_ltI, r_geI, r_gtI, r_addI, r_iaddI, r_subI, r_mulL, r_mulR, r_divI, r_modI, r_negI, r_leP, r_ixT0, r_ixT1, r_ixT2, r_ixL0, r_ixL1, r_ixL2, r_pv, r_pvF, r_slv, r_slF, r_sv, r_so, r_rp, r_rs, r_rsN, r_rsC, r_cV, r_trB, r_trI, r_retV, r_tgM, r_tgO, r_saN, r_saC, List.getElem?_cons_zero, List.getElem?_cons_succ, List.set_cons_zero, List.set_cons_succ, Bool.cond_decide, cond_true, cond_false, Int.reduceLT, Int.reduceLE, Int.reduceNeg, Int.reduceAdd, Int.reduceSub, Int.reduceMul, Int.reducePow, and_self, decide_true, decide_false, and_true, true_and, reduceIte, if_true, if_false, Bool.not_true, Bool.not_false, r_for, r_forN, r_forC, r_iSeq, r_iRet, r_itT, r_itL, r_itF, r_iRange, r_own, r_isO, r_app, r_ext, r_put, r_callIO, r_afIO, fl_len, ft_len, r_clN, r_clC, r_tTrue, Nat.zero_add, Nat.reduceAdd, List.length_cons, List.length_nil, Int.reduceEq, sp16 _ _ t1 t2, sp16 _ _ x1 x2, sp16 _ _ y1 y2, sp13, h, finX (D := d30) rfl]
  · simp only [r_cC, r_bV, r_bO, r_o1, r_o2, r_t2, r_asB, r_ret, r_tch, r_ofT, r_aN, r_aC, r_bN, r_bC, r_tup, r_lst, r_blt, r_if, r_tval, r_tand, r_tor, r_tnot, r_orT, r_andT, r_orTs, r_not, r_call, r_afterOk, r_afterX, r_seq, r_next, r_brk, r_cnt, r_set, r_par, r_stup, r_aug, r_drop, r_sif, r_sret, r_retnone, r_raise, bind_ok, bind_exc, bind_stk, bind_ite, bind_cond, fin_ite, r_eqI, r_neI, r_leI, r_ltI, r_geI, r_gtI, r_addI, r_iaddI, r_subI, r_mulL, r_mulR, r_divI, r_modI, r_negI, r_leP, r_ixT0, r_ixT1, r_ixT2, r_ixL0, r_ixL1, r_ixL2, r_pv, r_pvF, r_slv, r_slF, r_sv, r_so, r_rp, r_rs, r_rsN, r_rsC, r_cV, r_trB, r_trI, r_retV, r_tgM, r_tgO, r_saN, r_saC, List.getElem?_cons_zero, List.getElem?_cons_succ, List.set_cons_zero, List.set_cons_succ, Bool.cond_decide, cond_true, cond_false, Int.reduceLT, Int.reduceLE, Int.reduceNeg, Int.reduceAdd, Int.reduceSub, Int.reduceMul, Int.reducePow, and_self, decide_true, decide_false, and_true, true_and, reduceIte, if_true, if_false, Bool.not_true, Bool.not_false, r_for, r_forN, r_forC, r_iSeq, r_iRet, r_itT, r_itL, r_itF, r_iRange, r_own, r_isO, r_app, r_ext, r_put, r_callIO, r_afIO, fl_len, ft_len, r_clN, r_clC, r_tTrue, Nat.zero_add, Nat.reduceAdd, List.length_cons, List.length_nil, Int.reduceEq, sp16 _ _ t1 t2, sp16 _ _ x1 x2, sp16 _ _ y1 y2, sp13, h, h', finX (D := d30) rfl]
theorem q27 (bx : belowZ x t = true) (bY : belowZ y t = true) : calls (tab L) (k + 6) 27 none [.int t, .int x, .int y] = .ok (.v (.int (bothZ (bothZ x y) t))) [] := by
  show calls (tab L) ((k + 5) + 1) 27 none _ = _
  rw [call27, run_body (D := d27) (B := B27) rfl rfl rfl]; show d27.fin (B27 _ [.val (.int t), .val (.int x), .val (.int y), .emp, .emp, .emp]) = _; unfold B27
  simp only [r_cC, r_bV, r_bO, r_o1, r_o2, r_t2, r_asB, r_ret, r_tch, r_ofT, r_aN, r_aC, r_bN, r_bC, r_tup, r_lst, r_blt, r_if, r_tval, r_tand, r_tor, r_tnot, r_orT, r_andT, r_orTs, r_not, r_call, r_afterOk, r_afterX, r_seq, r_next, r_brk, r_cnt, r_set, r_par, r_stup, r_aug, r_drop, r_sif, r_sret, r_retnone, r_raise, bind_ok, bind_exc, bind_stk, bind_ite, bind_cond, fin_ite, r_eqI, r_neI, r_leI, r_ltI, r_geI, r_gtI, r_addI, r_iaddI, r_subI, r_mulL, r_mulR, r_divI, r_modI, r_negI, r_leP, r_ixT0, r_ixT1, r_ixT2, r_ixL0, r_ixL1, r_ixL2, r_pv, r_pvF, r_slv, r_slF, r_sv, r_so, r_rp, r_rs, r_rsN, r_rsC, r_cV, r_trB, r_trI, r_retV, r_tgM, r_tgO, r_saN, r_saC, List.getElem?_cons_zero, List.getElem?_cons_succ, List.set_cons_zero, List.set_cons_succ, Bool.cond_decide, cond_true, cond_false, Int.reduceLT, Int.reduceLE, Int.reduceNeg, Int.reduceAdd, Int.reduceSub, Int.reduceMul, Int.reducePow, and_self, decide_true, decide_false, and_true, true_and, reduceIte, if_true, if_false, Bool.not_true, Bool.not_false, r_for, r_forN, r_forC, r_iSeq, r_iRet, r_itT, r_itL, r_itF, r_iRange, r_own, r_isO, r_app, r_ext, r_put, r_callIO, r_afIO, fl_len, ft_len, r_clN, r_clC, r_tTrue, Nat.zero_add, Nat.reduceAdd, List.length_cons, List.length_nil, Int.reduceEq, q30 k t x y t1 t2 x1 x2 y1 y2 bx bY, sp10, finR (D := d27) rfl]
theorem q28 (bx : belowZ x t = true) (bY : belowZ y t = true) : calls (tab L) (k + 6) 28 none [.int t, .int x, .int y] = .ok (.v (.int (bothZ (eitherZ x y) t))) [] := by
  show calls (tab L) ((k + 5) + 1) 28 none _ = _
  rw [call28, run_body (D := d28) (B := B28) rfl rfl rfl]; show d28.fin (B28 _ [.val (.int t), .val (.int x), .val (.int y), .emp, .emp, .emp]) = _; unfold B28
  simp only [r_cC, r_bV, r_bO, r_o1, r_o2, r_t2, r_asB, r_ret, r_tch, r_ofT, r_aN, r_aC, r_bN, r_bC, r_tup, r_lst, r_blt, r_if, r_tval, r_tand, r_tor, r_tnot, r_orT, r_andT, r_orTs, r_not, r_call, r_afterOk, r_afterX, r_seq, r_next, r_brk, r_cnt, r_set, r_par, r_stup, r_aug, r_drop, r_sif, r_sret, r_retnone, r_raise, bind_ok, bind_exc, bind_stk, bind_ite, bind_cond, fin_ite, r_eqI, r_neI, r_leI, r_ltI, r_geI, r_gtI, r_addI, r_iaddI, r_subI, r_mulL, r_mulR, r_divI, r_modI, r_negI, r_leP, r_ixT0, r_ixT1, r_ixT2, r_ixL0, r_ixL1, r_ixL2, r_pv, r_pvF, r_slv, r_slF, r_sv, r_so, r_rp, r_rs, r_rsN, r_rsC, r_cV, r_trB, r_trI, r_retV, r_tgM, r_tgO, r_saN, r_saC, List.getElem?_cons_zero, List.getElem?_cons_succ, List.set_cons_zero, List.set_cons_succ, Bool.cond_decide, cond_true, cond_false, Int.reduceLT, Int.reduceLE, Int.reduceNeg, Int.reduceAdd, Int.reduceSub, Int.reduceMul, Int.reducePow, and_self, decide_true, decide_false, and_true, true_and, reduceIte, if_true, if_false, Bool.not_true, Bool.not_false, r_for, r_forN, r_forC, r_iSeq, r_iRet, r_itT, r_itL, r_itF, r_iRange, r_own, r_isO, r_app, r_ext, r_put, r_callIO, r_afIO, fl_len, ft_len, r_clN, r_clC, r_tTrue, Nat.zero_add, Nat.reduceAdd, List.length_cons, List.length_nil, Int.reduceEq, q30 k t x y t1 t2 x1 x2 y1 y2 bx bY, sp10, sp11 _ _ _ x1 y1, finR (D := d28) rfl]
theorem q29 (bx : belowZ x t = true) (bY : belowZ y t = true) : calls (tab L) (k + 6) 29 none [.int t, .int x, .int y] = .ok (.v (.int (bothZ t (leadsZ x y)))) [] := by
  show calls (tab L) ((k + 5) + 1) 29 none _ = _
  rw [call29, run_body (D := d29) (B := B29) rfl rfl rfl]; show d29.fin (B29 _ [.val (.int t), .val (.int x), .val (.int y), .emp, .emp, .emp]) = _; unfold B29
  simp only [r_cC, r_bV, r_bO, r_o1, r_o2, r_t2, r_asB, r_ret, r_tch, r_ofT, r_aN, r_aC, r_bN, r_bC, r_tup, r_lst, r_blt, r_if, r_tval, r_tand, r_tor, r_tnot, r_orT, r_andT, r_orTs, r_not, r_call, r_afterOk, r_afterX, r_seq, r_next, r_brk, r_cnt, r_set, r_par, r_stup, r_aug, r_drop, r_sif, r_sret, r_retnone, r_raise, bind_ok, bind_exc, bind_stk, bind_ite, bind_cond, fin_ite, r_eqI, r_neI, r_leI, r_ltI, r_geI, r_gtI, r_addI, r_iaddI, r_subI, r_mulL, r_mulR, r_divI, r_modI, r_negI, r_leP, r_ixT0, r_ixT1, r_ixT2, r_ixL0, r_ixL1, r_ixL2, r_pv, r_pvF, r_slv, r_slF, r_sv, r_so, r_rp, r_rs, r_rsN, r_rsC, r_cV, r_trB, r_trI, r_retV, r_tgM, r_tgO, r_saN, r_saC, List.getElem?_cons_zero, List.getElem?_cons_succ, List.set_cons_zero, List.set_cons_succ, Bool.cond_decide, cond_true, cond_false, Int.reduceLT, Int.reduceLE, Int.reduceNeg, Int.reduceAdd, Int.reduceSub, Int.reduceMul, Int.reducePow, and_self, decide_true, decide_false, and_true, true_and, reduceIte, if_true, if_false, Bool.not_true, Bool.not_false, r_for, r_forN, r_forC, r_iSeq, r_iRet, r_itT, r_itL, r_itF, r_iRange, r_own, r_isO, r_app, r_ext, r_put, r_callIO, r_afIO, fl_len, ft_len, r_clN, r_clC, r_tTrue, Nat.zero_add, Nat.reduceAdd, List.length_cons, List.length_nil, Int.reduceEq, q30 k t x y t1 t2 x1 x2 y1 y2 bx bY, sp10, sp14, finR (D := d29) rfl]
theorem q27x (h : belowZ x t = false ∨ (belowZ x t = true ∧ belowZ y t = false)) : calls (tab L) (k + 6) 27 none [.int t, .int x, .int y] = .exc 50 .non := by
  show calls (tab L) ((k + 5) + 1) 27 none _ = _
  rw [call27, run_body (D := d27) (B := B27) rfl rfl rfl]; show d27.fin (B27 _ [.val (.int t), .val (.int x), .val (.int y), .emp, .emp, .emp]) = _; unfold B27
  simp only [r_cC, r_bV, r_bO, r_o1, r_o2, r_t2, r_asB, r_ret, r_tch, r_ofT, r_aN, r_aC, r_bN, r_bC, r_tup, r_lst, r_blt, r_if, r_tval, r_tand, r_tor, r_tnot, r_orT, r_andT, r_orTs, r_not, r_call, r_afterOk, r_afterX, r_seq, r_next, r_brk, r_cnt, r_set, r_par, r_stup, r_aug, r_drop, r_sif, r_sret, r_retnone, r_raise, bind_ok, bind_exc, bind_stk, bind_ite, bind_cond, fin_ite, r_eqI, r_neI, r_leI, r_ltI, r_geI, r_gtI, r_addI, r_iaddI, r_subI, r_mulL, r_mulR, r_divI, r_modI, r_negI, r_leP, r_ixT0, r_ixT1, r_ixT2, r_ixL0, r_ixL1, r_ixL2, r_pv, r_pvF, r_slv, r_slF, r_sv, r_so, r_rp, r_rs, r_rsN, r_rsC, r_cV, r_trB, r_trI, r_retV, r_tgM, r_tgO, r_saN, r_saC, List.getElem?_cons_zero, List.getElem?_cons_succ, List.set_cons_zero, List.set_cons_succ, Bool.cond_decide, cond_true, cond_false, Int.reduceLT, Int.reduceLE, Int.reduceNeg, Int.reduceAdd, Int.reduceSub, Int.reduceMul, Int.reducePow, and_self, decide_true, decide_false, and_true, true_and, reduceIte, if_true, if_false, Bool.not_true, Bool.not_false, r_for, r_forN, r_forC, r_iSeq, r_iRet, r_itT, r_itL, r_itF, r_iRange, r_own, r_isO, r_app, r_ext, r_put, r_callIO, r_afIO, fl_len, ft_len, r_clN, r_clC, r_tTrue, Nat.zero_add, Nat.reduceAdd, List.length_cons, List.length_nil, Int.reduceEq, q30x k t x y t1 t2 x1 x2 y1 y2 h, finX (D := d27) rfl]
theorem q28x (h : belowZ x t = false ∨ (belowZ x t = true ∧ belowZ y t = false)) : calls (tab L) (k + 6) 28 none [.int t, .int x, .int y] = .exc 50 .non := by
  show calls (tab L) ((k + 5) + 1) 28 none _ = _
  rw [call28, run_body (D := d28) (B := B28) rfl rfl rfl]; show d28.fin (B28 _ [.val (.int t), .val (.int x), .val (.int y), .emp, .emp, .emp]) = _; unfold B28
  simp only [r_cC, r_bV, r_bO, r_o1, r_o2, r_t2, r_asB, r_ret, r_tch, r_ofT, r_aN, r_aC, r_bN, r_bC, r_tup, r_lst, r_blt, r_if, r_tval, r_tand, r_tor, r_tnot, r_orT, r_andT, r_orTs, r_not, r_call, r_afterOk, r_afterX, r_seq, r_next, r_brk, r_cnt, r_set, r_par, r_stup, r_aug, r_drop, r_sif, r_sret, r_retnone, r_raise, bind_ok, bind_exc, bind_stk, bind_ite, bind_cond, fin_ite, r_eqI, r_neI, r_leI, r_ltI, r_geI, r_gtI, r_addI, r_iaddI, r_subI, r_mulL, r_mulR, r_divI, r_modI, r_negI, r_leP, r_ixT0, r_ixT1, r_ixT2, r_ixL0, r_ixL1, r_ixL2, r_pv, r_pvF, r_slv, r_slF, r_sv, r_so, r_rp, r_rs, r_rsN, r_rsC, r_cV, r_trB, r_trI, r_retV, r_tgM, r_tgO, r_saN, r_saC, List.getElem?_cons_zero, List.getElem?_cons_succ, List.set_cons_zero, List.set_cons_succ, Bool.cond_decide, cond_true, cond_false, Int.reduceLT, Int.reduceLE, Int.reduceNeg, Int.reduceAdd, Int.reduceSub, Int.reduceMul, Int.reducePow, and_self, decide_true, decide_false, and_true, true_and, reduceIte, if_true, if_false, Bool.not_true, Bool.not_false, r_for, r_forN, r_forC, r_iSeq, r_iRet, r_itT, r_itL, r_itF, r_iRange, r_own, r_isO, r_app, r_ext, r_put, r_callIO, r_afIO, fl_len, ft_len, r_clN, r_clC, r_tTrue, Nat.zero_add, Nat.reduceAdd, List.length_cons, List.length_nil, Int.reduceEq, q30x k t x y t1 t2 x1 x2 y1 y2 h, finX (D := d28) rfl]
theorem q29x (h : belowZ x t = false ∨ (belowZ x t = true ∧ belowZ y t = false)) : calls (tab L) (k + 6) 29 none [.int t, .int x, .int y] = .exc 50 .non := by
  show calls (tab L) ((k + 5) + 1) 29 none _ = _
  rw [call29, run_body (D := d29) (B := B29) rfl rfl rfl]; show d29.fin (B29 _ [.val (.int t), .val (.int x), .val (.int y), .emp, .emp, .emp]) = _; unfold B29
  simp only [r_cC, r_bV, r_bO, r_o1, r_o2, r_t2, r_asB, r_ret, r_tch, r_ofT, r_aN, r_aC, r_bN, r_bC, r_tup, r_lst, r_blt, r_if, r_tval, r_tand, r_tor, r_tnot, r_orT, r_andT, r_orTs, r_not, r_call, r_afterOk, r_afterX, r_seq, r_next, r_brk, r_cnt, r_set, r_par, r_stup, r_aug, r_drop, r_sif, r_sret, r_retnone, r_raise, bind_ok, bind_exc, bind_stk, bind_ite, bind_cond, fin_ite, r_eqI, r_neI, r_leI, r_ltI, r_geI, r_gtI, r_addI, r_iaddI, r_subI, r_mulL, r_mulR, r_divI, r_modI, r_negI, r_leP, r_ixT0, r_ixT1, r_ixT2, r_ixL0, r_ixL1, r_ixL2, r_pv, r_pvF, r_slv, r_slF, r_sv, r_so, r_rp, r_rs, r_rsN, r_rsC, r_cV, r_trB, r_trI, r_retV, r_tgM, r_tgO, r_saN, r_saC, List.getElem?_cons_zero, List.getElem?_cons_succ, List.set_cons_zero, List.set_cons_succ, Bool.cond_decide, cond_true, cond_false, Int.reduceLT, Int.reduceLE, Int.reduceNeg, Int.reduceAdd, Int.reduceSub, Int.reduceMul, Int.reducePow, and_self, decide_true, decide_false, and_true, true_and, reduceIte, if_true, if_false, Bool.not_true, Bool.not_false, r_for, r_forN, r_forC, r_iSeq, r_iRet, r_itT, r_itL, r_itF, r_iRange, r_own, r_isO, r_app, r_ext, r_put, r_callIO, r_afIO, fl_len, ft_len, r_clN, r_clC, r_tTrue, Nat.zero_add, Nat.reduceAdd, List.length_cons, List.length_nil, Int.reduceEq, q30x k t x y t1 t2 x1 x2 y1 y2 h, finX (D := d29) rfl]
end
theorem r_range1 (j : Int) (h : -(2 ^ 62) ≤ j ∧ j < 2 ^ 62 ∧ j ≤ 2 ^ 24) : rangeOf [.int j] = some (rangeL 0 j.toNat) := by
  show (if _ then _ else _) = _
  exact if_pos h
theorem range_int (n : Nat) : rangeL 0 n = ((List.range n).map fun (i : Nat) => (i : Int)).map .int := by
  unfold rangeL
  rw [List.map_map]
  refine List.map_congr_left fun i _ => ?_
  show PV.int (0 + (i : Int)) = PV.int (i : Int)
  rw [Int.zero_add]
theorem fil_int (q : Int → Bool) : ∀ l : List Int, (l.map PV.int).filter (qI q) = (l.filter q).map .int
  | [] => rfl
  | a :: l => by
    have ih := fil_int q l
    rw [List.map_cons, List.filter_cons, List.filter_cons, ih]
    show (if q a = true then _ else _) = _
    cases q a <;> rfl
theorem q31 (k : Nat) (t l : Int) (t1 : 0 ≤ t) (t2 : t ≤ 2000) (l1 : -1 ≤ l) (l2 : l ≤ 1000000) (bl : belowZ l t = true) : calls (tab L) (k + 5) 31 none [.int t, .int l] = .ok (.f ((lotsZ t).map fun x => .int (bothZ l x))) [] := by
  rw [call31, run_body (D := d31) (B := B31) rfl rfl rfl]; show d31.fin (B31 _ [.val (.int t), .val (.int l), .emp, .emp, .emp]) = _; unfold B31
  have e6 : calls (tab L) (k + 4) 6 none [.int t, .int 0, .int 2000] = .ok (.v (.int t)) [] := sp3 (k + 1) t 0 2000 t1 t2
  have c := comp_fm (v := 4) (ε := [.val (.int t), .val (.int l), .val (.int t), .val (.int l), .emp]) (it := iRange (bCons (bOf (cOp2 fAdd (bVar 2) (bOf (cC (.int 1))))) (bNil)))
    (t := B31t2 (calls (tab L) (k + 4))) (e := B31e1 (calls (tab L) (k + 4))) (qI fun x => belowZ x t) (fun p => match p with
      | .int x => .int (bothZ l x)
      | p => p) (ps := rangeL 0 (t + 1).toNat) (by
      have r := r_range1 (t + 1) (by omega)
      simp only [r_cC, r_bV, r_bO, r_o1, r_o2, r_t2, r_asB, r_ret, r_tch, r_ofT, r_aN, r_aC, r_bN, r_bC, r_tup, r_lst, r_blt, r_if, r_tval, r_tand, r_tor, r_tnot, r_orT, r_andT, r_orTs, r_not, r_call, r_afterOk, r_afterX, r_seq, r_next, r_brk, r_cnt, r_set, r_par, r_stup, r_aug, r_drop, r_sif, r_sret, r_retnone, r_raise, bind_ok, bind_exc, bind_stk, bind_ite, bind_cond, fin_ite, r_eqI, r_neI, r_leI, r_ltI, r_geI, r_gtI, r_addI, r_iaddI, r_subI, r_mulL, r_mulR, r_divI, r_modI, r_negI, r_leP, r_ixT0, r_ixT1, r_ixT2, r_ixL0, r_ixL1, r_ixL2, r_pv, r_pvF, r_slv, r_slF, r_sv, r_so, r_rp, r_rs, r_rsN, r_rsC, r_cV, r_trB, r_trI, r_retV, r_tgM, r_tgO, r_saN, r_saC, List.getElem?_cons_zero, List.getElem?_cons_succ, List.set_cons_zero, List.set_cons_succ, Bool.cond_decide, cond_true, cond_false, Int.reduceLT, Int.reduceLE, Int.reduceNeg, Int.reduceAdd, Int.reduceSub, Int.reduceMul, Int.reducePow, and_self, decide_true, decide_false, and_true, true_and, reduceIte, if_true, if_false, Bool.not_true, Bool.not_false, r_for, r_forN, r_forC, r_iSeq, r_iRet, r_itT, r_itL, r_itF, r_iRange, r_own, r_isO, r_app, r_ext, r_put, r_callIO, r_afIO, fl_len, ft_len, r_clN, r_clC, r_tTrue, Nat.zero_add, Nat.reduceAdd, List.length_cons, List.length_nil, Int.reduceEq, r]) rfl (by simp) (sz_lt (by rw [range_len]; omega)) (fun p hp => by
      obtain ⟨v, rfl, v1, v2⟩ := range_mem hp
      refine ⟨?_, fun _ => ?_⟩
      · unfold B31t2
        show tVal _ [.val (.int t), .val (.int l), .val (.int t), .val (.int l), .val (.int v)] = .ok (belowZ v t) [.val (.int t), .val (.int l), .val (.int t), .val (.int l), .val (.int v)]
        simp only [r_cC, r_bV, r_bO, r_o1, r_o2, r_t2, r_asB, r_ret, r_tch, r_ofT, r_aN, r_aC, r_bN, r_bC, r_tup, r_lst, r_blt, r_if, r_tval, r_tand, r_tor, r_tnot, r_orT, r_andT, r_orTs, r_not, r_call, r_afterOk, r_afterX, r_seq, r_next, r_brk, r_cnt, r_set, r_par, r_stup, r_aug, r_drop, r_sif, r_sret, r_retnone, r_raise, bind_ok, bind_exc, bind_stk, bind_ite, bind_cond, fin_ite, r_eqI, r_neI, r_leI, r_ltI, r_geI, r_gtI, r_addI, r_iaddI, r_subI, r_mulL, r_mulR, r_divI, r_modI, r_negI, r_leP, r_ixT0, r_ixT1, r_ixT2, r_ixL0, r_ixL1, r_ixL2, r_pv, r_pvF, r_slv, r_slF, r_sv, r_so, r_rp, r_rs, r_rsN, r_rsC, r_cV, r_trB, r_trI, r_retV, r_tgM, r_tgO, r_saN, r_saC, List.getElem?_cons_zero, List.getElem?_cons_succ, List.set_cons_zero, List.set_cons_succ, Bool.cond_decide, cond_true, cond_false, Int.reduceLT, Int.reduceLE, Int.reduceNeg, Int.reduceAdd, Int.reduceSub, Int.reduceMul, Int.reducePow, and_self, decide_true, decide_false, and_true, true_and, reduceIte, if_true, if_false, Bool.not_true, Bool.not_false, r_for, r_forN, r_forC, r_iSeq, r_iRet, r_itT, r_itL, r_itF, r_iRange, r_own, r_isO, r_app, r_ext, r_put, r_callIO, r_afIO, fl_len, ft_len, r_clN, r_clC, r_tTrue, Nat.zero_add, Nat.reduceAdd, List.length_cons, List.length_nil, Int.reduceEq, sp13]
      · unfold B31e1
        show cCall _ 13 _ [.val (.int t), .val (.int l), .val (.int t), .val (.int l), .val (.int v)] = .ok (.v (.int (bothZ l v))) [.val (.int t), .val (.int l), .val (.int t), .val (.int l), .val (.int v)]
        simp only [r_cC, r_bV, r_bO, r_o1, r_o2, r_t2, r_asB, r_ret, r_tch, r_ofT, r_aN, r_aC, r_bN, r_bC, r_tup, r_lst, r_blt, r_if, r_tval, r_tand, r_tor, r_tnot, r_orT, r_andT, r_orTs, r_not, r_call, r_afterOk, r_afterX, r_seq, r_next, r_brk, r_cnt, r_set, r_par, r_stup, r_aug, r_drop, r_sif, r_sret, r_retnone, r_raise, bind_ok, bind_exc, bind_stk, bind_ite, bind_cond, fin_ite, r_eqI, r_neI, r_leI, r_ltI, r_geI, r_gtI, r_addI, r_iaddI, r_subI, r_mulL, r_mulR, r_divI, r_modI, r_negI, r_leP, r_ixT0, r_ixT1, r_ixT2, r_ixL0, r_ixL1, r_ixL2, r_pv, r_pvF, r_slv, r_slF, r_sv, r_so, r_rp, r_rs, r_rsN, r_rsC, r_cV, r_trB, r_trI, r_retV, r_tgM, r_tgO, r_saN, r_saC, List.getElem?_cons_zero, List.getElem?_cons_succ, List.set_cons_zero, List.set_cons_succ, Bool.cond_decide, cond_true, cond_false, Int.reduceLT, Int.reduceLE, Int.reduceNeg, Int.reduceAdd, Int.reduceSub, Int.reduceMul, Int.reducePow, and_self, decide_true, decide_false, and_true, true_and, reduceIte, if_true, if_false, Bool.not_true, Bool.not_false, r_for, r_forN, r_forC, r_iSeq, r_iRet, r_itT, r_itL, r_itF, r_iRange, r_own, r_isO, r_app, r_ext, r_put, r_callIO, r_afIO, fl_len, ft_len, r_clN, r_clC, r_tTrue, Nat.zero_add, Nat.reduceAdd, List.length_cons, List.length_nil, Int.reduceEq, sp10])
  have el : ((rangeL 0 (t + 1).toNat).filter (qI fun x => belowZ x t)).map (fun p => match p with
      | .int x => .int (bothZ l x)
      | p => p) = (lotsZ t).map fun x => PV.int (bothZ l x) := by
    unfold lotsZ
    rw [range_int, fil_int, List.map_map, show (t + 1).toNat = t.toNat + 1 by omega]
    rfl
  rw [el] at c
  have s1 : calls (tab L) (k + 4) 19 none [.int t] = .ok (.v (.int t)) [] := sp16 (k + 1) t (by omega) (by omega)
  have s2 : calls (tab L) (k + 4) 19 none [.int l] = .ok (.v (.int l)) [] := sp16 (k + 1) l l1 l2
  simp only [r_cC, r_bV, r_bO, r_o1, r_o2, r_t2, r_asB, r_ret, r_tch, r_ofT, r_aN, r_aC, r_bN, r_bC, r_tup, r_lst, r_blt, r_if, r_tval, r_tand, r_tor, r_tnot, r_orT, r_andT, r_orTs, r_not, r_call, r_afterOk, r_afterX, r_seq, r_next, r_brk, r_cnt, r_set, r_par, r_stup, r_aug, r_drop, r_sif, r_sret, r_retnone, r_raise, bind_ok, bind_exc, bind_stk, bind_ite, bind_cond, fin_ite, r_eqI, r_neI, r_leI, r_ltI, r_geI, r_gtI, r_addI, r_iaddI, r_subI, r_mulL, r_mulR, r_divI, r_modI, r_negI, r_leP, r_ixT0, r_ixT1, r_ixT2, r_ixL0, r_ixL1, r_ixL2, r_pv, r_pvF, r_slv, r_slF, r_sv, r_so, r_rp, r_rs, r_rsN, r_rsC, r_cV, r_trB, r_trI, r_retV, r_tgM, r_tgO, r_saN, r_saC, List.getElem?_cons_zero, List.getElem?_cons_succ, List.set_cons_zero, List.set_cons_succ, Bool.cond_decide, cond_true, cond_false, Int.reduceLT, Int.reduceLE, Int.reduceNeg, Int.reduceAdd, Int.reduceSub, Int.reduceMul, Int.reducePow, and_self, decide_true, decide_false, and_true, true_and, reduceIte, if_true, if_false, Bool.not_true, Bool.not_false, r_for, r_forN, r_forC, r_iSeq, r_iRet, r_itT, r_itL, r_itF, r_iRange, r_own, r_isO, r_app, r_ext, r_put, r_callIO, r_afIO, fl_len, ft_len, r_clN, r_clC, r_tTrue, Nat.zero_add, Nat.reduceAdd, List.length_cons, List.length_nil, Int.reduceEq, r_cVal, pv_v, s1, s2, e6, sp13, bl, c, finR (D := d31) rfl]
theorem q31x (k : Nat) (t l : Int) (t1 : 0 ≤ t) (t2 : t ≤ 2000) (l1 : -1 ≤ l) (l2 : l ≤ 1000000) (bl : belowZ l t = false) : calls (tab L) (k + 5) 31 none [.int t, .int l] = .exc 50 .non := by
  rw [call31, run_body (D := d31) (B := B31) rfl rfl rfl]; show d31.fin (B31 _ [.val (.int t), .val (.int l), .emp, .emp, .emp]) = _; unfold B31
  have e6 : calls (tab L) (k + 4) 6 none [.int t, .int 0, .int 2000] = .ok (.v (.int t)) [] := sp3 (k + 1) t 0 2000 t1 t2
  have s1 : calls (tab L) (k + 4) 19 none [.int t] = .ok (.v (.int t)) [] := sp16 (k + 1) t (by omega) (by omega)
  have s2 : calls (tab L) (k + 4) 19 none [.int l] = .ok (.v (.int l)) [] := sp16 (k + 1) l l1 l2
  simp only [r_cC, r_bV, r_bO, r_o1, r_o2, r_t2, r_asB, r_ret, r_tch, r_ofT, r_aN, r_aC, r_bN, r_bC, r_tup, r_lst, r_blt, r_if, r_tval, r_tand, r_tor, r_tnot, r_orT, r_andT, r_orTs, r_not, r_call, r_afterOk, r_afterX, r_seq, r_next, r_brk, r_cnt, r_set, r_par, r_stup, r_aug, r_drop, r_sif, r_sret, r_retnone, r_raise, bind_ok, bind_exc, bind_stk, bind_ite, bind_cond, fin_ite, r_eqI, r_neI, r_leI, r_ltI, r_geI, r_gtI, r_addI, r_iaddI, r_subI, r_mulL, r_mulR, r_divI, r_modI, r_negI, r_leP, r_ixT0, r_ixT1, r_ixT2, r_ixL0, r_ixL1, r_ixL2, r_pv, r_pvF, r_slv, r_slF, r_sv, r_so, r_rp, r_rs, r_rsN, r_rsC, r_cV, r_trB, r_trI, r_retV, r_tgM, r_tgO, r_saN, r_saC, List.getElem?_cons_zero, List.getElem?_cons_succ, List.set_cons_zero, List.set_cons_succ, Bool.cond_decide, cond_true, cond_false, Int.reduceLT, Int.reduceLE, Int.reduceNeg, Int.reduceAdd, Int.reduceSub, Int.reduceMul, Int.reducePow, and_self, decide_true, decide_false, and_true, true_and, reduceIte, if_true, if_false, Bool.not_true, Bool.not_false, r_for, r_forN, r_forC, r_iSeq, r_iRet, r_itT, r_itL, r_itF, r_iRange, r_own, r_isO, r_app, r_ext, r_put, r_callIO, r_afIO, fl_len, ft_len, r_clN, r_clC, r_tTrue, Nat.zero_add, Nat.reduceAdd, List.length_cons, List.length_nil, Int.reduceEq, r_cVal, pv_v, s1, s2, e6, sp13, bl, finX (D := d31) rfl]
theorem q31u (k : Nat) : calls (tab L) (k + 6) 31 none [.int (-1), .int 0] = .exc 52 .non := by
  show calls (tab L) ((k + 5) + 1) 31 none _ = _
  have e : calls (tab L) (k + 5) 6 none [.int (-1), .int 0, .int 2000] = .exc 52 .non := by
    show calls (tab L) ((k + 4) + 1) 6 none _ = _
    rw [call6, run_body (D := d6) (B := B6) rfl rfl rfl]; show d6.fin (B6 _ [.val (.int (-1)), .val (.int 0), .val (.int 2000)]) = _; unfold B6
    have e1 : calls (tab L) (k + 4) 1 none [.int (-1), .int 0, .int 2000] = .ok (.v (.bl (decide ((0 : Int) ≤ -1) && decide ((-1 : Int) ≤ 2000)))) [] := sp1 (k + 2) _ _ _
    have e0 : (decide ((0 : Int) ≤ -1) && decide ((-1 : Int) ≤ 2000)) = false := rfl
    rw [e0] at e1
    simp only [r_cC, r_bV, r_bO, r_o1, r_o2, r_t2, r_asB, r_ret, r_tch, r_ofT, r_aN, r_aC, r_bN, r_bC, r_tup, r_lst, r_blt, r_if, r_tval, r_tand, r_tor, r_tnot, r_orT, r_andT, r_orTs, r_not, r_call, r_afterOk, r_afterX, r_seq, r_next, r_brk, r_cnt, r_set, r_par, r_stup, r_aug, r_drop, r_sif, r_sret, r_retnone, r_raise, bind_ok, bind_exc, bind_stk, bind_ite, bind_cond, fin_ite, r_eqI, r_neI, r_leI, r_ltI, r_geI, r_gtI, r_addI, r_iaddI, r_subI, r_mulL, r_mulR, r_divI, r_modI, r_negI, r_leP, r_ixT0, r_ixT1, r_ixT2, r_ixL0, r_ixL1, r_ixL2, r_pv, r_pvF, r_slv, r_slF, r_sv, r_so, r_rp, r_rs, r_rsN, r_rsC, r_cV, r_trB, r_trI, r_retV, r_tgM, r_tgO, r_saN, r_saC, List.getElem?_cons_zero, List.getElem?_cons_succ, List.set_cons_zero, List.set_cons_succ, Bool.cond_decide, cond_true, cond_false, Int.reduceLT, Int.reduceLE, Int.reduceNeg, Int.reduceAdd, Int.reduceSub, Int.reduceMul, Int.reducePow, and_self, decide_true, decide_false, and_true, true_and, reduceIte, if_true, if_false, Bool.not_true, Bool.not_false, r_for, r_forN, r_forC, r_iSeq, r_iRet, r_itT, r_itL, r_itF, r_iRange, r_own, r_isO, r_app, r_ext, r_put, r_callIO, r_afIO, fl_len, ft_len, r_clN, r_clC, r_tTrue, Nat.zero_add, Nat.reduceAdd, List.length_cons, List.length_nil, Int.reduceEq, e1, finX (D := d6) rfl]
  rw [call31, run_body (D := d31) (B := B31) rfl rfl rfl]; show d31.fin (B31 _ [.val (.int (-1)), .val (.int 0), .emp, .emp, .emp]) = _; unfold B31
  have s1 : calls (tab L) (k + 5) 19 none [.int (-1)] = .ok (.v (.int (-1))) [] := sp16 (k + 2) (-1) (by omega) (by omega)
  simp only [r_cC, r_bV, r_bO, r_o1, r_o2, r_t2, r_asB, r_ret, r_tch, r_ofT, r_aN, r_aC, r_bN, r_bC, r_tup, r_lst, r_blt, r_if, r_tval, r_tand, r_tor, r_tnot, r_orT, r_andT, r_orTs, r_not, r_call, r_afterOk, r_afterX, r_seq, r_next, r_brk, r_cnt, r_set, r_par, r_stup, r_aug, r_drop, r_sif, r_sret, r_retnone, r_raise, bind_ok, bind_exc, bind_stk, bind_ite, bind_cond, fin_ite, r_eqI, r_neI, r_leI, r_ltI, r_geI, r_gtI, r_addI, r_iaddI, r_subI, r_mulL, r_mulR, r_divI, r_modI, r_negI, r_leP, r_ixT0, r_ixT1, r_ixT2, r_ixL0, r_ixL1, r_ixL2, r_pv, r_pvF, r_slv, r_slF, r_sv, r_so, r_rp, r_rs, r_rsN, r_rsC, r_cV, r_trB, r_trI, r_retV, r_tgM, r_tgO, r_saN, r_saC, List.getElem?_cons_zero, List.getElem?_cons_succ, List.set_cons_zero, List.set_cons_succ, Bool.cond_decide, cond_true, cond_false, Int.reduceLT, Int.reduceLE, Int.reduceNeg, Int.reduceAdd, Int.reduceSub, Int.reduceMul, Int.reducePow, and_self, decide_true, decide_false, and_true, true_and, reduceIte, if_true, if_false, Bool.not_true, Bool.not_false, r_for, r_forN, r_forC, r_iSeq, r_iRet, r_itT, r_itL, r_itF, r_iRange, r_own, r_isO, r_app, r_ext, r_put, r_callIO, r_afIO, fl_len, ft_len, r_clN, r_clC, r_tTrue, Nat.zero_add, Nat.reduceAdd, List.length_cons, List.length_nil, Int.reduceEq, r_cVal, pv_v, s1, e, finX (D := d31) rfl]
end Hd


set_option Elab.async false
set_option linter.all false
set_option maxRecDepth 100000
set_option maxHeartbeats 1600000
namespace Hd
open PySem PySem.Spec PyProof.Rows L2 EV MA
/-! a saying's value by parts -/
theorem pd_pn : PV.pd (.tup [.str "p", .str "no"]) = some (.tuple [.str "p", .str "no"]) := pd_tup (pds_cons (pd_str _) (pds_cons (pd_str _) pds_nil))
theorem in2_j (j : J) : fIn (.str (nmJ j)) (.tup [.str "p", .str "no"]) = some (.v (.bl false)) := by
  cases j <;> exact in_of (pd_str _) pd_pn (by decide +kernel) (by decide +kernel) (by decide +kernel)
theorem in2_p : fIn (.str "p") (.tup [.str "p", .str "no"]) = some (.v (.bl true)) := in_of (pd_str _) pd_pn (by decide +kernel) (by decide +kernel) (by decide +kernel)
theorem in2_no : fIn (.str "no") (.tup [.str "p", .str "no"]) = some (.v (.bl true)) := in_of (pd_str _) pd_pn (by decide +kernel) (by decide +kernel) (by decide +kernel)
theorem eqs_p : fEq (.str "p") (.str "p") = some (.v (.bl true)) := eq_of (pd_str _) (pd_str _) (by decide +kernel) (by decide +kernel) (by decide +kernel)
theorem eqs_no : fEq (.str "no") (.str "p") = some (.v (.bl false)) := eq_of (pd_str _) (pd_str _) (by decide +kernel) (by decide +kernel) (by decide +kernel)
theorem lawV_le {t : Int} (h0 : 0 ≤ t) (s : Say) : 0 ≤ lawV t s ∧ lawV t s ≤ t := by
  have g : -1 ≤ lawV t s := by rw [lawV_eq (by omega)]; exact both_ge (by omega) (val_ge (by omega) s)
  exact below_le g h0 (lawV_below (by omega) s)
theorem q48 : ∀ (s : Say) (k : Nat) (t : Int), 0 ≤ t → t ≤ 1000000 → calls (tab L) (k + 7 + dep s) 48 none [.int t, toPV s] = .ok (.v (.int (lawV t s))) []
  | .p, k, t, h0, h1 => by
    show calls (tab L) ((k + 7) + 1) 48 none [.int t, .tup [.str "p"]] = _
    have e : calls (tab L) (k + 7) 21 none [.int t, .int 1] = .ok (.v (.int (bothZ t 1))) [] := sp18 (k + 3) t 1 (by omega) h1 (by omega) (by omega)
    rw [call48, run_body (D := d48) (B := B48) rfl rfl rfl]; show d48.fin (B48 _ [.val (.int t), .val (.tup [.str "p"]), .emp, .emp]) = _; unfold B48
    simp only [r_cC, r_bV, r_bO, r_o1, r_o2, r_t2, r_asB, r_ret, r_tch, r_ofT, r_aN, r_aC, r_bN, r_bC, r_tup, r_lst, r_blt, r_if, r_tval, r_tand, r_tor, r_tnot, r_orT, r_andT, r_orTs, r_not, r_call, r_afterOk, r_afterX, r_seq, r_next, r_brk, r_cnt, r_set, r_par, r_stup, r_aug, r_drop, r_sif, r_sret, r_retnone, r_raise, bind_ok, bind_exc, bind_stk, bind_ite, bind_cond, fin_ite, r_eqI, r_neI, r_leI, r_ltI, r_geI, r_gtI, r_addI, r_iaddI, r_subI, r_mulL, r_mulR, r_divI, r_modI, r_negI, r_leP, r_ixT0, r_ixT1, r_ixT2, r_ixL0, r_ixL1, r_ixL2, r_pv, r_pvF, r_slv, r_slF, r_sv, r_so, r_rp, r_rs, r_rsN, r_rsC, r_cV, r_trB, r_trI, r_retV, r_tgM, r_tgO, r_saN, r_saC, List.getElem?_cons_zero, List.getElem?_cons_succ, List.set_cons_zero, List.set_cons_succ, Bool.cond_decide, cond_true, cond_false, Int.reduceLT, Int.reduceLE, Int.reduceNeg, Int.reduceAdd, Int.reduceSub, Int.reduceMul, Int.reducePow, and_self, decide_true, decide_false, and_true, true_and, reduceIte, if_true, if_false, Bool.not_true, Bool.not_false, r_for, r_forN, r_forC, r_iSeq, r_iRet, r_itT, r_itL, r_itF, r_iRange, r_own, r_isO, r_app, r_ext, r_put, r_callIO, r_afIO, fl_len, ft_len, r_clN, r_clC, r_tTrue, Nat.zero_add, Nat.reduceAdd, List.length_cons, List.length_nil, Int.reduceEq, in2_p, eqs_p, e, finR (D := d48) rfl]
    rfl
  | .no, k, t, h0, h1 => by
    show calls (tab L) ((k + 7) + 1) 48 none [.int t, .tup [.str "no"]] = _
    rw [call48, run_body (D := d48) (B := B48) rfl rfl rfl]; show d48.fin (B48 _ [.val (.int t), .val (.tup [.str "no"]), .emp, .emp]) = _; unfold B48
    simp only [r_cC, r_bV, r_bO, r_o1, r_o2, r_t2, r_asB, r_ret, r_tch, r_ofT, r_aN, r_aC, r_bN, r_bC, r_tup, r_lst, r_blt, r_if, r_tval, r_tand, r_tor, r_tnot, r_orT, r_andT, r_orTs, r_not, r_call, r_afterOk, r_afterX, r_seq, r_next, r_brk, r_cnt, r_set, r_par, r_stup, r_aug, r_drop, r_sif, r_sret, r_retnone, r_raise, bind_ok, bind_exc, bind_stk, bind_ite, bind_cond, fin_ite, r_eqI, r_neI, r_leI, r_ltI, r_geI, r_gtI, r_addI, r_iaddI, r_subI, r_mulL, r_mulR, r_divI, r_modI, r_negI, r_leP, r_ixT0, r_ixT1, r_ixT2, r_ixL0, r_ixL1, r_ixL2, r_pv, r_pvF, r_slv, r_slF, r_sv, r_so, r_rp, r_rs, r_rsN, r_rsC, r_cV, r_trB, r_trI, r_retV, r_tgM, r_tgO, r_saN, r_saC, List.getElem?_cons_zero, List.getElem?_cons_succ, List.set_cons_zero, List.set_cons_succ, Bool.cond_decide, cond_true, cond_false, Int.reduceLT, Int.reduceLE, Int.reduceNeg, Int.reduceAdd, Int.reduceSub, Int.reduceMul, Int.reducePow, and_self, decide_true, decide_false, and_true, true_and, reduceIte, if_true, if_false, Bool.not_true, Bool.not_false, r_for, r_forN, r_forC, r_iSeq, r_iRet, r_itT, r_itL, r_itF, r_iRange, r_own, r_isO, r_app, r_ext, r_put, r_callIO, r_afIO, fl_len, ft_len, r_clN, r_clC, r_tTrue, Nat.zero_add, Nat.reduceAdd, List.length_cons, List.length_nil, Int.reduceEq, in2_no, eqs_no, finR (D := d48) rfl]
    rfl
  | .bin j a b, k, t, h0, h1 => by
    have hd : dep (.bin j a b) = max (dep a) (dep b) + 1 := rfl
    have ia : calls (tab L) (k + 7 + max (dep a) (dep b)) 48 none [.int t, toPV a] = .ok (.v (.int (lawV t a))) [] := by
      rw [show k + 7 + max (dep a) (dep b) = (k + (max (dep a) (dep b) - dep a)) + 7 + dep a by omega]
      exact q48 a _ t h0 h1
    have ib : calls (tab L) (k + 7 + max (dep a) (dep b)) 48 none [.int t, toPV b] = .ok (.v (.int (lawV t b))) [] := by
      rw [show k + 7 + max (dep a) (dep b) = (k + (max (dep a) (dep b) - dep b)) + 7 + dep b by omega]
      exact q48 b _ t h0 h1
    obtain ⟨a0, a1⟩ := lawV_le h0 a
    obtain ⟨b0, b1⟩ := lawV_le h0 b
    have ba := lawV_below (t := t) (by omega) a
    have bb := lawV_below (t := t) (by omega) b
    have c27 : calls (tab L) (k + 7 + max (dep a) (dep b)) 27 none [.int t, .int (lawV t a), .int (lawV t b)] = .ok (.v (.int (bothZ (bothZ (lawV t a) (lawV t b)) t))) [] := by
      rw [show k + 7 + max (dep a) (dep b) = (k + 1 + max (dep a) (dep b)) + 6 by omega]
      exact q27 _ t _ _ (by omega) h1 (by omega) (by omega) (by omega) (by omega) ba bb
    have c28 : calls (tab L) (k + 7 + max (dep a) (dep b)) 28 none [.int t, .int (lawV t a), .int (lawV t b)] = .ok (.v (.int (bothZ (eitherZ (lawV t a) (lawV t b)) t))) [] := by
      rw [show k + 7 + max (dep a) (dep b) = (k + 1 + max (dep a) (dep b)) + 6 by omega]
      exact q28 _ t _ _ (by omega) h1 (by omega) (by omega) (by omega) (by omega) ba bb
    have c29 : calls (tab L) (k + 7 + max (dep a) (dep b)) 29 none [.int t, .int (lawV t a), .int (lawV t b)] = .ok (.v (.int (bothZ t (leadsZ (lawV t a) (lawV t b))))) [] := by
      rw [show k + 7 + max (dep a) (dep b) = (k + 1 + max (dep a) (dep b)) + 6 by omega]
      exact q29 _ t _ _ (by omega) h1 (by omega) (by omega) (by omega) (by omega) ba bb
    rw [hd, ← Nat.add_assoc]
    have ts : toPV (.bin j a b) = .tup [.str (nmJ j), toPV a, toPV b] := rfl
    rw [ts]
    generalize toPV a = pa at *
    generalize toPV b = pb at *
    rw [call48, run_body (D := d48) (B := B48) rfl rfl rfl]; show d48.fin (B48 _ [.val (.int t), .val (.tup [.str (nmJ j), pa, pb]), .emp, .emp]) = _; unfold B48
    simp only [r_cC, r_bV, r_bO, r_o1, r_o2, r_t2, r_asB, r_ret, r_tch, r_ofT, r_aN, r_aC, r_bN, r_bC, r_tup, r_lst, r_blt, r_if, r_tval, r_tand, r_tor, r_tnot, r_orT, r_andT, r_orTs, r_not, r_call, r_afterOk, r_afterX, r_seq, r_next, r_brk, r_cnt, r_set, r_par, r_stup, r_aug, r_drop, r_sif, r_sret, r_retnone, r_raise, bind_ok, bind_exc, bind_stk, bind_ite, bind_cond, fin_ite, r_eqI, r_neI, r_leI, r_ltI, r_geI, r_gtI, r_addI, r_iaddI, r_subI, r_mulL, r_mulR, r_divI, r_modI, r_negI, r_leP, r_ixT0, r_ixT1, r_ixT2, r_ixL0, r_ixL1, r_ixL2, r_pv, r_pvF, r_slv, r_slF, r_sv, r_so, r_rp, r_rs, r_rsN, r_rsC, r_cV, r_trB, r_trI, r_retV, r_tgM, r_tgO, r_saN, r_saC, List.getElem?_cons_zero, List.getElem?_cons_succ, List.set_cons_zero, List.set_cons_succ, Bool.cond_decide, cond_true, cond_false, Int.reduceLT, Int.reduceLE, Int.reduceNeg, Int.reduceAdd, Int.reduceSub, Int.reduceMul, Int.reducePow, and_self, decide_true, decide_false, and_true, true_and, reduceIte, if_true, if_false, Bool.not_true, Bool.not_false, r_for, r_forN, r_forC, r_iSeq, r_iRet, r_itT, r_itL, r_itF, r_iRange, r_own, r_isO, r_app, r_ext, r_put, r_callIO, r_afIO, fl_len, ft_len, r_clN, r_clC, r_tTrue, Nat.zero_add, Nat.reduceAdd, List.length_cons, List.length_nil, Int.reduceEq, in2_j, ia, ib, e_and, e_or, finR (D := d48) rfl]
    cases j
    · simp only [r_cC, r_bV, r_bO, r_o1, r_o2, r_t2, r_asB, r_ret, r_tch, r_ofT, r_aN, r_aC, r_bN, r_bC, r_tup, r_lst, r_blt, r_if, r_tval, r_tand, r_tor, r_tnot, r_orT, r_andT, r_orTs, r_not, r_call, r_afterOk, r_afterX, r_seq, r_next, r_brk, r_cnt, r_set, r_par, r_stup, r_aug, r_drop, r_sif, r_sret, r_retnone, r_raise, bind_ok, bind_exc, bind_stk, bind_ite, bind_cond, fin_ite, r_eqI, r_neI, r_leI, r_ltI, r_geI, r_gtI, r_addI, r_iaddI, r_subI, r_mulL, r_mulR, r_divI, r_modI, r_negI, r_leP, r_ixT0, r_ixT1, r_ixT2, r_ixL0, r_ixL1, r_ixL2, r_pv, r_pvF, r_slv, r_slF, r_sv, r_so, r_rp, r_rs, r_rsN, r_rsC, r_cV, r_trB, r_trI, r_retV, r_tgM, r_tgO, r_saN, r_saC, List.getElem?_cons_zero, List.getElem?_cons_succ, List.set_cons_zero, List.set_cons_succ, Bool.cond_decide, cond_true, cond_false, Int.reduceLT, Int.reduceLE, Int.reduceNeg, Int.reduceAdd, Int.reduceSub, Int.reduceMul, Int.reducePow, and_self, decide_true, decide_false, and_true, true_and, reduceIte, if_true, if_false, Bool.not_true, Bool.not_false, r_for, r_forN, r_forC, r_iSeq, r_iRet, r_itT, r_itL, r_itF, r_iRange, r_own, r_isO, r_app, r_ext, r_put, r_callIO, r_afIO, fl_len, ft_len, r_clN, r_clC, r_tTrue, Nat.zero_add, Nat.reduceAdd, List.length_cons, List.length_nil, Int.reduceEq, e_and, e_or, c27, finR (D := d48) rfl, reduceCtorEq]; rfl
    · simp only [r_cC, r_bV, r_bO, r_o1, r_o2, r_t2, r_asB, r_ret, r_tch, r_ofT, r_aN, r_aC, r_bN, r_bC, r_tup, r_lst, r_blt, r_if, r_tval, r_tand, r_tor, r_tnot, r_orT, r_andT, r_orTs, r_not, r_call, r_afterOk, r_afterX, r_seq, r_next, r_brk, r_cnt, r_set, r_par, r_stup, r_aug, r_drop, r_sif, r_sret, r_retnone, r_raise, bind_ok, bind_exc, bind_stk, bind_ite, bind_cond, fin_ite, r_eqI, r_neI, r_leI, r_ltI, r_geI, r_gtI, r_addI, r_iaddI, r_subI, r_mulL, r_mulR, r_divI, r_modI, r_negI, r_leP, r_ixT0, r_ixT1, r_ixT2, r_ixL0, r_ixL1, r_ixL2, r_pv, r_pvF, r_slv, r_slF, r_sv, r_so, r_rp, r_rs, r_rsN, r_rsC, r_cV, r_trB, r_trI, r_retV, r_tgM, r_tgO, r_saN, r_saC, List.getElem?_cons_zero, List.getElem?_cons_succ, List.set_cons_zero, List.set_cons_succ, Bool.cond_decide, cond_true, cond_false, Int.reduceLT, Int.reduceLE, Int.reduceNeg, Int.reduceAdd, Int.reduceSub, Int.reduceMul, Int.reducePow, and_self, decide_true, decide_false, and_true, true_and, reduceIte, if_true, if_false, Bool.not_true, Bool.not_false, r_for, r_forN, r_forC, r_iSeq, r_iRet, r_itT, r_itL, r_itF, r_iRange, r_own, r_isO, r_app, r_ext, r_put, r_callIO, r_afIO, fl_len, ft_len, r_clN, r_clC, r_tTrue, Nat.zero_add, Nat.reduceAdd, List.length_cons, List.length_nil, Int.reduceEq, e_and, e_or, c28, finR (D := d48) rfl, reduceCtorEq]; rfl
    · simp only [r_cC, r_bV, r_bO, r_o1, r_o2, r_t2, r_asB, r_ret, r_tch, r_ofT, r_aN, r_aC, r_bN, r_bC, r_tup, r_lst, r_blt, r_if, r_tval, r_tand, r_tor, r_tnot, r_orT, r_andT, r_orTs, r_not, r_call, r_afterOk, r_afterX, r_seq, r_next, r_brk, r_cnt, r_set, r_par, r_stup, r_aug, r_drop, r_sif, r_sret, r_retnone, r_raise, bind_ok, bind_exc, bind_stk, bind_ite, bind_cond, fin_ite, r_eqI, r_neI, r_leI, r_ltI, r_geI, r_gtI, r_addI, r_iaddI, r_subI, r_mulL, r_mulR, r_divI, r_modI, r_negI, r_leP, r_ixT0, r_ixT1, r_ixT2, r_ixL0, r_ixL1, r_ixL2, r_pv, r_pvF, r_slv, r_slF, r_sv, r_so, r_rp, r_rs, r_rsN, r_rsC, r_cV, r_trB, r_trI, r_retV, r_tgM, r_tgO, r_saN, r_saC, List.getElem?_cons_zero, List.getElem?_cons_succ, List.set_cons_zero, List.set_cons_succ, Bool.cond_decide, cond_true, cond_false, Int.reduceLT, Int.reduceLE, Int.reduceNeg, Int.reduceAdd, Int.reduceSub, Int.reduceMul, Int.reducePow, and_self, decide_true, decide_false, and_true, true_and, reduceIte, if_true, if_false, Bool.not_true, Bool.not_false, r_for, r_forN, r_forC, r_iSeq, r_iRet, r_itT, r_itL, r_itF, r_iRange, r_own, r_isO, r_app, r_ext, r_put, r_callIO, r_afIO, fl_len, ft_len, r_clN, r_clC, r_tTrue, Nat.zero_add, Nat.reduceAdd, List.length_cons, List.length_nil, Int.reduceEq, e_and, e_or, c29, finR (D := d48) rfl, reduceCtorEq]; rfl
/-! what is refused -/
theorem q45b (k f m : Nat) (x y : PV) (ho : okv2 f = true) (h : calls (tab L) k f none [x, y] = .exc m .non) : calls (tab L) (k + 1) 45 none [.gl f, .tup [x, y]] = .exc m .non := by
  rw [call45, run_body (D := d45) (B := B45) rfl rfl rfl]; show d45.fin (B45 _ [.val (.gl f), .val (.tup [x, y])]) = _; unfold B45
  have v : ∀ as, cCallV (calls (tab L) k) okv2 0 as [.val (.gl f), .val (.tup [x, y])] = cCall (calls (tab L) k) f as [.val (.gl f), .val (.tup [x, y])] := fun as => r_callV rfl ho
  have e1 : decide (((2 : Nat) : Int) = 1) = false := rfl
  have e2 : decide (((2 : Nat) : Int) = 2) = true := rfl
  simp only [r_cC, r_bV, r_bO, r_o1, r_o2, r_t2, r_asB, r_ret, r_tch, r_ofT, r_aN, r_aC, r_bN, r_bC, r_tup, r_lst, r_blt, r_if, r_tval, r_tand, r_tor, r_tnot, r_orT, r_andT, r_orTs, r_not, r_call, r_afterOk, r_afterX, r_seq, r_next, r_brk, r_cnt, r_set, r_par, r_stup, r_aug, r_drop, r_sif, r_sret, r_retnone, r_raise, bind_ok, bind_exc, bind_stk, bind_ite, bind_cond, fin_ite, r_eqI, r_neI, r_leI, r_ltI, r_geI, r_gtI, r_addI, r_iaddI, r_subI, r_mulL, r_mulR, r_divI, r_modI, r_negI, r_leP, r_ixT0, r_ixT1, r_ixT2, r_ixL0, r_ixL1, r_ixL2, r_pv, r_pvF, r_slv, r_slF, r_sv, r_so, r_rp, r_rs, r_rsN, r_rsC, r_cV, r_trB, r_trI, r_retV, r_tgM, r_tgO, r_saN, r_saC, List.getElem?_cons_zero, List.getElem?_cons_succ, List.set_cons_zero, List.set_cons_succ, Bool.cond_decide, cond_true, cond_false, Int.reduceLT, Int.reduceLE, Int.reduceNeg, Int.reduceAdd, Int.reduceSub, Int.reduceMul, Int.reducePow, and_self, decide_true, decide_false, and_true, true_and, reduceIte, if_true, if_false, Bool.not_true, Bool.not_false, r_for, r_forN, r_forC, r_iSeq, r_iRet, r_itT, r_itL, r_itF, r_iRange, r_own, r_isO, r_app, r_ext, r_put, r_callIO, r_afIO, fl_len, ft_len, r_clN, r_clC, r_tTrue, Nat.zero_add, Nat.reduceAdd, List.length_cons, List.length_nil, Int.reduceEq, e1, e2, v, h, finX (D := d45) rfl]
theorem q45c (k f m : Nat) (x y z : PV) (ho : okv3 f = true) (h : calls (tab L) k f none [x, y, z] = .exc m .non) : calls (tab L) (k + 1) 45 none [.gl f, .tup [x, y, z]] = .exc m .non := by
  rw [call45, run_body (D := d45) (B := B45) rfl rfl rfl]; show d45.fin (B45 _ [.val (.gl f), .val (.tup [x, y, z])]) = _; unfold B45
  have v : ∀ as, cCallV (calls (tab L) k) okv3 0 as [.val (.gl f), .val (.tup [x, y, z])] = cCall (calls (tab L) k) f as [.val (.gl f), .val (.tup [x, y, z])] := fun as => r_callV rfl ho
  have e1 : decide (((3 : Nat) : Int) = 1) = false := rfl
  have e2 : decide (((3 : Nat) : Int) = 2) = false := rfl
  have e3 : decide (((3 : Nat) : Int) = 3) = true := rfl
  simp only [r_cC, r_bV, r_bO, r_o1, r_o2, r_t2, r_asB, r_ret, r_tch, r_ofT, r_aN, r_aC, r_bN, r_bC, r_tup, r_lst, r_blt, r_if, r_tval, r_tand, r_tor, r_tnot, r_orT, r_andT, r_orTs, r_not, r_call, r_afterOk, r_afterX, r_seq, r_next, r_brk, r_cnt, r_set, r_par, r_stup, r_aug, r_drop, r_sif, r_sret, r_retnone, r_raise, bind_ok, bind_exc, bind_stk, bind_ite, bind_cond, fin_ite, r_eqI, r_neI, r_leI, r_ltI, r_geI, r_gtI, r_addI, r_iaddI, r_subI, r_mulL, r_mulR, r_divI, r_modI, r_negI, r_leP, r_ixT0, r_ixT1, r_ixT2, r_ixL0, r_ixL1, r_ixL2, r_pv, r_pvF, r_slv, r_slF, r_sv, r_so, r_rp, r_rs, r_rsN, r_rsC, r_cV, r_trB, r_trI, r_retV, r_tgM, r_tgO, r_saN, r_saC, List.getElem?_cons_zero, List.getElem?_cons_succ, List.set_cons_zero, List.set_cons_succ, Bool.cond_decide, cond_true, cond_false, Int.reduceLT, Int.reduceLE, Int.reduceNeg, Int.reduceAdd, Int.reduceSub, Int.reduceMul, Int.reducePow, and_self, decide_true, decide_false, and_true, true_and, reduceIte, if_true, if_false, Bool.not_true, Bool.not_false, r_for, r_forN, r_forC, r_iSeq, r_iRet, r_itT, r_itL, r_itF, r_iRange, r_own, r_isO, r_app, r_ext, r_put, r_callIO, r_afIO, fl_len, ft_len, r_clN, r_clC, r_tTrue, Nat.zero_add, Nat.reduceAdd, List.length_cons, List.length_nil, Int.reduceEq, e1, e2, e3, v, h, finX (D := d45) rfl]
/-- which word stands for which refusal -/
def refW (m : Nat) : Str := if m = 50 then "cannot" else if m = 51 then "many" else "unfit"
theorem q47 (k f m : Nat) (ps : List PV) (hm : m = 50 ∨ m = 51 ∨ m = 52) (h : calls (tab L) (k + 1) 45 none [.gl f, .tup ps] = .exc m .non) : calls (tab L) (k + 2) 47 none [.gl f, .tup ps, .str (refW m)] = .ok (.v (.bl true)) [] := by
  show calls (tab L) ((k + 1) + 1) 47 none _ = _
  rw [call47, run_body (D := d47) (B := B47) rfl rfl rfl]; show d47.fin (B47 _ [.val (.gl f), .val (.tup ps), .val (.str (refW m)), .emp, .emp, .emp]) = _; unfold B47
  have b : sSeq (sSet 5 (cCall (calls (tab L) (k + 1)) 45 (aCons (cVar 0) (aCons (cVar 1) (aNil))))) (sNext) [.val (.gl f), .val (.tup ps), .val (.str (refW m)), .emp, .val .non, .val .non] = .exc m .non [.val (.gl f), .val (.tup ps), .val (.str (refW m)), .emp, .val .non, .val .non] := by
    simp only [r_cC, r_bV, r_bO, r_o1, r_o2, r_t2, r_asB, r_ret, r_tch, r_ofT, r_aN, r_aC, r_bN, r_bC, r_tup, r_lst, r_blt, r_if, r_tval, r_tand, r_tor, r_tnot, r_orT, r_andT, r_orTs, r_not, r_call, r_afterOk, r_afterX, r_seq, r_next, r_brk, r_cnt, r_set, r_par, r_stup, r_aug, r_drop, r_sif, r_sret, r_retnone, r_raise, bind_ok, bind_exc, bind_stk, bind_ite, bind_cond, fin_ite, r_eqI, r_neI, r_leI, r_ltI, r_geI, r_gtI, r_addI, r_iaddI, r_subI, r_mulL, r_mulR, r_divI, r_modI, r_negI, r_leP, r_ixT0, r_ixT1, r_ixT2, r_ixL0, r_ixL1, r_ixL2, r_pv, r_pvF, r_slv, r_slF, r_sv, r_so, r_rp, r_rs, r_rsN, r_rsC, r_cV, r_trB, r_trI, r_retV, r_tgM, r_tgO, r_saN, r_saC, List.getElem?_cons_zero, List.getElem?_cons_succ, List.set_cons_zero, List.set_cons_succ, Bool.cond_decide, cond_true, cond_false, Int.reduceLT, Int.reduceLE, Int.reduceNeg, Int.reduceAdd, Int.reduceSub, Int.reduceMul, Int.reducePow, and_self, decide_true, decide_false, and_true, true_and, reduceIte, if_true, if_false, Bool.not_true, Bool.not_false, r_for, r_forN, r_forC, r_iSeq, r_iRet, r_itT, r_itL, r_itF, r_iRange, r_own, r_isO, r_app, r_ext, r_put, r_callIO, r_afIO, fl_len, ft_len, r_clN, r_clC, r_tTrue, Nat.zero_add, Nat.reduceAdd, List.length_cons, List.length_nil, Int.reduceEq, h]
  have t : sTry (sSeq (sSet 5 (cCall (calls (tab L) (k + 1)) 45 (aCons (cVar 0) (aCons (cVar 1) (aNil))))) (sNext)) (([(50, 3, 4, "cannot"), (51, 3, 4, "many"), (52, 3, 4, "unfit")] : List (Nat × Nat × Nat × Str)).map fun q => hdOf tp q.1 q.2.1 q.2.2.1 q.2.2.2) [.val (.gl f), .val (.tup ps), .val (.str (refW m)), .emp, .val .non, .val .non] = .ok .nx [.val (.gl f), .val (.tup ps), .val (.str (refW m)), .emp, .val (.str (refW m)), .val .non] := by
    unfold sTry
    rw [b]
    rcases hm with rfl | rfl | rfl <;> rfl
  have ec : fEq (.str (refW m)) (.str (refW m)) = some (.v (.bl true)) := by
    rcases hm with rfl | rfl | rfl <;> exact eq_str_self (by decide +kernel)
  simp only [r_cC, r_bV, r_bO, r_o1, r_o2, r_t2, r_asB, r_ret, r_tch, r_ofT, r_aN, r_aC, r_bN, r_bC, r_tup, r_lst, r_blt, r_if, r_tval, r_tand, r_tor, r_tnot, r_orT, r_andT, r_orTs, r_not, r_call, r_afterOk, r_afterX, r_seq, r_next, r_brk, r_cnt, r_set, r_par, r_stup, r_aug, r_drop, r_sif, r_sret, r_retnone, r_raise, bind_ok, bind_exc, bind_stk, bind_ite, bind_cond, fin_ite, r_eqI, r_neI, r_leI, r_ltI, r_geI, r_gtI, r_addI, r_iaddI, r_subI, r_mulL, r_mulR, r_divI, r_modI, r_negI, r_leP, r_ixT0, r_ixT1, r_ixT2, r_ixL0, r_ixL1, r_ixL2, r_pv, r_pvF, r_slv, r_slF, r_sv, r_so, r_rp, r_rs, r_rsN, r_rsC, r_cV, r_trB, r_trI, r_retV, r_tgM, r_tgO, r_saN, r_saC, List.getElem?_cons_zero, List.getElem?_cons_succ, List.set_cons_zero, List.set_cons_succ, Bool.cond_decide, cond_true, cond_false, Int.reduceLT, Int.reduceLE, Int.reduceNeg, Int.reduceAdd, Int.reduceSub, Int.reduceMul, Int.reducePow, and_self, decide_true, decide_false, and_true, true_and, reduceIte, if_true, if_false, Bool.not_true, Bool.not_false, r_for, r_forN, r_forC, r_iSeq, r_iRet, r_itT, r_itL, r_itF, r_iRange, r_own, r_isO, r_app, r_ext, r_put, r_callIO, r_afIO, fl_len, ft_len, r_clN, r_clC, r_tTrue, Nat.zero_add, Nat.reduceAdd, List.length_cons, List.length_nil, Int.reduceEq, t, fis_n, EV.isNon, ec, finR (D := d47) rfl]
/-! dicts -/
theorem keysP_int : ∀ l : List Int, keysP (l.map .int) = some (l.map .inl)
  | [] => rfl
  | a :: l => by
    show (keyP (.int a)).bind (fun k => (keysP (l.map .int)).map (k :: ·)) = _
    rw [keysP_int l]; rfl
theorem valP_int (f : Int → PV) (x : Int) : ∀ l : List Int, x ∈ l → valP (l.map .inl) (l.map f) (.inl x) = some (f x)
  | [], h => by cases h
  | a :: l, h => by
    show (if (Sum.inl a : Key) = .inl x then some (f a) else valP (l.map .inl) (l.map f) (.inl x)) = _
    by_cases e : a = x
    · rw [if_pos (by rw [e]), e]
    · rw [if_neg (fun q => e (Sum.inl.inj q))]
      exact valP_int f x l ((List.mem_cons.mp h).resolve_left fun q => e q.symm)
theorem dx_int (f : Int → PV) (l : List Int) (x : Int) (h : x ∈ l) : fDx (.dic (l.map .inl) (l.map f)) (.int x) = some (.v (f x)) := by
  show (valP (l.map .inl) (l.map f) (.inl x)).map Val.v = _
  rw [valP_int f x l h]; rfl
theorem r_dictZ {as : ADen} {ε ε' : Ev} {l : List Int} {f : Int → PV} (h : as ε = .ok [.lst (l.map .int), .lst (l.map f)] ε') (hn : l.Nodup) : cDictZ as ε = .ok (.v (.dic (l.map .inl) (l.map f))) ε' := by
  unfold cDictZ
  rw [h, bind_ok]
  show (match keysP (l.map .int) with
      | some ks => if ks.Nodup ∧ ks.length = (l.map f).length then Out.ok (Val.v (.dic ks (l.map f))) ε' else .stk
      | none => .stk) = _
  rw [keysP_int]
  dsimp only
  refine if_pos ⟨?_, by simp⟩
  exact List.Pairwise.map _ (fun a b q e => q (Sum.inl.inj e)) hn
theorem lots_nodup (t : Int) : (lotsZ t).Nodup := by
  unfold lotsZ
  refine List.Pairwise.filter _ ?_
  exact List.Pairwise.map _ (fun a b q e => q (by omega)) List.nodup_range
end Hd


set_option Elab.async false
set_option linter.all false
set_option maxRecDepth 1000000
set_option maxHeartbeats 0
namespace Hd
open PySem PySem.Spec PyProof.Rows L2 EV MA
/-! frames of places: as many markings as there are places below -/
def frC (Φ : CallT) (t : Int) : Bool := match Φ 39 none [.int t] with
  | .ok (.v p) [] => (match Φ 36 none [p] with
    | .ok (.f ps) [] => decide (((ps.length : Nat) : Int) = manyZ t)
    | _ => false)
  | _ => false
theorem frC_at (Φ : CallT) (t : Int) (h : frC Φ t = true) : ∃ p ps, Φ 39 none [.int t] = .ok (.v p) [] ∧ Φ 36 none [p] = .ok (.f ps) [] ∧ ((ps.length : Nat) : Int) = manyZ t := by
  unfold frC at h
  split at h
  · rename_i p h1
    split at h
    · rename_i ps h2
      exact ⟨p, ps, h1, h2, of_decide_eq_true h⟩
    · cases h
  · cases h
theorem fr1 : frC (calls (tab L) 67) 1 = true := by decide +kernel
theorem fr2 : frC (calls (tab L) 67) 2 = true := by decide +kernel
theorem fr3 : frC (calls (tab L) 67) 3 = true := by decide +kernel
theorem fr4 : frC (calls (tab L) 67) 4 = true := by decide +kernel
theorem fr5 : frC (calls (tab L) 67) 5 = true := by decide +kernel
theorem fr6 : frC (calls (tab L) 67) 6 = true := by decide +kernel
theorem fr7 : frC (calls (tab L) 67) 7 = true := by decide +kernel
theorem fr8 : frC (calls (tab L) 67) 8 = true := by decide +kernel
theorem fr9 : frC (calls (tab L) 67) 9 = true := by decide +kernel
theorem fr10 : frC (calls (tab L) 67) 10 = true := by decide +kernel
theorem fr11 : frC (calls (tab L) 67) 11 = true := by decide +kernel
theorem fr12 : frC (calls (tab L) 67) 12 = true := by decide +kernel
theorem fr13 : frC (calls (tab L) 67) 13 = true := by decide +kernel
theorem fr14 : frC (calls (tab L) 67) 14 = true := by decide +kernel
theorem fr15 : frC (calls (tab L) 67) 15 = true := by decide +kernel
theorem fr16 : frC (calls (tab L) 67) 16 = true := by decide +kernel
theorem fr17 : frC (calls (tab L) 67) 17 = true := by decide +kernel
theorem fr18 : frC (calls (tab L) 67) 18 = true := by decide +kernel
theorem fr19 : frC (calls (tab L) 67) 19 = true := by decide +kernel
theorem fr20 : frC (calls (tab L) 67) 20 = true := by decide +kernel
theorem fr21 : frC (calls (tab L) 67) 21 = true := by decide +kernel
theorem fr22 : frC (calls (tab L) 67) 22 = true := by decide +kernel
theorem fr23 : frC (calls (tab L) 67) 23 = true := by decide +kernel
theorem fr24 : frC (calls (tab L) 67) 24 = true := by decide +kernel
theorem fr_at (t : Int) (h0 : 0 < t) (h1 : t < 25) : ∃ p ps, calls (tab L) 67 39 none [.int t] = .ok (.v p) [] ∧ calls (tab L) 67 36 none [p] = .ok (.f ps) [] ∧ ((ps.length : Nat) : Int) = manyZ t := by
  refine frC_at _ t ?_
  have c : t = 1 ∨ t = 2 ∨ t = 3 ∨ t = 4 ∨ t = 5 ∨ t = 6 ∨ t = 7 ∨ t = 8 ∨ t = 9 ∨ t = 10 ∨ t = 11 ∨ t = 12 ∨ t = 13 ∨ t = 14 ∨ t = 15 ∨ t = 16 ∨ t = 17 ∨ t = 18 ∨ t = 19 ∨ t = 20 ∨ t = 21 ∨ t = 22 ∨ t = 23 ∨ t = 24 := by omega
  rcases c with rfl | rfl | rfl | rfl | rfl | rfl | rfl | rfl | rfl | rfl | rfl | rfl | rfl | rfl | rfl | rfl | rfl | rfl | rfl | rfl | rfl | rfl | rfl | rfl
  · exact fr1
  · exact fr2
  · exact fr3
  · exact fr4
  · exact fr5
  · exact fr6
  · exact fr7
  · exact fr8
  · exact fr9
  · exact fr10
  · exact fr11
  · exact fr12
  · exact fr13
  · exact fr14
  · exact fr15
  · exact fr16
  · exact fr17
  · exact fr18
  · exact fr19
  · exact fr20
  · exact fr21
  · exact fr22
  · exact fr23
  · exact fr24
end Hd


set_option Elab.async false
set_option linter.all false
set_option maxRecDepth 100000
set_option maxHeartbeats 6400000
namespace Hd
open PySem PySem.Spec PyProof.Rows L2 EV MA
variable (y0 y1 y2 y3 y4 y5 y6 y7 y8 y9 y10 y11 y12 y13 y14 y15 y16 : Slot)
/-- a list of ints, each turned -/
theorem compS_int {v : Nat} {e : Den} {ε : Ev} {j : Nat} (l : List Int) (f : Int → PV) (hj : ε[j]? = some (.val (.lst (l.map .int)))) (hn : isOwn ε[v]? = false) (hv : v < ε.length) (hl : l.length < 1000000)
    (h : ∀ x ∈ l, e (ε.set v (.val (.int x))) = .ok (.v (f x)) (ε.set v (.val (.int x)))) : cCompS [v] j (.one v) tTrue e ε = .ok (.f (l.map f)) ε := by
  have c := compS_fm (v := v) (t := tTrue) (e := e) (fun _ => true) (fun p => match p with
    | .int x => f x
    | p => p) hj (show itemsOf (.lst (l.map PV.int)) = some (l.map .int) from rfl) hn hv (sz_lt (by rw [List.length_map]; exact hl)) (fun p hp => by
      obtain ⟨x, hx, rfl⟩ := List.mem_map.mp hp
      exact ⟨rfl, fun _ => h x hx⟩)
  rw [List.filter_eq_self.mpr fun _ _ => rfl, List.map_map] at c
  exact c
theorem cT7 (t : Int) (t0 : 0 ≤ t) (t1 : t < 25) (h : isOwn (some y10) = false) :
    cComp [10] (iRange (bCons (bOf (cOp2 fAdd (bVar 12) (bOf (cC (.int 1))))) (bNil))) (.one 10) (B49t7 (calls (tab L) 67)) (B49e6 (calls (tab L) 67)) [y0, y1, y2, y3, y4, y5, y6, y7, y8, y9, y10, y11, .val (.int t), y13, y14, y15, y16]
      = .ok (.f ((lotsZ t).map .int)) [y0, y1, y2, y3, y4, y5, y6, y7, y8, y9, y10, y11, .val (.int t), y13, y14, y15, y16] := by
  have c := comp_fm (v := 10) (ε := [y0, y1, y2, y3, y4, y5, y6, y7, y8, y9, y10, y11, .val (.int t), y13, y14, y15, y16]) (it := iRange (bCons (bOf (cOp2 fAdd (bVar 12) (bOf (cC (.int 1))))) (bNil)))
    (t := B49t7 (calls (tab L) 67)) (e := B49e6 (calls (tab L) 67)) (qI fun x => belowZ x t) (fun p => p) (ps := rangeL 0 (t + 1).toNat) (by
      have r := r_range1 (t + 1) (by omega)
      simp only [r_cC, r_bV, r_bO, r_o1, r_o2, r_t2, r_asB, r_ret, r_tch, r_ofT, r_aN, r_aC, r_bN, r_bC, r_tup, r_lst, r_blt, r_if, r_tval, r_tand, r_tor, r_tnot, r_orT, r_andT, r_orTs, r_not, r_call, r_afterOk, r_afterX, r_seq, r_next, r_brk, r_cnt, r_set, r_par, r_stup, r_aug, r_drop, r_sif, r_sret, r_retnone, r_raise, bind_ok, bind_exc, bind_stk, bind_ite, bind_cond, fin_ite, r_eqI, r_neI, r_leI, r_ltI, r_geI, r_gtI, r_addI, r_iaddI, r_subI, r_mulL, r_mulR, r_divI, r_modI, r_negI, r_leP, r_ixT0, r_ixT1, r_ixT2, r_ixL0, r_ixL1, r_ixL2, r_pv, r_pvF, r_slv, r_slF, r_sv, r_so, r_rp, r_rs, r_rsN, r_rsC, r_cV, r_trB, r_trI, r_retV, r_tgM, r_tgO, r_saN, r_saC, List.getElem?_cons_zero, List.getElem?_cons_succ, List.set_cons_zero, List.set_cons_succ, Bool.cond_decide, cond_true, cond_false, Int.reduceLT, Int.reduceLE, Int.reduceNeg, Int.reduceAdd, Int.reduceSub, Int.reduceMul, Int.reducePow, and_self, decide_true, decide_false, and_true, true_and, reduceIte, if_true, if_false, Bool.not_true, Bool.not_false, r_for, r_forN, r_forC, r_iSeq, r_iRet, r_itT, r_itL, r_itF, r_iRange, r_own, r_isO, r_app, r_ext, r_put, r_callIO, r_afIO, fl_len, ft_len, r_clN, r_clC, r_tTrue, Nat.zero_add, Nat.reduceAdd, List.length_cons, List.length_nil, Int.reduceEq, r]) h (by simp) (sz_lt (by rw [range_len]; omega)) (fun p hp => by
      obtain ⟨v, rfl, v1, v2⟩ := range_mem hp
      have e24 : calls (tab L) 67 24 none [.int v, .int t] = .ok (.v (.bl (belowZ v t))) [] := sp19 62 v t (by omega) (by omega) (by omega) (by omega)
      refine ⟨?_, fun _ => ?_⟩
      · unfold B49t7
        show tVal _ [y0, y1, y2, y3, y4, y5, y6, y7, y8, y9, .val (.int v), y11, .val (.int t), y13, y14, y15, y16] = .ok (belowZ v t) [y0, y1, y2, y3, y4, y5, y6, y7, y8, y9, .val (.int v), y11, .val (.int t), y13, y14, y15, y16]
        simp only [r_cC, r_bV, r_bO, r_o1, r_o2, r_t2, r_asB, r_ret, r_tch, r_ofT, r_aN, r_aC, r_bN, r_bC, r_tup, r_lst, r_blt, r_if, r_tval, r_tand, r_tor, r_tnot, r_orT, r_andT, r_orTs, r_not, r_call, r_afterOk, r_afterX, r_seq, r_next, r_brk, r_cnt, r_set, r_par, r_stup, r_aug, r_drop, r_sif, r_sret, r_retnone, r_raise, bind_ok, bind_exc, bind_stk, bind_ite, bind_cond, fin_ite, r_eqI, r_neI, r_leI, r_ltI, r_geI, r_gtI, r_addI, r_iaddI, r_subI, r_mulL, r_mulR, r_divI, r_modI, r_negI, r_leP, r_ixT0, r_ixT1, r_ixT2, r_ixL0, r_ixL1, r_ixL2, r_pv, r_pvF, r_slv, r_slF, r_sv, r_so, r_rp, r_rs, r_rsN, r_rsC, r_cV, r_trB, r_trI, r_retV, r_tgM, r_tgO, r_saN, r_saC, List.getElem?_cons_zero, List.getElem?_cons_succ, List.set_cons_zero, List.set_cons_succ, Bool.cond_decide, cond_true, cond_false, Int.reduceLT, Int.reduceLE, Int.reduceNeg, Int.reduceAdd, Int.reduceSub, Int.reduceMul, Int.reducePow, and_self, decide_true, decide_false, and_true, true_and, reduceIte, if_true, if_false, Bool.not_true, Bool.not_false, r_for, r_forN, r_forC, r_iSeq, r_iRet, r_itT, r_itL, r_itF, r_iRange, r_own, r_isO, r_app, r_ext, r_put, r_callIO, r_afIO, fl_len, ft_len, r_clN, r_clC, r_tTrue, Nat.zero_add, Nat.reduceAdd, List.length_cons, List.length_nil, Int.reduceEq, e24]
      · unfold B49e6
        show cVar 10 [y0, y1, y2, y3, y4, y5, y6, y7, y8, y9, .val (.int v), y11, .val (.int t), y13, y14, y15, y16] = .ok _ [y0, y1, y2, y3, y4, y5, y6, y7, y8, y9, .val (.int v), y11, .val (.int t), y13, y14, y15, y16]
        simp only [r_cC, r_bV, r_bO, r_o1, r_o2, r_t2, r_asB, r_ret, r_tch, r_ofT, r_aN, r_aC, r_bN, r_bC, r_tup, r_lst, r_blt, r_if, r_tval, r_tand, r_tor, r_tnot, r_orT, r_andT, r_orTs, r_not, r_call, r_afterOk, r_afterX, r_seq, r_next, r_brk, r_cnt, r_set, r_par, r_stup, r_aug, r_drop, r_sif, r_sret, r_retnone, r_raise, bind_ok, bind_exc, bind_stk, bind_ite, bind_cond, fin_ite, r_eqI, r_neI, r_leI, r_ltI, r_geI, r_gtI, r_addI, r_iaddI, r_subI, r_mulL, r_mulR, r_divI, r_modI, r_negI, r_leP, r_ixT0, r_ixT1, r_ixT2, r_ixL0, r_ixL1, r_ixL2, r_pv, r_pvF, r_slv, r_slF, r_sv, r_so, r_rp, r_rs, r_rsN, r_rsC, r_cV, r_trB, r_trI, r_retV, r_tgM, r_tgO, r_saN, r_saC, List.getElem?_cons_zero, List.getElem?_cons_succ, List.set_cons_zero, List.set_cons_succ, Bool.cond_decide, cond_true, cond_false, Int.reduceLT, Int.reduceLE, Int.reduceNeg, Int.reduceAdd, Int.reduceSub, Int.reduceMul, Int.reducePow, and_self, decide_true, decide_false, and_true, true_and, reduceIte, if_true, if_false, Bool.not_true, Bool.not_false, r_for, r_forN, r_forC, r_iSeq, r_iRet, r_itT, r_itL, r_itF, r_iRange, r_own, r_isO, r_app, r_ext, r_put, r_callIO, r_afIO, fl_len, ft_len, r_clN, r_clC, r_tTrue, Nat.zero_add, Nat.reduceAdd, List.length_cons, List.length_nil, Int.reduceEq])
  have el : ((rangeL 0 (t + 1).toNat).filter (qI fun x => belowZ x t)).map (fun p => p) = (lotsZ t).map PV.int := by
    unfold lotsZ
    rw [List.map_id', range_int, fil_int, show (t + 1).toNat = t.toNat + 1 by omega]
  rw [el] at c
  exact c
/-- what is not below t -/
def farZ (t : Int) : List Int := ((List.range 26).map fun (k : Nat) => (k : Int)).filter fun k => !belowZ k t
theorem cT2 (t : Int) (t0 : 0 ≤ t) (t1 : t < 25) (h : isOwn (some y10) = false) :
    cComp [10] (iRange (bCons (bOf (cC (.int 26))) (bNil))) (.one 10) (B49t2 (calls (tab L) 67)) (B49e1 (calls (tab L) 67)) [y0, y1, y2, y3, y4, y5, y6, y7, y8, y9, y10, y11, .val (.int t), y13, y14, y15, y16]
      = .ok (.f ((farZ t).map .int)) [y0, y1, y2, y3, y4, y5, y6, y7, y8, y9, y10, y11, .val (.int t), y13, y14, y15, y16] := by
  have c := comp_fm (v := 10) (ε := [y0, y1, y2, y3, y4, y5, y6, y7, y8, y9, y10, y11, .val (.int t), y13, y14, y15, y16]) (it := iRange (bCons (bOf (cC (.int 26))) (bNil)))
    (t := B49t2 (calls (tab L) 67)) (e := B49e1 (calls (tab L) 67)) (qI fun x => !belowZ x t) (fun p => p) (ps := rangeL 0 26) (by
      have r : rangeOf [.int 26] = some (rangeL 0 26) := rfl
      simp only [r_cC, r_bV, r_bO, r_o1, r_o2, r_t2, r_asB, r_ret, r_tch, r_ofT, r_aN, r_aC, r_bN, r_bC, r_tup, r_lst, r_blt, r_if, r_tval, r_tand, r_tor, r_tnot, r_orT, r_andT, r_orTs, r_not, r_call, r_afterOk, r_afterX, r_seq, r_next, r_brk, r_cnt, r_set, r_par, r_stup, r_aug, r_drop, r_sif, r_sret, r_retnone, r_raise, bind_ok, bind_exc, bind_stk, bind_ite, bind_cond, fin_ite, r_eqI, r_neI, r_leI, r_ltI, r_geI, r_gtI, r_addI, r_iaddI, r_subI, r_mulL, r_mulR, r_divI, r_modI, r_negI, r_leP, r_ixT0, r_ixT1, r_ixT2, r_ixL0, r_ixL1, r_ixL2, r_pv, r_pvF, r_slv, r_slF, r_sv, r_so, r_rp, r_rs, r_rsN, r_rsC, r_cV, r_trB, r_trI, r_retV, r_tgM, r_tgO, r_saN, r_saC, List.getElem?_cons_zero, List.getElem?_cons_succ, List.set_cons_zero, List.set_cons_succ, Bool.cond_decide, cond_true, cond_false, Int.reduceLT, Int.reduceLE, Int.reduceNeg, Int.reduceAdd, Int.reduceSub, Int.reduceMul, Int.reducePow, and_self, decide_true, decide_false, and_true, true_and, reduceIte, if_true, if_false, Bool.not_true, Bool.not_false, r_for, r_forN, r_forC, r_iSeq, r_iRet, r_itT, r_itL, r_itF, r_iRange, r_own, r_isO, r_app, r_ext, r_put, r_callIO, r_afIO, fl_len, ft_len, r_clN, r_clC, r_tTrue, Nat.zero_add, Nat.reduceAdd, List.length_cons, List.length_nil, Int.reduceEq, r]) h (by simp) (sz_lt (by rw [range_len]; omega)) (fun p hp => by
      obtain ⟨v, rfl, v1, v2⟩ := range_mem hp
      have e24 : calls (tab L) 67 24 none [.int v, .int t] = .ok (.v (.bl (belowZ v t))) [] := sp19 62 v t (by omega) (by omega) (by omega) (by omega)
      refine ⟨?_, fun _ => ?_⟩
      · unfold B49t2
        show tNot _ [y0, y1, y2, y3, y4, y5, y6, y7, y8, y9, .val (.int v), y11, .val (.int t), y13, y14, y15, y16] = .ok (!belowZ v t) [y0, y1, y2, y3, y4, y5, y6, y7, y8, y9, .val (.int v), y11, .val (.int t), y13, y14, y15, y16]
        simp only [r_cC, r_bV, r_bO, r_o1, r_o2, r_t2, r_asB, r_ret, r_tch, r_ofT, r_aN, r_aC, r_bN, r_bC, r_tup, r_lst, r_blt, r_if, r_tval, r_tand, r_tor, r_tnot, r_orT, r_andT, r_orTs, r_not, r_call, r_afterOk, r_afterX, r_seq, r_next, r_brk, r_cnt, r_set, r_par, r_stup, r_aug, r_drop, r_sif, r_sret, r_retnone, r_raise, bind_ok, bind_exc, bind_stk, bind_ite, bind_cond, fin_ite, r_eqI, r_neI, r_leI, r_ltI, r_geI, r_gtI, r_addI, r_iaddI, r_subI, r_mulL, r_mulR, r_divI, r_modI, r_negI, r_leP, r_ixT0, r_ixT1, r_ixT2, r_ixL0, r_ixL1, r_ixL2, r_pv, r_pvF, r_slv, r_slF, r_sv, r_so, r_rp, r_rs, r_rsN, r_rsC, r_cV, r_trB, r_trI, r_retV, r_tgM, r_tgO, r_saN, r_saC, List.getElem?_cons_zero, List.getElem?_cons_succ, List.set_cons_zero, List.set_cons_succ, Bool.cond_decide, cond_true, cond_false, Int.reduceLT, Int.reduceLE, Int.reduceNeg, Int.reduceAdd, Int.reduceSub, Int.reduceMul, Int.reducePow, and_self, decide_true, decide_false, and_true, true_and, reduceIte, if_true, if_false, Bool.not_true, Bool.not_false, r_for, r_forN, r_forC, r_iSeq, r_iRet, r_itT, r_itL, r_itF, r_iRange, r_own, r_isO, r_app, r_ext, r_put, r_callIO, r_afIO, fl_len, ft_len, r_clN, r_clC, r_tTrue, Nat.zero_add, Nat.reduceAdd, List.length_cons, List.length_nil, Int.reduceEq, e24]
      · unfold B49e1
        show cVar 10 [y0, y1, y2, y3, y4, y5, y6, y7, y8, y9, .val (.int v), y11, .val (.int t), y13, y14, y15, y16] = .ok _ [y0, y1, y2, y3, y4, y5, y6, y7, y8, y9, .val (.int v), y11, .val (.int t), y13, y14, y15, y16]
        simp only [r_cC, r_bV, r_bO, r_o1, r_o2, r_t2, r_asB, r_ret, r_tch, r_ofT, r_aN, r_aC, r_bN, r_bC, r_tup, r_lst, r_blt, r_if, r_tval, r_tand, r_tor, r_tnot, r_orT, r_andT, r_orTs, r_not, r_call, r_afterOk, r_afterX, r_seq, r_next, r_brk, r_cnt, r_set, r_par, r_stup, r_aug, r_drop, r_sif, r_sret, r_retnone, r_raise, bind_ok, bind_exc, bind_stk, bind_ite, bind_cond, fin_ite, r_eqI, r_neI, r_leI, r_ltI, r_geI, r_gtI, r_addI, r_iaddI, r_subI, r_mulL, r_mulR, r_divI, r_modI, r_negI, r_leP, r_ixT0, r_ixT1, r_ixT2, r_ixL0, r_ixL1, r_ixL2, r_pv, r_pvF, r_slv, r_slF, r_sv, r_so, r_rp, r_rs, r_rsN, r_rsC, r_cV, r_trB, r_trI, r_retV, r_tgM, r_tgO, r_saN, r_saC, List.getElem?_cons_zero, List.getElem?_cons_succ, List.set_cons_zero, List.set_cons_succ, Bool.cond_decide, cond_true, cond_false, Int.reduceLT, Int.reduceLE, Int.reduceNeg, Int.reduceAdd, Int.reduceSub, Int.reduceMul, Int.reducePow, and_self, decide_true, decide_false, and_true, true_and, reduceIte, if_true, if_false, Bool.not_true, Bool.not_false, r_for, r_forN, r_forC, r_iSeq, r_iRet, r_itT, r_itL, r_itF, r_iRange, r_own, r_isO, r_app, r_ext, r_put, r_callIO, r_afIO, fl_len, ft_len, r_clN, r_clC, r_tTrue, Nat.zero_add, Nat.reduceAdd, List.length_cons, List.length_nil, Int.reduceEq])
  have el : ((rangeL 0 26).filter (qI fun x => !belowZ x t)).map (fun p => p) = (farZ t).map PV.int := by
    unfold farZ
    rw [List.map_id', range_int, fil_int]
  rw [el] at c
  exact c
theorem far_some {t : Int} (t0 : 0 ≤ t) (t1 : t < 25) : 0 < (farZ t).length := by
  refine List.length_pos_of_mem (a := 25) ?_
  unfold farZ
  refine List.mem_filter.mpr ⟨List.mem_map.mpr ⟨25, by decide, rfl⟩, ?_⟩
  cases h : belowZ 25 t with
  | false => rfl
  | true => have := below_le (a := 25) (by omega) t0 h; omega
theorem far_mem {t x : Int} (h : x ∈ farZ t) : 0 ≤ x ∧ x < 26 ∧ belowZ x t = false := by
  unfold farZ at h
  obtain ⟨h1, h2⟩ := List.mem_filter.mp h
  obtain ⟨n, hn, rfl⟩ := List.mem_map.mp h1
  have := List.mem_range.mp hn
  refine ⟨by omega, by omega, ?_⟩
  cases h : belowZ ((n : Nat) : Int) t with
  | false => rfl
  | true => rw [h] at h2; cases h2
theorem lots_some {t : Int} (t0 : 0 ≤ t) : 0 < (lotsZ t).length := by
  refine List.length_pos_of_mem (a := 0) ((mem_lots t0).mpr ⟨by omega, ?_⟩)
  exact (S_below (by omega) (by omega)).mpr fun w hw h => by
    unfold S at h
    rw [has0 hw] at h; cases h
theorem lots_len (t : Int) : (lotsZ t).length ≤ t.toNat + 1 := by
  unfold lotsZ
  refine Nat.le_trans (List.length_filter_le _ _) ?_
  rw [List.length_map, List.length_range]
  exact Nat.le_refl _
theorem leads_le {a b M : Int} (ha : -1 ≤ a) (hb : -1 ≤ b) (h1 : a ≤ M) (h2 : b ≤ M) (hM : 0 ≤ M) : leadsZ a b ≤ M + 8 := op_le (j := .to) ha hb h1 h2 hM
section
variable {t x y z l : Int} (t0 : 0 ≤ t) (t1 : t < 25)
include t0 t1
theorem cE5 (hx : x ∈ lotsZ t) (hy : y ∈ lotsZ t) (h : isOwn (some y10) = false) :
    cCompS [10] 3 (.one 10) tTrue (B49e5 (calls (tab L) 67)) [y0, y1, y2, .val (.lst ((lotsZ t).map .int)), y4, y5, .val (.int (bothZ t (leadsZ x y))), y7, y8, y9, y10, y11, y12, y13, .val (.int x), .val (.int y), y16]
      = .ok (.f ((lotsZ t).map fun _ => .bl true)) [y0, y1, y2, .val (.lst ((lotsZ t).map .int)), y4, y5, .val (.int (bothZ t (leadsZ x y))), y7, y8, y9, y10, y11, y12, y13, .val (.int x), .val (.int y), y16] := by
  refine compS_int (lotsZ t) (fun _ => .bl true) rfl h (by simp) (by have := lots_len t; omega) fun k hk => ?_
  obtain ⟨x1, bx⟩ := (mem_lots t0).mp hx
  obtain ⟨y1, bY⟩ := (mem_lots t0).mp hy
  obtain ⟨k1, bk⟩ := (mem_lots t0).mp hk
  have lx := below_le x1 t0 bx
  have ly := below_le y1 t0 bY
  have lk := below_le k1 t0 bk
  have gi : -1 ≤ bothZ t (leadsZ x y) := both_ge (by omega) (leads_ge x1 y1)
  have bi := below_le gi t0 (both_belowL (by omega) (leads_ge x1 y1) (by omega : (-1 : Int) ≤ t))
  have gk : -1 ≤ bothZ x k := both_ge x1 k1
  have bk2 := below_le gk t0 (both_below (by omega) x1 k1 bx)
  unfold B49e5
  show cOp2 _ _ _ _ = _
  have e24 : calls (tab L) 67 24 none [.int k, .int (bothZ t (leadsZ x y))] = .ok (.v (.bl (belowZ (bothZ x k) y))) [] := by
    have := sp19 62 k (bothZ t (leadsZ x y)) (by omega) (by omega) (by omega) (by omega)
    rw [law_adj (by omega) x1 y1 k1 bk] at this
    exact this
  have e21 : calls (tab L) 67 21 none [.int x, .int k] = .ok (.v (.int (bothZ x k))) [] := sp18 63 x k (by omega) (by omega) (by omega) (by omega)
  have e24b : calls (tab L) 67 24 none [.int (bothZ x k), .int y] = .ok (.v (.bl (belowZ (bothZ x k) y))) [] := sp19 62 _ _ (by omega) (by omega) (by omega) (by omega)
  have eq : fEq (.bl (belowZ (bothZ x k) y)) (.bl (belowZ (bothZ x k) y)) = some (.v (.bl true)) := by rw [eq_bl]; simp
  simp only [List.set_cons_zero, List.set_cons_succ]
  simp only [r_cC, r_bV, r_bO, r_o1, r_o2, r_t2, r_asB, r_ret, r_tch, r_ofT, r_aN, r_aC, r_bN, r_bC, r_tup, r_lst, r_blt, r_if, r_tval, r_tand, r_tor, r_tnot, r_orT, r_andT, r_orTs, r_not, r_call, r_afterOk, r_afterX, r_seq, r_next, r_brk, r_cnt, r_set, r_par, r_stup, r_aug, r_drop, r_sif, r_sret, r_retnone, r_raise, bind_ok, bind_exc, bind_stk, bind_ite, bind_cond, fin_ite, r_eqI, r_neI, r_leI, r_ltI, r_geI, r_gtI, r_addI, r_iaddI, r_subI, r_mulL, r_mulR, r_divI, r_modI, r_negI, r_leP, r_ixT0, r_ixT1, r_ixT2, r_ixL0, r_ixL1, r_ixL2, r_pv, r_pvF, r_slv, r_slF, r_sv, r_so, r_rp, r_rs, r_rsN, r_rsC, r_cV, r_trB, r_trI, r_retV, r_tgM, r_tgO, r_saN, r_saC, List.getElem?_cons_zero, List.getElem?_cons_succ, List.set_cons_zero, List.set_cons_succ, Bool.cond_decide, cond_true, cond_false, Int.reduceLT, Int.reduceLE, Int.reduceNeg, Int.reduceAdd, Int.reduceSub, Int.reduceMul, Int.reducePow, and_self, decide_true, decide_false, and_true, true_and, reduceIte, if_true, if_false, Bool.not_true, Bool.not_false, r_for, r_forN, r_forC, r_iSeq, r_iRet, r_itT, r_itL, r_itF, r_iRange, r_own, r_isO, r_app, r_ext, r_put, r_callIO, r_afIO, fl_len, ft_len, r_clN, r_clC, r_tTrue, Nat.zero_add, Nat.reduceAdd, List.length_cons, List.length_nil, Int.reduceEq, e24, e21, e24b, eq]
theorem cE4 (hl : l ∈ lotsZ t) (h : isOwn (some y10) = false) :
    cCompS [10] 3 (.one 10) tTrue (B49e4 (calls (tab L) 67)) [y0, y1, y2, .val (.lst ((lotsZ t).map .int)), y4, y5, y6, y7, .val (.dic ((lotsZ t).map .inl) ((lotsZ t).map fun x => .int (bothZ l x))), y9, y10, y11, y12, y13, y14, y15, y16]
      = .ok (.f ((lotsZ t).map fun x => .int (bothZ l x))) [y0, y1, y2, .val (.lst ((lotsZ t).map .int)), y4, y5, y6, y7, .val (.dic ((lotsZ t).map .inl) ((lotsZ t).map fun x => .int (bothZ l x))), y9, y10, y11, y12, y13, y14, y15, y16] := by
  refine compS_int (lotsZ t) (fun x => .int (bothZ l x)) rfl h (by simp) (by have := lots_len t; omega) fun k hk => ?_
  unfold B49e4
  have d := dx_int (fun x => .int (bothZ l x)) (lotsZ t) k hk
  simp only [List.set_cons_zero, List.set_cons_succ]
  simp only [r_cC, r_bV, r_bO, r_o1, r_o2, r_t2, r_asB, r_ret, r_tch, r_ofT, r_aN, r_aC, r_bN, r_bC, r_tup, r_lst, r_blt, r_if, r_tval, r_tand, r_tor, r_tnot, r_orT, r_andT, r_orTs, r_not, r_call, r_afterOk, r_afterX, r_seq, r_next, r_brk, r_cnt, r_set, r_par, r_stup, r_aug, r_drop, r_sif, r_sret, r_retnone, r_raise, bind_ok, bind_exc, bind_stk, bind_ite, bind_cond, fin_ite, r_eqI, r_neI, r_leI, r_ltI, r_geI, r_gtI, r_addI, r_iaddI, r_subI, r_mulL, r_mulR, r_divI, r_modI, r_negI, r_leP, r_ixT0, r_ixT1, r_ixT2, r_ixL0, r_ixL1, r_ixL2, r_pv, r_pvF, r_slv, r_slF, r_sv, r_so, r_rp, r_rs, r_rsN, r_rsC, r_cV, r_trB, r_trI, r_retV, r_tgM, r_tgO, r_saN, r_saC, List.getElem?_cons_zero, List.getElem?_cons_succ, List.set_cons_zero, List.set_cons_succ, Bool.cond_decide, cond_true, cond_false, Int.reduceLT, Int.reduceLE, Int.reduceNeg, Int.reduceAdd, Int.reduceSub, Int.reduceMul, Int.reducePow, and_self, decide_true, decide_false, and_true, true_and, reduceIte, if_true, if_false, Bool.not_true, Bool.not_false, r_for, r_forN, r_forC, r_iSeq, r_iRet, r_itT, r_itL, r_itF, r_iRange, r_own, r_isO, r_app, r_ext, r_put, r_callIO, r_afIO, fl_len, ft_len, r_clN, r_clC, r_tTrue, Nat.zero_add, Nat.reduceAdd, List.length_cons, List.length_nil, Int.reduceEq, d]
theorem cE3 (hl : l ∈ lotsZ t) (h : isOwn (some y10) = false) :
    cCompS [10] 3 (.one 10) tTrue (B49e3 (calls (tab L) 67)) [y0, y1, y2, .val (.lst ((lotsZ t).map .int)), y4, y5, y6, .val (.int l), y8, y9, y10, y11, y12, y13, y14, y15, y16]
      = .ok (.f ((lotsZ t).map fun x => .int (bothZ l x))) [y0, y1, y2, .val (.lst ((lotsZ t).map .int)), y4, y5, y6, .val (.int l), y8, y9, y10, y11, y12, y13, y14, y15, y16] := by
  refine compS_int (lotsZ t) (fun x => .int (bothZ l x)) rfl h (by simp) (by have := lots_len t; omega) fun k hk => ?_
  obtain ⟨l1, bl⟩ := (mem_lots t0).mp hl
  obtain ⟨k1, bk⟩ := (mem_lots t0).mp hk
  have ll := below_le l1 t0 bl
  have lk := below_le k1 t0 bk
  unfold B49e3
  have e21 : calls (tab L) 67 21 none [.int l, .int k] = .ok (.v (.int (bothZ l k))) [] := sp18 63 l k (by omega) (by omega) (by omega) (by omega)
  simp only [List.set_cons_zero, List.set_cons_succ]
  simp only [r_cC, r_bV, r_bO, r_o1, r_o2, r_t2, r_asB, r_ret, r_tch, r_ofT, r_aN, r_aC, r_bN, r_bC, r_tup, r_lst, r_blt, r_if, r_tval, r_tand, r_tor, r_tnot, r_orT, r_andT, r_orTs, r_not, r_call, r_afterOk, r_afterX, r_seq, r_next, r_brk, r_cnt, r_set, r_par, r_stup, r_aug, r_drop, r_sif, r_sret, r_retnone, r_raise, bind_ok, bind_exc, bind_stk, bind_ite, bind_cond, fin_ite, r_eqI, r_neI, r_leI, r_ltI, r_geI, r_gtI, r_addI, r_iaddI, r_subI, r_mulL, r_mulR, r_divI, r_modI, r_negI, r_leP, r_ixT0, r_ixT1, r_ixT2, r_ixL0, r_ixL1, r_ixL2, r_pv, r_pvF, r_slv, r_slF, r_sv, r_so, r_rp, r_rs, r_rsN, r_rsC, r_cV, r_trB, r_trI, r_retV, r_tgM, r_tgO, r_saN, r_saC, List.getElem?_cons_zero, List.getElem?_cons_succ, List.set_cons_zero, List.set_cons_succ, Bool.cond_decide, cond_true, cond_false, Int.reduceLT, Int.reduceLE, Int.reduceNeg, Int.reduceAdd, Int.reduceSub, Int.reduceMul, Int.reducePow, and_self, decide_true, decide_false, and_true, true_and, reduceIte, if_true, if_false, Bool.not_true, Bool.not_false, r_for, r_forN, r_forC, r_iSeq, r_iRet, r_itT, r_itL, r_itF, r_iRange, r_own, r_isO, r_app, r_ext, r_put, r_callIO, r_afIO, fl_len, ft_len, r_clN, r_clC, r_tTrue, Nat.zero_add, Nat.reduceAdd, List.length_cons, List.length_nil, Int.reduceEq, e21]
end
end Hd


set_option Elab.async false
set_option linter.all false
set_option maxRecDepth 100000
set_option maxHeartbeats 12800000
namespace Hd
open PySem PySem.Spec PyProof.Rows L2 EV MA
theorem tin_up {B C a b n : Int} (h : Tin B a b n) (g : B ≤ C) : Tin C a b n := ⟨h.a0, h.b0, h.b1, h.n0, by have := h.n1; omega⟩
theorem pd_bls : ∀ bs : List Bool, PV.pds (bs.map .bl) = some (bs.map .bool)
  | [] => pds_nil
  | b :: bs => pds_cons (pd_bl b) (pd_bls bs)
theorem mul5 : fMulB (.lst [.bl true]) (.int 5) = some (.f [.bl true, .bl true, .bl true, .bl true, .bl true]) := by
  have h : -(2 ^ 63) ≤ (5 : Int) ∧ (5 : Int) < 2 ^ 63 ∧ [PV.bl true].length * (5 : Int).toNat ≤ sizeLine := ⟨by omega, by omega, sz_le (by decide)⟩
  have e : fMulB (.lst [.bl true]) (.int 5) = some (.f (List.replicate (5 : Int).toNat [PV.bl true]).flatten) := if_pos (e := none) h
  rw [e]; rfl
theorem pd_lst {ps : List PV} {ds : List PyData} (h : PV.pds ps = some ds) : PV.pd (.lst ps) = some (.list ds) := by unfold PV.pd; rw [h]; rfl
theorem ne5 : fNe (.lst [.bl true, .bl true, .bl true, .bl true, .bl true]) (.lst [.bl true, .bl true, .bl true, .bl true, .bl true]) = some (.v (.bl false)) :=
  ne_of (b := true) (pd_lst (pd_bls [true, true, true, true, true])) (pd_lst (pd_bls [true, true, true, true, true])) (by decide +kernel) (by decide +kernel) (by decide +kernel)
theorem seq_ok {a b : SDen} {ε ε' : Ev} (h : a ε = .ok .nx ε') : sSeq a b ε = b ε' := by
  show (a ε).bind _ = _
  rw [h]; rfl
/-- one lap of the law -/
theorem lap49 {B a b n : Int} (t0 : Tin B a b n) (hB : B + 100 ≤ 1000000) (o : Bool) (lp : PV) (x0 x3 x4 x5 x6 x7 x8 x9 x10 x11 x12 x13 x14 x15 x16 : Slot) (h10 : isOwn (some x10) = false) :
    ∃ a' n' z3 z4 z5 z6 z7 z8 z9 z10 z11 z12 z13 z14 z15 z16, B49s8 (calls (tab L) 67) [x0, .own o (TIN a b n), .val lp, x3, x4, x5, x6, x7, x8, x9, x10, x11, x12, x13, x14, x15, x16] = .ok .nx [x0, .own o (TIN a' b n'), .val lp, z3, z4, z5, z6, z7, z8, z9, z10, z11, z12, z13, z14, z15, z16] ∧ isOwn (some z10) = false ∧ Tin (B + 100) a' b n' := by
  have c4 : cS 4 = 46 := rfl
  have z4 : zS 4 = 63 := rfl
  obtain ⟨t, a1, n1, e41, tt0, tt1, t1⟩ := sp36 66 (m := 25) t0 (by omega) (by omega) (by omega)
  obtain ⟨s, a2, n2, e46, s1, s2, t2⟩ := sp41 4 60 t1 (by omega)
  rw [c4] at t2
  have e41 : calls (tab L) 67 41 (some (TIN a b n)) [.int 25] = .ok (.v (.int t)) (TIN a1 b n1) := e41
  have e46 : calls (tab L) 67 46 (some (TIN a1 b n1)) [.int 4] = .ok (.v (toPV s)) (TIN a2 b n2) := e46
  have hl1 := lots_len t
  have hl0 := lots_some tt0
  have gs0 : 0 < ((lotsZ t).map PV.int).length := by rw [List.length_map]; exact hl0
  have gs1 : ((lotsZ t).map PV.int).length < 1000000 := by rw [List.length_map]; omega
  obtain ⟨p, a3, n3, hp, e43a, t3⟩ := sp38 65 ((lotsZ t).map PV.int) t2 (by omega) gs0 gs1
  obtain ⟨x, hx, rfl⟩ := List.mem_map.mp hp
  obtain ⟨p, a4, n4, hp, e43b, t4⟩ := sp38 65 ((lotsZ t).map PV.int) t3 (by omega) gs0 gs1
  obtain ⟨y, hy, rfl⟩ := List.mem_map.mp hp
  obtain ⟨p, a5, n5, hp, e43c, t5⟩ := sp38 65 ((lotsZ t).map PV.int) t4 (by omega) gs0 gs1
  obtain ⟨z, hz, rfl⟩ := List.mem_map.mp hp
  obtain ⟨p, a6, n6, hp, e43d, t6⟩ := sp38 65 ((lotsZ t).map PV.int) t5 (by omega) gs0 gs1
  obtain ⟨l, hl, rfl⟩ := List.mem_map.mp hp
  have fl0 := far_some tt0 tt1
  have fl1 : (farZ t).length ≤ 26 := by
    unfold farZ
    refine Nat.le_trans (List.length_filter_le _ _) ?_
    rw [List.length_map, List.length_range]; exact Nat.le_refl _
  obtain ⟨p, a7, n7, hp, e43e, t7⟩ := sp38 65 ((farZ t).map PV.int) t6 (by omega) (by rw [List.length_map]; exact fl0) (by rw [List.length_map]; omega)
  obtain ⟨q, hq, rfl⟩ := List.mem_map.mp hp
  have e43a : calls (tab L) 67 43 (some (TIN a2 b n2)) [.lst ((lotsZ t).map .int)] = .ok (.v (.int x)) (TIN a3 b n3) := e43a
  have e43b : calls (tab L) 67 43 (some (TIN a3 b n3)) [.lst ((lotsZ t).map .int)] = .ok (.v (.int y)) (TIN a4 b n4) := e43b
  have e43c : calls (tab L) 67 43 (some (TIN a4 b n4)) [.lst ((lotsZ t).map .int)] = .ok (.v (.int z)) (TIN a5 b n5) := e43c
  have e43d : calls (tab L) 67 43 (some (TIN a5 b n5)) [.lst ((lotsZ t).map .int)] = .ok (.v (.int l)) (TIN a6 b n6) := e43d
  have e43e : calls (tab L) 67 43 (some (TIN a6 b n6)) [.lst ((farZ t).map .int)] = .ok (.v (.int q)) (TIN a7 b n7) := e43e
  obtain ⟨x1, bx⟩ := (mem_lots tt0).mp hx
  obtain ⟨y1, bY⟩ := (mem_lots tt0).mp hy
  obtain ⟨z1, bz⟩ := (mem_lots tt0).mp hz
  obtain ⟨l1, bl⟩ := (mem_lots tt0).mp hl
  have lx := below_le x1 tt0 bx
  have ly := below_le y1 tt0 bY
  have lz := below_le z1 tt0 bz
  have ll := below_le l1 tt0 bl
  obtain ⟨q0, q1, bq⟩ := far_mem hq
  have tg : (-1 : Int) ≤ t := by omega
  have v1 := val_ge (x := 1) (by omega) s
  -- the first three
  have e26 : calls (tab L) 67 26 none [.int t, toPV s] = .ok (.v (.int (bothZ t (valZ s 1)))) [] := q26 1 t s tg (by omega) (by omega) (by omega)
  have e26a : calls (tab L) 67 26 none [.int (-1), toPV s] = .ok (.v (.int (valZ s 1))) [] := by
    have := q26 1 (-1) s (by omega) (by omega) (by omega) (by omega)
    rw [all_both v1] at this; exact this
  have e25 : calls (tab L) 67 25 none [.int t] = .ok (.v (.int (((lotsZ t).length : Nat) : Int))) [] := by
    have h := lots_many t.toNat (by omega)
    rw [show ((t.toNat : Nat) : Int) = t by omega] at h
    rw [h]
    exact q25 63 t tt0 (by omega)
  have e48 : calls (tab L) 67 48 none [.int t, toPV s] = .ok (.v (.int (bothZ t (valZ s 1)))) [] := by
    have h := q48 s (60 - dep s) t tt0 (by omega)
    rw [show 60 - dep s + 7 + dep s = 67 by omega, lawV_eq tg] at h
    exact h
  have e20 : calls (tab L) 67 20 none [toPV s] = .ok (.v (.int (valZ s 1))) [] := sp17 1 s (by omega) (by omega)
  have i3 : ∀ u v w : Int, calls (tab L) 67 44 none [.lst [.int u, .int v, .int w], .lst [.int u, .int v, .int w]] = .ok (.v (.bl true)) [] := fun u v w =>
    same _ 1 (by omega) (.lst 0 _ (by simp) (by simp only [List.mem_cons, List.not_mem_nil, or_false]; rintro p (rfl | rfl | rfl) <;> constructor))
  -- the six
  have gxy := both_ge x1 y1
  have bxy := both_below tg x1 y1 bx
  have lxy := below_le gxy tt0 bxy
  have gel := either_ge x1 y1
  have bel := either_below tg x1 y1 bx bY
  have lel := below_le gel tt0 bel
  have gld := leads_ge x1 y1
  have lld := leads_le (M := t) x1 y1 lx.2 ly.2 tt0
  have git := both_ge tg gld
  have bit := both_belowL tg gld tg
  have lit := below_le git tt0 bit
  have gyz := both_ge tg (leads_ge y1 z1)
  have byz := both_belowL tg (leads_ge y1 z1) tg
  have lyz := below_le gyz tt0 byz
  have e27 : calls (tab L) 67 27 none [.int t, .int x, .int y] = .ok (.v (.int (bothZ x y))) [] := by
    have h := q27 61 t x y tg (by omega) x1 (by omega) y1 (by omega) bx bY
    rw [law_bu tg x1 y1 bx] at h; exact h
  have e28 : calls (tab L) 67 28 none [.int t, .int x, .int y] = .ok (.v (.int (eitherZ x y))) [] := by
    have h := q28 61 t x y tg (by omega) x1 (by omega) y1 (by omega) bx bY
    rw [law_eu tg x1 y1 bx bY] at h; exact h
  have e29 : calls (tab L) 67 29 none [.int t, .int x, .int y] = .ok (.v (.int (bothZ t (leadsZ x y)))) [] := q29 61 t x y tg (by omega) x1 (by omega) y1 (by omega) bx bY
  have e29a : calls (tab L) 67 29 none [.int t, .int x, .int x] = .ok (.v (.int t)) [] := by
    have h := q29 61 t x x tg (by omega) x1 (by omega) x1 (by omega) bx bx
    rw [law_xx tg x1] at h; exact h
  have e29b : calls (tab L) 67 29 none [.int t, .int t, .int x] = .ok (.v (.int x)) [] := by
    have h := q29 61 t t x tg (by omega) tg (by omega) x1 (by omega) (below_refl tg) bx
    rw [law_tx tg x1 bx] at h; exact h
  have e29c : calls (tab L) 67 29 none [.int t, .int (bothZ x y), .int z] = .ok (.v (.int (bothZ t (leadsZ (bothZ x y) z)))) [] := q29 61 t (bothZ x y) z tg (by omega) gxy (by omega) z1 (by omega) bxy bz
  have e21 : calls (tab L) 67 21 none [.int x, .int y] = .ok (.v (.int (bothZ x y))) [] := sp18 63 x y x1 (by omega) y1 (by omega)
  have e22 : calls (tab L) 67 22 none [.int x, .int y] = .ok (.v (.int (eitherZ x y))) [] := q22 63 x y x1 (by omega) y1 (by omega)
  have e23 : calls (tab L) 67 23 none [.int x, .int y] = .ok (.v (.int (leadsZ x y))) [] := q23 61 x y x1 (by omega) y1 (by omega)
  have e21t : calls (tab L) 67 21 none [.int t, .int (leadsZ x y)] = .ok (.v (.int (bothZ t (leadsZ x y)))) [] := sp18 63 t _ tg (by omega) gld (by omega)
  have e29d : calls (tab L) 67 29 none [.int t, .int y, .int z] = .ok (.v (.int (bothZ t (leadsZ y z)))) [] := q29 61 t y z tg (by omega) y1 (by omega) z1 (by omega) bY bz
  have e29e : calls (tab L) 67 29 none [.int t, .int x, .int (bothZ t (leadsZ y z))] = .ok (.v (.int (bothZ t (leadsZ (bothZ x y) z)))) [] := by
    have h := q29 61 t x _ tg (by omega) x1 (by omega) gyz (by omega) bx byz
    rw [← law_cur tg x1 y1 z1 bx bY, law_bu tg x1 y1 bx] at h; exact h
  have i6 : ∀ u v w u' v' w' : Int, calls (tab L) 67 44 none [.lst [.int u, .int v, .int w, .int u', .int v', .int w'], .lst [.int u, .int v, .int w, .int u', .int v', .int w']] = .ok (.v (.bl true)) [] := fun u v w u' v' w' =>
    same _ 1 (by omega) (.lst 0 _ (by simp) (by simp only [List.mem_cons, List.not_mem_nil, or_false]; rintro p (rfl | rfl | rfl | rfl | rfl | rfl) <;> constructor))
  -- led over
  have e31 : calls (tab L) 67 31 none [.int t, .int l] = .ok (.f ((lotsZ t).map fun k => .int (bothZ l k))) [] := q31 62 t l tt0 (by omega) l1 (by omega) bl
  have ed : ∀ ε : Ev, ε[3]? = some (.val (.lst ((lotsZ t).map .int))) → ε[12]? = some (.val (.int t)) → ε[7]? = some (.val (.int l)) →
      cDictZ (aCons (cVar 3) (aCons (cCall (calls (tab L) 67) 31 (aCons (cVar 12) (aCons (cVar 7) (aNil)))) (aNil))) ε = .ok (.v (.dic ((lotsZ t).map .inl) ((lotsZ t).map fun k => .int (bothZ l k)))) ε := fun ε g3 g12 g7 => by
    refine r_dictZ ?_ (lots_nodup t)
    simp only [r_cC, r_bV, r_bO, r_o1, r_o2, r_t2, r_asB, r_ret, r_tch, r_ofT, r_aN, r_aC, r_bN, r_bC, r_tup, r_lst, r_blt, r_if, r_tval, r_tand, r_tor, r_tnot, r_orT, r_andT, r_orTs, r_not, r_call, r_afterOk, r_afterX, r_seq, r_next, r_brk, r_cnt, r_set, r_par, r_stup, r_aug, r_drop, r_sif, r_sret, r_retnone, r_raise, bind_ok, bind_exc, bind_stk, bind_ite, bind_cond, fin_ite, r_eqI, r_neI, r_leI, r_ltI, r_geI, r_gtI, r_addI, r_iaddI, r_subI, r_mulL, r_mulR, r_divI, r_modI, r_negI, r_leP, r_ixT0, r_ixT1, r_ixT2, r_ixL0, r_ixL1, r_ixL2, r_pv, r_pvF, r_slv, r_slF, r_sv, r_so, r_rp, r_rs, r_rsN, r_rsC, r_cV, r_trB, r_trI, r_retV, r_tgM, r_tgO, r_saN, r_saC, List.getElem?_cons_zero, List.getElem?_cons_succ, List.set_cons_zero, List.set_cons_succ, Bool.cond_decide, cond_true, cond_false, Int.reduceLT, Int.reduceLE, Int.reduceNeg, Int.reduceAdd, Int.reduceSub, Int.reduceMul, Int.reducePow, and_self, decide_true, decide_false, and_true, true_and, reduceIte, if_true, if_false, Bool.not_true, Bool.not_false, r_for, r_forN, r_forC, r_iSeq, r_iRet, r_itT, r_itL, r_itF, r_iRange, r_own, r_isO, r_app, r_ext, r_put, r_callIO, r_afIO, fl_len, ft_len, r_clN, r_clC, r_tTrue, Nat.zero_add, Nat.reduceAdd, List.length_cons, List.length_nil, Int.reduceEq, g3, g12, g7, e31]
  have dx : ∀ k ∈ lotsZ t, fDx (.dic ((lotsZ t).map .inl) ((lotsZ t).map fun k => .int (bothZ l k))) (.int k) = some (.v (.int (bothZ l k))) := fun k hk => dx_int (fun k => .int (bothZ l k)) (lotsZ t) k hk
  have in_ : ∀ {k : Int}, -1 ≤ k → belowZ k t = true → k ∈ lotsZ t := fun h1 h2 => (mem_lots tt0).mpr ⟨h1, h2⟩
  have dx1 := dx x hx
  have dx2 := dx y hy
  have dx3 := dx _ (in_ gxy bxy)
  have dx4 := dx _ (in_ gel bel)
  have dx5 := dx _ (in_ git bit)
  have gvt := both_ge tg v1
  have bvt := both_belowL tg v1 tg
  have dx6 := dx _ (in_ gvt bvt)
  have glx := both_ge l1 x1
  have gly := both_ge l1 y1
  have blx : belowZ (bothZ l x) l = true := both_belowL l1 x1 l1
  have bly : belowZ (bothZ l y) l = true := both_belowL l1 y1 l1
  have llx := below_le glx ll.1 blx
  have lly := below_le gly ll.1 bly
  have f27 : calls (tab L) 67 27 none [.int l, .int (bothZ l x), .int (bothZ l y)] = .ok (.v (.int (bothZ l (bothZ x y)))) [] := by
    have h := q27 61 l _ _ l1 (by omega) glx (by omega) gly (by omega) blx bly
    rw [← led_both x1 y1 l1] at h; exact h
  have f28 : calls (tab L) 67 28 none [.int l, .int (bothZ l x), .int (bothZ l y)] = .ok (.v (.int (bothZ l (eitherZ x y)))) [] := by
    have h := q28 61 l _ _ l1 (by omega) glx (by omega) gly (by omega) blx bly
    rw [← led_either x1 y1 l1] at h; exact h
  have f29 : calls (tab L) 67 29 none [.int l, .int (bothZ l x), .int (bothZ l y)] = .ok (.v (.int (bothZ l (bothZ t (leadsZ x y))))) [] := by
    have h := q29 61 l _ _ l1 (by omega) glx (by omega) gly (by omega) blx bly
    rw [← led_leads tg x1 y1 l1 bl] at h; exact h
  have f26 : calls (tab L) 67 26 none [.int l, toPV s] = .ok (.v (.int (bothZ l (bothZ t (valZ s 1))))) [] := by
    have h := q26 1 l s l1 (by omega) (by omega) (by omega)
    rw [← led_value tg v1 l1 bl] at h; exact h
  have i4 : ∀ u v w u' : Int, calls (tab L) 67 44 none [.lst [.int u, .int v, .int w, .int u'], .lst [.int u, .int v, .int w, .int u']] = .ok (.v (.bl true)) [] := fun u v w u' =>
    same _ 1 (by omega) (.lst 0 _ (by simp) (by simp only [List.mem_cons, List.not_mem_nil, or_false]; rintro p (rfl | rfl | rfl | rfl) <;> constructor))
  have il : calls (tab L) 67 44 none [.lst ((lotsZ t).map fun k => .int (bothZ l k)), .lst ((lotsZ t).map fun k => .int (bothZ l k))] = .ok (.v (.bl true)) [] :=
    same _ 1 (by omega) (.lst 0 _ (by rw [List.length_map]; omega) fun p hp => by
      obtain ⟨k, _, rfl⟩ := List.mem_map.mp hp
      exact .int _ _)
  -- what is refused
  have g1 : calls (tab L) 67 47 none [.gl 27, .tup [.int t, .int q, .int x], .str "cannot"] = .ok (.v (.bl true)) [] := q47 65 27 50 _ (.inl rfl) (q45c 65 27 50 _ _ _ rfl (q27x 59 t q x tg (by omega) (by omega) (by omega) x1 (by omega) (.inl bq)))
  have g2 : calls (tab L) 67 47 none [.gl 28, .tup [.int t, .int x, .int q], .str "cannot"] = .ok (.v (.bl true)) [] := q47 65 28 50 _ (.inl rfl) (q45c 65 28 50 _ _ _ rfl (q28x 59 t x q tg (by omega) x1 (by omega) (by omega) (by omega) (.inr ⟨bx, bq⟩)))
  have bm : belowZ (-1) t = false := by
    cases h : belowZ (-1) t with
    | false => rfl
    | true => exact absurd rfl (below_pos tt0 h)
  have g3 : calls (tab L) 67 47 none [.gl 29, .tup [.int t, .int (-1), .int q], .str "cannot"] = .ok (.v (.bl true)) [] := q47 65 29 50 _ (.inl rfl) (q45c 65 29 50 _ _ _ rfl (q29x 59 t (-1) q tg (by omega) (by omega) (by omega) (by omega) (by omega) (.inl bm)))
  have g4 : calls (tab L) 67 47 none [.gl 31, .tup [.int t, .int q], .str "cannot"] = .ok (.v (.bl true)) [] := q47 65 31 50 _ (.inl rfl) (q45b 65 31 50 _ _ rfl (q31x 60 t q tt0 (by omega) (by omega) (by omega) bq))
  have g5 : calls (tab L) 67 47 none [.gl 31, .tup [.int (-1), .int 0], .str "unfit"] = .ok (.v (.bl true)) [] := q47 65 31 52 _ (.inr (.inr rfl)) (q45b 65 31 52 _ _ rfl (q31u 59))
  have nz : ∀ n : Int, calls (tab L) 67 44 none [.int n, .int n] = .ok (.v (.bl true)) [] := fun n => same _ 0 (by omega) (.int _ _)
  have kkA := fun y0 y1 y2 y3 y4 y5 y6 y7 y8 y9 y10 y11 y13 y14 y15 y16 h => cT7 y0 y1 y2 y3 y4 y5 y6 y7 y8 y9 y10 y11 y13 y14 y15 y16 t tt0 tt1 h
  have kkB := fun y0 y1 y2 y3 y4 y5 y6 y7 y8 y9 y10 y11 y13 y14 y15 y16 h => cT2 y0 y1 y2 y3 y4 y5 y6 y7 y8 y9 y10 y11 y13 y14 y15 y16 t tt0 tt1 h
  have kkC := fun y0 y1 y2 y4 y5 y7 y8 y9 y10 y11 y12 y13 y16 h => cE5 y0 y1 y2 y4 y5 y7 y8 y9 y10 y11 y12 y13 y16 tt0 tt1 hx hy h
  have kkD := fun y0 y1 y2 y4 y5 y6 y7 y9 y10 y11 y12 y13 y14 y15 y16 h => cE4 y0 y1 y2 y4 y5 y6 y7 y9 y10 y11 y12 y13 y14 y15 y16 tt0 tt1 hl h
  have kkE := fun y0 y1 y2 y4 y5 y6 y8 y9 y10 y11 y12 y13 y14 y15 y16 h => cE3 y0 y1 y2 y4 y5 y6 y8 y9 y10 y11 y12 y13 y14 y15 y16 tt0 tt1 hl h
  have al : fAll [.lst ((lotsZ t).map fun _ => PV.bl true)] = some (.v (.bl true)) := by
    have := fall_true ((lotsZ t).map PV.int)
    rw [List.map_map] at this
    exact this
  have last : ∀ ε : Ev, ε[12]? = some (.val (.int t)) → (sIf (tAnd (tOp2 fGt (bVar 12) (bOf (cC (.int 0)))) (tNot (tVal (bOf (cCall (calls (tab L) 67) 44 (aCons (cBlt fLen (bCons (bOf (cCall (calls (tab L) 67) 36 (aCons (cCall (calls (tab L) 67) 39 (aCons (cVar 12) (aNil))) (aNil)))) (bNil))) (aCons (cCall (calls (tab L) 67) 25 (aCons (cVar 12) (aNil))) (aNil)))))))) (sSeq (sRet (cC (.bl false))) (sNext)) (sNext) : SDen) ε = .ok .nx ε := fun ε g12 => by
    by_cases c : 0 < t
    · obtain ⟨P, ps, e39, e36, el⟩ := fr_at t c tt1
      have el : ((ps.length : Nat) : Int) = (((lotsZ t).length : Nat) : Int) := by
        have h := lots_many t.toNat (by omega)
        rw [show ((t.toNat : Nat) : Int) = t by omega] at h
        rw [h]; exact el
      simp only [r_cC, r_bV, r_bO, r_o1, r_o2, r_t2, r_asB, r_ret, r_tch, r_ofT, r_aN, r_aC, r_bN, r_bC, r_tup, r_lst, r_blt, r_if, r_tval, r_tand, r_tor, r_tnot, r_orT, r_andT, r_orTs, r_not, r_call, r_afterOk, r_afterX, r_seq, r_next, r_brk, r_cnt, r_set, r_par, r_stup, r_aug, r_drop, r_sif, r_sret, r_retnone, r_raise, bind_ok, bind_exc, bind_stk, bind_ite, bind_cond, fin_ite, r_eqI, r_neI, r_leI, r_ltI, r_geI, r_gtI, r_addI, r_iaddI, r_subI, r_mulL, r_mulR, r_divI, r_modI, r_negI, r_leP, r_ixT0, r_ixT1, r_ixT2, r_ixL0, r_ixL1, r_ixL2, r_pv, r_pvF, r_slv, r_slF, r_sv, r_so, r_rp, r_rs, r_rsN, r_rsC, r_cV, r_trB, r_trI, r_retV, r_tgM, r_tgO, r_saN, r_saC, List.getElem?_cons_zero, List.getElem?_cons_succ, List.set_cons_zero, List.set_cons_succ, Bool.cond_decide, cond_true, cond_false, Int.reduceLT, Int.reduceLE, Int.reduceNeg, Int.reduceAdd, Int.reduceSub, Int.reduceMul, Int.reducePow, and_self, decide_true, decide_false, and_true, true_and, reduceIte, if_true, if_false, Bool.not_true, Bool.not_false, r_for, r_forN, r_forC, r_iSeq, r_iRet, r_itT, r_itL, r_itF, r_iRange, r_own, r_isO, r_app, r_ext, r_put, r_callIO, r_afIO, fl_len, ft_len, r_clN, r_clC, r_tTrue, Nat.zero_add, Nat.reduceAdd, List.length_cons, List.length_nil, Int.reduceEq, r_cVal, pv_v, pv_f, g12, decide_eq_true c, e39, e36, el, e25, nz]
    · have c0 : decide (0 < t) = false := decide_eq_false c
      simp only [r_cC, r_bV, r_bO, r_o1, r_o2, r_t2, r_asB, r_ret, r_tch, r_ofT, r_aN, r_aC, r_bN, r_bC, r_tup, r_lst, r_blt, r_if, r_tval, r_tand, r_tor, r_tnot, r_orT, r_andT, r_orTs, r_not, r_call, r_afterOk, r_afterX, r_seq, r_next, r_brk, r_cnt, r_set, r_par, r_stup, r_aug, r_drop, r_sif, r_sret, r_retnone, r_raise, bind_ok, bind_exc, bind_stk, bind_ite, bind_cond, fin_ite, r_eqI, r_neI, r_leI, r_ltI, r_geI, r_gtI, r_addI, r_iaddI, r_subI, r_mulL, r_mulR, r_divI, r_modI, r_negI, r_leP, r_ixT0, r_ixT1, r_ixT2, r_ixL0, r_ixL1, r_ixL2, r_pv, r_pvF, r_slv, r_slF, r_sv, r_so, r_rp, r_rs, r_rsN, r_rsC, r_cV, r_trB, r_trI, r_retV, r_tgM, r_tgO, r_saN, r_saC, List.getElem?_cons_zero, List.getElem?_cons_succ, List.set_cons_zero, List.set_cons_succ, Bool.cond_decide, cond_true, cond_false, Int.reduceLT, Int.reduceLE, Int.reduceNeg, Int.reduceAdd, Int.reduceSub, Int.reduceMul, Int.reducePow, and_self, decide_true, decide_false, and_true, true_and, reduceIte, if_true, if_false, Bool.not_true, Bool.not_false, r_for, r_forN, r_forC, r_iSeq, r_iRet, r_itT, r_itL, r_itF, r_iRange, r_own, r_isO, r_app, r_ext, r_put, r_callIO, r_afIO, fl_len, ft_len, r_clN, r_clC, r_tTrue, Nat.zero_add, Nat.reduceAdd, List.length_cons, List.length_nil, Int.reduceEq, r_cVal, pv_v, pv_f, g12, c0]
  have fin : ∃ z3 z4 z5 z6 z7 z8 z9 z10 z11 z12 z13 z14 z15 z16, B49s8 (calls (tab L) 67) [x0, .own o (TIN a b n), .val lp, x3, x4, x5, x6, x7, x8, x9, x10, x11, x12, x13, x14, x15, x16] = .ok .nx [x0, .own o (TIN a7 b n7), .val lp, z3, z4, z5, z6, z7, z8, z9, z10, z11, z12, z13, z14, z15, z16] ∧ isOwn (some z10) = false := by
    refine ⟨.val (.lst ((lotsZ t).map .int)), .val (.lst [.int (bothZ x y), .int (eitherZ x y), .int (bothZ t (leadsZ x y)), .int t, .int x, .int (bothZ t (leadsZ (bothZ x y) z))]), .val (.lst [.int (bothZ x y), .int (eitherZ x y), .int (bothZ t (leadsZ x y)), .int t, .int x, .int (bothZ t (leadsZ (bothZ x y) z))]), .val (.int (bothZ t (leadsZ x y))), .val (.int l), .val (.dic ((lotsZ t).map .inl) ((lotsZ t).map fun k => .int (bothZ l k))), .val (.lst ((farZ t).map .int)), .val (.int q), .own false [.bl true, .bl true, .bl true, .bl true, .bl true], .val (.int t), .val (toPV s), .val (.int x), .val (.int y), .val (.int z), ?_, rfl⟩
    unfold B49s8
    generalize cDictZ (aCons (cVar 3) (aCons (cCall (calls (tab L) 67) 31 (aCons (cVar 12) (aCons (cVar 7) (aNil)))) (aNil))) = DZ at ed ⊢
    generalize (sIf (tAnd (tOp2 fGt (bVar 12) (bOf (cC (.int 0)))) (tNot (tVal (bOf (cCall (calls (tab L) 67) 44 (aCons (cBlt fLen (bCons (bOf (cCall (calls (tab L) 67) 36 (aCons (cCall (calls (tab L) 67) 39 (aCons (cVar 12) (aNil))) (aNil)))) (bNil))) (aCons (cCall (calls (tab L) 67) 25 (aCons (cVar 12) (aNil))) (aNil)))))))) (sSeq (sRet (cC (.bl false))) (sNext)) (sNext) : SDen) = LS at last ⊢
    refine Eq.trans (seq_ok (by simp only [r_cC, r_bV, r_bO, r_o1, r_o2, r_t2, r_asB, r_ret, r_tch, r_ofT, r_aN, r_aC, r_bN, r_bC, r_tup, r_lst, r_blt, r_if, r_tval, r_tand, r_tor, r_tnot, r_orT, r_andT, r_orTs, r_not, r_call, r_afterOk, r_afterX, r_seq, r_next, r_brk, r_cnt, r_set, r_par, r_stup, r_aug, r_drop, r_sif, r_sret, r_retnone, r_raise, bind_ok, bind_exc, bind_stk, bind_ite, bind_cond, fin_ite, r_eqI, r_neI, r_leI, r_ltI, r_geI, r_gtI, r_addI, r_iaddI, r_subI, r_mulL, r_mulR, r_divI, r_modI, r_negI, r_leP, r_ixT0, r_ixT1, r_ixT2, r_ixL0, r_ixL1, r_ixL2, r_pv, r_pvF, r_slv, r_slF, r_sv, r_so, r_rp, r_rs, r_rsN, r_rsC, r_cV, r_trB, r_trI, r_retV, r_tgM, r_tgO, r_saN, r_saC, List.getElem?_cons_zero, List.getElem?_cons_succ, List.set_cons_zero, List.set_cons_succ, Bool.cond_decide, cond_true, cond_false, Int.reduceLT, Int.reduceLE, Int.reduceNeg, Int.reduceAdd, Int.reduceSub, Int.reduceMul, Int.reducePow, and_self, decide_true, decide_false, and_true, true_and, reduceIte, if_true, if_false, Bool.not_true, Bool.not_false, r_for, r_forN, r_forC, r_iSeq, r_iRet, r_itT, r_itL, r_itF, r_iRange, r_own, r_isO, r_app, r_ext, r_put, r_callIO, r_afIO, fl_len, ft_len, r_clN, r_clC, r_tTrue, Nat.zero_add, Nat.reduceAdd, List.length_cons, List.length_nil, Int.reduceEq, r_cVal, pv_v, pv_f, List.length_map, e41, e46] <;> exact rfl)) ?_
    refine Eq.trans (seq_ok (by simp only [r_cC, r_bV, r_bO, r_o1, r_o2, r_t2, r_asB, r_ret, r_tch, r_ofT, r_aN, r_aC, r_bN, r_bC, r_tup, r_lst, r_blt, r_if, r_tval, r_tand, r_tor, r_tnot, r_orT, r_andT, r_orTs, r_not, r_call, r_afterOk, r_afterX, r_seq, r_next, r_brk, r_cnt, r_set, r_par, r_stup, r_aug, r_drop, r_sif, r_sret, r_retnone, r_raise, bind_ok, bind_exc, bind_stk, bind_ite, bind_cond, fin_ite, r_eqI, r_neI, r_leI, r_ltI, r_geI, r_gtI, r_addI, r_iaddI, r_subI, r_mulL, r_mulR, r_divI, r_modI, r_negI, r_leP, r_ixT0, r_ixT1, r_ixT2, r_ixL0, r_ixL1, r_ixL2, r_pv, r_pvF, r_slv, r_slF, r_sv, r_so, r_rp, r_rs, r_rsN, r_rsC, r_cV, r_trB, r_trI, r_retV, r_tgM, r_tgO, r_saN, r_saC, List.getElem?_cons_zero, List.getElem?_cons_succ, List.set_cons_zero, List.set_cons_succ, Bool.cond_decide, cond_true, cond_false, Int.reduceLT, Int.reduceLE, Int.reduceNeg, Int.reduceAdd, Int.reduceSub, Int.reduceMul, Int.reducePow, and_self, decide_true, decide_false, and_true, true_and, reduceIte, if_true, if_false, Bool.not_true, Bool.not_false, r_for, r_forN, r_forC, r_iSeq, r_iRet, r_itT, r_itL, r_itF, r_iRange, r_own, r_isO, r_app, r_ext, r_put, r_callIO, r_afIO, fl_len, ft_len, r_clN, r_clC, r_tTrue, Nat.zero_add, Nat.reduceAdd, List.length_cons, List.length_nil, Int.reduceEq, r_cVal, pv_v, pv_f, List.length_map, kkA, h10] <;> exact rfl)) ?_
    refine Eq.trans (seq_ok (by simp only [r_cC, r_bV, r_bO, r_o1, r_o2, r_t2, r_asB, r_ret, r_tch, r_ofT, r_aN, r_aC, r_bN, r_bC, r_tup, r_lst, r_blt, r_if, r_tval, r_tand, r_tor, r_tnot, r_orT, r_andT, r_orTs, r_not, r_call, r_afterOk, r_afterX, r_seq, r_next, r_brk, r_cnt, r_set, r_par, r_stup, r_aug, r_drop, r_sif, r_sret, r_retnone, r_raise, bind_ok, bind_exc, bind_stk, bind_ite, bind_cond, fin_ite, r_eqI, r_neI, r_leI, r_ltI, r_geI, r_gtI, r_addI, r_iaddI, r_subI, r_mulL, r_mulR, r_divI, r_modI, r_negI, r_leP, r_ixT0, r_ixT1, r_ixT2, r_ixL0, r_ixL1, r_ixL2, r_pv, r_pvF, r_slv, r_slF, r_sv, r_so, r_rp, r_rs, r_rsN, r_rsC, r_cV, r_trB, r_trI, r_retV, r_tgM, r_tgO, r_saN, r_saC, List.getElem?_cons_zero, List.getElem?_cons_succ, List.set_cons_zero, List.set_cons_succ, Bool.cond_decide, cond_true, cond_false, Int.reduceLT, Int.reduceLE, Int.reduceNeg, Int.reduceAdd, Int.reduceSub, Int.reduceMul, Int.reducePow, and_self, decide_true, decide_false, and_true, true_and, reduceIte, if_true, if_false, Bool.not_true, Bool.not_false, r_for, r_forN, r_forC, r_iSeq, r_iRet, r_itT, r_itL, r_itF, r_iRange, r_own, r_isO, r_app, r_ext, r_put, r_callIO, r_afIO, fl_len, ft_len, r_clN, r_clC, r_tTrue, Nat.zero_add, Nat.reduceAdd, List.length_cons, List.length_nil, Int.reduceEq, r_cVal, pv_v, pv_f, List.length_map, e26, e26a, e25, e48, e20, i3] <;> exact rfl)) ?_
    refine Eq.trans (seq_ok (by simp only [r_cC, r_bV, r_bO, r_o1, r_o2, r_t2, r_asB, r_ret, r_tch, r_ofT, r_aN, r_aC, r_bN, r_bC, r_tup, r_lst, r_blt, r_if, r_tval, r_tand, r_tor, r_tnot, r_orT, r_andT, r_orTs, r_not, r_call, r_afterOk, r_afterX, r_seq, r_next, r_brk, r_cnt, r_set, r_par, r_stup, r_aug, r_drop, r_sif, r_sret, r_retnone, r_raise, bind_ok, bind_exc, bind_stk, bind_ite, bind_cond, fin_ite, r_eqI, r_neI, r_leI, r_ltI, r_geI, r_gtI, r_addI, r_iaddI, r_subI, r_mulL, r_mulR, r_divI, r_modI, r_negI, r_leP, r_ixT0, r_ixT1, r_ixT2, r_ixL0, r_ixL1, r_ixL2, r_pv, r_pvF, r_slv, r_slF, r_sv, r_so, r_rp, r_rs, r_rsN, r_rsC, r_cV, r_trB, r_trI, r_retV, r_tgM, r_tgO, r_saN, r_saC, List.getElem?_cons_zero, List.getElem?_cons_succ, List.set_cons_zero, List.set_cons_succ, Bool.cond_decide, cond_true, cond_false, Int.reduceLT, Int.reduceLE, Int.reduceNeg, Int.reduceAdd, Int.reduceSub, Int.reduceMul, Int.reducePow, and_self, decide_true, decide_false, and_true, true_and, reduceIte, if_true, if_false, Bool.not_true, Bool.not_false, r_for, r_forN, r_forC, r_iSeq, r_iRet, r_itT, r_itL, r_itF, r_iRange, r_own, r_isO, r_app, r_ext, r_put, r_callIO, r_afIO, fl_len, ft_len, r_clN, r_clC, r_tTrue, Nat.zero_add, Nat.reduceAdd, List.length_cons, List.length_nil, Int.reduceEq, r_cVal, pv_v, pv_f, List.length_map, e43a, e43b, e43c] <;> exact rfl)) ?_
    refine Eq.trans (seq_ok (by simp only [r_cC, r_bV, r_bO, r_o1, r_o2, r_t2, r_asB, r_ret, r_tch, r_ofT, r_aN, r_aC, r_bN, r_bC, r_tup, r_lst, r_blt, r_if, r_tval, r_tand, r_tor, r_tnot, r_orT, r_andT, r_orTs, r_not, r_call, r_afterOk, r_afterX, r_seq, r_next, r_brk, r_cnt, r_set, r_par, r_stup, r_aug, r_drop, r_sif, r_sret, r_retnone, r_raise, bind_ok, bind_exc, bind_stk, bind_ite, bind_cond, fin_ite, r_eqI, r_neI, r_leI, r_ltI, r_geI, r_gtI, r_addI, r_iaddI, r_subI, r_mulL, r_mulR, r_divI, r_modI, r_negI, r_leP, r_ixT0, r_ixT1, r_ixT2, r_ixL0, r_ixL1, r_ixL2, r_pv, r_pvF, r_slv, r_slF, r_sv, r_so, r_rp, r_rs, r_rsN, r_rsC, r_cV, r_trB, r_trI, r_retV, r_tgM, r_tgO, r_saN, r_saC, List.getElem?_cons_zero, List.getElem?_cons_succ, List.set_cons_zero, List.set_cons_succ, Bool.cond_decide, cond_true, cond_false, Int.reduceLT, Int.reduceLE, Int.reduceNeg, Int.reduceAdd, Int.reduceSub, Int.reduceMul, Int.reducePow, and_self, decide_true, decide_false, and_true, true_and, reduceIte, if_true, if_false, Bool.not_true, Bool.not_false, r_for, r_forN, r_forC, r_iSeq, r_iRet, r_itT, r_itL, r_itF, r_iRange, r_own, r_isO, r_app, r_ext, r_put, r_callIO, r_afIO, fl_len, ft_len, r_clN, r_clC, r_tTrue, Nat.zero_add, Nat.reduceAdd, List.length_cons, List.length_nil, Int.reduceEq, r_cVal, pv_v, pv_f, List.length_map, e27, e28, e29, e29a, e29b, e29c] <;> exact rfl)) ?_
    refine Eq.trans (seq_ok (by simp only [r_cC, r_bV, r_bO, r_o1, r_o2, r_t2, r_asB, r_ret, r_tch, r_ofT, r_aN, r_aC, r_bN, r_bC, r_tup, r_lst, r_blt, r_if, r_tval, r_tand, r_tor, r_tnot, r_orT, r_andT, r_orTs, r_not, r_call, r_afterOk, r_afterX, r_seq, r_next, r_brk, r_cnt, r_set, r_par, r_stup, r_aug, r_drop, r_sif, r_sret, r_retnone, r_raise, bind_ok, bind_exc, bind_stk, bind_ite, bind_cond, fin_ite, r_eqI, r_neI, r_leI, r_ltI, r_geI, r_gtI, r_addI, r_iaddI, r_subI, r_mulL, r_mulR, r_divI, r_modI, r_negI, r_leP, r_ixT0, r_ixT1, r_ixT2, r_ixL0, r_ixL1, r_ixL2, r_pv, r_pvF, r_slv, r_slF, r_sv, r_so, r_rp, r_rs, r_rsN, r_rsC, r_cV, r_trB, r_trI, r_retV, r_tgM, r_tgO, r_saN, r_saC, List.getElem?_cons_zero, List.getElem?_cons_succ, List.set_cons_zero, List.set_cons_succ, Bool.cond_decide, cond_true, cond_false, Int.reduceLT, Int.reduceLE, Int.reduceNeg, Int.reduceAdd, Int.reduceSub, Int.reduceMul, Int.reducePow, and_self, decide_true, decide_false, and_true, true_and, reduceIte, if_true, if_false, Bool.not_true, Bool.not_false, r_for, r_forN, r_forC, r_iSeq, r_iRet, r_itT, r_itL, r_itF, r_iRange, r_own, r_isO, r_app, r_ext, r_put, r_callIO, r_afIO, fl_len, ft_len, r_clN, r_clC, r_tTrue, Nat.zero_add, Nat.reduceAdd, List.length_cons, List.length_nil, Int.reduceEq, r_cVal, pv_v, pv_f, List.length_map, e21, e22, e23, e21t, e29d, e29e] <;> exact rfl)) ?_
    refine Eq.trans (seq_ok (by simp only [r_cC, r_bV, r_bO, r_o1, r_o2, r_t2, r_asB, r_ret, r_tch, r_ofT, r_aN, r_aC, r_bN, r_bC, r_tup, r_lst, r_blt, r_if, r_tval, r_tand, r_tor, r_tnot, r_orT, r_andT, r_orTs, r_not, r_call, r_afterOk, r_afterX, r_seq, r_next, r_brk, r_cnt, r_set, r_par, r_stup, r_aug, r_drop, r_sif, r_sret, r_retnone, r_raise, bind_ok, bind_exc, bind_stk, bind_ite, bind_cond, fin_ite, r_eqI, r_neI, r_leI, r_ltI, r_geI, r_gtI, r_addI, r_iaddI, r_subI, r_mulL, r_mulR, r_divI, r_modI, r_negI, r_leP, r_ixT0, r_ixT1, r_ixT2, r_ixL0, r_ixL1, r_ixL2, r_pv, r_pvF, r_slv, r_slF, r_sv, r_so, r_rp, r_rs, r_rsN, r_rsC, r_cV, r_trB, r_trI, r_retV, r_tgM, r_tgO, r_saN, r_saC, List.getElem?_cons_zero, List.getElem?_cons_succ, List.set_cons_zero, List.set_cons_succ, Bool.cond_decide, cond_true, cond_false, Int.reduceLT, Int.reduceLE, Int.reduceNeg, Int.reduceAdd, Int.reduceSub, Int.reduceMul, Int.reducePow, and_self, decide_true, decide_false, and_true, true_and, reduceIte, if_true, if_false, Bool.not_true, Bool.not_false, r_for, r_forN, r_forC, r_iSeq, r_iRet, r_itT, r_itL, r_itF, r_iRange, r_own, r_isO, r_app, r_ext, r_put, r_callIO, r_afIO, fl_len, ft_len, r_clN, r_clC, r_tTrue, Nat.zero_add, Nat.reduceAdd, List.length_cons, List.length_nil, Int.reduceEq, r_cVal, pv_v, pv_f, List.length_map, i6] <;> exact rfl)) ?_
    refine Eq.trans (seq_ok (by simp only [r_cC, r_bV, r_bO, r_o1, r_o2, r_t2, r_asB, r_ret, r_tch, r_ofT, r_aN, r_aC, r_bN, r_bC, r_tup, r_lst, r_blt, r_if, r_tval, r_tand, r_tor, r_tnot, r_orT, r_andT, r_orTs, r_not, r_call, r_afterOk, r_afterX, r_seq, r_next, r_brk, r_cnt, r_set, r_par, r_stup, r_aug, r_drop, r_sif, r_sret, r_retnone, r_raise, bind_ok, bind_exc, bind_stk, bind_ite, bind_cond, fin_ite, r_eqI, r_neI, r_leI, r_ltI, r_geI, r_gtI, r_addI, r_iaddI, r_subI, r_mulL, r_mulR, r_divI, r_modI, r_negI, r_leP, r_ixT0, r_ixT1, r_ixT2, r_ixL0, r_ixL1, r_ixL2, r_pv, r_pvF, r_slv, r_slF, r_sv, r_so, r_rp, r_rs, r_rsN, r_rsC, r_cV, r_trB, r_trI, r_retV, r_tgM, r_tgO, r_saN, r_saC, List.getElem?_cons_zero, List.getElem?_cons_succ, List.set_cons_zero, List.set_cons_succ, Bool.cond_decide, cond_true, cond_false, Int.reduceLT, Int.reduceLE, Int.reduceNeg, Int.reduceAdd, Int.reduceSub, Int.reduceMul, Int.reducePow, and_self, decide_true, decide_false, and_true, true_and, reduceIte, if_true, if_false, Bool.not_true, Bool.not_false, r_for, r_forN, r_forC, r_iSeq, r_iRet, r_itT, r_itL, r_itF, r_iRange, r_own, r_isO, r_app, r_ext, r_put, r_callIO, r_afIO, fl_len, ft_len, r_clN, r_clC, r_tTrue, Nat.zero_add, Nat.reduceAdd, List.length_cons, List.length_nil, Int.reduceEq, r_cVal, pv_v, pv_f, List.length_map, e29] <;> exact rfl)) ?_
    refine Eq.trans (seq_ok (by simp only [r_cC, r_bV, r_bO, r_o1, r_o2, r_t2, r_asB, r_ret, r_tch, r_ofT, r_aN, r_aC, r_bN, r_bC, r_tup, r_lst, r_blt, r_if, r_tval, r_tand, r_tor, r_tnot, r_orT, r_andT, r_orTs, r_not, r_call, r_afterOk, r_afterX, r_seq, r_next, r_brk, r_cnt, r_set, r_par, r_stup, r_aug, r_drop, r_sif, r_sret, r_retnone, r_raise, bind_ok, bind_exc, bind_stk, bind_ite, bind_cond, fin_ite, r_eqI, r_neI, r_leI, r_ltI, r_geI, r_gtI, r_addI, r_iaddI, r_subI, r_mulL, r_mulR, r_divI, r_modI, r_negI, r_leP, r_ixT0, r_ixT1, r_ixT2, r_ixL0, r_ixL1, r_ixL2, r_pv, r_pvF, r_slv, r_slF, r_sv, r_so, r_rp, r_rs, r_rsN, r_rsC, r_cV, r_trB, r_trI, r_retV, r_tgM, r_tgO, r_saN, r_saC, List.getElem?_cons_zero, List.getElem?_cons_succ, List.set_cons_zero, List.set_cons_succ, Bool.cond_decide, cond_true, cond_false, Int.reduceLT, Int.reduceLE, Int.reduceNeg, Int.reduceAdd, Int.reduceSub, Int.reduceMul, Int.reducePow, and_self, decide_true, decide_false, and_true, true_and, reduceIte, if_true, if_false, Bool.not_true, Bool.not_false, r_for, r_forN, r_forC, r_iSeq, r_iRet, r_itT, r_itL, r_itF, r_iRange, r_own, r_isO, r_app, r_ext, r_put, r_callIO, r_afIO, fl_len, ft_len, r_clN, r_clC, r_tTrue, Nat.zero_add, Nat.reduceAdd, List.length_cons, List.length_nil, Int.reduceEq, r_cVal, pv_v, pv_f, List.length_map, h10, kkC, al] <;> exact rfl)) ?_
    refine Eq.trans (seq_ok (by simp only [r_cC, r_bV, r_bO, r_o1, r_o2, r_t2, r_asB, r_ret, r_tch, r_ofT, r_aN, r_aC, r_bN, r_bC, r_tup, r_lst, r_blt, r_if, r_tval, r_tand, r_tor, r_tnot, r_orT, r_andT, r_orTs, r_not, r_call, r_afterOk, r_afterX, r_seq, r_next, r_brk, r_cnt, r_set, r_par, r_stup, r_aug, r_drop, r_sif, r_sret, r_retnone, r_raise, bind_ok, bind_exc, bind_stk, bind_ite, bind_cond, fin_ite, r_eqI, r_neI, r_leI, r_ltI, r_geI, r_gtI, r_addI, r_iaddI, r_subI, r_mulL, r_mulR, r_divI, r_modI, r_negI, r_leP, r_ixT0, r_ixT1, r_ixT2, r_ixL0, r_ixL1, r_ixL2, r_pv, r_pvF, r_slv, r_slF, r_sv, r_so, r_rp, r_rs, r_rsN, r_rsC, r_cV, r_trB, r_trI, r_retV, r_tgM, r_tgO, r_saN, r_saC, List.getElem?_cons_zero, List.getElem?_cons_succ, List.set_cons_zero, List.set_cons_succ, Bool.cond_decide, cond_true, cond_false, Int.reduceLT, Int.reduceLE, Int.reduceNeg, Int.reduceAdd, Int.reduceSub, Int.reduceMul, Int.reducePow, and_self, decide_true, decide_false, and_true, true_and, reduceIte, if_true, if_false, Bool.not_true, Bool.not_false, r_for, r_forN, r_forC, r_iSeq, r_iRet, r_itT, r_itL, r_itF, r_iRange, r_own, r_isO, r_app, r_ext, r_put, r_callIO, r_afIO, fl_len, ft_len, r_clN, r_clC, r_tTrue, Nat.zero_add, Nat.reduceAdd, List.length_cons, List.length_nil, Int.reduceEq, r_cVal, pv_v, pv_f, List.length_map, e43d] <;> exact rfl)) ?_
    refine Eq.trans (seq_ok (by simp only [r_cC, r_bV, r_bO, r_o1, r_o2, r_t2, r_asB, r_ret, r_tch, r_ofT, r_aN, r_aC, r_bN, r_bC, r_tup, r_lst, r_blt, r_if, r_tval, r_tand, r_tor, r_tnot, r_orT, r_andT, r_orTs, r_not, r_call, r_afterOk, r_afterX, r_seq, r_next, r_brk, r_cnt, r_set, r_par, r_stup, r_aug, r_drop, r_sif, r_sret, r_retnone, r_raise, bind_ok, bind_exc, bind_stk, bind_ite, bind_cond, fin_ite, r_eqI, r_neI, r_leI, r_ltI, r_geI, r_gtI, r_addI, r_iaddI, r_subI, r_mulL, r_mulR, r_divI, r_modI, r_negI, r_leP, r_ixT0, r_ixT1, r_ixT2, r_ixL0, r_ixL1, r_ixL2, r_pv, r_pvF, r_slv, r_slF, r_sv, r_so, r_rp, r_rs, r_rsN, r_rsC, r_cV, r_trB, r_trI, r_retV, r_tgM, r_tgO, r_saN, r_saC, List.getElem?_cons_zero, List.getElem?_cons_succ, List.set_cons_zero, List.set_cons_succ, Bool.cond_decide, cond_true, cond_false, Int.reduceLT, Int.reduceLE, Int.reduceNeg, Int.reduceAdd, Int.reduceSub, Int.reduceMul, Int.reducePow, and_self, decide_true, decide_false, and_true, true_and, reduceIte, if_true, if_false, Bool.not_true, Bool.not_false, r_for, r_forN, r_forC, r_iSeq, r_iRet, r_itT, r_itL, r_itF, r_iRange, r_own, r_isO, r_app, r_ext, r_put, r_callIO, r_afIO, fl_len, ft_len, r_clN, r_clC, r_tTrue, Nat.zero_add, Nat.reduceAdd, List.length_cons, List.length_nil, Int.reduceEq, r_cVal, pv_v, pv_f, List.length_map, ed] <;> exact rfl)) ?_
    refine Eq.trans (seq_ok (by simp only [r_cC, r_bV, r_bO, r_o1, r_o2, r_t2, r_asB, r_ret, r_tch, r_ofT, r_aN, r_aC, r_bN, r_bC, r_tup, r_lst, r_blt, r_if, r_tval, r_tand, r_tor, r_tnot, r_orT, r_andT, r_orTs, r_not, r_call, r_afterOk, r_afterX, r_seq, r_next, r_brk, r_cnt, r_set, r_par, r_stup, r_aug, r_drop, r_sif, r_sret, r_retnone, r_raise, bind_ok, bind_exc, bind_stk, bind_ite, bind_cond, fin_ite, r_eqI, r_neI, r_leI, r_ltI, r_geI, r_gtI, r_addI, r_iaddI, r_subI, r_mulL, r_mulR, r_divI, r_modI, r_negI, r_leP, r_ixT0, r_ixT1, r_ixT2, r_ixL0, r_ixL1, r_ixL2, r_pv, r_pvF, r_slv, r_slF, r_sv, r_so, r_rp, r_rs, r_rsN, r_rsC, r_cV, r_trB, r_trI, r_retV, r_tgM, r_tgO, r_saN, r_saC, List.getElem?_cons_zero, List.getElem?_cons_succ, List.set_cons_zero, List.set_cons_succ, Bool.cond_decide, cond_true, cond_false, Int.reduceLT, Int.reduceLE, Int.reduceNeg, Int.reduceAdd, Int.reduceSub, Int.reduceMul, Int.reducePow, and_self, decide_true, decide_false, and_true, true_and, reduceIte, if_true, if_false, Bool.not_true, Bool.not_false, r_for, r_forN, r_forC, r_iSeq, r_iRet, r_itT, r_itL, r_itF, r_iRange, r_own, r_isO, r_app, r_ext, r_put, r_callIO, r_afIO, fl_len, ft_len, r_clN, r_clC, r_tTrue, Nat.zero_add, Nat.reduceAdd, List.length_cons, List.length_nil, Int.reduceEq, r_cVal, pv_v, pv_f, List.length_map, h10, kkD, kkE, il] <;> exact rfl)) ?_
    refine Eq.trans (seq_ok (by simp only [r_cC, r_bV, r_bO, r_o1, r_o2, r_t2, r_asB, r_ret, r_tch, r_ofT, r_aN, r_aC, r_bN, r_bC, r_tup, r_lst, r_blt, r_if, r_tval, r_tand, r_tor, r_tnot, r_orT, r_andT, r_orTs, r_not, r_call, r_afterOk, r_afterX, r_seq, r_next, r_brk, r_cnt, r_set, r_par, r_stup, r_aug, r_drop, r_sif, r_sret, r_retnone, r_raise, bind_ok, bind_exc, bind_stk, bind_ite, bind_cond, fin_ite, r_eqI, r_neI, r_leI, r_ltI, r_geI, r_gtI, r_addI, r_iaddI, r_subI, r_mulL, r_mulR, r_divI, r_modI, r_negI, r_leP, r_ixT0, r_ixT1, r_ixT2, r_ixL0, r_ixL1, r_ixL2, r_pv, r_pvF, r_slv, r_slF, r_sv, r_so, r_rp, r_rs, r_rsN, r_rsC, r_cV, r_trB, r_trI, r_retV, r_tgM, r_tgO, r_saN, r_saC, List.getElem?_cons_zero, List.getElem?_cons_succ, List.set_cons_zero, List.set_cons_succ, Bool.cond_decide, cond_true, cond_false, Int.reduceLT, Int.reduceLE, Int.reduceNeg, Int.reduceAdd, Int.reduceSub, Int.reduceMul, Int.reducePow, and_self, decide_true, decide_false, and_true, true_and, reduceIte, if_true, if_false, Bool.not_true, Bool.not_false, r_for, r_forN, r_forC, r_iSeq, r_iRet, r_itT, r_itL, r_itF, r_iRange, r_own, r_isO, r_app, r_ext, r_put, r_callIO, r_afIO, fl_len, ft_len, r_clN, r_clC, r_tTrue, Nat.zero_add, Nat.reduceAdd, List.length_cons, List.length_nil, Int.reduceEq, r_cVal, pv_v, pv_f, List.length_map, e21, e22, e26, dx1, dx2, dx3, dx4, dx5, dx6, f27, f28, f29, f26, i4] <;> exact rfl)) ?_
    refine Eq.trans (seq_ok (by simp only [r_cC, r_bV, r_bO, r_o1, r_o2, r_t2, r_asB, r_ret, r_tch, r_ofT, r_aN, r_aC, r_bN, r_bC, r_tup, r_lst, r_blt, r_if, r_tval, r_tand, r_tor, r_tnot, r_orT, r_andT, r_orTs, r_not, r_call, r_afterOk, r_afterX, r_seq, r_next, r_brk, r_cnt, r_set, r_par, r_stup, r_aug, r_drop, r_sif, r_sret, r_retnone, r_raise, bind_ok, bind_exc, bind_stk, bind_ite, bind_cond, fin_ite, r_eqI, r_neI, r_leI, r_ltI, r_geI, r_gtI, r_addI, r_iaddI, r_subI, r_mulL, r_mulR, r_divI, r_modI, r_negI, r_leP, r_ixT0, r_ixT1, r_ixT2, r_ixL0, r_ixL1, r_ixL2, r_pv, r_pvF, r_slv, r_slF, r_sv, r_so, r_rp, r_rs, r_rsN, r_rsC, r_cV, r_trB, r_trI, r_retV, r_tgM, r_tgO, r_saN, r_saC, List.getElem?_cons_zero, List.getElem?_cons_succ, List.set_cons_zero, List.set_cons_succ, Bool.cond_decide, cond_true, cond_false, Int.reduceLT, Int.reduceLE, Int.reduceNeg, Int.reduceAdd, Int.reduceSub, Int.reduceMul, Int.reducePow, and_self, decide_true, decide_false, and_true, true_and, reduceIte, if_true, if_false, Bool.not_true, Bool.not_false, r_for, r_forN, r_forC, r_iSeq, r_iRet, r_itT, r_itL, r_itF, r_iRange, r_own, r_isO, r_app, r_ext, r_put, r_callIO, r_afIO, fl_len, ft_len, r_clN, r_clC, r_tTrue, Nat.zero_add, Nat.reduceAdd, List.length_cons, List.length_nil, Int.reduceEq, r_cVal, pv_v, pv_f, List.length_map, h10, kkB] <;> exact rfl)) ?_
    refine Eq.trans (seq_ok (by simp only [r_cC, r_bV, r_bO, r_o1, r_o2, r_t2, r_asB, r_ret, r_tch, r_ofT, r_aN, r_aC, r_bN, r_bC, r_tup, r_lst, r_blt, r_if, r_tval, r_tand, r_tor, r_tnot, r_orT, r_andT, r_orTs, r_not, r_call, r_afterOk, r_afterX, r_seq, r_next, r_brk, r_cnt, r_set, r_par, r_stup, r_aug, r_drop, r_sif, r_sret, r_retnone, r_raise, bind_ok, bind_exc, bind_stk, bind_ite, bind_cond, fin_ite, r_eqI, r_neI, r_leI, r_ltI, r_geI, r_gtI, r_addI, r_iaddI, r_subI, r_mulL, r_mulR, r_divI, r_modI, r_negI, r_leP, r_ixT0, r_ixT1, r_ixT2, r_ixL0, r_ixL1, r_ixL2, r_pv, r_pvF, r_slv, r_slF, r_sv, r_so, r_rp, r_rs, r_rsN, r_rsC, r_cV, r_trB, r_trI, r_retV, r_tgM, r_tgO, r_saN, r_saC, List.getElem?_cons_zero, List.getElem?_cons_succ, List.set_cons_zero, List.set_cons_succ, Bool.cond_decide, cond_true, cond_false, Int.reduceLT, Int.reduceLE, Int.reduceNeg, Int.reduceAdd, Int.reduceSub, Int.reduceMul, Int.reducePow, and_self, decide_true, decide_false, and_true, true_and, reduceIte, if_true, if_false, Bool.not_true, Bool.not_false, r_for, r_forN, r_forC, r_iSeq, r_iRet, r_itT, r_itL, r_itF, r_iRange, r_own, r_isO, r_app, r_ext, r_put, r_callIO, r_afIO, fl_len, ft_len, r_clN, r_clC, r_tTrue, Nat.zero_add, Nat.reduceAdd, List.length_cons, List.length_nil, Int.reduceEq, r_cVal, pv_v, pv_f, List.length_map, e43e] <;> exact rfl)) ?_
    refine Eq.trans (seq_ok (by simp only [r_cC, r_bV, r_bO, r_o1, r_o2, r_t2, r_asB, r_ret, r_tch, r_ofT, r_aN, r_aC, r_bN, r_bC, r_tup, r_lst, r_blt, r_if, r_tval, r_tand, r_tor, r_tnot, r_orT, r_andT, r_orTs, r_not, r_call, r_afterOk, r_afterX, r_seq, r_next, r_brk, r_cnt, r_set, r_par, r_stup, r_aug, r_drop, r_sif, r_sret, r_retnone, r_raise, bind_ok, bind_exc, bind_stk, bind_ite, bind_cond, fin_ite, r_eqI, r_neI, r_leI, r_ltI, r_geI, r_gtI, r_addI, r_iaddI, r_subI, r_mulL, r_mulR, r_divI, r_modI, r_negI, r_leP, r_ixT0, r_ixT1, r_ixT2, r_ixL0, r_ixL1, r_ixL2, r_pv, r_pvF, r_slv, r_slF, r_sv, r_so, r_rp, r_rs, r_rsN, r_rsC, r_cV, r_trB, r_trI, r_retV, r_tgM, r_tgO, r_saN, r_saC, List.getElem?_cons_zero, List.getElem?_cons_succ, List.set_cons_zero, List.set_cons_succ, Bool.cond_decide, cond_true, cond_false, Int.reduceLT, Int.reduceLE, Int.reduceNeg, Int.reduceAdd, Int.reduceSub, Int.reduceMul, Int.reducePow, and_self, decide_true, decide_false, and_true, true_and, reduceIte, if_true, if_false, Bool.not_true, Bool.not_false, r_for, r_forN, r_forC, r_iSeq, r_iRet, r_itT, r_itL, r_itF, r_iRange, r_own, r_isO, r_app, r_ext, r_put, r_callIO, r_afIO, fl_len, ft_len, r_clN, r_clC, r_tTrue, Nat.zero_add, Nat.reduceAdd, List.length_cons, List.length_nil, Int.reduceEq, r_cVal, pv_v, pv_f, List.length_map, g1, g2, g3, g4, g5] <;> exact rfl)) ?_
    refine Eq.trans (seq_ok (by simp only [r_cC, r_bV, r_bO, r_o1, r_o2, r_t2, r_asB, r_ret, r_tch, r_ofT, r_aN, r_aC, r_bN, r_bC, r_tup, r_lst, r_blt, r_if, r_tval, r_tand, r_tor, r_tnot, r_orT, r_andT, r_orTs, r_not, r_call, r_afterOk, r_afterX, r_seq, r_next, r_brk, r_cnt, r_set, r_par, r_stup, r_aug, r_drop, r_sif, r_sret, r_retnone, r_raise, bind_ok, bind_exc, bind_stk, bind_ite, bind_cond, fin_ite, r_eqI, r_neI, r_leI, r_ltI, r_geI, r_gtI, r_addI, r_iaddI, r_subI, r_mulL, r_mulR, r_divI, r_modI, r_negI, r_leP, r_ixT0, r_ixT1, r_ixT2, r_ixL0, r_ixL1, r_ixL2, r_pv, r_pvF, r_slv, r_slF, r_sv, r_so, r_rp, r_rs, r_rsN, r_rsC, r_cV, r_trB, r_trI, r_retV, r_tgM, r_tgO, r_saN, r_saC, List.getElem?_cons_zero, List.getElem?_cons_succ, List.set_cons_zero, List.set_cons_succ, Bool.cond_decide, cond_true, cond_false, Int.reduceLT, Int.reduceLE, Int.reduceNeg, Int.reduceAdd, Int.reduceSub, Int.reduceMul, Int.reducePow, and_self, decide_true, decide_false, and_true, true_and, reduceIte, if_true, if_false, Bool.not_true, Bool.not_false, r_for, r_forN, r_forC, r_iSeq, r_iRet, r_itT, r_itL, r_itF, r_iRange, r_own, r_isO, r_app, r_ext, r_put, r_callIO, r_afIO, fl_len, ft_len, r_clN, r_clC, r_tTrue, Nat.zero_add, Nat.reduceAdd, List.length_cons, List.length_nil, Int.reduceEq, r_cVal, pv_v, pv_f, List.length_map, mul5, ne5] <;> exact rfl)) ?_
    refine Eq.trans (seq_ok (by simp only [r_cC, r_bV, r_bO, r_o1, r_o2, r_t2, r_asB, r_ret, r_tch, r_ofT, r_aN, r_aC, r_bN, r_bC, r_tup, r_lst, r_blt, r_if, r_tval, r_tand, r_tor, r_tnot, r_orT, r_andT, r_orTs, r_not, r_call, r_afterOk, r_afterX, r_seq, r_next, r_brk, r_cnt, r_set, r_par, r_stup, r_aug, r_drop, r_sif, r_sret, r_retnone, r_raise, bind_ok, bind_exc, bind_stk, bind_ite, bind_cond, fin_ite, r_eqI, r_neI, r_leI, r_ltI, r_geI, r_gtI, r_addI, r_iaddI, r_subI, r_mulL, r_mulR, r_divI, r_modI, r_negI, r_leP, r_ixT0, r_ixT1, r_ixT2, r_ixL0, r_ixL1, r_ixL2, r_pv, r_pvF, r_slv, r_slF, r_sv, r_so, r_rp, r_rs, r_rsN, r_rsC, r_cV, r_trB, r_trI, r_retV, r_tgM, r_tgO, r_saN, r_saC, List.getElem?_cons_zero, List.getElem?_cons_succ, List.set_cons_zero, List.set_cons_succ, Bool.cond_decide, cond_true, cond_false, Int.reduceLT, Int.reduceLE, Int.reduceNeg, Int.reduceAdd, Int.reduceSub, Int.reduceMul, Int.reducePow, and_self, decide_true, decide_false, and_true, true_and, reduceIte, if_true, if_false, Bool.not_true, Bool.not_false, r_for, r_forN, r_forC, r_iSeq, r_iRet, r_itT, r_itL, r_itF, r_iRange, r_own, r_isO, r_app, r_ext, r_put, r_callIO, r_afIO, fl_len, ft_len, r_clN, r_clC, r_tTrue, Nat.zero_add, Nat.reduceAdd, List.length_cons, List.length_nil, Int.reduceEq, r_cVal, pv_v, pv_f, List.length_map, last] <;> exact rfl)) ?_
    rfl
  obtain ⟨w3, w4, w5, w6, w7, w8, w9, w10, w11, w12, w13, w14, w15, w16, f1, f2⟩ := fin
  exact ⟨a7, n7, w3, w4, w5, w6, w7, w8, w9, w10, w11, w12, w13, w14, w15, w16, f1, f2, tin_up t7 (by omega)⟩
end Hd


set_option Elab.async false
set_option linter.all false
set_option maxRecDepth 100000
set_option maxHeartbeats 6400000
namespace Hd
open PySem PySem.Spec PyProof.Rows L2 EV MA
theorem laps49 (b : Int) (o : Bool) (x0 : Slot) : ∀ (l : List PV) (B a n : Int) (x2 x3 x4 x5 x6 x7 x8 x9 x10 x11 x12 x13 x14 x15 x16 : Slot), Tin B a b n → B + 100 * l.length ≤ 1000000 → isOwn (some x10) = false →
    ∃ a' n' z2 z3 z4 z5 z6 z7 z8 z9 z10 z11 z12 z13 z14 z15 z16, forL (.one 2) (B49s8 (calls (tab L) 67)) l [x0, .own o (TIN a b n), x2, x3, x4, x5, x6, x7, x8, x9, x10, x11, x12, x13, x14, x15, x16] = .ok .nx [x0, .own o (TIN a' b n'), z2, z3, z4, z5, z6, z7, z8, z9, z10, z11, z12, z13, z14, z15, z16]
  | [], B, a, n, x2, x3, x4, x5, x6, x7, x8, x9, x10, x11, x12, x13, x14, x15, x16, _, _, _ => ⟨a, n, x2, x3, x4, x5, x6, x7, x8, x9, x10, x11, x12, x13, x14, x15, x16, rfl⟩
  | lp :: l, B, a, n, x2, x3, x4, x5, x6, x7, x8, x9, x10, x11, x12, x13, x14, x15, x16, t, hB, h10 => by
    rw [List.length_cons] at hB
    obtain ⟨a', n', z3, z4, z5, z6, z7, z8, z9, z10, z11, z12, z13, z14, z15, z16, e, g10, t'⟩ := lap49 t (by omega) o lp x0 x3 x4 x5 x6 x7 x8 x9 x10 x11 x12 x13 x14 x15 x16 h10
    obtain ⟨a2, n2, y2, y3, y4, y5, y6, y7, y8, y9, y10, y11, y12, y13, y14, y15, y16, ih⟩ := laps49 b o x0 l (B + 100) a' n' (.val lp) z3 z4 z5 z6 z7 z8 z9 z10 z11 z12 z13 z14 z15 z16 t' (by omega) g10
    refine ⟨a2, n2, y2, y3, y4, y5, y6, y7, y8, y9, y10, y11, y12, y13, y14, y15, y16, ?_⟩
    rw [r_forC, r_tgO]
    simp only [List.set_cons_zero, List.set_cons_succ]
    rw [e, bind_ok]
    exact ih
def sNn : Say := .bin .to (.bin .to .p .no) .no
theorem sp49 (ns : List Int) (hl : ns.length ≤ 63) : calls (tab L) 68 49 none [.fl (ns.map .int)] = .ok (.v (.bl true)) [] := by
  obtain ⟨z, e42⟩ := sp37 66 ns hl
  obtain ⟨a, b, e40, t0⟩ := sp35 66 z
  have e42' : calls (tab L) 67 42 none [.fl (ns.map .int), .int 1] = .ok (.f [.int z]) [] := e42
  have e40' : calls (tab L) 67 40 none [.lst [.int z], .int 0] = .ok (.f (TIN a b 0)) [] := e40
  have r5 : rangeOf [.int 5] = some (rangeL 0 5) := rfl
  obtain ⟨a2, n2, y2, y3, y4, y5, y6, y7, y8, y9, y10, y11, y12, y13, y14, y15, y16, lp⟩ := laps49 b false (.val (.fl (ns.map .int))) (rangeL 0 5) 0 a 0 .emp .emp .emp .emp .emp .emp .emp .emp .emp .emp .emp .emp .emp .emp .emp t0 (by rw [range_len]; omega) rfl
  have e26 : calls (tab L) 67 26 none [.int 3, .tup [.str "to", .tup [.str "to", .tup [.str "p"], .tup [.str "no"]], .tup [.str "no"]]] = .ok (.v (.int 1)) [] := by
    have h := q26 1 3 sNn (by omega) (by omega) (by decide) (by decide)
    rw [show bothZ 3 (valZ sNn 1) = 1 by decide +kernel] at h
    exact h
  have e27 : calls (tab L) 67 27 none [.int 5, .int 3, .int 4] = .ok (.v (.int 1)) [] := by
    have h := q27 61 5 3 4 (by omega) (by omega) (by omega) (by omega) (by omega) (by omega) (by decide +kernel) (by decide +kernel)
    rw [show bothZ (bothZ 3 4) 5 = 1 by decide +kernel] at h
    exact h
  have e28 : calls (tab L) 67 28 none [.int 5, .int 2, .int 1] = .ok (.v (.int 3)) [] := by
    have h := q28 61 5 2 1 (by omega) (by omega) (by omega) (by omega) (by omega) (by omega) (by decide +kernel) (by decide +kernel)
    rw [show bothZ (eitherZ 2 1) 5 = 3 by decide +kernel] at h
    exact h
  have e29 : calls (tab L) 67 29 none [.int 3, .int 1, .int 0] = .ok (.v (.int 2)) [] := by
    have h := q29 61 3 1 0 (by omega) (by omega) (by omega) (by omega) (by omega) (by omega) (by decide +kernel) (by decide +kernel)
    rw [show bothZ 3 (leadsZ 1 0) = 2 by decide +kernel] at h
    exact h
  have e31 : calls (tab L) 67 31 none [.int 3, .int 1] = .ok (.f [.int 0, .int 1, .int 0, .int 1]) [] := by
    have h := q31 62 3 1 (by omega) (by omega) (by omega) (by omega) (by decide +kernel)
    have e : (lotsZ 3).map (fun x => bothZ 1 x) = [0, 1, 0, 1] := by decide +kernel
    have e2 : (lotsZ 3).map (fun x => PV.int (bothZ 1 x)) = [.int 0, .int 1, .int 0, .int 1] := by
      have := congrArg (List.map PV.int) e
      rw [List.map_map] at this
      exact this
    rw [e2] at h
    exact h
  have i : calls (tab L) 67 44 none [.lst [.int 1, .int 1, .int 3, .int 2, .lst [.int 0, .int 1, .int 0, .int 1]], .lst [.int 1, .int 1, .int 3, .int 2, .lst [.int 0, .int 1, .int 0, .int 1]]] = .ok (.v (.bl true)) [] :=
    same _ 2 (by omega) (.lst 1 _ (by simp) (by
      simp only [List.mem_cons, List.not_mem_nil, or_false]
      rintro p (rfl | rfl | rfl | rfl | rfl)
      · constructor
      · constructor
      · constructor
      · constructor
      · exact .lst 0 _ (by simp) (by simp only [List.mem_cons, List.not_mem_nil, or_false]; rintro p (rfl | rfl | rfl | rfl) <;> constructor)))
  show calls (tab L) (67 + 1) 49 none _ = _
  rw [call49, run_body (D := d49) (B := B49) rfl rfl rfl]; show d49.fin (B49 _ [.val (.fl (ns.map .int)), .emp, .emp, .emp, .emp, .emp, .emp, .emp, .emp, .emp, .emp, .emp, .emp, .emp, .emp, .emp, .emp]) = _; unfold B49
  simp only [r_cC, r_bV, r_bO, r_o1, r_o2, r_t2, r_asB, r_ret, r_tch, r_ofT, r_aN, r_aC, r_bN, r_bC, r_tup, r_lst, r_blt, r_if, r_tval, r_tand, r_tor, r_tnot, r_orT, r_andT, r_orTs, r_not, r_call, r_afterOk, r_afterX, r_seq, r_next, r_brk, r_cnt, r_set, r_par, r_stup, r_aug, r_drop, r_sif, r_sret, r_retnone, r_raise, bind_ok, bind_exc, bind_stk, bind_ite, bind_cond, fin_ite, r_eqI, r_neI, r_leI, r_ltI, r_geI, r_gtI, r_addI, r_iaddI, r_subI, r_mulL, r_mulR, r_divI, r_modI, r_negI, r_leP, r_ixT0, r_ixT1, r_ixT2, r_ixL0, r_ixL1, r_ixL2, r_pv, r_pvF, r_slv, r_slF, r_sv, r_so, r_rp, r_rs, r_rsN, r_rsC, r_cV, r_trB, r_trI, r_retV, r_tgM, r_tgO, r_saN, r_saC, List.getElem?_cons_zero, List.getElem?_cons_succ, List.set_cons_zero, List.set_cons_succ, Bool.cond_decide, cond_true, cond_false, Int.reduceLT, Int.reduceLE, Int.reduceNeg, Int.reduceAdd, Int.reduceSub, Int.reduceMul, Int.reducePow, and_self, decide_true, decide_false, and_true, true_and, reduceIte, if_true, if_false, Bool.not_true, Bool.not_false, r_for, r_forN, r_forC, r_iSeq, r_iRet, r_itT, r_itL, r_itF, r_iRange, r_own, r_isO, r_app, r_ext, r_put, r_callIO, r_afIO, fl_len, ft_len, r_clN, r_clC, r_tTrue, Nat.zero_add, Nat.reduceAdd, List.length_cons, List.length_nil, Int.reduceEq, e42', e40', r5, lp, e26, e27, e28, e29, e31, i, finR (D := d49) rfl]
theorem holds (ns : List Int) (hl : ns.length ≤ 63) (_ : ∀ z ∈ ns, Builtin.Int.intBits z ≤ 1048576) : calls (tab L) 68 49 none [.fl (ns.map .int)] = .ok (.v (.bl true)) [] := sp49 ns hl
end Hd


set_option Elab.async false
set_option linter.all false
set_option maxRecDepth 100000
set_option maxHeartbeats 0
namespace Hd
open PySem PySem.Spec PyProof.Rows L2 EV
abbrev R : PySem.W.OpenRow := PySem.W.OpenLaw.row PySem.Challenge.rw_ladderofone_k19_across_algebras_below_pl
abbrev hk : PySem.W.Hook := He.hookX 4 (fas tp) (dds L) [] [] (exOk tp)
def ob (s : PySem.W.SharedT) : He.AlX := He.obsX 4 (fas tp) (dds L) [] [] (exOk tp) (HandSHeadRun.getT s)
theorem ob_eq (s : PySem.W.SharedT) : ob s = hk.obs s.abs := He.obsX_eq (HandSHeadRun.getT_eq s)
def loose0 : List PySem.Str := ["CanNot", "TooMany", "Unfit", "is_number", "is_within", "is_long", "are_within", "ascends", "tupled", "sure_within", "P", "NO", "JOINS", "MOST_PARTS", "MOST_DEEP"]
def loose1 : List PySem.Str := ["is_saying_in", "sure_saying", "ALL", "MOST_PLACE", "is_place_in", "shape", "place_of_shape", "has", "both_in", "either_in", "first_beyond", "is_below_in", "leads_in", "place_in", "sure_place"]
def loose2 : List PySem.Str := ["place_of", "both", "either", "leads", "is_below", "MOST_POINT", "how_many_below", "value_under", "both_under", "either_under", "leads_under", "sure_under", "leads_over", "MOST_WORLDS", "is_order_in"]
def loose3 : List PySem.Str := ["MOST_MARKS", "is_frame_in", "sure_frame", "marks_in", "all_marks", "point_place", "checked_frame", "frame_of_place", "_law_box", "_law_take", "_law_cells", "_law_of", "_law_same", "_law_call", "_law_saying"]
def loose4 : List PySem.Str := ["_law_refused", "_law_value"]
def loose : List PySem.Str := loose0 ++ loose1 ++ loose2 ++ loose3 ++ loose4
theorem run (w : World) : HandSHeadRun.RunEq R (PySem.W.view R.prog [71]) hk ob 4000 loose w := by
  intro os
  kernel_rfl
end Hd
open PySem PySem.W PySem.Calls PyProof.Rows
set_option maxHeartbeats 0
theorem PySem.Challenge.cw_ladderofone_k19_across_algebras_below_pl_holds : PySem.Challenge.rw_ladderofone_k19_across_algebras_below_pl.Holds := by
  w_on; o_law
  refine HandSHeadRun.head_any (r := OpenLaw.row PySem.Challenge.rw_ladderofone_k19_across_algebras_below_pl) (q := view (OpenLaw.row PySem.Challenge.rw_ladderofone_k19_across_algebras_below_pl).prog [71]) (H := Hd.hk) (ob := Hd.ob) (M := 4000) (loose := Hd.loose) (d := HandSHeadRun.topDef (OpenLaw.row PySem.Challenge.rw_ladderofone_k19_across_algebras_below_pl).prog 71) (kwd := []) Hd.ob_eq
    (by kernel_rfl) (fun s => by kernel_rfl) Hd.run (by kernel_rfl) (by kernel_rfl) (by kernel_rfl) (by rfl) (by first | assumption | decide +kernel) (by decide +kernel) ⟨rfl, rfl, rfl, rfl, rfl, by decide +kernel⟩ ?hw ?hc
  case hw => w_witness2
  case hc => exact EV.ev_end (l := PySem.Challenge.rw_ladderofone_k19_across_algebras_below_pl) (n := 63) (k := 67) (m := 49) (L := Hd.L) (t := Hd.tp) (e := Hd.E49) rfl (by decide) (by kernel_rfl) ⟨rfl, by decide, by decide⟩ (by kernel_rfl) rfl rfl rfl (by kernel_rfl) rfl (fun w K mg base F D => Hd.ents F D) Hd.holds


