import PyProof.Rows.All
import Wide.All
import OpenK.AllK
import Wide.FinOn
import HandS.ForMost
import HandS.Exc
import HandS.ExcOwn
import HandS.TryOnly
import HandS.TryMany
import HandS.WordsExc
import HandS.IsInst
import HandS.Deep
import HandS.Zip
import HandS.Rev
import HandS.Flow
import HandS.Wide
import HandS.TupAny
import HandS.TupMul
import HandS.StrMore
import HandS.Style
import HandS.Replace
import HandS.IterVal
import HandS.TupLe
import HandS.RevTup
import HandS.Text
import HandS.AnyAll
import PyProof.Rows.FactsT2
import HandS.SetFor
import KE.DataFind
import HandS.Conv
import PySem.Challenge.RW_handlesworn_k02_products_powers_commutat
set_option Elab.async false
set_option linter.all false
set_option maxRecDepth 100000
set_option maxHeartbeats 2000000
/-! # The engine: values as trees, a store of mutable objects, mirrors, and what it is for a reading to follow a mirror -/
namespace L2.Mi
open PySem PySem.Spec PyProof.Rows

/-- a value: a tree; ref n: the n-th mutable object of the store -/
inductive W where
  | non | bl (b : Bool) | int (i : Int) | str (s : List Nat) | tup (xs : List W) | lst (xs : List W) | fro (xs : List W) | ref (n : Nat)
/-- an object of the store: gone; a list; a list that is only read for now; a dict; an instance of the class of a name -/
inductive SO where
  | dead | lst (xs : List W) | ro (xs : List W) | dict (kvs : List (Key × W)) | ins (c : Str) (fs : List (Str × W))
abbrev Sto := List SO
abbrev Env := List (Option W)
def SO.alive : SO → Bool
  | .dead => false
  | .ro _ => false
  | _ => true
inductive Out (α : Type) where
  | ok (a : α) (S : Sto) | exc (c : Str) (S : Sto) | fail
inductive OutS where
  | next (e : Env) (S : Sto) | brk (e : Env) (S : Sto) | cont (e : Env) (S : Sto) | ret (w : W) (S : Sto) | exc (c : Str) (e : Env) (S : Sto) | fail
def Out.bind {α β : Type} (o : Out α) (k : α → Sto → Out β) : Out β := match o with
  | .ok a S => k a S
  | .exc c S => .exc c S
  | .fail => .fail
@[simp] theorem Out.bind_ok {α β : Type} (a : α) (S : Sto) (k : α → Sto → Out β) : (Out.ok a S).bind k = k a S := rfl
@[simp] theorem Out.bind_exc {α β : Type} (c : Str) (S : Sto) (k : α → Sto → Out β) : (Out.exc c S : Out α).bind k = .exc c S := rfl
@[simp] theorem Out.bind_fail {α β : Type} (k : α → Sto → Out β) : (Out.fail : Out α).bind k = .fail := rfl

/-! ### the relation -/
abbrev Ban := Addr → Prop
/-- a list that nobody changes: the script, or a module's own -/
def SqF (K : PySem.W.Frag) (H : Hp) (a : Addr) (vs : List V) : Prop := (∃ o, H a = some (.frz o (.lst vs))) ∨
  ∃ (o : Obj) (its : Array Value) (n : Nat), K.lookup a = some o ∧ o.cls = .type "list" ∧ o.dict = none ∧ o.data = .seq its n ∧ its.size ≤ sizeLine ∧ Vals vs its.toList
theorem SqF.toL {K : PySem.W.Frag} {H : Hp} {a : Addr} {vs : List V} (h : SqF K H a vs) : SqL K H a vs := h.imp (fun ⟨o, h⟩ => .inr ⟨o, h⟩) id
theorem SqL.toF {K : PySem.W.Frag} {H : Hp} {a : Addr} {vs : List V} (h : SqL K H a vs) (n : ∀ us, H a ≠ some (.lst us)) : SqF K H a vs := h.imp (fun h => h.elim (fun h => absurd h (n _)) id) id
/-- an object that is never changed -/
def Stf : HO → Prop
  | .tup _ => True
  | .frz _ _ => True
  | _ => False
inductive Rel (K : PySem.W.Frag) (ρ : List Addr) (B : Ban) (H : Hp) : W → V → Prop
  | non : Rel K ρ B H .non .non
  | bl (b : Bool) : Rel K ρ B H (.bl b) (.bl b)
  | int (i : Int) : Rel K ρ B H (.int i) (.int i)
  | str (s : List Nat) : Rel K ρ B H (.str s) (.str ⟨s.toArray⟩)
  | tup {ws : List W} {vs : List V} {a : Addr} : SqT K H a vs → ws.length = vs.length → (∀ (i : Nat) (w : W) (v : V), ws[i]? = some w → vs[i]? = some v → Rel K ρ B H w v) → Rel K ρ B H (.tup ws) (.ref a)
  | lst {ws : List W} {vs : List V} {a : Addr} : H a = some (.lst vs) → ¬ B a → ws.length = vs.length → (∀ (i : Nat) (w : W) (v : V), ws[i]? = some w → vs[i]? = some v → Rel K ρ B H w v) → Rel K ρ B H (.lst ws) (.ref a)
  | fro {ws : List W} {vs : List V} {a : Addr} : SqF K H a vs → ws.length = vs.length → (∀ (i : Nat) (w : W) (v : V), ws[i]? = some w → vs[i]? = some v → Rel K ρ B H w v) → Rel K ρ B H (.fro ws) (.ref a)
  | ref {n : Nat} {a : Addr} : ρ[n]? = some a → Rel K ρ B H (.ref n) (.ref a)
def Rels (K : PySem.W.Frag) (ρ : List Addr) (B : Ban) (H : Hp) (ws : List W) (vs : List V) : Prop :=
  ws.length = vs.length ∧ ∀ (i : Nat) (w : W) (v : V), ws[i]? = some w → vs[i]? = some v → Rel K ρ B H w v
section
variable {K : PySem.W.Frag} {ρ ρ' : List Addr} {B B' : Ban} {H H' : Hp} {w : W} {v : V} {ws ws' : List W} {vs vs' : List V}
theorem Rels.nil : Rels K ρ B H [] [] := ⟨rfl, fun i w v h => by simp at h⟩
theorem Rels.cons (h : Rel K ρ B H w v) (t : Rels K ρ B H ws vs) : Rels K ρ B H (w :: ws) (v :: vs) := by
  refine ⟨by simp [t.1], fun i w' v' h1 h2 => ?_⟩
  cases i with
  | zero =>
    simp at h1 h2
    subst h1; subst h2; exact h
  | succ i => exact t.2 i w' v' (by simpa using h1) (by simpa using h2)
theorem Rels.head (t : Rels K ρ B H (w :: ws) (v :: vs)) : Rel K ρ B H w v := t.2 0 w v rfl rfl
theorem Rels.tail (t : Rels K ρ B H (w :: ws) (v :: vs)) : Rels K ρ B H ws vs := ⟨by have := t.1; simpa using this, fun i w' v' h1 h2 => t.2 (i + 1) w' v' (by simpa using h1) (by simpa using h2)⟩
theorem Rels.nil_inv (t : Rels K ρ B H [] vs) : vs = [] := by
  have := t.1
  cases vs with
  | nil => rfl
  | cons _ _ => simp at this
theorem Rels.cons_inv (t : Rels K ρ B H (w :: ws) vs) : ∃ v vs', vs = v :: vs' ∧ Rel K ρ B H w v ∧ Rels K ρ B H ws vs' := by
  cases vs with
  | nil => have := t.1; simp at this
  | cons v vs' => exact ⟨v, vs', rfl, t.head, t.tail⟩
theorem Rels.get (t : Rels K ρ B H ws vs) {i : Nat} (h : ws[i]? = some w) : ∃ v, vs[i]? = some v ∧ Rel K ρ B H w v := by
  have hi : i < vs.length := by
    rw [← t.1]
    exact (List.getElem?_eq_some_iff.mp h).1
  exact ⟨vs[i], by simp [hi], t.2 i w _ h (by simp [hi])⟩
theorem Rels.of_get (hl : ws.length = vs.length) (h : ∀ (i : Nat) (w : W) (v : V), ws[i]? = some w → vs[i]? = some v → Rel K ρ B H w v) : Rels K ρ B H ws vs := ⟨hl, h⟩
theorem Rels.append (t : Rels K ρ B H ws vs) (t' : Rels K ρ B H ws' vs') : Rels K ρ B H (ws ++ ws') (vs ++ vs') := by
  refine ⟨by simp [t.1, t'.1], fun i w v h1 h2 => ?_⟩
  by_cases hi : i < ws.length
  · rw [List.getElem?_append_left hi] at h1
    rw [List.getElem?_append_left (by rw [← t.1]; exact hi)] at h2
    exact t.2 i w v h1 h2
  · rw [List.getElem?_append_right (by omega)] at h1
    rw [List.getElem?_append_right (by rw [← t.1]; omega), ← t.1] at h2
    exact t'.2 _ w v h1 h2
theorem Rels.snoc (t : Rels K ρ B H ws vs) (h : Rel K ρ B H w v) : Rels K ρ B H (ws ++ [w]) (vs ++ [v]) := t.append (.cons h .nil)
theorem Rels.take (t : Rels K ρ B H ws vs) (n : Nat) : Rels K ρ B H (ws.take n) (vs.take n) := by
  refine ⟨by simp [t.1], fun i w v h1 h2 => ?_⟩
  rw [List.getElem?_take] at h1 h2
  split at h1
  · rename_i hi
    rw [if_pos hi] at h2
    exact t.2 i w v h1 h2
  · cases h1
theorem Rels.drop (t : Rels K ρ B H ws vs) (n : Nat) : Rels K ρ B H (ws.drop n) (vs.drop n) := by
  refine ⟨by simp [t.1], fun i w v h1 h2 => ?_⟩
  rw [List.getElem?_drop] at h1 h2
  exact t.2 _ w v h1 h2
theorem Rels.set (t : Rels K ρ B H ws vs) (h : Rel K ρ B H w v) (n : Nat) : Rels K ρ B H (ws.set n w) (vs.set n v) := by
  refine ⟨by simp [t.1], fun i w' v' h1 h2 => ?_⟩
  rw [List.getElem?_set] at h1 h2
  by_cases hi : n = i
  · rw [if_pos hi] at h1 h2
    rw [← t.1] at h2
    split at h1
    · rename_i hl
      rw [if_pos hl] at h2
      cases h1; cases h2; exact h
    · cases h1
  · rw [if_neg hi] at h1 h2
    exact t.2 i w' v' h1 h2
/-- a related value stays related -/
theorem Rel.stay (h : Rel K ρ B H w v) (hρ : ∀ (n : Nat) (a : Addr), ρ[n]? = some a → ρ'[n]? = some a) (hT : ∀ a u, Stf u → H a = some u → H' a = some u) (hL : ∀ a vs, H a = some (.lst vs) → ¬ B a → H' a = some (.lst vs) ∧ ¬ B' a) : Rel K ρ' B' H' w v := by
  induction h with
  | non => exact .non
  | bl b => exact .bl b
  | int i => exact .int i
  | str s => exact .str s
  | tup hs hl _ ih =>
    refine .tup ?_ hl ih
    rcases hs with (hs | ⟨o, hs⟩) | hs
    · exact .inl (.inl (hT _ _ trivial hs))
    · exact .inl (.inr ⟨o, hT _ _ trivial hs⟩)
    · exact .inr hs
  | fro hs hl _ ih =>
    refine .fro ?_ hl ih
    rcases hs with ⟨o, hs⟩ | hs
    · exact .inl ⟨o, hT _ _ trivial hs⟩
    · exact .inr hs
  | lst hs hb hl _ ih =>
    obtain ⟨h1, h2⟩ := hL _ _ hs hb
    exact .lst h1 h2 hl ih
  | ref hr => exact .ref (hρ _ _ hr)
theorem Rels.stay (h : Rels K ρ B H ws vs) (hρ : ∀ (n : Nat) (a : Addr), ρ[n]? = some a → ρ'[n]? = some a) (hT : ∀ a u, Stf u → H a = some u → H' a = some u) (hL : ∀ a vs, H a = some (.lst vs) → ¬ B a → H' a = some (.lst vs) ∧ ¬ B' a) : Rels K ρ' B' H' ws vs :=
  ⟨h.1, fun i w v h1 h2 => (h.2 i w v h1 h2).stay hρ hT hL⟩
end

/-- the live objects' addresses -/
def Lv (ρ : List Addr) (S : Sto) : Ban := fun a => ∃ (n : Nat) (o : SO), S[n]? = some o ∧ o.alive = true ∧ ρ[n]? = some a
def Bn (B0 : Ban) (ρ : List Addr) (S : Sto) : Ban := fun a => B0 a ∨ Lv ρ S a

/-- what stands at a for an object of the store -/
def OR (K : PySem.W.Frag) (mg : Str → Option Value) (ρ : List Addr) (B : Ban) (H : Hp) (a : Addr) : SO → Prop
  | .dead => H a ≠ none
  | .lst ws => ∃ vs, H a = some (.lst vs) ∧ Rels K ρ B H ws vs
  | .ro ws => ∃ vs, Rd H a (.lst vs) ∧ Rels K ρ B H ws vs
  | .dict kvs => ∃ kvs', H a = some (.dK kvs') ∧ kvs'.map (·.1) = kvs.map (·.1) ∧ Rels K ρ B H (kvs.map (·.2)) (kvs'.map (·.2))
  | .ins c fs => ∃ C dx fs', H a = some (.ins C dx fs') ∧ mg c = some (.ref C) ∧ fs'.map (·.1) = fs.map (·.1) ∧ Rels K ρ B H (fs.map (·.2)) (fs'.map (·.2))
structure SR (K : PySem.W.Frag) (mg : Str → Option Value) (ρ : List Addr) (S : Sto) (B0 : Ban) (H : Hp) : Prop where
  len : ρ.length = S.length
  nd : ρ.Nodup
  obj : ∀ (n : Nat) (o : SO) (a : Addr), S[n]? = some o → ρ[n]? = some a → OR K mg ρ (Bn B0 ρ S) H a o
  ban : ∀ a, B0 a → H a ≠ none
  sep : ∀ (n : Nat) (o : SO) (a : Addr), S[n]? = some o → o.alive = true → ρ[n]? = some a → ¬ B0 a
structure Ext (ρ : List Addr) (S : Sto) (H : Hp) (ρ' : List Addr) (S' : Sto) (H' : Hp) : Prop where
  pre : ∀ (n : Nat) (a : Addr), ρ[n]? = some a → ρ'[n]? = some a
  keep : ∀ a o, H a = some o → ¬ Lv ρ S a → H' a = some o
  live : ∀ a, Lv ρ' S' a → H a ≠ none → Lv ρ S a
  there : ∀ a, H a ≠ none → H' a ≠ none
  nw : ∀ a, a ∈ ρ' → a ∈ ρ ∨ H a = none
section
variable {K : PySem.W.Frag} {mg : Str → Option Value} {ρ ρ' ρ'' : List Addr} {S S' S'' : Sto} {B0 : Ban} {H H' H'' : Hp} {w : W} {v : V} {ws : List W} {vs : List V}
theorem Ext.refl : Ext ρ S H ρ S H := ⟨fun _ _ h => h, fun _ _ h _ => h, fun _ h _ => h, fun _ h => h, fun _ h => .inl h⟩
theorem Ext.trans (e : Ext ρ S H ρ' S' H') (f : Ext ρ' S' H' ρ'' S'' H'') : Ext ρ S H ρ'' S'' H'' where
  pre := fun n a h => f.pre n a (e.pre n a h)
  keep := fun a o h l => f.keep a o (e.keep a o h l) fun l' => l (e.live a l' (by rw [h]; simp))
  live := fun a l h => e.live a (f.live a l (e.there a h)) h
  there := fun a h => f.there a (e.there a h)
  nw := fun a h => (f.nw a h).elim (fun h => e.nw a h) fun h => .inr (by
    cases q : H a with
    | none => rfl
    | some o => exact absurd h (e.there a (by rw [q]; simp)))
theorem SR.live_obj (r : SR K mg ρ S B0 H) {a : Addr} (l : Lv ρ S a) : (∃ vs, H a = some (.lst vs)) ∨ (∃ kvs, H a = some (.dK kvs)) ∨ (∃ C dx fs, H a = some (.ins C dx fs)) := by
  obtain ⟨n, o, h1, h2, h3⟩ := l
  have q := r.obj n o a h1 h3
  cases o with
  | dead => cases h2
  | lst ws => obtain ⟨vs, e, _⟩ := q; exact .inl ⟨vs, e⟩
  | ro ws => cases h2
  | dict kvs => obtain ⟨k, e, _⟩ := q; exact .inr (.inl ⟨k, e⟩)
  | ins c fs => obtain ⟨C, dx, f, e, _⟩ := q; exact .inr (.inr ⟨C, dx, f, e⟩)
theorem SR.live_some (r : SR K mg ρ S B0 H) {a : Addr} (l : Lv ρ S a) : H a ≠ none := by
  rcases r.live_obj l with ⟨_, e⟩ | ⟨_, e⟩ | ⟨_, _, _, e⟩ <;> rw [e] <;> simp
theorem SR.ban_some (r : SR K mg ρ S B0 H) {a : Addr} (l : Bn B0 ρ S a) : H a ≠ none := by
  rcases l with l | l
  · exact r.ban a l
  · exact r.live_some l
theorem SR.tup_stays (r : SR K mg ρ S B0 H) (e : Ext ρ S H ρ' S' H') {a : Addr} {vs : List V} (h : Rd H a (.tup vs)) : Rd H' a (.tup vs) := by
  have nl : ¬ Lv ρ S a := fun l => by
    rcases r.live_obj l with ⟨_, q⟩ | ⟨_, q⟩ | ⟨_, _, _, q⟩ <;> (rcases h with h | ⟨_, h⟩ <;> (rw [h] at q; cases q))
  rcases h with h | ⟨o, h⟩
  · exact .inl (e.keep _ _ h nl)
  · exact .inr ⟨o, e.keep _ _ h nl⟩
theorem SR.stf_stays (r : SR K mg ρ S B0 H) (e : Ext ρ S H ρ' S' H') {a : Addr} {u : HO} (hu : Stf u) (h : H a = some u) : H' a = some u :=
  e.keep _ _ h fun l => by
    rcases r.live_obj l with ⟨_, q⟩ | ⟨_, q⟩ | ⟨_, _, _, q⟩ <;> (rw [q] at h; cases h; cases hu)
theorem rd_keep {a : Addr} {u : HO} (e : Ext ρ S H ρ' S' H') (h : Rd H a u) (nl : ¬ Lv ρ S a) : Rd H' a u := by
  rcases h with h | ⟨o, h⟩
  · exact .inl (e.keep _ _ h nl)
  · exact .inr ⟨o, e.keep _ _ h nl⟩
theorem rd_some {a : Addr} {u : HO} (h : Rd H a u) : H a ≠ none := by
  rcases h with h | ⟨o, h⟩ <;> rw [h] <;> simp
theorem SR.lst_stays (e : Ext ρ S H ρ' S' H') {a : Addr} {vs : List V} (h : H a = some (.lst vs)) (nb : ¬ Bn B0 ρ S a) : H' a = some (.lst vs) ∧ ¬ Bn B0 ρ' S' a := by
  refine ⟨e.keep _ _ h fun l => nb (.inr l), fun b => ?_⟩
  rcases b with b | b
  · exact nb (.inl b)
  · exact nb (.inr (e.live a b (by rw [h]; simp)))
theorem Rel.ext (h : Rel K ρ (Bn B0 ρ S) H w v) (r : SR K mg ρ S B0 H) (e : Ext ρ S H ρ' S' H') : Rel K ρ' (Bn B0 ρ' S') H' w v :=
  h.stay e.pre (fun _ _ hu q => r.stf_stays e hu q) fun _ _ q nb => SR.lst_stays e q nb
theorem Rels.ext (h : Rels K ρ (Bn B0 ρ S) H ws vs) (r : SR K mg ρ S B0 H) (e : Ext ρ S H ρ' S' H') : Rels K ρ' (Bn B0 ρ' S') H' ws vs :=
  h.stay e.pre (fun _ _ hu q => r.stf_stays e hu q) fun _ _ q nb => SR.lst_stays e q nb
end

/-! ### slots -/
def ER (K : PySem.W.Frag) (ρ : List Addr) (B : Ban) (H : Hp) (env : Env) (σ : St) : Prop :=
  env.length = σ.length ∧ ∀ (i : Nat) (w : W), env[i]? = some (some w) → ∃ v, σ[i]? = some (some v) ∧ Rel K ρ B H w v
section
variable {K : PySem.W.Frag} {mg : Str → Option Value} {ρ ρ' : List Addr} {S S' : Sto} {B0 B : Ban} {H H' : Hp} {w : W} {v : V} {env : Env} {σ : St}
theorem ER.ext (h : ER K ρ (Bn B0 ρ S) H env σ) (r : SR K mg ρ S B0 H) (e : Ext ρ S H ρ' S' H') : ER K ρ' (Bn B0 ρ' S') H' env σ :=
  ⟨h.1, fun i w q => by obtain ⟨v, q1, q2⟩ := h.2 i w q; exact ⟨v, q1, q2.ext r e⟩⟩
theorem ER.set (h : ER K ρ B H env σ) (r : Rel K ρ B H w v) (i : Nat) : ER K ρ B H (env.set i (some w)) (σ.set i (some v)) := by
  refine ⟨by simp [h.1], fun j w' q => ?_⟩
  rw [List.getElem?_set] at q
  rw [List.getElem?_set]
  by_cases hi : i = j
  · rw [if_pos hi] at q ⊢
    split at q
    · rename_i hl
      rw [if_pos (by rw [← h.1]; exact hl)]
      cases q
      exact ⟨v, rfl, r⟩
    · cases q
  · rw [if_neg hi] at q ⊢
    exact h.2 j w' q
end

/-! ### readings that follow a mirror -/
/-- what is wanted of an outcome a, S' reached from (B0, ρ, S, H) -/
abbrev GP (α : Type) := Ban → List Addr → Sto → Hp → α → Sto → Prop
/-- a value, or a list just made -/
inductive FW where
  | val (w : W) | new (ws : List W)
section
variable (K : PySem.W.Frag) (mg : Str → Option Value)
def OkX (B0 : Ban) (ρ : List Addr) (S : Sto) (H : Hp) (X : Value → Hp → Prop) (c : Str) (S' : Sto) : Prop :=
  ∀ ρ' H' C, Ext ρ S H ρ' S' H' → SR K mg ρ' S' B0 H' → mg c = some (.ref C) → X (.ref C) H'
def End {α : Type} (X : Value → Hp → Prop) (g : GP α) (B0 : Ban) (ρ : List Addr) (S : Sto) (H : Hp) : Out α → Prop
  | .ok a S' => g B0 ρ S H a S'
  | .exc c S' => OkX K mg B0 ρ S H X c S'
  | .fail => False
def gE (Q : VK) : GP W := fun B0 ρ S H w S' => ∀ ρ' H' v, Ext ρ S H ρ' S' H' → SR K mg ρ' S' B0 H' → Rel K ρ' (Bn B0 ρ' S') H' w v → Q v H'
def gN (Q : VK) : GP (List W) := fun B0 ρ S H ws S' => ∀ ρ' H' vs p, Ext ρ S H ρ' S' H' → SR K mg ρ' S' (fun a => B0 a ∨ a = p) H' → H p = none → H' p = some (.lst vs) → p ∉ ρ' → ¬ B0 p → Rels K ρ' (Bn (fun a => B0 a ∨ a = p) ρ' S') H' ws vs → Q (.ref p) H'
def gF (Q : VK) : GP FW := fun B0 ρ S H w S' => match w with
  | .val w => gE K mg Q B0 ρ S H w S'
  | .new ws => gN K mg Q B0 ρ S H ws S'
def gA (Q : List V → Hp → Prop) : GP (List W) := fun B0 ρ S H ws S' => ∀ ρ' H' vs, Ext ρ S H ρ' S' H' → SR K mg ρ' S' B0 H' → Rels K ρ' (Bn B0 ρ' S') H' ws vs → Q vs H'
def gT (Q : Bool → Hp → Prop) : GP Bool := fun B0 ρ S H b S' => ∀ ρ' H', Ext ρ S H ρ' S' H' → SR K mg ρ' S' B0 H' → Q b H'
def Tg {α : Type} (Wx : WX) (m : Env → Sto → Out α) (σ : L2.St) (H : Hp) (g : GP α) : Prop :=
  ∃ B0 ρ env S, SR K mg ρ S B0 H ∧ ER K ρ (Bn B0 ρ S) H env σ ∧ End K mg (fun c H' => Wx c none σ H') g B0 ρ S H (m env S)
abbrev TEm (Wx : WX) (m : Env → Sto → Out W) : TE := fun σ H Q => Tg K mg Wx m σ H (gE K mg Q)
abbrev TFm (Wx : WX) (m : Env → Sto → Out FW) : TE := fun σ H Q => Tg K mg Wx m σ H (gF K mg Q)
abbrev TAm (Wx : WX) (m : Env → Sto → Out (List W)) : TA := fun σ H Q => Tg K mg Wx m σ H (gA K mg Q)
abbrev TTm (Wx : WX) (m : Env → Sto → Out Bool) : TT := fun σ H Q => Tg K mg Wx m σ H (gT K mg Q)
/-- statements -/
def OkS (B0 : Ban) (ρ : List Addr) (S : Sto) (H : Hp) (Q : L2.St → Hp → Prop) (e : Env) (S' : Sto) : Prop :=
  ∀ ρ' H' σ', Ext ρ S H ρ' S' H' → SR K mg ρ' S' B0 H' → ER K ρ' (Bn B0 ρ' S') H' e σ' → Q σ' H'
def EndS (Wx : WX) (D : Ends) (B0 : Ban) (ρ : List Addr) (S : Sto) (H : Hp) : OutS → Prop
  | .next e S' => OkS K mg B0 ρ S H D.nx e S'
  | .brk e S' => OkS K mg B0 ρ S H D.bk e S'
  | .cont e S' => OkS K mg B0 ρ S H D.ct e S'
  | .ret w S' => gE K mg D.rt B0 ρ S H w S'
  | .exc c e S' => ∀ ρ' H' σ' C, Ext ρ S H ρ' S' H' → SR K mg ρ' S' B0 H' → ER K ρ' (Bn B0 ρ' S') H' e σ' → mg c = some (.ref C) → Wx (.ref C) none σ' H'
  | .fail => False
def TSm (Wx : WX) (m : Env → Sto → OutS) : TS := fun D σ H =>
  ∃ B0 ρ env S, SR K mg ρ S B0 H ∧ ER K ρ (Bn B0 ρ S) H env σ ∧ EndS K mg Wx D B0 ρ S H (m env S)
end

/-! ### from a later point -/
section
variable {K : PySem.W.Frag} {mg : Str → Option Value} {ρ ρ' : List Addr} {S S' : Sto} {B0 B : Ban} {H H' : Hp} {X : Value → Hp → Prop} {Wx : WX} {D : Ends}
theorem Ext.fresh {p : Addr} (e : Ext ρ S H ρ' S' H') (h : H' p = none) : H p = none := by
  cases q : H p with
  | none => rfl
  | some o => exact absurd h (e.there p (by rw [q]; simp))
structure Lat {α : Type} (g : GP α) : Prop where
  to : ∀ (B0 : Ban) (ρ : List Addr) (S : Sto) (H : Hp) (ρ' : List Addr) (S' : Sto) (H' : Hp) (a : α) (S1 : Sto), Ext ρ S H ρ' S' H' → g B0 ρ S H a S1 → g B0 ρ' S' H' a S1
theorem lat_gE {Q : VK} : Lat (gE K mg Q) := ⟨fun _ _ _ _ _ _ _ _ _ e h ρ2 H2 v f r q => h ρ2 H2 v (e.trans f) r q⟩
theorem lat_gN {Q : VK} : Lat (gN K mg Q) := ⟨fun _ _ _ _ _ _ _ _ _ e h ρ2 H2 vs p f r q1 q2 q3 q4 q5 => h ρ2 H2 vs p (e.trans f) r (e.fresh q1) q2 q3 q4 q5⟩
theorem lat_gF {Q : VK} : Lat (gF K mg Q) := ⟨fun B0 ρ S H ρ' S' H' a S1 e h => by
  cases a with
  | val w => exact (lat_gE (Q := Q)).to _ _ _ _ _ _ _ _ _ e h
  | new ws => exact (lat_gN (Q := Q)).to _ _ _ _ _ _ _ _ _ e h⟩
theorem lat_gA {Q : List V → Hp → Prop} : Lat (gA K mg Q) := ⟨fun _ _ _ _ _ _ _ _ _ e h ρ2 H2 vs f r q => h ρ2 H2 vs (e.trans f) r q⟩
theorem lat_gT {Q : Bool → Hp → Prop} : Lat (gT K mg Q) := ⟨fun _ _ _ _ _ _ _ _ _ e h ρ2 H2 f r => h ρ2 H2 (e.trans f) r⟩
theorem OkX.later {c : Str} {S1 : Sto} (e : Ext ρ S H ρ' S' H') (h : OkX K mg B0 ρ S H X c S1) : OkX K mg B0 ρ' S' H' X c S1 := fun ρ2 H2 C f r q => h ρ2 H2 C (e.trans f) r q
theorem End.later {α : Type} {g : GP α} {o : Out α} (l : Lat g) (e : Ext ρ S H ρ' S' H') (h : End K mg X g B0 ρ S H o) : End K mg X g B0 ρ' S' H' o := by
  cases o with
  | ok w S1 => exact l.to _ _ _ _ _ _ _ _ _ e h
  | exc c S1 => exact OkX.later e h
  | fail => exact h
theorem OkS.later {Q : L2.St → Hp → Prop} {en : Env} {S1 : Sto} (e : Ext ρ S H ρ' S' H') (h : OkS K mg B0 ρ S H Q en S1) : OkS K mg B0 ρ' S' H' Q en S1 := fun ρ2 H2 σ f r q => h ρ2 H2 σ (e.trans f) r q
theorem EndS.later {o : OutS} (e : Ext ρ S H ρ' S' H') (h : EndS K mg Wx D B0 ρ S H o) : EndS K mg Wx D B0 ρ' S' H' o := by
  cases o with
  | next en S1 => exact OkS.later e h
  | brk en S1 => exact OkS.later e h
  | cont en S1 => exact OkS.later e h
  | ret w S1 => exact lat_gE.to _ _ _ _ _ _ _ _ _ e h
  | exc c en S1 => exact fun ρ2 H2 σ C f r q => h ρ2 H2 σ C (e.trans f) r q
  | fail => exact h
/-- the first of two steps -/
theorem End.bind {α β : Type} {m : Out α} {k : α → Sto → Out β} {g : GP β} {ga : GP α} (h : End K mg X g B0 ρ S H (m.bind k)) (hk : ∀ a S1, End K mg X g B0 ρ S H (k a S1) → ga B0 ρ S H a S1) : End K mg X ga B0 ρ S H m := by
  cases m with
  | ok w S1 => exact hk w S1 h
  | exc c S1 => exact h
  | fail => exact h
theorem End.bindE {β : Type} {m : Out W} {k : W → Sto → Out β} {g : GP β} {P : VK} (l : Lat g) (h : End K mg X g B0 ρ S H (m.bind k))
    (hk : ∀ w S1 ρ1 H1 v, Ext ρ S H ρ1 S1 H1 → SR K mg ρ1 S1 B0 H1 → Rel K ρ1 (Bn B0 ρ1 S1) H1 w v → End K mg X g B0 ρ1 S1 H1 (k w S1) → P v H1) : End K mg X (gE K mg P) B0 ρ S H m :=
  h.bind fun w S1 h1 ρ1 H1 v e r q => hk w S1 ρ1 H1 v e r q (h1.later l e)
theorem End.bindA {β : Type} {m : Out (List W)} {k : List W → Sto → Out β} {g : GP β} {P : List V → Hp → Prop} (l : Lat g) (h : End K mg X g B0 ρ S H (m.bind k))
    (hk : ∀ ws S1 ρ1 H1 vs, Ext ρ S H ρ1 S1 H1 → SR K mg ρ1 S1 B0 H1 → Rels K ρ1 (Bn B0 ρ1 S1) H1 ws vs → End K mg X g B0 ρ1 S1 H1 (k ws S1) → P vs H1) : End K mg X (gA K mg P) B0 ρ S H m :=
  h.bind fun w S1 h1 ρ1 H1 v e r q => hk w S1 ρ1 H1 v e r q (h1.later l e)
theorem End.bindT {β : Type} {m : Out Bool} {k : Bool → Sto → Out β} {g : GP β} {P : Bool → Hp → Prop} (l : Lat g) (h : End K mg X g B0 ρ S H (m.bind k))
    (hk : ∀ b S1 ρ1 H1, Ext ρ S H ρ1 S1 H1 → SR K mg ρ1 S1 B0 H1 → End K mg X g B0 ρ1 S1 H1 (k b S1) → P b H1) : End K mg X (gT K mg P) B0 ρ S H m :=
  h.bind fun w S1 h1 ρ1 H1 e r => hk w S1 ρ1 H1 e r (h1.later l e)
/-- .. ahead of a statement's end -/
def Out.bindS {α : Type} (o : Out α) (env : Env) (k : α → Sto → OutS) : OutS := match o with
  | .ok a S => k a S
  | .exc c S => .exc c env S
  | .fail => .fail
theorem EndS.bind {α : Type} {m : Out α} {k : α → Sto → OutS} {ga : GP α} {env : Env} {σ : L2.St} (r : SR K mg ρ S B0 H) (er : ER K ρ (Bn B0 ρ S) H env σ) (h : EndS K mg Wx D B0 ρ S H (m.bindS env k)) (hk : ∀ a S1, EndS K mg Wx D B0 ρ S H (k a S1) → ga B0 ρ S H a S1) :
    End K mg (fun c H' => Wx c none σ H') ga B0 ρ S H m := by
  cases m with
  | ok w S1 => exact hk w S1 h
  | exc c S1 => exact fun ρ1 H1 C e r1 q => h ρ1 H1 σ C e r1 (er.ext r e) q
  | fail => exact h
theorem EndS.bindE {m : Out W} {k : W → Sto → OutS} {P : VK} {env : Env} {σ : L2.St} (r : SR K mg ρ S B0 H) (er : ER K ρ (Bn B0 ρ S) H env σ) (h : EndS K mg Wx D B0 ρ S H (m.bindS env k))
    (hk : ∀ w S1 ρ1 H1 v, Ext ρ S H ρ1 S1 H1 → SR K mg ρ1 S1 B0 H1 → Rel K ρ1 (Bn B0 ρ1 S1) H1 w v → EndS K mg Wx D B0 ρ1 S1 H1 (k w S1) → P v H1) : End K mg (fun c H' => Wx c none σ H') (gE K mg P) B0 ρ S H m :=
  EndS.bind r er h fun w S1 h1 ρ1 H1 v e r q => hk w S1 ρ1 H1 v e r q (h1.later e)
theorem EndS.bindA {m : Out (List W)} {k : List W → Sto → OutS} {P : List V → Hp → Prop} {env : Env} {σ : L2.St} (r : SR K mg ρ S B0 H) (er : ER K ρ (Bn B0 ρ S) H env σ) (h : EndS K mg Wx D B0 ρ S H (m.bindS env k))
    (hk : ∀ ws S1 ρ1 H1 vs, Ext ρ S H ρ1 S1 H1 → SR K mg ρ1 S1 B0 H1 → Rels K ρ1 (Bn B0 ρ1 S1) H1 ws vs → EndS K mg Wx D B0 ρ1 S1 H1 (k ws S1) → P vs H1) : End K mg (fun c H' => Wx c none σ H') (gA K mg P) B0 ρ S H m :=
  EndS.bind r er h fun w S1 h1 ρ1 H1 v e r q => hk w S1 ρ1 H1 v e r q (h1.later e)
theorem EndS.bindT {m : Out Bool} {k : Bool → Sto → OutS} {P : Bool → Hp → Prop} {env : Env} {σ : L2.St} (r : SR K mg ρ S B0 H) (er : ER K ρ (Bn B0 ρ S) H env σ) (h : EndS K mg Wx D B0 ρ S H (m.bindS env k))
    (hk : ∀ b S1 ρ1 H1, Ext ρ S H ρ1 S1 H1 → SR K mg ρ1 S1 B0 H1 → EndS K mg Wx D B0 ρ1 S1 H1 (k b S1) → P b H1) : End K mg (fun c H' => Wx c none σ H') (gT K mg P) B0 ρ S H m :=
  EndS.bind r er h fun w S1 h1 ρ1 H1 e r => hk w S1 ρ1 H1 e r (h1.later e)
end

/-! ### a reading that asks more -/
section
variable {X : Cx}
theorem pe_imp {e : Expr} {t t' : TE} (h : PE X e t) (i : ∀ σ H Q, t' σ H Q → t σ H Q) : PE X e t' := ⟨fun pins s σ H Q I w => h.run pins s σ H Q I (i σ H Q w)⟩
theorem pt_imp {e : Expr} {t t' : TT} (h : PT X e t) (i : ∀ σ H Q, t' σ H Q → t σ H Q) : PT X e t' := ⟨fun pins s σ H Q I w => h.run pins s σ H Q I (i σ H Q w)⟩
theorem pw_imp {e : Expr} {t t' : TT} (h : PW X e t) (i : ∀ σ H Q, t' σ H Q → t σ H Q) : PW X e t' := ⟨fun wh pins s σ H Q I w => h.run wh pins s σ H Q I (i σ H Q w)⟩
theorem pa_imp {e : List Expr} {t t' : TA} (h : PA X e t) (i : ∀ σ H Q, t' σ H Q → t σ H Q) : PA X e t' := ⟨fun pos pins s σ H Q I w => h.run pos pins s σ H Q I (i σ H Q w)⟩
theorem pk_imp {e : List Keyword} {t t' : TA} (h : PK X e t) (i : ∀ σ H Q, t' σ H Q → t σ H Q) : PK X e t' := ⟨fun pos pins s σ H Q I w => h.run pos pins s σ H Q I (i σ H Q w)⟩
theorem ps_imp {e : Stmt} {t t' : TS} (h : PS X e t) (i : ∀ D σ H, t' D σ H → t D σ H) : PS X e t' := ⟨fun pins s σ H D I w => h.run pins s σ H D I (i D σ H w)⟩
theorem pss_imp {e : List Stmt} {t t' : TS} (h : PSs X e t) (i : ∀ D σ H, t' D σ H → t D σ H) : PSs X e t' := ⟨fun pins s σ H D I w => h.run pins s σ H D I (i D σ H w)⟩
end

/-! ### names, constants, made lists -/
section
variable {X : Cx} {Wx : WX}
def mVar (i : Nat) : Env → Sto → Out W := fun env S => match env[i]? with
  | some (some w) => .ok w S
  | _ => .fail
theorem me_var (i : Nat) {x : Str} {pos : Pos} (hN : X.N[i]? = some x := by rfl) (hv : Vis X.env.scope x := by first | exact Or.inl rfl | exact Or.inr (Or.inl rfl) | exact Or.inr (Or.inr rfl)) (hd : (x == ("__debug__" : Str)) = false := by decide)
    (hcd : (x == ("__classdict__" : Str)) = false := by decide) : PE X (.Name x pos) (TEm X.K X.mg Wx (mVar i)) := by
  refine pe_imp (pe_var (i := i) hN hv hd hcd) fun σ H Q ⟨B0, ρ, env, S, r, er, h⟩ => ?_
  unfold mVar at h
  cases q : env[i]? with
  | none => rw [q] at h; exact h.elim
  | some o =>
    cases o with
    | none => rw [q] at h; exact h.elim
    | some w =>
      rw [q] at h
      obtain ⟨v, h1, h2⟩ := er.2 i w q
      exact ⟨v, h1, h ρ H v .refl r h2⟩
def mC (w : W) : Env → Sto → Out W := fun _ S => .ok w S
theorem tc_imp {w : W} {v : V} (hr : ∀ ρ B H, Rel X.K ρ B H w v) {σ : L2.St} {H : Hp} {Q : VK} (h : TEm X.K X.mg Wx (mC w) σ H Q) : tC v σ H Q := by
  obtain ⟨B0, ρ, env, S, r, er, h⟩ := h
  exact h ρ H v .refl r (hr _ _ _)
theorem me_int {i j pos} : PE X (.Constant (.int i) j pos) (TEm X.K X.mg Wx (mC (.int i))) := pe_imp pe_int fun _ _ _ => tc_imp fun _ _ _ => .int i
theorem me_bl {b j pos} : PE X (.Constant (.bool b) j pos) (TEm X.K X.mg Wx (mC (.bl b))) := pe_imp pe_bl fun _ _ _ => tc_imp fun _ _ _ => .bl b
theorem me_non {j pos} : PE X (.Constant .none j pos) (TEm X.K X.mg Wx (mC .non)) := pe_imp pe_non fun _ _ _ => tc_imp fun _ _ _ => .non
theorem rel_str {K : PySem.W.Frag} {ρ : List Addr} {B : Ban} {H : Hp} {x : Str} {s : List Nat} (e : x = ⟨s.toArray⟩) : Rel K ρ B H (.str s) (.str x) := by
  subst e; exact .str s
theorem me_str {x : Str} {s : List Nat} {j pos} (e : x = ⟨s.toArray⟩) : PE X (.Constant (.str x) j pos) (TEm X.K X.mg Wx (mC (.str s))) := pe_imp pe_str fun _ _ _ => tc_imp fun _ _ _ => rel_str e
/-- a module's constant: an int, a text -/
theorem me_gint {x : Str} {i : Int} {t : Tok} {pos : Pos} (hg : Gl X x) (hm : X.mg x = some (.int i t)) (hd : (x == ("__debug__" : Str)) = false := by decide) : PE X (.Name x pos) (TEm X.K X.mg Wx (mC (.int i))) :=
  pe_imp (pe_glob (v := .int i) hg hm ⟨t, rfl⟩ hd) fun _ _ _ => tc_imp fun _ _ _ => .int i
theorem me_gstr {x y : Str} {s : List Nat} {t : Tok} {pos : Pos} (hg : Gl X x) (hm : X.mg x = some (.str y t)) (e : y = ⟨s.toArray⟩) (hd : (x == ("__debug__" : Str)) = false := by decide) : PE X (.Name x pos) (TEm X.K X.mg Wx (mC (.str s))) :=
  pe_imp (pe_glob (v := .str y) hg hm ⟨t, rfl⟩ hd) fun _ _ _ => tc_imp fun _ _ _ => rel_str e
/-- a made list as a value; as an object of the store -/
def mVal (m : Env → Sto → Out FW) : Env → Sto → Out W := fun env S => (m env S).bind fun w S1 => match w with
  | .val w => .ok w S1
  | .new ws => .ok (.lst ws) S1
def mNew (m : Env → Sto → Out FW) : Env → Sto → Out W := fun env S => (m env S).bind fun w S1 => match w with
  | .val w => .ok w S1
  | .new ws => .ok (.ref S1.length) (S1 ++ [.lst ws])
section
variable {K : PySem.W.Frag} {mg : Str → Option Value} {ρ ρ' : List Addr} {S S' : Sto} {B0 B B' : Ban} {H H' : Hp} {w : W} {v : V} {ws : List W} {vs : List V} {p : Addr}
/-- a smaller ban -/
theorem Rel.less (h : Rel K ρ B H w v) (hb : ∀ a, B' a → B a) : Rel K ρ B' H w v := h.stay (fun _ _ q => q) (fun _ _ _ q => q) fun a vs q nb => ⟨q, fun b => nb (hb a b)⟩
theorem Rels.less (h : Rels K ρ B H ws vs) (hb : ∀ a, B' a → B a) : Rels K ρ B' H ws vs := h.stay (fun _ _ q => q) (fun _ _ _ q => q) fun a vs q nb => ⟨q, fun b => nb (hb a b)⟩
theorem OR.less {a : Addr} {o : SO} (h : OR K mg ρ B H a o) (hb : ∀ a, B' a → B a) : OR K mg ρ B' H a o := by
  cases o with
  | dead => exact h
  | lst ws => obtain ⟨vs, h1, h2⟩ := h; exact ⟨vs, h1, h2.less hb⟩
  | ro ws => obtain ⟨vs, h1, h2⟩ := h; exact ⟨vs, h1, h2.less hb⟩
  | dict kvs => obtain ⟨k, h1, h2, h3⟩ := h; exact ⟨k, h1, h2, h3.less hb⟩
  | ins c fs => obtain ⟨C, dx, f, h1, h2, h3, h4⟩ := h; exact ⟨C, dx, f, h1, h2, h3, h4.less hb⟩
theorem bn_less {B0' : Ban} (hb : ∀ a, B0' a → B0 a) : ∀ a, Bn B0' ρ S a → Bn B0 ρ S a := fun a b => b.elim (fun b => .inl (hb a b)) .inr
theorem SR.less {B0' : Ban} (r : SR K mg ρ S B0 H) (hb : ∀ a, B0' a → B0 a) : SR K mg ρ S B0' H :=
  ⟨r.len, r.nd, fun n o a h1 h2 => (r.obj n o a h1 h2).less (bn_less hb), fun a h => r.ban a (hb a h), fun n o a h1 h2 h3 q => r.sep n o a h1 h2 h3 (hb a q)⟩
theorem lv_snoc {o : SO} (hl : ρ.length = S.length) (ho : o.alive = true) (a : Addr) : Lv (ρ ++ [p]) (S ++ [o]) a ↔ Lv ρ S a ∨ a = p := by
  constructor
  · rintro ⟨n, o', h1, h2, h3⟩
    by_cases hn : n < S.length
    · rw [List.getElem?_append_left hn] at h1
      rw [List.getElem?_append_left (by omega)] at h3
      exact .inl ⟨n, o', h1, h2, h3⟩
    · rw [List.getElem?_append_right (by omega)] at h3
      have : n - ρ.length = 0 := by
        have := (List.getElem?_eq_some_iff.mp h3).1
        simp at this; omega
      rw [this] at h3
      simp at h3
      exact .inr h3.symm
  · rintro (⟨n, o', h1, h2, h3⟩ | rfl)
    · exact ⟨n, o', by rw [List.getElem?_append_left (List.getElem?_eq_some_iff.mp h1).1]; exact h1, h2, by rw [List.getElem?_append_left (List.getElem?_eq_some_iff.mp h3).1]; exact h3⟩
    · exact ⟨S.length, o, by simp, ho, by rw [← hl]; simp⟩
theorem get_snoc {α : Type} {l : List α} {x a : α} {n : Nat} (h : (l ++ [x])[n]? = some a) : l[n]? = some a ∨ (n = l.length ∧ a = x) := by
  by_cases hn : n < l.length
  · rw [List.getElem?_append_left hn] at h; exact .inl h
  · rw [List.getElem?_append_right (by omega)] at h
    have : n - l.length = 0 := by
      have := (List.getElem?_eq_some_iff.mp h).1
      simp at this; omega
    rw [this] at h
    simp at h
    exact .inr ⟨by omega, h.symm⟩
theorem Rel.grow (h : Rel K ρ B H w v) : Rel K (ρ ++ [p]) B H w v := h.stay (fun n a q => by rw [List.getElem?_append_left (List.getElem?_eq_some_iff.mp q).1]; exact q) (fun _ _ _ q => q) fun _ _ q nb => ⟨q, nb⟩
theorem Rels.grow (h : Rels K ρ B H ws vs) : Rels K (ρ ++ [p]) B H ws vs := ⟨h.1, fun i w v h1 h2 => (h.2 i w v h1 h2).grow⟩
theorem OR.grow {a : Addr} {o : SO} (h : OR K mg ρ B H a o) : OR K mg (ρ ++ [p]) B H a o := by
  cases o with
  | dead => exact h
  | lst ws => obtain ⟨vs, h1, h2⟩ := h; exact ⟨vs, h1, h2.grow⟩
  | ro ws => obtain ⟨vs, h1, h2⟩ := h; exact ⟨vs, h1, h2.grow⟩
  | dict kvs => obtain ⟨k, h1, h2, h3⟩ := h; exact ⟨k, h1, h2, h3.grow⟩
  | ins c fs => obtain ⟨C, dx, f, h1, h2, h3, h4⟩ := h; exact ⟨C, dx, f, h1, h2, h3, h4.grow⟩
/-- a banned address becomes a live object's -/
theorem SR.adopt {o : SO} (r : SR K mg ρ S (fun a => B0 a ∨ a = p) H) (np : p ∉ ρ) (nb : ¬ B0 p) (ho : o.alive = true) (hor : OR K mg ρ (Bn (fun a => B0 a ∨ a = p) ρ S) H p o) : SR K mg (ρ ++ [p]) (S ++ [o]) B0 H := by
  have hb : ∀ a, Bn B0 (ρ ++ [p]) (S ++ [o]) a → Bn (fun a => B0 a ∨ a = p) ρ S a := fun a b => by
    rcases b with b | b
    · exact .inl (.inl b)
    · rcases (lv_snoc r.len ho a).mp b with b | b
      · exact .inr b
      · exact .inl (.inr b)
  refine ⟨by simp [r.len], ?_, fun n o' a h1 h2 => ?_, fun a h => r.ban a (.inl h), fun n o' a h1 h2 h3 q => ?_⟩
  · rw [List.nodup_append]
    exact ⟨r.nd, by simp, fun a ha b hb => by simp at hb; subst hb; intro e; subst e; exact np ha⟩
  · rcases get_snoc h1 with h1 | ⟨rfl, rfl⟩
    · rcases get_snoc h2 with h2 | ⟨e, rfl⟩
      · exact ((r.obj n o' a h1 h2).less hb).grow
      · have := (List.getElem?_eq_some_iff.mp h1).1
        have := r.len
        omega
    · rcases get_snoc h2 with h2 | ⟨e, rfl⟩
      · have := (List.getElem?_eq_some_iff.mp h2).1
        have := r.len
        omega
      · exact (hor.less hb).grow
  · rcases get_snoc h1 with h1 | ⟨rfl, rfl⟩
    · rcases get_snoc h3 with h3 | ⟨e, rfl⟩
      · exact r.sep n o' a h1 h2 h3 (.inl q)
      · exact nb q
    · rcases get_snoc h3 with h3 | ⟨e, rfl⟩
      · have := (List.getElem?_eq_some_iff.mp h3).1
        have := r.len
        omega
      · exact nb q
theorem Ext.adopt {o : SO} (e : Ext ρ S H ρ' S' H') (hl : ρ'.length = S'.length) (hp : H p = none) (ho : o.alive = true) : Ext ρ S H (ρ' ++ [p]) (S' ++ [o]) H' where
  pre := fun n a h => by
    have := e.pre n a h
    rw [List.getElem?_append_left (List.getElem?_eq_some_iff.mp this).1]; exact this
  keep := e.keep
  live := fun a l h => by
    rcases (lv_snoc hl ho a).mp l with l | rfl
    · exact e.live a l h
    · exact absurd hp h
  there := e.there
  nw := fun a h => by
    rcases List.mem_append.mp h with h | h
    · exact e.nw a h
    · simp at h; subst h; exact .inr hp
end
theorem val_imp {m : Env → Sto → Out FW} : ∀ σ H Q, TEm X.K X.mg Wx (mVal m) σ H Q → TFm X.K X.mg Wx m σ H Q :=
  fun σ H Q ⟨B0, ρ, env, S, r, er, h⟩ => ⟨B0, ρ, env, S, r, er, h.bind fun w S1 h1 => by
    cases w with
    | val w => exact h1
    | new ws =>
      intro ρ1 H1 vs p e1 r1 q1 q2 q3 q4 q5
      have nb : ¬ Bn B0 ρ1 S1 p := fun b => b.elim q4 fun l => by
        obtain ⟨n, o, h1, h2, h3⟩ := l
        exact q3 (List.mem_of_getElem? h3)
      have q6 := q5.less (B' := Bn B0 ρ1 S1) (bn_less fun _ h => .inl h)
      exact h1 ρ1 H1 (.ref p) e1 (r1.less fun _ h => .inl h) (.lst q2 nb q6.1 q6.2)⟩
theorem new_imp {m : Env → Sto → Out FW} : ∀ σ H Q, TEm X.K X.mg Wx (mNew m) σ H Q → TFm X.K X.mg Wx m σ H Q :=
  fun σ H Q ⟨B0, ρ, env, S, r, er, h⟩ => ⟨B0, ρ, env, S, r, er, h.bind fun w S1 h1 => by
    cases w with
    | val w => exact h1
    | new ws =>
      intro ρ1 H1 vs p e1 r1 q1 q2 q3 q4 q5
      exact h1 (ρ1 ++ [p]) H1 (.ref p) (e1.adopt r1.len q1 rfl) (r1.adopt q3 q4 rfl ⟨vs, q2, q5⟩) (.ref (by rw [← r1.len]; simp))⟩
theorem me_val {e : Expr} {m : Env → Sto → Out FW} (h : PE X e (TFm X.K X.mg Wx m)) : PE X e (TEm X.K X.mg Wx (mVal m)) := pe_imp h val_imp
theorem me_new {e : Expr} {m : Env → Sto → Out FW} (h : PE X e (TFm X.K X.mg Wx m)) : PE X e (TEm X.K X.mg Wx (mNew m)) := pe_imp h new_imp
/-- a value where a made list might be -/
def mFv (m : Env → Sto → Out W) : Env → Sto → Out FW := fun env S => (m env S).bind fun w S1 => .ok (.val w) S1
end
end L2.Mi

set_option Elab.async false
set_option linter.all false
set_option maxRecDepth 100000
set_option maxHeartbeats 2000000
/-! # The engine, part B: operators, tests, statements -/
namespace L2.Mi
open PySem PySem.Spec PyProof.Rows
abbrev LINE : Nat := 16777216
theorem line_eq : sizeLine = LINE := sizeLine_eq
/-! ### what a value is read as -/
/-- the items of a list | a list as it stands, to be copied | a tuple's or a list's -/
def lstOf (S : Sto) : W → Option (List W)
  | .lst xs => some xs
  | .fro xs => some xs
  | .ref n => match S[n]? with
    | some (.lst xs) => some xs
    | some (.ro xs) => some xs
    | _ => none
  | _ => none
def lsxOf (S : Sto) : W → Option (List W)
  | .lst xs => some xs
  | .ref n => match S[n]? with
    | some (.lst xs) => some xs
    | _ => none
  | _ => none
def seqOf (S : Sto) : W → Option (List W)
  | .tup xs => some xs
  | w => lstOf S w
section
variable {K : PySem.W.Frag} {mg : Str → Option Value} {ρ ρ' : List Addr} {S S' : Sto} {B0 B B' : Ban} {H H' : Hp} {w x y : W} {v u : V} {ws : List W} {vs : List V} {p : Addr} {Q : VK}
theorem SR.lsx (r : SR K mg ρ S B0 H) (h : Rel K ρ (Bn B0 ρ S) H x v) (e : lsxOf S x = some ws) : ∃ a vs, v = .ref a ∧ H a = some (.lst vs) ∧ Rels K ρ (Bn B0 ρ S) H ws vs := by
  cases h with
  | lst h1 h2 h3 h4 => cases e; exact ⟨_, _, rfl, h1, h3, h4⟩
  | @ref n a h1 =>
    have e' : (match S[n]? with | some (.lst xs) => some xs | _ => none) = some ws := e
    split at e'
    · rename_i xs q2
      cases e'
      obtain ⟨vs, q3, q4⟩ := r.obj _ _ _ q2 h1
      exact ⟨a, vs, rfl, q3, q4⟩
    · cases e'
  | non => cases e
  | bl b => cases e
  | int i => cases e
  | str s => cases e
  | tup h1 h2 h3 => cases e
  | fro h1 h2 h3 => cases e
theorem SR.lst (r : SR K mg ρ S B0 H) (h : Rel K ρ (Bn B0 ρ S) H x v) (e : lstOf S x = some ws) : ∃ a vs, v = .ref a ∧ SqL K H a vs ∧ Rels K ρ (Bn B0 ρ S) H ws vs := by
  cases h with
  | lst h1 h2 h3 h4 => cases e; exact ⟨_, _, rfl, .inl (.inl h1), h3, h4⟩
  | fro h1 h3 h4 => cases e; exact ⟨_, _, rfl, h1.toL, h3, h4⟩
  | @ref n a h1 =>
    have e' : (match S[n]? with | some (.lst xs) => some xs | some (.ro xs) => some xs | _ => none) = some ws := e
    split at e'
    · rename_i xs q2
      cases e'
      obtain ⟨vs, q3, q4⟩ := r.obj _ _ _ q2 h1
      exact ⟨a, vs, rfl, .inl (.inl q3), q4⟩
    · rename_i xs q2
      cases e'
      obtain ⟨vs, q3, q4⟩ := r.obj _ _ _ q2 h1
      exact ⟨a, vs, rfl, .inl q3, q4⟩
    · cases e'
  | non => cases e
  | bl b => cases e
  | int i => cases e
  | str s => cases e
  | tup h1 h2 h3 => cases e
theorem SR.seq (r : SR K mg ρ S B0 H) (h : Rel K ρ (Bn B0 ρ S) H x v) (e : seqOf S x = some ws) : ∃ a vs, v = .ref a ∧ (SqL K H a vs ∨ SqT K H a vs) ∧ Rels K ρ (Bn B0 ρ S) H ws vs := by
  by_cases ht : ∃ xs, x = .tup xs
  · obtain ⟨xs, rfl⟩ := ht
    cases e
    cases h with
    | tup h1 h2 h3 => exact ⟨_, _, rfl, .inr h1, h2, h3⟩
  · have e' : lstOf S x = some ws := by
      cases x with
      | tup xs => exact absurd ⟨xs, rfl⟩ ht
      | _ => exact e
    obtain ⟨a, vs, h1, h2, h3⟩ := r.lst h e'
    exact ⟨a, vs, h1, .inl h2, h3⟩
theorem Rel.tup_inv (h : Rel K ρ B H (.tup ws) v) : ∃ a vs, v = .ref a ∧ SqT K H a vs ∧ Rels K ρ B H ws vs := by
  cases h with
  | tup h1 h2 h3 => exact ⟨_, _, rfl, h1, h2, h3⟩
theorem Rel.str_inv {s : List Nat} (h : Rel K ρ B H (.str s) v) : v = .str ⟨s.toArray⟩ := by cases h; rfl
theorem Rel.int_inv {i : Int} (h : Rel K ρ B H (.int i) v) : v = .int i := by cases h; rfl
theorem Rel.bl_inv {b : Bool} (h : Rel K ρ B H (.bl b) v) : v = .bl b := by cases h; rfl
theorem Rel.non_inv (h : Rel K ρ B H .non v) : v = .non := by cases h; rfl
/-! ### a new thing at p -/
theorem upd_keep {o : HO} (hp : H p = none) : ∀ a u, H a = some u → upd H p o a = some u := fun a u h => by
  rw [upd_ne (fun e => by rw [e, hp] at h; cases h)]; exact h
theorem Rel.upd {o : HO} (h : Rel K ρ B H w v) (hp : H p = none) : Rel K ρ B (L2.upd H p o) w v :=
  h.stay (fun _ _ q => q) (fun a u _ q => upd_keep hp _ _ q) fun a vs q nb => ⟨upd_keep hp _ _ q, nb⟩
theorem Rels.upd {o : HO} (h : Rels K ρ B H ws vs) (hp : H p = none) : Rels K ρ B (L2.upd H p o) ws vs := ⟨h.1, fun i w v h1 h2 => (h.2 i w v h1 h2).upd hp⟩
theorem OR.upd {a : Addr} {o : HO} {so : SO} (h : OR K mg ρ B H a so) (hp : H p = none) : OR K mg ρ B (L2.upd H p o) a so := by
  have rd : ∀ {a u}, Rd H a u → Rd (L2.upd H p o) a u := fun q => q.elim (fun q => .inl (upd_keep hp _ _ q)) fun ⟨u, q⟩ => .inr ⟨u, upd_keep hp _ _ q⟩
  cases so with
  | dead =>
    show L2.upd H p o a ≠ none
    by_cases e : a = p
    · rw [e, upd_same]; simp
    · rw [upd_ne e]; exact h
  | lst ws => obtain ⟨vs, h1, h2⟩ := h; exact ⟨vs, upd_keep hp _ _ h1, h2.upd hp⟩
  | ro ws => obtain ⟨vs, h1, h2⟩ := h; exact ⟨vs, rd h1, h2.upd hp⟩
  | dict kvs => obtain ⟨k, h1, h2, h3⟩ := h; exact ⟨k, upd_keep hp _ _ h1, h2, h3.upd hp⟩
  | ins c fs => obtain ⟨C, dx, f, h1, h2, h3, h4⟩ := h; exact ⟨C, dx, f, upd_keep hp _ _ h1, h2, h3, h4.upd hp⟩
theorem SR.upd {o : HO} (r : SR K mg ρ S B0 H) (hp : H p = none) : SR K mg ρ S B0 (L2.upd H p o) :=
  ⟨r.len, r.nd, fun n so a h1 h2 => (r.obj n so a h1 h2).upd hp, fun a h => by
    have := r.ban a h
    by_cases e : a = p
    · rw [e, upd_same]; simp
    · rw [upd_ne e]; exact this, r.sep⟩
/-- .. and banned -/
theorem bn_more (r : SR K mg ρ S B0 H) (a : Addr) : Bn (fun a => B0 a ∨ a = p) ρ S a ↔ Bn B0 ρ S a ∨ a = p := by
  constructor
  · rintro ((h | h) | h)
    · exact .inl (.inl h)
    · exact .inr h
    · exact .inl (.inr h)
  · rintro ((h | h) | h)
    · exact .inl (.inl h)
    · exact .inr h
    · exact .inl (.inr h)
theorem Rel.ban (h : Rel K ρ (Bn B0 ρ S) H w v) (hp : H p = none) : Rel K ρ (Bn (fun a => B0 a ∨ a = p) ρ S) H w v :=
  h.stay (fun _ _ q => q) (fun _ _ _ q => q) fun a vs q nb => ⟨q, fun b => by
    rcases b with (b | b) | b
    · exact nb (.inl b)
    · rw [b, hp] at q; cases q
    · exact nb (.inr b)⟩
theorem Rels.ban (h : Rels K ρ (Bn B0 ρ S) H ws vs) (hp : H p = none) : Rels K ρ (Bn (fun a => B0 a ∨ a = p) ρ S) H ws vs := ⟨h.1, fun i w v h1 h2 => (h.2 i w v h1 h2).ban hp⟩
theorem OR.ban {a : Addr} {so : SO} (h : OR K mg ρ (Bn B0 ρ S) H a so) (hp : H p = none) : OR K mg ρ (Bn (fun a => B0 a ∨ a = p) ρ S) H a so := by
  cases so with
  | dead => exact h
  | lst ws => obtain ⟨vs, h1, h2⟩ := h; exact ⟨vs, h1, h2.ban hp⟩
  | ro ws => obtain ⟨vs, h1, h2⟩ := h; exact ⟨vs, h1, h2.ban hp⟩
  | dict kvs => obtain ⟨k, h1, h2, h3⟩ := h; exact ⟨k, h1, h2, h3.ban hp⟩
  | ins c fs => obtain ⟨C, dx, f, h1, h2, h3, h4⟩ := h; exact ⟨C, dx, f, h1, h2, h3, h4.ban hp⟩
/-- a new thing made and banned -/
theorem SR.made {o : HO} (r : SR K mg ρ S B0 H) (hp : H p = none) : SR K mg ρ S (fun a => B0 a ∨ a = p) (L2.upd H p o) :=
  ⟨r.len, r.nd, fun n so a h1 h2 => ((r.obj n so a h1 h2).ban hp).upd hp, fun a h => by
    rcases h with h | h
    · have := r.ban a h
      by_cases e : a = p
      · rw [e, upd_same]; simp
      · rw [upd_ne e]; exact this
    · rw [h, upd_same]; simp, fun n so a h1 h2 h3 q => by
    rcases q with q | q
    · exact r.sep n so a h1 h2 h3 q
    · exact r.live_some ⟨n, so, h1, h2, h3⟩ (by rw [q, hp])⟩
theorem Ext.upd {o : HO} (hp : H p = none) : Ext ρ S H ρ S (L2.upd H p o) :=
  ⟨fun _ _ h => h, fun a u h _ => upd_keep hp a u h, fun _ l _ => l, fun a h => by
    by_cases e : a = p
    · rw [e, upd_same]; simp
    · rw [upd_ne e]; exact h, fun _ h => .inl h⟩
theorem SR.not_in (r : SR K mg ρ S B0 H) (hp : H p = none) : p ∉ ρ := fun h => by
  obtain ⟨n, hn, e⟩ := List.mem_iff_getElem.mp h
  have h1 : ρ[n]? = some p := by rw [← e]; simp [hn]
  have hs : n < S.length := by rw [← r.len]; exact hn
  have h2 : S[n]? = some S[n] := by simp [hs]
  have q := r.obj n _ p h2 h1
  cases q3 : S[n] with
  | dead => rw [q3] at q; exact q hp
  | lst ws => rw [q3] at q; obtain ⟨_, q, _⟩ := q; rw [hp] at q; cases q
  | ro ws => rw [q3] at q; obtain ⟨_, q, _⟩ := q; exact rd_some q hp
  | dict kvs => rw [q3] at q; obtain ⟨_, q, _⟩ := q; rw [hp] at q; cases q
  | ins c fs => rw [q3] at q; obtain ⟨_, _, _, q, _⟩ := q; rw [hp] at q; cases q
/-- a list made at p: what gN wants -/
theorem gN_made (r : SR K mg ρ S B0 H) (h : gN K mg Q B0 ρ S H ws S) (hp : H p = none) (hr : Rels K ρ (Bn B0 ρ S) H ws vs) : Q (.ref p) (upd H p (.lst vs)) :=
  h ρ _ vs p (.upd hp) (r.made hp) hp upd_same (r.not_in hp) (fun b => r.ban p b hp) ((hr.ban hp).upd hp)
/-- a tuple made at p -/
theorem gE_tup (r : SR K mg ρ S B0 H) (h : gE K mg Q B0 ρ S H (.tup ws) S) (hp : H p = none) (hr : Rels K ρ (Bn B0 ρ S) H ws vs) : Q (.ref p) (upd H p (.tup vs)) :=
  h ρ _ (.ref p) (.upd hp) (r.upd hp) (by
    have q := (hr.upd (o := .tup vs) hp)
    exact .tup (.inl (.inl upd_same)) q.1 q.2)
theorem gE_here (r : SR K mg ρ S B0 H) (h : gE K mg Q B0 ρ S H w S) (hr : Rel K ρ (Bn B0 ρ S) H w v) : Q v H := h ρ H v .refl r hr
end

/-! ### arguments, displays -/
section
variable {X : Cx} {Wx : WX}
def mNil : Env → Sto → Out (List W) := fun _ S => .ok [] S
def mCons (m : Env → Sto → Out W) (ms : Env → Sto → Out (List W)) : Env → Sto → Out (List W) := fun env S => (m env S).bind fun w S1 => (ms env S1).bind fun ws S2 => .ok (w :: ws) S2
theorem ma_nil : PA X [] (TAm X.K X.mg Wx mNil) := pa_imp pa_nil fun σ H Q ⟨B0, ρ, env, S, r, er, h⟩ => h ρ H [] .refl r .nil
theorem ma_cons {e : Expr} {es : List Expr} {m : Env → Sto → Out W} {ms : Env → Sto → Out (List W)} (he : PE X e (TEm X.K X.mg Wx m)) (hr : PA X es (TAm X.K X.mg Wx ms)) (hs : starEach (e :: es) X.env = (false, eval e X.env) :: starEach es X.env := by rfl) :
    PA X (e :: es) (TAm X.K X.mg Wx (mCons m ms)) :=
  pa_imp (pa_cons he hr hs) fun σ H Q ⟨B0, ρ, env, S, r, er, h⟩ => ⟨B0, ρ, env, S, r, er, h.bindE lat_gA fun w S1 ρ1 H1 v e1 r1 q1 h1 =>
    ⟨B0, ρ1, env, S1, r1, er.ext r e1, h1.bindA lat_gA fun ws S2 ρ2 H2 vs e2 r2 q2 h2 => h2 ρ2 H2 (v :: vs) .refl r2 (.cons (q1.ext r1 e2) q2)⟩⟩
theorem mk_nil : PK X [] (TAm X.K X.mg Wx mNil) := pk_imp pk_nil fun σ H Q ⟨B0, ρ, env, S, r, er, h⟩ => h ρ H [] .refl r .nil
theorem mk_cons {e : Expr} {kws : List Keyword} {nm : Option Str} {kpos : Pos} {m : Env → Sto → Out W} {ms : Env → Sto → Out (List W)} (he : PE X e (TEm X.K X.mg Wx m)) (hr : PK X kws (TAm X.K X.mg Wx ms)) :
    PK X (⟨nm, e, kpos⟩ :: kws) (TAm X.K X.mg Wx (mCons m ms)) :=
  pk_imp (pk_cons he hr) fun σ H Q ⟨B0, ρ, env, S, r, er, h⟩ => ⟨B0, ρ, env, S, r, er, h.bindE lat_gA fun w S1 ρ1 H1 v e1 r1 q1 h1 =>
    ⟨B0, ρ1, env, S1, r1, er.ext r e1, h1.bindA lat_gA fun ws S2 ρ2 H2 vs e2 r2 q2 h2 => h2 ρ2 H2 (v :: vs) .refl r2 (.cons (q1.ext r1 e2) q2)⟩⟩
def mLst (ms : Env → Sto → Out (List W)) : Env → Sto → Out FW := fun env S => (ms env S).bind fun ws S1 => if ws.length ≤ LINE then .ok (.new ws) S1 else .fail
def mTup (ms : Env → Sto → Out (List W)) : Env → Sto → Out W := fun env S => (ms env S).bind fun ws S1 => if ws.length ≤ LINE then .ok (.tup ws) S1 else .fail
theorem me_lst {es : List Expr} {pos} {ms : Env → Sto → Out (List W)} (h : PA X es (TAm X.K X.mg Wx ms)) : PE X (.List es pos) (TFm X.K X.mg Wx (mLst ms)) :=
  pe_imp (pe_lst h) fun σ H Q ⟨B0, ρ, env, S, r, er, h⟩ => ⟨B0, ρ, env, S, r, er, h.bindA lat_gF fun ws S1 ρ1 H1 vs e1 r1 q1 h1 => by
    by_cases hl : ws.length ≤ LINE
    · rw [if_pos hl] at h1
      exact ⟨by rw [← q1.1, line_eq]; exact hl, fun p hp => gN_made r1 h1 hp q1⟩
    · rw [if_neg hl] at h1; exact h1.elim⟩
theorem me_tup {es : List Expr} {x1 pos} {ms : Env → Sto → Out (List W)} (h : PA X es (TAm X.K X.mg Wx ms)) : PE X (.Tuple es x1 pos) (TEm X.K X.mg Wx (mTup ms)) :=
  pe_imp (pe_tup h) fun σ H Q ⟨B0, ρ, env, S, r, er, h⟩ => ⟨B0, ρ, env, S, r, er, h.bindA lat_gE fun ws S1 ρ1 H1 vs e1 r1 q1 h1 => by
    by_cases hl : ws.length ≤ LINE
    · rw [if_pos hl] at h1
      exact ⟨by rw [← q1.1, line_eq]; exact hl, fun p hp => gE_tup r1 h1 hp q1⟩
    · rw [if_neg hl] at h1; exact h1.elim⟩

/-! ### two values, one value, a call's values -/
def m2 {α : Type} (f : W → W → Sto → Out α) (ma mb : Env → Sto → Out W) : Env → Sto → Out α := fun env S => (ma env S).bind fun x S1 => (mb env S1).bind fun y S2 => f x y S2
def m1 {α : Type} (f : W → Sto → Out α) (ma : Env → Sto → Out W) : Env → Sto → Out α := fun env S => (ma env S).bind fun x S1 => f x S1
def mA {α : Type} (f : List W → Sto → Out α) (ma : Env → Sto → Out (List W)) : Env → Sto → Out α := fun env S => (ma env S).bind fun x S1 => f x S1
/-- a rule on values follows a function on trees -/
def OpM (K : PySem.W.Frag) (mg : Str → Option Value) (f : W → W → Sto → Out FW) (r : R2) : Prop :=
  ∀ {Xw : Value → Hp → Prop} {B0 : Ban} {ρ : List Addr} {S : Sto} {H : Hp} {x y : W} {v u : V} {Q : VK}, SR K mg ρ S B0 H → Rel K ρ (Bn B0 ρ S) H x v → Rel K ρ (Bn B0 ρ S) H y u → End K mg Xw (gF K mg Q) B0 ρ S H (f x y S) → r v u H Q
def UnM (K : PySem.W.Frag) (mg : Str → Option Value) (f : W → Sto → Out FW) (r : V → Hp → VK → Prop) : Prop :=
  ∀ {Xw : Value → Hp → Prop} {B0 : Ban} {ρ : List Addr} {S : Sto} {H : Hp} {x : W} {v : V} {Q : VK}, SR K mg ρ S B0 H → Rel K ρ (Bn B0 ρ S) H x v → End K mg Xw (gF K mg Q) B0 ρ S H (f x S) → r v H Q
def CaM (K : PySem.W.Frag) (mg : Str → Option Value) (f : List W → Sto → Out FW) (r : List V → Hp → VK → Prop) : Prop :=
  ∀ {Xw : Value → Hp → Prop} {B0 : Ban} {ρ : List Addr} {S : Sto} {H : Hp} {ws : List W} {vs : List V} {Q : VK}, SR K mg ρ S B0 H → Rels K ρ (Bn B0 ρ S) H ws vs → End K mg Xw (gF K mg Q) B0 ρ S H (f ws S) → r vs H Q
def MtMi (K : PySem.W.Frag) (mg : Str → Option Value) (f : W → List W → Sto → Out FW) (r : V → List V → Hp → VK → Prop) : Prop :=
  ∀ {Xw : Value → Hp → Prop} {B0 : Ban} {ρ : List Addr} {S : Sto} {H : Hp} {x : W} {v : V} {ws : List W} {vs : List V} {Q : VK}, SR K mg ρ S B0 H → Rel K ρ (Bn B0 ρ S) H x v → Rels K ρ (Bn B0 ρ S) H ws vs → End K mg Xw (gF K mg Q) B0 ρ S H (f x ws S) → r v vs H Q
theorem to_imp {K : PySem.W.Frag} {mg : Str → Option Value} {f : W → W → Sto → Out FW} {r : R2} (hf : OpM K mg f r) {ma mb : Env → Sto → Out W} {σ : L2.St} {H : Hp} {Q : VK} (h : TFm K mg Wx (m2 f ma mb) σ H Q) : tOp r (TEm K mg Wx ma) (TEm K mg Wx mb) σ H Q := by
  obtain ⟨B0, ρ, env, S, r, er, h⟩ := h
  exact ⟨B0, ρ, env, S, r, er, h.bindE lat_gF fun x S1 ρ1 H1 v e1 r1 q1 h1 => ⟨B0, ρ1, env, S1, r1, er.ext r e1, h1.bindE lat_gF fun y S2 ρ2 H2 u e2 r2 q2 h2 => hf r2 (q1.ext r1 e2) q2 h2⟩⟩
theorem me_op {c : Expr} {f : W → W → Sto → Out FW} {r : R2} {ma mb : Env → Sto → Out W} (h : PE X c (tOp r (TEm X.K X.mg Wx ma) (TEm X.K X.mg Wx mb))) (hf : OpM X.K X.mg f r) : PE X c (TFm X.K X.mg Wx (m2 f ma mb)) := pe_imp h fun _ _ _ => to_imp hf
theorem me_u {c : Expr} {f : W → Sto → Out FW} {r : V → Hp → VK → Prop} {ma : Env → Sto → Out W} (h : PE X c (tUn r (TEm X.K X.mg Wx ma))) (hf : UnM X.K X.mg f r) : PE X c (TFm X.K X.mg Wx (m1 f ma)) :=
  pe_imp h fun σ H Q ⟨B0, ρ, env, S, r, er, h⟩ => ⟨B0, ρ, env, S, r, er, h.bindE lat_gF fun x S1 ρ1 H1 v e1 r1 q1 h1 => hf r1 q1 h1⟩
theorem ca_imp {K : PySem.W.Frag} {mg : Str → Option Value} {f : List W → Sto → Out FW} {r : List V → Hp → VK → Prop} (hf : CaM K mg f r) {ms : Env → Sto → Out (List W)} {σ : L2.St} {H : Hp} {Q : VK} (h : TFm K mg Wx (mA f ms) σ H Q) : tCB r (TAm K mg Wx ms) σ H Q := by
  obtain ⟨B0, ρ, env, S, r, er, h⟩ := h
  exact ⟨B0, ρ, env, S, r, er, h.bindA lat_gF fun x S1 ρ1 H1 v e1 r1 q1 h1 => hf r1 q1 h1⟩
theorem me_cb {c : Expr} {f : List W → Sto → Out FW} {r : List V → Hp → VK → Prop} {ms : Env → Sto → Out (List W)} (h : PE X c (tCB r (TAm X.K X.mg Wx ms))) (hf : CaM X.K X.mg f r) : PE X c (TFm X.K X.mg Wx (mA f ms)) := pe_imp h fun _ _ _ => ca_imp hf
/-- o.m(..) of a built-in type: ty tells that the receiver is of the type -/
def mM {α : Type} (ty : W → Sto → Bool) (f : W → List W → Sto → Out α) (mo : Env → Sto → Out W) (ms : Env → Sto → Out (List W)) : Env → Sto → Out α := fun env S => (mo env S).bind fun x S1 => if ty x S1 = true then (ms env S1).bind fun ws S2 => f x ws S2 else .fail
def tyLst : W → Sto → Bool := fun x S => (lsxOf S x).isSome
def tyStr : W → Sto → Bool := fun x _ => match x with
  | .str _ => true
  | _ => false
def TyM (K : PySem.W.Frag) (mg : Str → Option Value) (T : String) (ty : W → Sto → Bool) : Prop :=
  ∀ {B0 : Ban} {ρ : List Addr} {S : Sto} {H : Hp} {x : W} {v : V}, SR K mg ρ S B0 H → Rel K ρ (Bn B0 ρ S) H x v → ty x S = true → tyV K T v H
theorem ty_str {K : PySem.W.Frag} {mg : Str → Option Value} : TyM K mg "str" tyStr := fun {B0 ρ S H x v} r h e => by
  cases x with
  | str s => rw [h.str_inv]; rfl
  | _ => cases e
theorem me_bm {c : Expr} {T : String} {ty : W → Sto → Bool} {f : W → List W → Sto → Out FW} {r : V → List V → Hp → VK → Prop} {mo : Env → Sto → Out W} {ms : Env → Sto → Out (List W)} (h : PE X c (tBM X.K T r (TEm X.K X.mg Wx mo) (TAm X.K X.mg Wx ms))) (ht : TyM X.K X.mg T ty) (hf : MtMi X.K X.mg f r) :
    PE X c (TFm X.K X.mg Wx (mM ty f mo ms)) :=
  pe_imp h fun σ H Q ⟨B0, ρ, env, S, r, er, h⟩ => ⟨B0, ρ, env, S, r, er, h.bindE lat_gF fun x S1 ρ1 H1 v e1 r1 q1 h1 => by
    by_cases ht1 : ty x S1 = true
    · rw [if_pos ht1] at h1
      exact ⟨ht r1 q1 ht1, B0, ρ1, env, S1, r1, er.ext r e1, h1.bindA lat_gF fun ws S2 ρ2 H2 vs e2 r2 q2 h2 => hf r2 (q1.ext r1 e2) q2 h2⟩
    · rw [if_neg ht1] at h1; exact h1.elim⟩
def mM0 {α : Type} (ty : W → Sto → Bool) (f : W → List W → Sto → Out α) (mo : Env → Sto → Out W) : Env → Sto → Out α := fun env S => (mo env S).bind fun x S1 => if ty x S1 = true then f x [] S1 else .fail
theorem me_bm0 {c : Expr} {T : String} {ty : W → Sto → Bool} {f : W → List W → Sto → Out FW} {r : V → List V → Hp → VK → Prop} {mo : Env → Sto → Out W} (h : PE X c (tBM0 X.K T r (TEm X.K X.mg Wx mo))) (ht : TyM X.K X.mg T ty) (hf : MtMi X.K X.mg f r) :
    PE X c (TFm X.K X.mg Wx (mM0 ty f mo)) :=
  pe_imp h fun σ H Q ⟨B0, ρ, env, S, r, er, h⟩ => ⟨B0, ρ, env, S, r, er, h.bindE lat_gF fun x S1 ρ1 H1 v e1 r1 q1 h1 => by
    by_cases ht1 : ty x S1 = true
    · rw [if_pos ht1] at h1
      exact ⟨ht r1 q1 ht1, hf r1 q1 .nil h1⟩
    · rw [if_neg ht1] at h1; exact h1.elim⟩
theorem ty_lst {K : PySem.W.Frag} {mg : Str → Option Value} : TyM K mg "list" tyLst := fun {B0 ρ S H x v} r h e => by
  unfold tyLst at e
  cases q : lsxOf S x with
  | none => rw [q] at e; cases e
  | some ws =>
    obtain ⟨a, vs, rfl, h1, _⟩ := r.lsx h q
    exact .inl ⟨rfl, vs, .of h1⟩
end
/-! ### a live object written -/
section
variable {K : PySem.W.Frag} {mg : Str → Option Value} {ρ ρ' : List Addr} {S S' : Sto} {B0 B B' : Ban} {H H' : Hp} {w x y : W} {v u : V} {ws : List W} {vs : List V} {p : Addr} {Q : VK}
theorem OR.ext {a : Addr} {so : SO} (h : OR K mg ρ (Bn B0 ρ S) H a so) (r : SR K mg ρ S B0 H) (e : Ext ρ S H ρ' S' H') (he : H' a = H a) : OR K mg ρ' (Bn B0 ρ' S') H' a so := by
  cases so with
  | dead => exact e.there a h
  | lst ws => obtain ⟨vs, h1, h2⟩ := h; exact ⟨vs, he.trans h1, h2.ext r e⟩
  | ro ws =>
    obtain ⟨vs, h1, h2⟩ := h
    refine ⟨vs, ?_, h2.ext r e⟩
    rcases h1 with h1 | ⟨o, h1⟩
    · exact .inl (he.trans h1)
    · exact .inr ⟨o, he.trans h1⟩
  | dict kvs => obtain ⟨k, h1, h2, h3⟩ := h; exact ⟨k, he.trans h1, h2, h3.ext r e⟩
  | ins c fs => obtain ⟨C, dx, f, h1, h2, h3, h4⟩ := h; exact ⟨C, dx, f, he.trans h1, h2, h3, h4.ext r e⟩
theorem lv_set {n : Nat} {o o' : SO} (hn : S[n]? = some o) (ho : o.alive = o'.alive) (a : Addr) : Lv ρ (S.set n o') a ↔ Lv ρ S a := by
  constructor
  · rintro ⟨m, o1, h1, h2, h3⟩
    rw [List.getElem?_set] at h1
    by_cases hm : n = m
    · subst hm
      rw [if_pos rfl] at h1
      split at h1
      · cases h1
        exact ⟨n, o, hn, ho.trans h2, h3⟩
      · cases h1
    · rw [if_neg hm] at h1
      exact ⟨m, o1, h1, h2, h3⟩
  · rintro ⟨m, o1, h1, h2, h3⟩
    by_cases hm : n = m
    · subst hm
      rw [hn] at h1; cases h1
      refine ⟨n, o', ?_, ho ▸ h2, h3⟩
      rw [List.getElem?_set, if_pos rfl, if_pos (List.getElem?_eq_some_iff.mp hn).1]
    · exact ⟨m, o1, by rw [List.getElem?_set, if_neg hm]; exact h1, h2, h3⟩
theorem Ext.write {n : Nat} {o o' : SO} {a : Addr} {ho : HO} (hn : S[n]? = some o) (hal : o.alive = true) (hal' : o'.alive = true) (ha : ρ[n]? = some a) : Ext ρ S H ρ (S.set n o') (L2.upd H a ho) where
  pre := fun _ _ h => h
  keep := fun b u h l => by
    have ne : b ≠ a := fun e => l (by rw [e]; exact ⟨n, o, hn, hal, ha⟩)
    rw [upd_ne ne]; exact h
  live := fun b l _ => (lv_set hn (hal.trans hal'.symm) b).mp l
  there := fun b h => by
    by_cases e : b = a
    · rw [e, upd_same]; simp
    · rw [upd_ne e]; exact h
  nw := fun _ h => .inl h
theorem nd_at {n m : Nat} {a : Addr} (nd : ρ.Nodup) (h1 : ρ[n]? = some a) (h2 : ρ[m]? = some a) : n = m := by
  obtain ⟨l1, e1⟩ := List.getElem?_eq_some_iff.mp h1
  obtain ⟨l2, e2⟩ := List.getElem?_eq_some_iff.mp h2
  exact (List.getElem_inj nd).mp (e1.trans e2.symm)
theorem SR.write {n : Nat} {o o' : SO} {a : Addr} {ho : HO} (r : SR K mg ρ S B0 H) (hn : S[n]? = some o) (hal : o.alive = true) (hal' : o'.alive = true) (ha : ρ[n]? = some a) (hor : OR K mg ρ (Bn B0 ρ (S.set n o')) (L2.upd H a ho) a o') : SR K mg ρ (S.set n o') B0 (L2.upd H a ho) := by
  have e : Ext ρ S H ρ (S.set n o') (L2.upd H a ho) := .write hn hal hal' ha
  refine ⟨by simp [r.len], r.nd, fun m so b h1 h2 => ?_, fun b h => e.there b (r.ban b h), fun m so b h1 h2 h3 => ?_⟩
  · rw [List.getElem?_set] at h1
    by_cases hm : n = m
    · subst hm
      rw [if_pos rfl] at h1
      split at h1
      · cases h1
        rw [ha] at h2; cases h2
        exact hor
      · cases h1
    · rw [if_neg hm] at h1
      have hb : b ≠ a := fun q => hm (nd_at r.nd ha (q ▸ h2))
      exact (r.obj m so b h1 h2).ext r e (upd_ne hb)
  · rw [List.getElem?_set] at h1
    by_cases hm : n = m
    · subst hm
      exact r.sep n o b hn hal h3
    · rw [if_neg hm] at h1
      exact r.sep m so b h1 h2 h3
/-- a live list is written: what gE wants behind it -/
theorem gE_write {n : Nat} {xs : List W} {a : Addr} (r : SR K mg ρ S B0 H) (hn : S[n]? = some (.lst xs)) (ha : ρ[n]? = some a) (hr : Rels K ρ (Bn B0 ρ S) H ws vs) (hw : Rel K ρ (Bn B0 ρ S) H w v) (h : gE K mg Q B0 ρ S H w (S.set n (.lst ws))) : Q v (L2.upd H a (.lst vs)) := by
  have e : Ext ρ S H ρ (S.set n (.lst ws)) (L2.upd H a (.lst vs)) := .write hn rfl rfl ha
  exact h ρ _ v e (r.write hn rfl rfl ha ⟨vs, upd_same, hr.ext r e⟩) (hw.ext r e)
theorem SR.ref_lst {n : Nat} {xs : List W} (r : SR K mg ρ S B0 H) (h : Rel K ρ (Bn B0 ρ S) H (.ref n) v) (hn : S[n]? = some (.lst xs)) : ∃ a vs, v = .ref a ∧ ρ[n]? = some a ∧ H a = some (.lst vs) ∧ Rels K ρ (Bn B0 ρ S) H xs vs := by
  cases h with
  | ref ha =>
    obtain ⟨vs, h1, h2⟩ := r.obj _ _ _ hn ha
    exact ⟨_, vs, rfl, ha, h1, h2⟩
end
/-! ### list methods -/
/-- a method on the n-th object, a list: new items, answer -/
def onLst (f : Sto → List W → List W → Option (List W × W)) : W → List W → Sto → Out FW := fun x as S => match x with
  | .ref n => match S[n]? with
    | some (.lst xs) => match f S xs as with
      | some (ys, w) => .ok (.val w) (S.set n (.lst ys))
      | none => .fail
    | _ => .fail
  | _ => .fail
section
variable {K : PySem.W.Frag} {mg : Str → Option Value}
theorem onLst_cases {f : Sto → List W → List W → Option (List W × W)} {Xw : Value → Hp → Prop} {B0 : Ban} {ρ : List Addr} {S : Sto} {H : Hp} {x : W} {v : V} {as : List W} {Q : VK} {P : Prop} (r : SR K mg ρ S B0 H) (hx : Rel K ρ (Bn B0 ρ S) H x v) (h : End K mg Xw (gF K mg Q) B0 ρ S H (onLst f x as S))
    (k : ∀ (n : Nat) (a : Addr) (xs : List W) (vs : List V) (ys : List W) (w : W), v = .ref a → S[n]? = some (.lst xs) → ρ[n]? = some a → H a = some (.lst vs) → Rels K ρ (Bn B0 ρ S) H xs vs → f S xs as = some (ys, w) → gE K mg Q B0 ρ S H w (S.set n (.lst ys)) → P) : P := by
  cases x with
  | ref n =>
    have h' : End K mg Xw (gF K mg Q) B0 ρ S H (match S[n]? with
      | some (.lst xs) => match f S xs as with
        | some (ys, w) => .ok (.val w) (S.set n (.lst ys))
        | none => .fail
      | _ => .fail) := h
    split at h'
    · rename_i xs q
      split at h'
      · rename_i ys w q2
        obtain ⟨a, vs, h1, h2, h3, h4⟩ := r.ref_lst hx q
        exact k n a xs vs ys w h1 q h2 h3 h4 q2 h'
      · exact h'.elim
    · exact h'.elim
  | _ => exact h.elim
def fAppend : Sto → List W → List W → Option (List W × W) := fun _ xs as => match as with
  | [w] => if xs.length < LINE then some (xs ++ [w], .non) else none
  | _ => none
theorem mf_append : MtMi K mg (onLst fAppend) rAppend := fun {Xw B0 ρ S H x v as vs Q} r hx ha h => onLst_cases r hx h fun n a xs ys zs w h1 h2 h3 h4 h5 h6 h7 => by
  subst h1
  unfold fAppend at h6
  split at h6
  · rename_i z
    split at h6
    · rename_i hl
      cases h6
      obtain ⟨u, us, rfl, ru, rn⟩ := ha.cons_inv
      have := rn.nil_inv
      subst this
      exact ⟨a, ys, u, rfl, rfl, h4, by rw [← h5.1, line_eq]; exact hl, gE_write r h2 h3 (h5.snoc ru) .non h7⟩
    · cases h6
  · cases h6
def fPop : Sto → List W → List W → Option (List W × W) := fun _ xs as => match as with
  | [] => match xs[xs.length - 1]? with
    | some y => some (xs.dropLast, y)
    | none => none
  | _ => none
theorem Rels.dropLast {ρ : List Addr} {B : Ban} {H : Hp} {ws : List W} {vs : List V} (t : Rels K ρ B H ws vs) : Rels K ρ B H ws.dropLast vs.dropLast := by
  rw [List.dropLast_eq_take, List.dropLast_eq_take, ← t.1]
  exact t.take _
theorem mf_pop : MtMi K mg (onLst fPop) rPop := fun {Xw B0 ρ S H x v as vs Q} r hx ha h => onLst_cases r hx h fun n a xs ys zs w h1 h2 h3 h4 h5 h6 h7 => by
  subst h1
  unfold fPop at h6
  split at h6
  · split at h6
    · rename_i y q
      cases h6
      have := ha.nil_inv
      subst this
      obtain ⟨u, hu, ru⟩ := h5.get q
      exact ⟨a, ys, u, rfl, rfl, h4, by rw [← h5.1]; exact hu, gE_write r h2 h3 h5.dropLast ru h7⟩
    · cases h6
  · cases h6
def fPopAt : Sto → List W → List W → Option (List W × W) := fun _ xs as => match as with
  | [.int i] => if xs.length ≤ LINE then match ixN xs.length i with
    | some k => match xs[k]? with
      | some y => some (xs.eraseIdx k, y)
      | none => none
    | none => none
    else none
  | _ => none
theorem Rels.eraseIdx {ρ : List Addr} {B : Ban} {H : Hp} {ws : List W} {vs : List V} (t : Rels K ρ B H ws vs) (k : Nat) : Rels K ρ B H (ws.eraseIdx k) (vs.eraseIdx k) := by
  rw [List.eraseIdx_eq_take_drop_succ, List.eraseIdx_eq_take_drop_succ]
  exact (t.take _).append (t.drop _)
theorem mf_popAt : MtMi K mg (onLst fPopAt) rPopAt := fun {Xw B0 ρ S H x v as vs Q} r hx ha h => onLst_cases r hx h fun n a xs ys zs w h1 h2 h3 h4 h5 h6 h7 => by
  subst h1
  unfold fPopAt at h6
  split at h6
  · rename_i i
    split at h6
    · rename_i hl
      split at h6
      · rename_i k q
        split at h6
        · rename_i y q2
          cases h6
          obtain ⟨u, us, rfl, ru, rn⟩ := ha.cons_inv
          have := rn.nil_inv
          subst this
          have := ru.int_inv
          subst this
          obtain ⟨z, hz, rz⟩ := h5.get q2
          obtain ⟨s1, s2, s3, s4⟩ := ixN_seq q
          have hl2 : (xs.length : Int) ≤ 16777216 := by
            have : xs.length ≤ 16777216 := hl
            omega
          exact ⟨a, ys, i, k, z, rfl, rfl, h4, by omega, by omega, by rw [← h5.1]; exact s1, hz, gE_write r h2 h3 (h5.eraseIdx k) rz h7⟩
        · cases h6
      · cases h6
    · cases h6
  · cases h6
def fInsert : Sto → List W → List W → Option (List W × W) := fun _ xs as => match as with
  | [.int i, w] => if 0 ≤ i ∧ i < 2 ^ 63 ∧ xs.length < LINE then some (xs.take i.toNat ++ [w] ++ xs.drop i.toNat, .non) else none
  | _ => none
def rInsert : V → List V → Hp → VK → Prop := fun x vs H Q => ∃ (l : Addr) (xs : List V) (i : Int) (y : V), x = .ref l ∧ vs = [.int i, y] ∧ H l = some (.lst xs) ∧ xs.length < sizeLine ∧ 0 ≤ i ∧ i < 2 ^ 63 ∧
    Q .non (upd H l (.lst (xs.take i.toNat ++ [y] ++ xs.drop i.toNat)))
theorem mt_ins {X : Cx} : MtR X "list.insert" rInsert := mt_insert
theorem mf_insert : MtMi K mg (onLst fInsert) rInsert := fun {Xw B0 ρ S H x v as vs Q} r hx ha h => onLst_cases r hx h fun n a xs ys zs w h1 h2 h3 h4 h5 h6 h7 => by
  subst h1
  unfold fInsert at h6
  split at h6
  · rename_i i y
    split at h6
    · rename_i hc
      cases h6
      obtain ⟨u, us, rfl, ru, rt⟩ := ha.cons_inv
      obtain ⟨u2, us2, rfl, ru2, rn⟩ := rt.cons_inv
      have := rn.nil_inv
      subst this
      have := ru.int_inv
      subst this
      exact ⟨a, ys, i, u2, rfl, rfl, h4, by rw [← h5.1, line_eq]; exact hc.2.2, hc.1, hc.2.1, gE_write r h2 h3 (((h5.take _).snoc ru2).append (h5.drop _)) .non h7⟩
    · cases h6
  · cases h6
/-- xs.extend(ys) -/
def fExtend : Sto → List W → List W → Option (List W × W) := fun S xs as => match as with
  | [y] => match lsxOf S y with
    | some zs => if xs.length + zs.length ≤ LINE then some (xs ++ zs, .non) else none
    | none => none
  | _ => none
theorem mf_extend : MtMi K mg (onLst fExtend) rExtend := fun {Xw B0 ρ S H x v as vs Q} r hx ha h => onLst_cases r hx h fun n a xs ys zs w h1 h2 h3 h4 h5 h6 h7 => by
  subst h1
  unfold fExtend at h6
  split at h6
  · rename_i y
    split at h6
    · rename_i us q
      split at h6
      · rename_i hl
        cases h6
        obtain ⟨u, us2, rfl, ru, rn⟩ := ha.cons_inv
        have := rn.nil_inv
        subst this
        obtain ⟨b, ks, rfl, k2, k3⟩ := r.lsx ru q
        exact ⟨a, b, ys, ks, rfl, rfl, h4, k2, by rw [← h5.1, ← k3.1, line_eq]; exact hl, gE_write r h2 h3 (h5.append k3) .non h7⟩
      · cases h6
    · cases h6
  · cases h6
end
end L2.Mi

set_option Elab.async false
set_option linter.all false
set_option maxRecDepth 100000
set_option maxHeartbeats 2000000
/-! # The engine, part C: arithmetic, comparisons, subscripts, built-in calls -/
namespace L2.Mi
open PySem PySem.Spec PyProof.Rows
/-! ### equality of trees, as Python's -/
mutual
def eqW : W → W → Bool
  | .non, .non => true
  | .bl a, .bl b => a == b
  | .bl a, .int j => (if a then 1 else 0) == j
  | .int i, .bl b => i == (if b then 1 else 0)
  | .int i, .int j => i == j
  | .str x, .str y => x == y
  | .tup xs, .tup ys => eqWs xs ys
  | .lst xs, .lst ys => eqWs xs ys
  | _, _ => false
def eqWs : List W → List W → Bool
  | [], [] => true
  | x :: xs, y :: ys => eqW x y && eqWs xs ys
  | _, _ => false
end
mutual
def pd : W → PyData
  | .non => .none
  | .bl b => .bool b
  | .int i => .int i
  | .str s => .str ⟨s.toArray⟩
  | .tup xs => .tuple (pds xs)
  | .lst xs => .list (pds xs)
  | .ref _ => .dict []
  | .fro _ => .dict []
def pds : List W → List PyData
  | [] => []
  | x :: xs => pd x :: pds xs
end
/-! no mutable object within, nested at most n deep, texts of code points -/
mutual
def okD : Nat → W → Bool
  | _, .non => true
  | _, .bl _ => true
  | _, .int _ => true
  | _, .str s => s.all (· < 0x110000)
  | 0, .tup _ => false
  | n + 1, .tup xs => okDs n xs
  | 0, .lst _ => false
  | n + 1, .lst xs => okDs n xs
  | _, .ref _ => false
  | _, .fro _ => false
def okDs : Nat → List W → Bool
  | _, [] => true
  | n, x :: xs => okD n x && okDs n xs
end
mutual
theorem pd_eqv : ∀ (x y : W) (n m : Nat), okD n x = true → okD m y = true → PyData.eqv (pd x) (pd y) = eqW x y
  | .non, y, n, m, h1, h2 => by cases y <;> simp [pd, eqW, PyData.eqv] <;> (cases m <;> simp [okD] at h2)
  | .bl b, y, n, m, h1, h2 => by cases y <;> simp [pd, eqW, PyData.eqv] <;> (cases m <;> simp [okD] at h2)
  | .int i, y, n, m, h1, h2 => by cases y <;> simp [pd, eqW, PyData.eqv] <;> (cases m <;> simp [okD] at h2)
  | .str s, y, n, m, h1, h2 => by
    cases y with
    | str t =>
      simp only [pd, eqW, PyData.eqv]
      by_cases e : s = t
      · subst e; simp
      · have e2 : ¬ ((⟨s.toArray⟩ : Str) = ⟨t.toArray⟩) := fun q => e (by injection q with q; simpa using q)
        have e3 : ((⟨s.toArray⟩ : Str) == ⟨t.toArray⟩) = false := by simpa using e2
        have e4 : (s == t) = false := by simpa using e
        rw [e3, e4]
    | _ => simp [pd, eqW, PyData.eqv]
  | .tup xs, y, n, m, h1, h2 => by
    cases y with
    | tup ys =>
      cases n with
      | zero => simp [okD] at h1
      | succ n =>
        cases m with
        | zero => simp [okD] at h2
        | succ m =>
          simp only [okD] at h1 h2
          simp only [pd, eqW, PyData.eqv]
          exact pd_eqvs xs ys n m h1 h2
    | _ => simp [pd, eqW, PyData.eqv]
  | .lst xs, y, n, m, h1, h2 => by
    cases y with
    | lst ys =>
      cases n with
      | zero => simp [okD] at h1
      | succ n =>
        cases m with
        | zero => simp [okD] at h2
        | succ m =>
          simp only [okD] at h1 h2
          simp only [pd, eqW, PyData.eqv]
          exact pd_eqvs xs ys n m h1 h2
    | _ => simp [pd, eqW, PyData.eqv]
  | .ref k, y, n, m, h1, h2 => by cases n <;> simp [okD] at h1
theorem pd_eqvs : ∀ (xs ys : List W) (n m : Nat), okDs n xs = true → okDs m ys = true → PyData.eqvAll (pds xs) (pds ys) = eqWs xs ys
  | [], ys, n, m, h1, h2 => by cases ys <;> simp [pds, eqWs, PyData.eqvAll]
  | x :: xs, ys, n, m, h1, h2 => by
    cases ys with
    | nil => simp [pds, eqWs, PyData.eqvAll]
    | cons y ys =>
      simp only [okDs, Bool.and_eq_true] at h1 h2
      simp only [pds, eqWs, PyData.eqvAll]
      rw [pd_eqv x y n m h1.1 h2.1, pd_eqvs xs ys n m h1.2 h2.2]
end
mutual
theorem okD_lay : ∀ (x : W) (n : Nat), okD n x = true → (pd x).canLay0 = true ∧ (pd x).depth ≤ n
  | .non, n, h => by simp [pd, PyData.canLay0, PyData.depth]
  | .bl b, n, h => by simp [pd, PyData.canLay0, PyData.depth]
  | .int i, n, h => by simp [pd, PyData.canLay0, PyData.depth]
  | .str s, n, h => by
    have h' : s.all (· < 0x110000) = true := by cases n <;> simpa [okD] using h
    refine ⟨?_, by simp [pd, PyData.depth]⟩
    simp only [pd, PyData.canLay0, PyData.strOk]
    simpa using h'
  | .tup xs, n, h => by
    cases n with
    | zero => simp [okD] at h
    | succ n =>
      simp only [okD] at h
      have := okDs_lay xs n h
      simp only [pd, PyData.canLay0, PyData.depth]
      exact ⟨this.1, by omega⟩
  | .lst xs, n, h => by
    cases n with
    | zero => simp [okD] at h
    | succ n =>
      simp only [okD] at h
      have := okDs_lay xs n h
      simp only [pd, PyData.canLay0, PyData.depth]
      exact ⟨this.1, by omega⟩
  | .ref k, n, h => by cases n <;> simp [okD] at h
theorem okDs_lay : ∀ (xs : List W) (n : Nat), okDs n xs = true → PyData.canLayAll0 (pds xs) = true ∧ PyData.depthAll (pds xs) ≤ n
  | [], n, h => by simp [pds, PyData.canLayAll0, PyData.depthAll]
  | x :: xs, n, h => by
    simp only [okDs, Bool.and_eq_true] at h
    have a := okD_lay x n h.1
    have b := okDs_lay xs n h.2
    simp only [pds, PyData.canLayAll0, PyData.depthAll, Bool.and_eq_true]
    exact ⟨⟨a.1, b.1⟩, Nat.max_le.mpr ⟨a.2, b.2⟩⟩
end
section
variable {K : PySem.W.Frag} {mg : Str → Option Value} {ρ : List Addr} {S : Sto} {B0 B : Ban} {H : Hp}
mutual
theorem rel_dp : ∀ (x : W) (v : V) (n : Nat), Rel K ρ B H x v → okD n x = true → Dp K H v (pd x)
  | .non, v, n, h, _ => by cases h; exact .non
  | .bl b, v, n, h, _ => by cases h; exact .bl b
  | .int i, v, n, h, _ => by cases h; exact .int i
  | .str s, v, n, h, _ => by cases h; exact .str _
  | .tup xs, v, n, h, o => by
    cases n with
    | zero => simp [okD] at o
    | succ n =>
      simp only [okD] at o
      obtain ⟨a, vs, rfl, h1, h2⟩ := h.tup_inv
      exact .tup h1 (rels_dp xs vs n h2 o)
  | .lst xs, v, n, h, o => by
    cases n with
    | zero => simp [okD] at o
    | succ n =>
      simp only [okD] at o
      cases h with
      | lst h1 h2 h3 h4 => exact .lst (.of h1) (rels_dp xs _ n ⟨h3, h4⟩ o)
  | .ref k, v, n, h, o => by cases n <;> simp [okD] at o
theorem rels_dp : ∀ (xs : List W) (vs : List V) (n : Nat), Rels K ρ B H xs vs → okDs n xs = true → DpAll K H vs (pds xs)
  | [], vs, n, h, _ => by
    have := h.nil_inv
    subst this
    exact .nil
  | x :: xs, vs, n, h, o => by
    obtain ⟨v, vs', rfl, h1, h2⟩ := h.cons_inv
    simp only [okDs, Bool.and_eq_true] at o
    exact .cons (rel_dp x v n h1 o.1) (rels_dp xs vs' n h2 o.2)
end
end
/-- a store's list as a value -/
def snap (S : Sto) : W → W
  | .ref n => match lstOf S (.ref n) with
    | some xs => .lst xs
    | none => .ref n
  | .fro xs => .lst xs
  | w => w
def scalW : W → Bool
  | .non => true
  | .bl _ => true
  | .int _ => true
  | .str _ => true
  | _ => false
section
variable {K : PySem.W.Frag} {mg : Str → Option Value} {ρ : List Addr} {S : Sto} {B0 B : Ban} {H : Hp}
theorem snap_dp {x : W} {v : V} {n : Nat} (r : SR K mg ρ S B0 H) (h : Rel K ρ (Bn B0 ρ S) H x v) (o : okD n (snap S x) = true) : Dp K H v (pd (snap S x)) := by
  cases x with
  | ref k =>
    have e : snap S (.ref k) = match lstOf S (.ref k) with
      | some xs => .lst xs
      | none => .ref k := rfl
    cases q : lstOf S (.ref k) with
    | none =>
      rw [q] at e
      rw [e] at o
      cases n <;> simp [okD] at o
    | some ws =>
      rw [q] at e
      simp only at e
      rw [e] at o ⊢
      obtain ⟨a, vs, rfl, h1, h2⟩ := r.lst h q
      cases n with
      | zero => simp [okD] at o
      | succ n =>
        simp only [okD] at o
        exact .lst h1 (rels_dp ws vs n h2 o)
  | non => exact rel_dp _ _ n h o
  | bl b => exact rel_dp _ _ n h o
  | int i => exact rel_dp _ _ n h o
  | str s => exact rel_dp _ _ n h o
  | tup xs => exact rel_dp _ _ n h o
  | lst xs => exact rel_dp _ _ n h o
  | fro xs =>
    cases h with
    | fro h1 h3 h4 =>
      have o' : okD n (.lst xs) = true := o
      cases n with
      | zero => simp [okD] at o'
      | succ n =>
        simp only [okD] at o'
        exact .lst h1.toL (rels_dp xs _ n ⟨h3, h4⟩ o')
def fEq (x y : W) (S : Sto) : Out FW := if okD 60 (snap S x) = true ∧ okD 60 (snap S y) = true then .ok (.val (.bl (eqW (snap S x) (snap S y)))) S else .fail
def fNe (x y : W) (S : Sto) : Out FW := if okD 60 (snap S x) = true ∧ okD 60 (snap S y) = true then .ok (.val (.bl (!eqW (snap S x) (snap S y)))) S else .fail
theorem shaped_of {x : W} (h : okD 60 x = true) : SeqAt.shaped (pd x) = true := by
  have := okD_lay x 60 h
  unfold SeqAt.shaped
  rw [this.1, Bool.true_and]
  exact decide_eq_true (Nat.le_trans this.2 (by decide))
theorem of_eq : OpM K mg fEq (rEqD K) := fun {Xw B0 ρ S H x y v u Q} r hx hy h => by
  unfold fEq at h
  split at h
  · rename_i c
    refine ⟨_, _, snap_dp r hx c.1, snap_dp r hy c.2, shaped_of c.1, shaped_of c.2, ?_⟩
    rw [pd_eqv _ _ 60 60 c.1 c.2]
    exact gE_here r h (.bl _)
  · exact h.elim
theorem of_ne : OpM K mg fNe (rNeD K) := fun {Xw B0 ρ S H x y v u Q} r hx hy h => by
  unfold fNe at h
  split at h
  · rename_i c
    refine ⟨_, _, snap_dp r hx c.1, snap_dp r hy c.2, shaped_of c.1, shaped_of c.2, ?_⟩
    rw [pd_eqv _ _ 60 60 c.1 c.2]
    exact gE_here r h (.bl _)
  · exact h.elim
end
/-! ### arithmetic -/
section
variable {K : PySem.W.Frag} {mg : Str → Option Value} {X : Cx}
/-- a function of two ints under a condition -/
def fI (c : Int → Int → Bool) (g : Int → Int → W) (x y : W) (S : Sto) : Out FW := match x, y with
  | .int i, .int j => if c i j = true then .ok (.val (g i j)) S else .fail
  | _, _ => .fail
theorem of_I {c : Int → Int → Bool} {C : Int → Int → Prop} {g : Int → Int → V} {gW : Int → Int → W} (hc : ∀ i j, c i j = true → C i j) (hg : ∀ i j K ρ B H, Rel K ρ B H (gW i j) (g i j)) : OpM K mg (fI c gW) (rI C g) := fun {Xw B0 ρ S H x y v u Q} r hx hy h => by
  unfold fI at h
  split at h
  · split at h
    · rename_i i j cc
      rw [hx.int_inv, hy.int_inv]
      exact ⟨i, j, rfl, rfl, hc i j cc, gE_here r h (hg _ _ _ _ _ _)⟩
    · exact h.elim
  · exact h.elim
theorem of_I0 {g : Int → Int → V} {gW : Int → Int → W} (hg : ∀ i j K ρ B H, Rel K ρ B H (gW i j) (g i j)) : OpM K mg (fI (fun _ _ => true) gW) (rI0 g) := fun {Xw B0 ρ S H x y v u Q} r hx hy h => by
  unfold fI at h
  split at h
  · rename_i i j
    rw [hx.int_inv, hy.int_inv]
    rw [if_pos rfl] at h
    exact ⟨i, j, rfl, rfl, gE_here r h (hg _ _ _ _ _ _)⟩
  · exact h.elim
abbrev fSub := fI (fun _ _ => true) fun i j => .int (i - j)
theorem of_sub : OpM K mg fSub (rI0 fun i j => .int (i - j)) := of_I0 fun _ _ _ _ _ _ => .int _
def smallI (i : Int) : Bool := decide (-(2 ^ 64) < i) && decide (i < 2 ^ 64)
def cMul (i j : Int) : Bool := smallI i || smallI j
def cMulW (i j : Int) : Bool := decide (i.natAbs.log2 + j.natAbs.log2 < 1000000)
abbrev fMulW := fI cMulW fun i j => .int (i * j)
theorem of_mulW : OpM K mg fMulW (rI CMulW fun i j => .int (i * j)) := of_I (fun i j h => by simpa [cMulW, CMulW] using h) fun _ _ _ _ _ _ => .int _
def cDiv (_ j : Int) : Bool := decide (0 < j) && decide (j < 1073741824)
abbrev fDiv := fI cDiv fun i j => .int (i / j)
theorem of_div : OpM K mg fDiv (rI CDiv fun i j => .int (i / j)) := of_I (fun i j h => by simpa [cDiv, CDiv] using h) fun _ _ _ _ _ _ => .int _
def cDivW (_ j : Int) : Bool := decide (0 < j) && decide (j.natAbs.log2 < 9000)
abbrev fDivW := fI cDivW fun i j => .int (i / j)
theorem of_divW : OpM K mg fDivW (rI CDivW fun i j => .int (i / j)) := of_I (fun i j h => by simpa [cDivW, CDivW] using h) fun _ _ _ _ _ _ => .int _
abbrev fMod := fI (fun _ j => decide (0 < j)) fun i j => .int (i % j)
theorem of_mod : OpM K mg fMod (rI (fun _ j => 0 < j) fun i j => .int (i % j)) := of_I (fun i j h => by simpa using h) fun _ _ _ _ _ _ => .int _
def cPow (i j : Int) : Bool := decide (0 ≤ j) && decide (j ≤ 1000000) && smallI i
abbrev fPow := fI cPow fun i j => .int (i ^ j.toNat)
theorem of_pow : OpM K mg fPow (rI CPow fun i j => .int (i ^ j.toNat)) := of_I (fun i j h => by
  simp only [cPow, smallI, Bool.and_eq_true, decide_eq_true_eq] at h
  exact ⟨h.1.1, h.1.2, by omega⟩) fun _ _ _ _ _ _ => .int _
abbrev fLt := fI (fun _ _ => true) fun i j => .bl (decide (i < j))
abbrev fLe := fI (fun _ _ => true) fun i j => .bl (decide (i ≤ j))
abbrev fGt := fI (fun _ _ => true) fun i j => .bl (decide (j < i))
abbrev fGe := fI (fun _ _ => true) fun i j => .bl (decide (j ≤ i))
theorem of_lt : OpM K mg fLt (rI0 fun i j => .bl (decide (i < j))) := of_I0 fun _ _ _ _ _ _ => .bl _
theorem of_le : OpM K mg fLe (rI0 fun i j => .bl (decide (i ≤ j))) := of_I0 fun _ _ _ _ _ _ => .bl _
theorem of_gt : OpM K mg fGt (rI0 fun i j => .bl (decide (j < i))) := of_I0 fun _ _ _ _ _ _ => .bl _
theorem of_ge : OpM K mg fGe (rI0 fun i j => .bl (decide (j ≤ i))) := of_I0 fun _ _ _ _ _ _ => .bl _
/-- - -/
def fNeg (x : W) (S : Sto) : Out FW := match x with
  | .int i => .ok (.val (.int (-i))) S
  | _ => .fail
theorem of_neg : UnM K mg fNeg (rU fun i => .int (-i)) := fun {Xw B0 ρ S H x v Q} r hx h => by
  unfold fNeg at h
  split at h
  · rename_i i
    rw [hx.int_inv]
    exact ⟨i, rfl, gE_here r h (.int _)⟩
  · exact h.elim
/-- x + y -/
def fAdd (x y : W) (S : Sto) : Out FW := match x, y with
  | .int i, .int j => .ok (.val (.int (i + j))) S
  | .str s, .str t => if s.length + t.length ≤ LINE then .ok (.val (.str (s ++ t))) S else .fail
  | .tup xs, .tup ys => if xs.length + ys.length ≤ LINE then .ok (.val (.tup (xs ++ ys))) S else .fail
  | x, y => match lsxOf S x, lsxOf S y with
    | some xs, some ys => if xs.length + ys.length ≤ LINE then .ok (.new (xs ++ ys)) S else .fail
    | _, _ => .fail
def rAddStr : R2 := fun x y H Q => ∃ i j, x = .str i ∧ y = .str j ∧ i.length + j.length ≤ sizeLine ∧ Q (.str (i ++ j)) H
def rAddA (K : PySem.W.Frag) : R2 := fun x y H Q => (rI0 (fun i j => .int (i + j)) x y H Q ∨ rAddStr x y H Q) ∨ (rCatA K x y H Q ∨ rCat x y H Q)
theorem op_addA : OpR X (binaryOp .Add) (rAddA X.K) := (op_add.or op_add_str).or (op_catA.or op_cat)
theorem str_app (s t : List Nat) : ((⟨s.toArray⟩ : Str) ++ (⟨t.toArray⟩ : Str)) = ⟨(s ++ t).toArray⟩ := by
  show (⟨s.toArray ++ t.toArray⟩ : Str) = _
  simp
theorem str_len (s : List Nat) : (⟨s.toArray⟩ : Str).length = s.length := by
  show s.toArray.size = s.length
  simp
theorem of_add : OpM K mg fAdd (rAddA K) := fun {Xw B0 ρ S H x y v u Q} r hx hy h => by
  unfold fAdd at h
  split at h
  · rename_i i j
    rw [hx.int_inv, hy.int_inv]
    exact .inl (.inl ⟨i, j, rfl, rfl, gE_here r h (.int _)⟩)
  · rename_i s t
    split at h
    · rename_i hl
      rw [hx.str_inv, hy.str_inv]
      refine .inl (.inr ⟨_, _, rfl, rfl, by rw [str_len, str_len, line_eq]; exact hl, ?_⟩)
      rw [str_app]
      exact gE_here r h (.str _)
    · exact h.elim
  · rename_i xs ys
    split at h
    · rename_i hl
      obtain ⟨a, vs, rfl, h1, h2⟩ := hx.tup_inv
      obtain ⟨b, us, rfl, k1, k2⟩ := hy.tup_inv
      refine .inr (.inl ⟨a, b, vs, us, rfl, rfl, h1, k1, by rw [← h2.1, ← k2.1, line_eq]; exact hl, fun e => ?_, fun _ e => ?_, fun _ _ p hp => gE_tup r h hp (h2.append k2)⟩)
      · subst e
        have e2 : xs = [] := List.eq_nil_of_length_eq_zero (by simpa using h2.1)
        subst e2
        exact gE_here r h hy
      · subst e
        have e2 : ys = [] := List.eq_nil_of_length_eq_zero (by simpa using k2.1)
        subst e2
        rw [List.append_nil] at h
        exact gE_here r h hx
    · exact h.elim
  · split at h
    · rename_i xs ys q1 q2
      split at h
      · rename_i hl
        obtain ⟨a, vs, rfl, h1, h2⟩ := r.lsx hx q1
        obtain ⟨b, us, rfl, k1, k2⟩ := r.lsx hy q2
        exact .inr (.inr ⟨a, b, vs, us, rfl, rfl, h1, k1, by rw [← h2.1, ← k2.1, line_eq]; exact hl, fun p hp => gN_made r h hp (h2.append k2)⟩)
      · exact h.elim
    · exact h.elim
/-- x * y -/
theorem rels_rep {ρ : List Addr} {B : Ban} {H : Hp} {ws : List W} {vs : List V} (t : Rels K ρ B H ws vs) : ∀ k : Nat, Rels K ρ B H (List.replicate k ws).flatten (List.replicate k vs).flatten
  | 0 => .nil
  | k + 1 => by
    rw [List.replicate_succ, List.replicate_succ, List.flatten_cons, List.flatten_cons]
    exact t.append (rels_rep t k)
def rMulStr : R2 := fun x y H Q => ∃ (s : List Nat) (n : Int), x = .str ⟨s.toArray⟩ ∧ y = .int n ∧ 0 ≤ n ∧ n ≤ 16777216 ∧ s.length * n.toNat ≤ LINE ∧ Q (.str ⟨((List.replicate n.toNat s).flatten).toArray⟩) H
theorem foldl_nat (s : List Nat) : ∀ (k : Nat) (acc : List Nat), List.foldl (fun x1 x2 => x1 ++ x2) acc.toArray (List.replicate k s.toArray) = (acc ++ (List.replicate k s).flatten).toArray
  | 0, acc => by simp
  | k + 1, acc => by
    rw [List.replicate_succ, List.foldl_cons, List.replicate_succ, List.flatten_cons]
    have e : acc.toArray ++ s.toArray = (acc ++ s).toArray := by simp
    rw [e, foldl_nat s k (acc ++ s), List.append_assoc]
theorem txt_mul {s : List Nat} {n : Int} (h0 : 0 ≤ n) : Txt.mul ⟨s.toArray⟩ n = ⟨((List.replicate n.toNat s).flatten).toArray⟩ := by
  unfold Txt.mul
  by_cases h1 : n < 1
  · have e : n.toNat = 0 := by omega
    rw [if_pos h1, e]; rfl
  · rw [if_neg h1]
    have f := foldl_nat s n.toNat []
    rw [List.nil_append] at f
    by_cases h2 : (n == 1 || (⟨s.toArray⟩ : Str).length == 0) = true
    · rw [if_pos h2]
      simp only [Bool.or_eq_true, beq_iff_eq, str_len] at h2
      rcases h2 with h2 | h2
      · subst h2; simp
      · have e : s = [] := List.eq_nil_of_length_eq_zero h2
        subst e
        simp
    · rw [if_neg h2, f]
theorem op_mulStr : OpR X (binaryOp .Mult) rMulStr := by
  intro pins s σ H x y v u Q I rx ry h
  obtain ⟨z, n, rfl, rfl, h0, h1, hl, q⟩ := h
  obtain ⟨t, rfl⟩ := rx
  obtain ⟨t', rfl⟩ := ry
  have hm : z.length * n.toNat ≤ 16777216 := hl
  have hp : ((z.length * n.toNat : Nat) : Int) = (z.length : Int) * n := by rw [Int.natCast_mul, Int.toNat_of_nonneg h0]
  refine SB.mul ⟨?_, fun h1' _ => ?_, fun _ _ => ?_⟩ fun t2 k => ?_
  · have a1 : ¬ n < -(2 ^ 63 : Int) := by omega
    have a2 : ¬ n ≥ (2 ^ 63 : Int) := by omega
    rw [decide_eq_false a1, decide_eq_false a2]; rfl
  · rw [str_len]
    intro hc
    have h3 : (z.length : Int) ≤ (2 ^ 63 - 1) / n := by
      rw [Int.le_ediv_iff_mul_le (by omega)]
      rw [← hp]; omega
    omega
  · rw [str_len]
    unfold Builtin.Str.tooLong
    rw [sizeLine_eq]
    exact decide_eq_false (by omega)
  · rw [txt_mul h0]
    exact ⟨.str _, H, I.tok k, ⟨t2, rfl⟩, q⟩
def fMul (x y : W) (S : Sto) : Out FW := match x, y with
  | .int i, .int j => if cMul i j = true ∨ cMulW i j = true then .ok (.val (.int (i * j))) S else .fail
  | .str s, .int n => if 0 ≤ n ∧ n ≤ 16777216 ∧ s.length * n.toNat ≤ LINE then .ok (.val (.str (List.replicate n.toNat s).flatten)) S else .fail
  | .tup xs, .int n => if xs ≠ [] ∧ 2 ≤ n ∧ n ≤ 1000 ∧ xs.length ≤ 1000 then .ok (.val (.tup (List.replicate n.toNat xs).flatten)) S else .fail
  | x, .int n => match lsxOf S x with
    | some xs => if -(2 ^ 63) ≤ n ∧ n < 2 ^ 63 ∧ xs.length * n.toNat ≤ LINE then .ok (.new (List.replicate n.toNat xs).flatten) S else .fail
    | none => .fail
  | _, _ => .fail
def rMulA (K : PySem.W.Frag) : R2 := fun x y H Q => (rI CMul (fun i j => .int (i * j)) x y H Q ∨ rI CMulW (fun i j => .int (i * j)) x y H Q) ∨ (rMulStr x y H Q ∨ (rRepT K x y H Q ∨ rRep x y H Q))
theorem op_mulA : OpR X (binaryOp .Mult) (rMulA X.K) := (op_mul.or op_mulW).or (op_mulStr.or (op_repT.or op_rep))
theorem of_mul : OpM K mg fMul (rMulA K) := fun {Xw B0 ρ S H x y v u Q} r hx hy h => by
  unfold fMul at h
  split at h
  · rename_i i j
    split at h
    · rename_i c
      rw [hx.int_inv, hy.int_inv]
      rcases c with c | c
      · exact .inl (.inl ⟨i, j, rfl, rfl, by simpa [cMul, smallI, CMul] using c, gE_here r h (.int _)⟩)
      · exact .inl (.inr ⟨i, j, rfl, rfl, by simpa [cMulW, CMulW] using c, gE_here r h (.int _)⟩)
    · exact h.elim
  · rename_i s n
    split at h
    · rename_i c
      rw [hx.str_inv, hy.int_inv]
      exact .inr (.inl ⟨s, n, rfl, rfl, c.1, c.2.1, c.2.2, gE_here r h (.str _)⟩)
    · exact h.elim
  · rename_i xs n
    split at h
    · rename_i c
      obtain ⟨a, vs, rfl, h1, h2⟩ := hx.tup_inv
      rw [hy.int_inv]
      refine .inr (.inr (.inl ⟨a, n, vs, rfl, rfl, h1, fun e => c.1 ?_, c.2.1, c.2.2.1, by rw [← h2.1]; exact c.2.2.2, fun p hp => gE_tup r h hp (rels_rep h2 _)⟩))
      subst e
      exact List.eq_nil_of_length_eq_zero (by simpa using h2.1)
    · exact h.elim
  · rename_i n hn1 hn2 hn3
    split at h
    · rename_i xs q
      split at h
      · rename_i c
        obtain ⟨a, vs, rfl, h1, h2⟩ := r.lsx hx q
        rw [hy.int_inv]
        exact .inr (.inr (.inr ⟨a, n, vs, rfl, rfl, h1, c.1, c.2.1, by rw [← h2.1, line_eq]; exact c.2.2, fun p hp => gN_made r h hp (rels_rep h2 _)⟩))
      · exact h.elim
    · exact h.elim
  · exact h.elim
/-- x[i] -/
theorem rels_at {ρ : List Addr} {B : Ban} {H : Hp} {ws : List W} {vs : List V} {i : Int} {w : W} (t : Rels K ρ B H ws vs) (h : atI ws i = some w) : ∃ v, atI vs i = some v ∧ Rel K ρ B H w v := by
  unfold atI at h ⊢
  rw [← t.1]
  cases q : ixN ws.length i with
  | none => rw [q] at h; cases h
  | some j =>
    rw [q] at h
    exact t.get h
def fIx (x y : W) (S : Sto) : Out FW := match x, y with
  | .str s, .int i => if s.length ≤ LINE then match atI s i with
    | some c => .ok (.val (.str [c])) S
    | none => .fail
    else .fail
  | x, .int i => match seqOf S x with
    | some xs => match atI xs i with
      | some w => .ok (.val w) S
      | none => .fail
    | none => .fail
  | _, _ => .fail
theorem of_ix : OpM K mg fIx (rIx K) := fun {Xw B0 ρ S H x y v u Q} r hx hy h => by
  unfold fIx at h
  split at h
  · rename_i s i
    split at h
    · rename_i hl
      split at h
      · rename_i c q
        rw [hx.str_inv, hy.int_inv]
        exact .inr (.inr ⟨_, i, c, rfl, rfl, by rw [str_len, line_eq]; exact hl, by simpa using q, gE_here r h (.str [c])⟩)
      · exact h.elim
    · exact h.elim
  · rename_i i hn
    split at h
    · rename_i xs q
      split at h
      · rename_i w q2
        obtain ⟨a, vs, rfl, h1, h2⟩ := r.seq hx q
        rw [hy.int_inv]
        obtain ⟨z, hz, rz⟩ := rels_at h2 q2
        rcases h1 with h1 | h1
        · exact .inl ⟨a, vs, i, z, rfl, rfl, h1, hz, gE_here r h rz⟩
        · exact .inr (.inl ⟨a, vs, i, z, rfl, rfl, h1, hz, gE_here r h rz⟩)
      · exact h.elim
    · exact h.elim
  · exact h.elim
/-- len(x) -/
def fLen (as : List W) (S : Sto) : Out FW := match as with
  | [.str s] => if s.length ≤ LINE then .ok (.val (.int s.length)) S else .fail
  | [x] => match seqOf S x with
    | some xs => .ok (.val (.int xs.length)) S
    | none => .fail
  | _ => .fail
def rLenA (K : PySem.W.Frag) : List V → Hp → VK → Prop := fun xs H Q => (∃ p ys, xs = [.ref p] ∧ (SqL K H p ys ∨ SqT K H p ys) ∧ Q (.int ys.length) H) ∨ (∃ z, xs = [.str z] ∧ z.length ≤ sizeLine ∧ Q (.int z.length) H)
theorem call_lenA : CallR X (.builtin "len") (rLenA X.K) := call_len_seq.or call_len_str
theorem cf_len : CaM K mg fLen (rLenA K) := fun {Xw B0 ρ S H ws vs Q} r hx h => by
  unfold fLen at h
  split at h
  · rename_i s
    split at h
    · rename_i hl
      obtain ⟨v, vs', rfl, h1, h2⟩ := hx.cons_inv
      have := h2.nil_inv
      subst this
      rw [h1.str_inv]
      refine .inr ⟨_, rfl, by rw [str_len, line_eq]; exact hl, ?_⟩
      rw [str_len]
      exact gE_here r h (.int _)
    · exact h.elim
  · rename_i x hn
    split at h
    · rename_i xs q
      obtain ⟨v, vs', rfl, h1, h2⟩ := hx.cons_inv
      have := h2.nil_inv
      subst this
      obtain ⟨a, us, rfl, k1, k2⟩ := r.seq h1 q
      refine .inl ⟨a, us, rfl, k1, ?_⟩
      rw [← k2.1]
      exact gE_here r h (.int _)
    · exact h.elim
  · exact h.elim
/-- x[lo:hi] -/
def cutW {α : Type} (xs : List α) (lo hi : Option Int) : List α := (xs.drop (HT.sIx xs.length 0 lo)).take (HT.sIx xs.length xs.length hi - HT.sIx xs.length 0 lo)
def fSl (x : W) (lo hi : Option Int) (S : Sto) : Out FW := match x with
  | .str s => if s.length ≤ LINE then .ok (.val (.str (cutW s lo hi))) S else .fail
  | .tup xs => .ok (.val (.tup (cutW xs lo hi))) S
  | x => match lstOf S x with
    | some xs => .ok (.new (cutW xs lo hi)) S
    | none => .fail
def rSlAll (K : PySem.W.Frag) : V → Option Int → Option Int → Hp → VK → Prop := fun x lo hi H Q => rSlS x lo hi H Q ∨ (rSlA K x lo hi H Q ∨ rSlL K x lo hi H Q)
theorem sl_all : SlR X (rSlAll X.K) := sl_str.or (sl_tupA.or sl_list)
theorem rels_cut {ρ : List Addr} {B : Ban} {H : Hp} {ws : List W} {vs : List V} (t : Rels K ρ B H ws vs) (lo hi : Option Int) : Rels K ρ B H (cutW ws lo hi) (cutV vs lo hi) := by
  unfold cutW cutV
  rw [← t.1]
  exact (t.drop _).take _
theorem sf_all {Xw : Value → Hp → Prop} {B0 : Ban} {ρ : List Addr} {S : Sto} {H : Hp} {x : W} {v : V} {lo hi : Option Int} {Q : VK} (r : SR K mg ρ S B0 H) (hx : Rel K ρ (Bn B0 ρ S) H x v) (h : End K mg Xw (gF K mg Q) B0 ρ S H (fSl x lo hi S)) : rSlAll K v lo hi H Q := by
  unfold fSl at h
  split at h
  · rename_i s
    split at h
    · rename_i hl
      rw [hx.str_inv]
      refine .inl ⟨_, rfl, by rw [str_len, line_eq]; exact hl, gE_here r h ?_⟩
      have e : cutS ⟨s.toArray⟩ lo hi = ⟨(cutW s lo hi).toArray⟩ := by
        unfold cutS cutW
        rw [str_len]
      rw [e]
      exact .str _
    · exact h.elim
  · rename_i xs
    obtain ⟨a, vs, rfl, h1, h2⟩ := hx.tup_inv
    refine .inr (.inl ⟨a, vs, rfl, h1, fun e => ?_, fun _ p hp => gE_tup r h hp (rels_cut h2 lo hi)⟩)
    have e2 : cutW xs lo hi = xs := by
      unfold cutW
      rw [h2.1, e.1, e.2, ← h2.1]
      simp
    rw [e2] at h
    exact gE_here r h hx
  · rename_i hn1 hn2
    split at h
    · rename_i xs q
      obtain ⟨a, vs, rfl, h1, h2⟩ := r.lst hx q
      exact .inr (.inr ⟨a, vs, rfl, h1, fun p hp => gN_made r h hp (rels_cut h2 lo hi)⟩)
    · exact h.elim
end
/-! ### a slice's parts -/
section
variable {X : Cx} {Wx : WX} {K : PySem.W.Frag} {mg : Str → Option Value}
def gP (K : PySem.W.Frag) (mg : Str → Option Value) (Q : Option Int → Hp → Prop) : GP (Option Int) := fun B0 ρ S H o S' => ∀ ρ' H', Ext ρ S H ρ' S' H' → SR K mg ρ' S' B0 H' → Q o H'
theorem lat_gP {Q : Option Int → Hp → Prop} : Lat (gP K mg Q) := ⟨fun _ _ _ _ _ _ _ _ _ e h ρ2 H2 f r => h ρ2 H2 (e.trans f) r⟩
def mNoPart : Env → Sto → Out (Option Int) := fun _ S => .ok none S
def mPart (m : Env → Sto → Out W) : Env → Sto → Out (Option Int) := fun env S => (m env S).bind fun w S1 => match w with
  | .int i => .ok (some i) S1
  | _ => .fail
abbrev TPm (K : PySem.W.Frag) (mg : Str → Option Value) (Wx : WX) (m : Env → Sto → Out (Option Int)) : TO := fun σ H Q => Tg K mg Wx m σ H (gP K mg Q)
theorem po_imp {e : Option Expr} {t t' : TO} (h : PO X e t) (i : ∀ σ H Q, t' σ H Q → t σ H Q) : PO X e t' := ⟨fun pins s σ H Q I w => h.run pins s σ H Q I (i σ H Q w)⟩
theorem mp_none : PO X none (TPm X.K X.mg Wx mNoPart) := po_imp po_none fun σ H Q ⟨B0, ρ, env, S, r, er, h⟩ => h ρ H .refl r
theorem mp_some {e : Expr} {m : Env → Sto → Out W} (h : PE X e (TEm X.K X.mg Wx m)) : PO X (some e) (TPm X.K X.mg Wx (mPart m)) :=
  po_imp (po_some h) fun σ H Q ⟨B0, ρ, env, S, r, er, h⟩ => ⟨B0, ρ, env, S, r, er, h.bindE lat_gP fun w S1 ρ1 H1 v e1 r1 q1 h1 => by
    cases w with
    | int i => exact ⟨i, q1.int_inv, h1 ρ1 H1 .refl r1⟩
    | _ => exact h1.elim⟩
theorem End.bindP {β : Type} {X : Value → Hp → Prop} {B0 : Ban} {ρ : List Addr} {S : Sto} {H : Hp} {m : Out (Option Int)} {k : Option Int → Sto → Out β} {g : GP β} {P : Option Int → Hp → Prop} (l : Lat g) (h : End K mg X g B0 ρ S H (m.bind k))
    (hk : ∀ b S1 ρ1 H1, Ext ρ S H ρ1 S1 H1 → SR K mg ρ1 S1 B0 H1 → End K mg X g B0 ρ1 S1 H1 (k b S1) → P b H1) : End K mg X (gP K mg P) B0 ρ S H m :=
  h.bind fun w S1 h1 ρ1 H1 e r => hk w S1 ρ1 H1 e r (h1.later l e)
def mSl (m : Env → Sto → Out W) (lo hi : Env → Sto → Out (Option Int)) : Env → Sto → Out FW := fun env S => (m env S).bind fun x S1 => (lo env S1).bind fun l S2 => (hi env S2).bind fun u S3 => fSl x l u S3
theorem me_slice {e : Expr} {lo hi : Option Expr} {p2 pos : Pos} {m : Env → Sto → Out W} {ml mh : Env → Sto → Out (Option Int)} (he : PE X e (TEm X.K X.mg Wx m)) (hl : PO X lo (TPm X.K X.mg Wx ml)) (hu : PO X hi (TPm X.K X.mg Wx mh)) :
    PE X (.Subscript e (.Slice lo hi none p2) pos) (TFm X.K X.mg Wx (mSl m ml mh)) :=
  pe_imp (pe_slice sl_all he hl hu) fun σ H Q ⟨B0, ρ, env, S, r, er, h⟩ => ⟨B0, ρ, env, S, r, er, h.bindE lat_gF fun x S1 ρ1 H1 v e1 r1 q1 h1 =>
    ⟨B0, ρ1, env, S1, r1, er.ext r e1, h1.bindP lat_gF fun l S2 ρ2 H2 e2 r2 h2 => ⟨B0, ρ2, env, S2, r2, (er.ext r e1).ext r1 e2, h2.bindP lat_gF fun u S3 ρ3 H3 e3 r3 h3 => sf_all r3 ((q1.ext r1 e2).ext r2 e3) h3⟩⟩⟩
end
end L2.Mi

set_option Elab.async false
set_option linter.all false
set_option maxRecDepth 100000
set_option maxHeartbeats 2000000
/-! # The engine, part D: tests, statements, loops, comprehensions -/
namespace L2.Mi
open PySem PySem.Spec PyProof.Rows
section
variable {X : Cx} {Wx : WX}
/-! ### tests -/
def mTestF (m : Env → Sto → Out FW) : Env → Sto → Out Bool := fun env S => (m env S).bind fun w S1 => match w with
  | .val (.bl b) => .ok b S1
  | _ => .fail
def mTest (m : Env → Sto → Out W) : Env → Sto → Out Bool := fun env S => (m env S).bind fun w S1 => match w with
  | .bl b => .ok b S1
  | _ => .fail
theorem tTest_imp {K : PySem.W.Frag} {mg : Str → Option Value} {m : Env → Sto → Out FW} {σ : L2.St} {H : Hp} {Q : Bool → Hp → Prop} (h : TTm K mg Wx (mTestF m) σ H Q) : tTest (TFm K mg Wx m) σ H Q := by
  obtain ⟨B0, ρ, env, S, r, er, h⟩ := h
  refine ⟨B0, ρ, env, S, r, er, h.bind fun w S1 h1 => ?_⟩
  cases w with
  | val w =>
    cases w with
    | bl b => exact fun ρ1 H1 v e1 r1 q1 => ⟨b, q1.bl_inv, h1 ρ1 H1 e1 r1⟩
    | _ => exact h1.elim
  | new ws => exact h1.elim
/-- a comparison as a test -/
theorem mt_op {c : Expr} {f : W → W → Sto → Out FW} {r : R2} {ma mb : Env → Sto → Out W} (h : PT X c (tTest (tOp r (TEm X.K X.mg Wx ma) (TEm X.K X.mg Wx mb)))) (hf : OpM X.K X.mg f r) : PT X c (TTm X.K X.mg Wx (mTestF (m2 f ma mb))) :=
  pt_imp h fun σ H Q q => to_imp hf (tTest_imp q)
/-- an expression as a test -/
theorem mt_val {e : Expr} {m : Env → Sto → Out W} (h : PE X e (TEm X.K X.mg Wx m)) (he : ∀ whole, isTrue e X.env whole = (do let v ← whole; standAt e.pos; holding [v] (truthy v)) := by intro _; rfl) : PT X e (TTm X.K X.mg Wx (mTest m)) :=
  pt_imp (pt_val h he) fun σ H Q ⟨B0, ρ, env, S, r, er, h⟩ => ⟨B0, ρ, env, S, r, er, h.bindE lat_gT fun w S1 ρ1 H1 v e1 r1 q1 h1 => by
    cases w with
    | bl b => exact ⟨b, q1.bl_inv, h1 ρ1 H1 .refl r1⟩
    | _ => exact h1.elim⟩
def mAnd (a b : Env → Sto → Out Bool) : Env → Sto → Out Bool := fun env S => (a env S).bind fun c S1 => if c = true then b env S1 else .ok false S1
def mOr (a b : Env → Sto → Out Bool) : Env → Sto → Out Bool := fun env S => (a env S).bind fun c S1 => if c = true then .ok true S1 else b env S1
def mNot (a : Env → Sto → Out Bool) : Env → Sto → Out Bool := fun env S => (a env S).bind fun c S1 => .ok (!c) S1
variable {a b : Expr} {rest : List Expr} {pos : Pos} {ma mb : Env → Sto → Out Bool}
theorem mw_and1 (ha : PT X a (TTm X.K X.mg Wx ma)) : PW X (.BoolOp .And [a] pos) (TTm X.K X.mg Wx ma) := pw_and1 ha
theorem mw_or1 (ha : PT X a (TTm X.K X.mg Wx ma)) : PW X (.BoolOp .Or [a] pos) (TTm X.K X.mg Wx ma) := pw_or1 ha
theorem mw_and (ha : PT X a (TTm X.K X.mg Wx ma)) (hb : PW X (.BoolOp .And (b :: rest) pos) (TTm X.K X.mg Wx mb)) : PW X (.BoolOp .And (a :: b :: rest) pos) (TTm X.K X.mg Wx (mAnd ma mb)) :=
  pw_imp (pw_and ha hb) fun σ H Q ⟨B0, ρ, env, S, r, er, h⟩ => ⟨B0, ρ, env, S, r, er, h.bindT lat_gT fun c S1 ρ1 H1 e1 r1 h1 => by
    cases c with
    | true => rw [if_pos rfl] at h1 ⊢; exact ⟨B0, ρ1, env, S1, r1, er.ext r e1, h1⟩
    | false => rw [if_neg Bool.false_ne_true] at h1 ⊢; exact h1 ρ1 H1 .refl r1⟩
theorem mw_or (ha : PT X a (TTm X.K X.mg Wx ma)) (hb : PW X (.BoolOp .Or (b :: rest) pos) (TTm X.K X.mg Wx mb)) : PW X (.BoolOp .Or (a :: b :: rest) pos) (TTm X.K X.mg Wx (mOr ma mb)) :=
  pw_imp (pw_or ha hb) fun σ H Q ⟨B0, ρ, env, S, r, er, h⟩ => ⟨B0, ρ, env, S, r, er, h.bindT lat_gT fun c S1 ρ1 H1 e1 r1 h1 => by
    cases c with
    | true => rw [if_pos rfl] at h1 ⊢; exact h1 ρ1 H1 .refl r1
    | false => rw [if_neg Bool.false_ne_true] at h1 ⊢; exact ⟨B0, ρ1, env, S1, r1, er.ext r e1, h1⟩⟩
theorem mt_not (ha : PT X a (TTm X.K X.mg Wx ma)) : PT X (.UnaryOp .Not a pos) (TTm X.K X.mg Wx (mNot ma)) :=
  pt_imp (pt_not ha) fun σ H Q ⟨B0, ρ, env, S, r, er, h⟩ => ⟨B0, ρ, env, S, r, er, h.bindT lat_gT fun c S1 ρ1 H1 e1 r1 h1 => h1 ρ1 H1 .refl r1⟩
/-- and, or, not as values (bools) -/
def mAndV (a b : Env → Sto → Out W) : Env → Sto → Out W := fun env S => (a env S).bind fun w S1 => match w with
  | .bl c => if c = true then b env S1 else .ok (.bl false) S1
  | _ => .fail
def mOrV (a b : Env → Sto → Out W) : Env → Sto → Out W := fun env S => (a env S).bind fun w S1 => match w with
  | .bl c => if c = true then .ok (.bl true) S1 else b env S1
  | _ => .fail
def mNotV (a : Env → Sto → Out W) : Env → Sto → Out W := fun env S => (a env S).bind fun w S1 => match w with
  | .bl c => .ok (.bl (!c)) S1
  | _ => .fail
variable {va vb : Env → Sto → Out W}
theorem me_one {op : BoolOp} (ha : PE X a (TEm X.K X.mg Wx va)) : PE X (.BoolOp op [a] pos) (TEm X.K X.mg Wx va) := pe_one ha
theorem me_and (ha : PE X a (TEm X.K X.mg Wx va)) (hb : PE X (.BoolOp .And (b :: rest) pos) (TEm X.K X.mg Wx vb)) : PE X (.BoolOp .And (a :: b :: rest) pos) (TEm X.K X.mg Wx (mAndV va vb)) :=
  pe_imp (pe_and ha hb) fun σ H Q ⟨B0, ρ, env, S, r, er, h⟩ => ⟨B0, ρ, env, S, r, er, h.bindE lat_gE fun w S1 ρ1 H1 v e1 r1 q1 h1 => by
    cases w with
    | bl c =>
      refine ⟨c, q1.bl_inv, ?_⟩
      cases c with
      | true => rw [if_pos rfl]; exact ⟨B0, ρ1, env, S1, r1, er.ext r e1, h1⟩
      | false => rw [if_neg Bool.false_ne_true]; exact gE_here r1 h1 (.bl _)
    | _ => exact h1.elim⟩
theorem me_or (ha : PE X a (TEm X.K X.mg Wx va)) (hb : PE X (.BoolOp .Or (b :: rest) pos) (TEm X.K X.mg Wx vb)) : PE X (.BoolOp .Or (a :: b :: rest) pos) (TEm X.K X.mg Wx (mOrV va vb)) :=
  pe_imp (pe_or ha hb) fun σ H Q ⟨B0, ρ, env, S, r, er, h⟩ => ⟨B0, ρ, env, S, r, er, h.bindE lat_gE fun w S1 ρ1 H1 v e1 r1 q1 h1 => by
    cases w with
    | bl c =>
      refine ⟨c, q1.bl_inv, ?_⟩
      cases c with
      | true => rw [if_pos rfl]; exact gE_here r1 h1 (.bl _)
      | false => rw [if_neg Bool.false_ne_true]; exact ⟨B0, ρ1, env, S1, r1, er.ext r e1, h1⟩
    | _ => exact h1.elim⟩
theorem me_not (ha : PE X a (TEm X.K X.mg Wx va)) : PE X (.UnaryOp .Not a pos) (TEm X.K X.mg Wx (mNotV va)) :=
  pe_imp (pe_not ha) fun σ H Q ⟨B0, ρ, env, S, r, er, h⟩ => ⟨B0, ρ, env, S, r, er, h.bindE lat_gE fun w S1 ρ1 H1 v e1 r1 q1 h1 => by
    cases w with
    | bl c => exact ⟨c, q1.bl_inv, gE_here r1 h1 (.bl _)⟩
    | _ => exact h1.elim⟩
def mIf {α : Type} (c : Env → Sto → Out Bool) (a b : Env → Sto → Out α) : Env → Sto → Out α := fun env S => (c env S).bind fun c S1 => if c = true then a env S1 else b env S1
theorem me_if {c : Expr} {mc : Env → Sto → Out Bool} (hc : PT X c (TTm X.K X.mg Wx mc)) (ha : PE X a (TEm X.K X.mg Wx va)) (hb : PE X b (TEm X.K X.mg Wx vb)) : PE X (.IfExp c a b pos) (TEm X.K X.mg Wx (mIf mc va vb)) :=
  pe_imp (pe_ifExp hc ha hb) fun σ H Q ⟨B0, ρ, env, S, r, er, h⟩ => ⟨B0, ρ, env, S, r, er, h.bindT lat_gE fun c S1 ρ1 H1 e1 r1 h1 => by
    cases c with
    | true => rw [if_pos rfl] at h1 ⊢; exact ⟨B0, ρ1, env, S1, r1, er.ext r e1, h1⟩
    | false => rw [if_neg Bool.false_ne_true] at h1 ⊢; exact ⟨B0, ρ1, env, S1, r1, er.ext r e1, h1⟩⟩

/-! ### statements -/
def sSeq (a b : Env → Sto → OutS) : Env → Sto → OutS := fun env S => match a env S with
  | .next e S1 => b e S1
  | o => o
def sSkip : Env → Sto → OutS := fun env S => .next env S
def sBrk : Env → Sto → OutS := fun env S => .brk env S
def sCont : Env → Sto → OutS := fun env S => .cont env S
def sExpr (m : Env → Sto → Out W) : Env → Sto → OutS := fun env S => (m env S).bindS env fun _ S1 => .next env S1
def sRet (m : Env → Sto → Out W) : Env → Sto → OutS := fun env S => (m env S).bindS env fun w S1 => .ret w S1
def sIf (c : Env → Sto → Out Bool) (a b : Env → Sto → OutS) : Env → Sto → OutS := fun env S => (c env S).bindS env fun c S1 => if c = true then a env S1 else b env S1
def sSet (i : Nat) (m : Env → Sto → Out W) : Env → Sto → OutS := fun env S => (m env S).bindS env fun w S1 => .next (env.set i (some w)) S1
variable {st : Stmt} {sts : List Stmt} {sa sb : Env → Sto → OutS} {e : Expr} {m : Env → Sto → Out W}
theorem here_next {K : PySem.W.Frag} {mg : Str → Option Value} {B0 : Ban} {ρ : List Addr} {S : Sto} {H : Hp} {env : Env} {σ : L2.St} {D : Ends} (r : SR K mg ρ S B0 H) (er : ER K ρ (Bn B0 ρ S) H env σ) (h : EndS K mg Wx D B0 ρ S H (.next env S)) : D.nx σ H := h ρ H σ .refl r er
theorem mss_nil : PSs X [] (TSm X.K X.mg Wx sSkip) := pss_imp pss_nil fun D σ H ⟨B0, ρ, env, S, r, er, h⟩ => here_next r er h
theorem seq_imp {K : PySem.W.Frag} {mg : Str → Option Value} {D : Ends} {σ : L2.St} {H : Hp} (h : TSm K mg Wx (sSeq sa sb) D σ H) : tSeq (TSm K mg Wx sa) (TSm K mg Wx sb) D σ H := by
  obtain ⟨B0, ρ, env, S, r, er, h⟩ := h
  refine ⟨B0, ρ, env, S, r, er, ?_⟩
  unfold sSeq at h
  cases q : sa env S with
  | next e1 S1 =>
    rw [q] at h
    exact fun ρ1 H1 σ1 e1 r1 er1 => ⟨B0, ρ1, _, _, r1, er1, h.later e1⟩
  | brk e1 S1 => rw [q] at h; exact h
  | cont e1 S1 => rw [q] at h; exact h
  | ret w S1 => rw [q] at h; exact h
  | exc c e1 S1 => rw [q] at h; exact h
  | fail => rw [q] at h; exact h
theorem mss_cons (h1 : PS X st (TSm X.K X.mg Wx sa)) (h2 : PSs X sts (TSm X.K X.mg Wx sb)) : PSs X (st :: sts) (TSm X.K X.mg Wx (sSeq sa sb)) := pss_imp (pss_cons h1 h2) fun _ _ _ => seq_imp
theorem mss_one (h1 : PS X st (TSm X.K X.mg Wx sa)) : PSs X [st] (TSm X.K X.mg Wx sa) := pss_one h1
theorem ms_pass : PS X (.Pass pos) (TSm X.K X.mg Wx sSkip) := ps_imp ps_pass fun D σ H ⟨B0, ρ, env, S, r, er, h⟩ => here_next r er h
theorem ms_brk : PS X (.Break pos) (TSm X.K X.mg Wx sBrk) := ps_imp ps_break fun D σ H ⟨B0, ρ, env, S, r, er, h⟩ => h ρ H σ .refl r er
theorem ms_cont : PS X (.Continue pos) (TSm X.K X.mg Wx sCont) := ps_imp ps_continue fun D σ H ⟨B0, ρ, env, S, r, er, h⟩ => h ρ H σ .refl r er
theorem ms_expr (he : PE X e (TEm X.K X.mg Wx m)) (hs : swapsWith e none pos.line X.env = pure false := by rfl) : PS X (.Expr e pos) (TSm X.K X.mg Wx (sExpr m)) :=
  ps_imp (ps_expr he hs) fun D σ H ⟨B0, ρ, env, S, r, er, h⟩ => ⟨B0, ρ, env, S, r, er, h.bindE r er fun w S1 ρ1 H1 v e1 r1 q1 h1 => here_next r1 (er.ext r e1) h1⟩
theorem ms_ret (he : PE X e (TEm X.K X.mg Wx m)) : PS X (.Return (some e) pos) (TSm X.K X.mg Wx (sRet m)) :=
  ps_imp (ps_ret he) fun D σ H ⟨B0, ρ, env, S, r, er, h⟩ => ⟨B0, ρ, env, S, r, er, h.bindE r er fun w S1 ρ1 H1 v e1 r1 q1 h1 => gE_here r1 h1 q1⟩
theorem ms_if {c : Expr} {sta stb : List Stmt} {mc : Env → Sto → Out Bool} (hc : PT X c (TTm X.K X.mg Wx mc)) (ha : PSs X sta (TSm X.K X.mg Wx sa)) (hb : PSs X stb (TSm X.K X.mg Wx sb)) : PS X (.If c sta stb pos) (TSm X.K X.mg Wx (sIf mc sa sb)) :=
  ps_imp (ps_if hc ha hb) fun D σ H ⟨B0, ρ, env, S, r, er, h⟩ => ⟨B0, ρ, env, S, r, er, h.bindT r er fun c S1 ρ1 H1 e1 r1 h1 => by
    cases c with
    | true => rw [if_pos rfl] at h1 ⊢; exact ⟨B0, ρ1, env, S1, r1, er.ext r e1, h1⟩
    | false => rw [if_neg Bool.false_ne_true] at h1 ⊢; exact ⟨B0, ρ1, env, S1, r1, er.ext r e1, h1⟩⟩
theorem ms_set {i : Nat} {x : Str} {pos' : Pos} (hN : X.N.Nodup) (hi : X.N[i]? = some x) (hx : Loc X.env.scope x) (he : PE X e (TEm X.K X.mg Wx m)) (hs : swapsWith e (some (.Name x pos')) pos.line X.env = pure false := by rfl) (hf : X.fn x = true ∨ X.env.scope.names.lookup x = some .local := by first | exact .inl rfl | exact .inr rfl | assumption) :
    PS X (.Assign [.Name x pos'] e pos) (TSm X.K X.mg Wx (sSet i m)) :=
  ps_imp (ps_set hN hi hx he hs hf) fun D σ H ⟨B0, ρ, env, S, r, er, h⟩ => ⟨B0, ρ, env, S, r, er, h.bindE r er fun w S1 ρ1 H1 v e1 r1 q1 h1 => h1 ρ1 H1 _ .refl r1 ((er.ext r e1).set q1 i)⟩
/-- name op= e -/
def sAug (i : Nat) (f : W → W → Sto → Out FW) (m : Env → Sto → Out W) : Env → Sto → OutS := fun env S => match env[i]? with
  | some (some x) => (m env S).bindS env fun y S1 => (f x y S1).bindS env fun z S2 => match z with
    | .val z => .next (env.set i (some z)) S2
    | _ => .fail
  | _ => .fail
theorem ms_aug {i : Nat} {x : Str} {op : Operator} {f : W → W → Sto → Out FW} {ti : TIp} {pos' : Pos} (hN : X.N.Nodup) (hi : X.N[i]? = some x) (hx : Loc X.env.scope x) (he : PE X e (TEm X.K X.mg Wx m)) (ho : PIp X op ti) (hf2 : OpM X.K X.mg f ti) (hf : X.fn x = true ∨ X.env.scope.names.lookup x = some .local := by first | exact .inl rfl | exact .inr rfl | assumption) :
    PS X (.AugAssign (.Name x pos') op e pos) (TSm X.K X.mg Wx (sAug i f m)) :=
  ps_imp (ps_aug hN hi hx he ho hf) fun D σ H ⟨B0, ρ, env, S, r, er, h⟩ => by
    unfold sAug at h
    split at h
    · rename_i w q
      obtain ⟨v, hv, rv⟩ := er.2 i w q
      refine ⟨v, hv, B0, ρ, env, S, r, er, h.bindE r er fun y S1 ρ1 H1 u e1 r1 q1 h1 => ?_⟩
      refine hf2 (Xw := fun c H' => Wx c none σ H') r1 (rv.ext r e1) q1 (EndS.bind r1 (er.ext r e1) h1 fun z S2 h2 => ?_)
      cases z with
      | val z => exact fun ρ2 H2 zv e2 r2 q2 => h2 ρ2 H2 _ e2 r2 (((er.ext r e1).ext r1 e2).set q2 i)
      | new ws => exact h2.elim
    · exact h.elim

/-! ### targets -/
def gS (K : PySem.W.Frag) (mg : Str → Option Value) (Q : L2.St → Hp → Prop) : GP Env := fun B0 ρ S H e S' => OkS K mg B0 ρ S H Q e S'
theorem lat_gS {K : PySem.W.Frag} {mg : Str → Option Value} {Q : L2.St → Hp → Prop} : Lat (gS K mg Q) := ⟨fun _ _ _ _ _ _ _ _ _ e h => OkS.later e h⟩
def TGm (K : PySem.W.Frag) (mg : Str → Option Value) (Wx : WX) (mt : W → Env → Sto → Out Env) : TG := fun v σ H Q =>
  ∃ B0 ρ env S w, SR K mg ρ S B0 H ∧ ER K ρ (Bn B0 ρ S) H env σ ∧ Rel K ρ (Bn B0 ρ S) H w v ∧ End K mg (fun c H' => Wx c none σ H') (gS K mg Q) B0 ρ S H (mt w env S)
def TGsm (K : PySem.W.Frag) (mg : Str → Option Value) (Wx : WX) (mt : List W → Env → Sto → Out Env) : TGs := fun vs σ H Q =>
  ∃ B0 ρ env S ws, SR K mg ρ S B0 H ∧ ER K ρ (Bn B0 ρ S) H env σ ∧ Rels K ρ (Bn B0 ρ S) H ws vs ∧ End K mg (fun c H' => Wx c none σ H') (gS K mg Q) B0 ρ S H (mt ws env S)
theorem pg_imp {tg : Expr} {t t' : TG} (h : PG X tg t) (i : ∀ v σ H Q, t' v σ H Q → t v σ H Q) : PG X tg t' := ⟨fun pins s σ H v u Q I r w => h.run pins s σ H v u Q I r (i v σ H Q w)⟩
theorem pgs_imp {tg : List Expr} {t t' : TGs} (h : PGs X tg t) (i : ∀ v σ H Q, t' v σ H Q → t v σ H Q) : PGs X tg t' := ⟨fun pins s σ H v u Q I r w => h.run pins s σ H v u Q I r (i v σ H Q w)⟩
def tName (i : Nat) : W → Env → Sto → Out Env := fun w env S => .ok (env.set i (some w)) S
theorem mg_name {i : Nat} {x : Str} (hN : X.N.Nodup) (hi : X.N[i]? = some x) (hx : Loc X.env.scope x) (hf : X.fn x = true ∨ X.env.scope.names.lookup x = some .local := by first | exact .inl rfl | exact .inr rfl | assumption) : PG X (.Name x pos) (TGm X.K X.mg Wx (tName i)) :=
  pg_imp (pg_name hN hi hx hf) fun v σ H Q ⟨B0, ρ, env, S, w, r, er, rw', h⟩ => h ρ H _ .refl r (er.set rw' i)
def tsNil : List W → Env → Sto → Out Env := fun ws env S => match ws with
  | [] => .ok env S
  | _ => .fail
def tsCons (mt : W → Env → Sto → Out Env) (ms : List W → Env → Sto → Out Env) : List W → Env → Sto → Out Env := fun ws env S => match ws with
  | w :: ws => (mt w env S).bind fun e S1 => ms ws e S1
  | _ => .fail
theorem mgs_nil : PGs X [] (TGsm X.K X.mg Wx tsNil) := pgs_imp pgs_nil fun v σ H Q ⟨B0, ρ, env, S, ws, r, er, rw', h⟩ => by
  cases ws with
  | nil => exact ⟨rw'.nil_inv, h ρ H _ .refl r er⟩
  | cons w ws => exact h.elim
theorem mgs_cons {tg : Expr} {tgs : List Expr} {mt : W → Env → Sto → Out Env} {ms : List W → Env → Sto → Out Env} (h1 : PG X tg (TGm X.K X.mg (fun _ _ _ _ => False) mt)) (h2 : PGs X tgs (TGsm X.K X.mg (fun _ _ _ _ => False) ms))
    (hs : (assignEach (tg :: tgs) X.env).map (·.2) = assign tg X.env :: (assignEach tgs X.env).map (·.2) := by rfl) : PGs X (tg :: tgs) (TGsm X.K X.mg (fun _ _ _ _ => False) (tsCons mt ms)) :=
  pgs_imp (pgs_cons h1 h2 hs) fun vs σ H Q ⟨B0, ρ, env, S, ws, r, er, rw', h⟩ => by
    cases ws with
    | nil => exact h.elim
    | cons w ws =>
      obtain ⟨v, vs', rfl, q1, q2⟩ := rw'.cons_inv
      refine ⟨v, vs', rfl, B0, ρ, env, S, w, r, er, q1, End.bind h fun e S1 h1 ρ1 H1 σ1 e1 r1 er1 => ?_⟩
      exact ⟨B0, ρ1, e, S1, ws, r1, er1, q2.ext r e1, h1.later lat_gS e1⟩
def tTupT (ms : List W → Env → Sto → Out Env) (n : Nat) : W → Env → Sto → Out Env := fun w env S => match w with
  | .tup ws => if ws.length = n then ms ws env S else .fail
  | _ => .fail
theorem mg_tup {es : List Expr} {k : Nat} {ms : List W → Env → Sto → Out Env} {n : Nat} (hc : X.calm = true) (h : PGs X es (TGsm X.K X.mg (fun _ _ _ _ => False) ms))
    (hn : (assignEach es X.env).length = n := by rfl) (hst : (assignEach es X.env).findIdx? (·.1) = none := by rfl) : PG X (.Tuple es k pos) (TGm X.K X.mg (fun _ _ _ _ => False) (tTupT ms n)) :=
  pg_imp (pg_tup hc h hn hst) fun v σ H Q ⟨B0, ρ, env, S, w, r, er, rw', h⟩ => by
    cases w with
    | tup ws =>
      obtain ⟨a, vs, rfl, k1, k2⟩ := rw'.tup_inv
      have h' : End X.K X.mg (fun c H' => False) (gS X.K X.mg Q) B0 ρ S H (if ws.length = n then ms ws env S else .fail) := h
      split at h'
      · rename_i hl
        exact ⟨a, vs, rfl, k1, by rw [← k2.1]; exact hl, B0, ρ, env, S, ws, r, er, k2, h'⟩
      · exact h'.elim
    | _ => exact h.elim
/-- a target that raises nothing, under any wish -/
theorem mg_any {tg : Expr} {mt : W → Env → Sto → Out Env} (h : PG X tg (TGm X.K X.mg (fun _ _ _ _ => False) mt)) (hx : ∀ w env S c S1, mt w env S ≠ .exc c S1) : PG X tg (TGm X.K X.mg Wx mt) :=
  pg_imp h fun v σ H Q ⟨B0, ρ, env, S, w, r, er, rw', h⟩ => ⟨B0, ρ, env, S, w, r, er, rw', by
    cases q : mt w env S with
    | ok e S1 => rw [q] at h; exact h
    | exc c S1 => exact absurd q (hx _ _ _ _ _)
    | fail => rw [q] at h; exact h⟩
theorem nx_name {i : Nat} : ∀ w env S c S1, tName i w env S ≠ .exc c S1 := fun _ _ _ _ _ h => nomatch h
def sAsg (m : Env → Sto → Out W) (mt : W → Env → Sto → Out Env) : Env → Sto → OutS := fun env S => (m env S).bindS env fun w S1 => (mt w env S1).bindS env fun e S2 => .next e S2
theorem ms_asg {tg : Expr} {mt : W → Env → Sto → Out Env} (he : PE X e (TEm X.K X.mg Wx m)) (hg : PG X tg (TGm X.K X.mg Wx mt)) (hs : swapsWithSole [tg] e pos.line X.env = pure false := by rfl) (hw : swappedStores [tg] e X.env = pure none := by rfl)
    (h1 : (assignEach [tg] X.env).map (·.2) = [assign tg X.env] := by rfl) : PS X (.Assign [tg] e pos) (TSm X.K X.mg Wx (sAsg m mt)) :=
  ps_imp (ps_asg he hg hs hw h1) fun D σ H ⟨B0, ρ, env, S, r, er, h⟩ => ⟨B0, ρ, env, S, r, er, h.bindE r er fun w S1 ρ1 H1 v e1 r1 q1 h1 =>
    ⟨B0, ρ1, env, S1, w, r1, er.ext r e1, q1, EndS.bind r1 (er.ext r e1) h1 fun e2 S2 h2 => h2⟩⟩
/-- a, b = x, y -/
def sPar (i j : Nat) (ms : Env → Sto → Out (List W)) : Env → Sto → OutS := fun env S => (ms env S).bindS env fun ws S1 => match ws with
  | [v, w] => .next ((env.set i (some v)).set j (some w)) S1
  | _ => .fail
theorem ms_par {i j : Nat} {x y : Str} {a b : Expr} {ms : Env → Sto → Out (List W)} {px py pt : Pos} {kt k2 pt2} (hc : X.calm = true) (hN : X.N.Nodup) (hi : X.N[i]? = some x) (hj : X.N[j]? = some y) (hij : i ≠ j)
    (hx : X.env.scope.names.lookup x = some .local) (hy : X.env.scope.names.lookup y = some .local) (ha : PA X [a, b] (TAm X.K X.mg Wx ms))
    (hw : swappedStores [.Tuple [.Name x px, .Name y py] kt pt] (.Tuple [a, b] k2 pt2) X.env = pure (some [x, y]))
    (hs : swapsWithSole [.Tuple [.Name x px, .Name y py] kt pt] (.Tuple [a, b] k2 pt2) pos.line X.env = pure false := by rfl) :
    PS X (.Assign [.Tuple [.Name x px, .Name y py] kt pt] (.Tuple [a, b] k2 pt2) pos) (TSm X.K X.mg Wx (sPar i j ms)) :=
  ps_imp (ps_par hc hN hi hj hij hx hy ha hw hs) fun D σ H ⟨B0, ρ, env, S, r, er, h⟩ => ⟨B0, ρ, env, S, r, er, h.bindA r er fun ws S1 ρ1 H1 vs e1 r1 q1 h1 => by
    split at h1
    · rename_i v w
      obtain ⟨v', vs', rfl, k1, k2⟩ := q1.cons_inv
      obtain ⟨w', vs'', rfl, k3, k4⟩ := k2.cons_inv
      have := k4.nil_inv
      subst this
      exact ⟨v', w', rfl, h1 ρ1 H1 _ .refl r1 (((er.ext r e1).set k1 i).set k3 j)⟩
    · exact h1.elim⟩
/-- xs[i] = v -/
def fSetL (o i w : W) (S : Sto) : Out Unit := match o, i with
  | .ref n, .int k => match S[n]? with
    | some (.lst xs) => match ixN xs.length k with
      | some j => .ok () (S.set n (.lst (xs.set j w)))
      | none => .fail
    | _ => .fail
  | _, _ => .fail
def tSubL (mo mi : Env → Sto → Out W) : W → Env → Sto → Out Env := fun w env S => (mo env S).bind fun o S1 => (mi env S1).bind fun i S2 => (fSetL o i w S2).bind fun _ S3 => .ok env S3
theorem End.bindEg {β : Type} {K : PySem.W.Frag} {mg : Str → Option Value} {X : Value → Hp → Prop} {B0 : Ban} {ρ : List Addr} {S : Sto} {H : Hp} {m : Out W} {k : W → Sto → Out β} {g : GP β} {P : VK} (l : Lat g) (h : End K mg X g B0 ρ S H (m.bind k))
    (hk : ∀ w S1 ρ1 H1 v, Ext ρ S H ρ1 S1 H1 → SR K mg ρ1 S1 B0 H1 → Rel K ρ1 (Bn B0 ρ1 S1) H1 w v → End K mg X g B0 ρ1 S1 H1 (k w S1) → P v H1) : End K mg X (gE K mg P) B0 ρ S H m := h.bindE l hk
theorem mg_subL {o i : Expr} {mo mi : Env → Sto → Out W} (ho : PE X o (TEm X.K X.mg Wx mo)) (hi : PE X i (TEm X.K X.mg Wx mi))
    (ha : ∀ v, assign (.Subscript o i pos) X.env v = (do
      let ov ← holding [v] (eval o X.env)
      let iv ← holding [v, ov] (eval i X.env)
      standAt pos
      holding [v, ov, iv] (setItem ov iv v)
      release [v, ov, iv] []) := by intro _; rfl) : PG X (.Subscript o i pos) (TGm X.K X.mg Wx (tSubL mo mi)) :=
  pg_imp (pg_sub ho hi set_list ha) fun v σ H Q ⟨B0, ρ, env, S, w, r, er, rw', h⟩ =>
    ⟨B0, ρ, env, S, r, er, h.bindE lat_gS fun ow S1 ρ1 H1 ov e1 r1 q1 h1 => ⟨B0, ρ1, env, S1, r1, er.ext r e1, h1.bindE lat_gS fun iw S2 ρ2 H2 iv e2 r2 q2 h2 => by
      have q1' := q1.ext r1 e2
      have rw2 := (rw'.ext r e1).ext r1 e2
      unfold fSetL at h2
      split at h2
      · rename_i n k
        split at h2
        · rename_i xs q
          split at h2
          · rename_i j q3
            obtain ⟨a, vs, rfl, k1, k2, k3⟩ := r2.ref_lst q1' q
            rw [q2.int_inv]
            refine ⟨a, vs, k, j, rfl, rfl, k2, by rw [← k3.1]; exact q3, ?_⟩
            have ee : Ext ρ2 S2 H2 ρ2 (S2.set n (.lst (xs.set j w))) (L2.upd H2 a (.lst (vs.set j v))) := .write q rfl rfl k1
            exact h2 ρ2 _ σ ee (r2.write q rfl rfl k1 ⟨_, upd_same, (k3.set rw2 j).ext r2 ee⟩) (((er.ext r e1).ext r1 e2).ext r2 ee)
          · exact h2.elim
        · exact h2.elim
      · exact h2.elim⟩⟩
end
end L2.Mi

set_option Elab.async false
set_option linter.all false
set_option maxRecDepth 100000
set_option maxHeartbeats 2000000
/-! # The engine, part E: what is walked, for, while, comprehensions -/
namespace L2.Mi
open PySem PySem.Spec PyProof.Rows
/-! ### locking a list while it is walked -/
def lockS (lk : Option Nat) (ws : List W) (S : Sto) : Sto := match lk with
  | none => S
  | some n => S.set n (.ro ws)
def unlockS (lk : Option Nat) (ws : List W) (S : Sto) : Sto := match lk with
  | none => S
  | some n => S.set n (.lst ws)
def lockB (lk : Option Nat) (ρ : List Addr) (B0 : Ban) : Ban := match lk with
  | none => B0
  | some n => fun a => B0 a ∨ ρ[n]? = some a
/-- a lock fits: the n-th object is this list -/
def LkOk (lk : Option Nat) (ws : List W) (S : Sto) : Prop := match lk with
  | none => True
  | some n => S[n]? = some (.lst ws)
section
variable {K : PySem.W.Frag} {mg : Str → Option Value} {ρ ρ' : List Addr} {S S' : Sto} {B0 B1 B B' : Ban} {H H' : Hp} {w : W} {v : V} {ws : List W} {vs : List V} {lk : Option Nat} {env : Env} {σ : L2.St}
theorem Rel.bans (h : Rel K ρ B H w v) (hb : ∀ a, B' a ↔ B a) : Rel K ρ B' H w v := h.less fun a q => (hb a).mp q
theorem Rels.bans (h : Rels K ρ B H ws vs) (hb : ∀ a, B' a ↔ B a) : Rels K ρ B' H ws vs := h.less fun a q => (hb a).mp q
theorem OR.bans {a : Addr} {o : SO} (h : OR K mg ρ B H a o) (hb : ∀ a, B' a ↔ B a) : OR K mg ρ B' H a o := h.less fun a q => (hb a).mp q
theorem ER.bans (h : ER K ρ B H env σ) (hb : ∀ a, B' a ↔ B a) : ER K ρ B' H env σ := ⟨h.1, fun i w q => by obtain ⟨v, q1, q2⟩ := h.2 i w q; exact ⟨v, q1, q2.bans hb⟩⟩
theorem lv_set_alive {n : Nat} {o o' : SO} (hn : S[n]? = some o) (ho' : o'.alive = true) {a : Addr} (ha : ρ[n]? = some a) (x : Addr) : Lv ρ (S.set n o') x ↔ (x = a ∨ ∃ m o1, m ≠ n ∧ S[m]? = some o1 ∧ o1.alive = true ∧ ρ[m]? = some x) := by
  constructor
  · rintro ⟨m, o1, h1, h2, h3⟩
    by_cases hm : m = n
    · subst hm
      rw [ha] at h3; cases h3
      exact .inl rfl
    · rw [List.getElem?_set_ne (Ne.symm hm)] at h1
      exact .inr ⟨m, o1, hm, h1, h2, h3⟩
  · rintro (rfl | ⟨m, o1, hm, h1, h2, h3⟩)
    · exact ⟨n, o', by rw [List.getElem?_set, if_pos rfl, if_pos (List.getElem?_eq_some_iff.mp hn).1], ho', ha⟩
    · exact ⟨m, o1, by rw [List.getElem?_set_ne (Ne.symm hm)]; exact h1, h2, h3⟩
theorem lv_set_off {n : Nat} {o' : SO} (ho' : o'.alive = false) (x : Addr) : Lv ρ (S.set n o') x ↔ ∃ m o1, m ≠ n ∧ S[m]? = some o1 ∧ o1.alive = true ∧ ρ[m]? = some x := by
  constructor
  · rintro ⟨m, o1, h1, h2, h3⟩
    rw [List.getElem?_set] at h1
    by_cases hm : n = m
    · subst hm
      rw [if_pos rfl] at h1
      split at h1
      · cases h1; rw [ho'] at h2; cases h2
      · cases h1
    · rw [if_neg hm] at h1
      exact ⟨m, o1, Ne.symm hm, h1, h2, h3⟩
  · rintro ⟨m, o1, hm, h1, h2, h3⟩
    exact ⟨m, o1, by rw [List.getElem?_set_ne (Ne.symm hm)]; exact h1, h2, h3⟩
theorem bn_lock (hk : LkOk lk ws S) (hl : ρ.length = S.length) (x : Addr) : Bn (lockB lk ρ B0) ρ (lockS lk ws S) x ↔ Bn B0 ρ S x := by
  cases lk with
  | none => exact Iff.rfl
  | some n =>
    have hn : S[n]? = some (.lst ws) := hk
    show ((B0 x ∨ ρ[n]? = some x) ∨ Lv ρ (S.set n (.ro ws)) x) ↔ (B0 x ∨ Lv ρ S x)
    rw [lv_set_off rfl]
    constructor
    · rintro ((h | h) | ⟨m, o1, hm, h1, h2, h3⟩)
      · exact .inl h
      · exact .inr ⟨n, _, hn, rfl, h⟩
      · exact .inr ⟨m, o1, h1, h2, h3⟩
    · rintro (h | ⟨m, o1, h1, h2, h3⟩)
      · exact .inl (.inl h)
      · by_cases hm : m = n
        · subst hm; exact .inl (.inr h3)
        · exact .inr ⟨m, o1, hm, h1, h2, h3⟩
theorem Ext.lock (hk : LkOk lk ws S) : Ext ρ S H ρ (lockS lk ws S) H := by
  cases lk with
  | none => exact .refl
  | some n => exact ⟨fun _ _ h => h, fun _ _ h _ => h, fun a l _ => by
      obtain ⟨m, o1, _, h1, h2, h3⟩ := (lv_set_off (S := S) (n := n) (o' := .ro ws) rfl a).mp l
      exact ⟨m, o1, h1, h2, h3⟩, fun _ h => h, fun _ h => .inl h⟩
theorem SR.lock (r : SR K mg ρ S B0 H) (hk : LkOk lk ws S) : SR K mg ρ (lockS lk ws S) (lockB lk ρ B0) H := by
  cases lk with
  | none => exact r
  | some n =>
    have hn : S[n]? = some (.lst ws) := hk
    have hb := bn_lock (lk := some n) (B0 := B0) hk r.len
    refine ⟨by show _ = (S.set n _).length; simp [r.len], r.nd, fun m so b h1 h2 => ?_, fun b h => ?_, fun m so b h1 h2 h3 => ?_⟩
    · have h1 : (S.set n (.ro ws))[m]? = some so := h1
      rw [List.getElem?_set] at h1
      by_cases hm : n = m
      · subst hm
        rw [if_pos rfl] at h1
        split at h1
        · cases h1
          obtain ⟨vs, q1, q2⟩ := r.obj n _ b hn h2
          exact ⟨vs, .inl q1, q2.bans hb⟩
        · cases h1
      · rw [if_neg hm] at h1
        exact (r.obj m so b h1 h2).bans hb
    · rcases h with h | h
      · exact r.ban b h
      · exact r.live_some ⟨n, _, hn, rfl, h⟩
    · have h1 : (S.set n (.ro ws))[m]? = some so := h1
      rw [List.getElem?_set] at h1
      by_cases hm : n = m
      · subst hm
        rw [if_pos rfl] at h1
        split at h1
        · cases h1; cases h2
        · cases h1
      · rw [if_neg hm] at h1
        rintro (q | q)
        · exact r.sep m so b h1 h2 h3 q
        · exact hm (nd_at r.nd q h3)
theorem ER.lock (h : ER K ρ (Bn B0 ρ S) H env σ) (r : SR K mg ρ S B0 H) (hk : LkOk lk ws S) : ER K ρ (Bn (lockB lk ρ B0) ρ (lockS lk ws S)) H env σ := h.bans (bn_lock hk r.len)
/-- unlocked again -/
structure Unl (K : PySem.W.Frag) (mg : Str → Option Value) (lk : Option Nat) (ws : List W) (B0 : Ban) (ρ : List Addr) (S : Sto) (H : Hp) (ρ' : List Addr) (S' : Sto) (H' : Hp) : Prop where
  ext : Ext ρ S H ρ' (unlockS lk ws S') H'
  sr : SR K mg ρ' (unlockS lk ws S') B0 H'
  bn : ∀ x, Bn B0 ρ' (unlockS lk ws S') x ↔ Bn (lockB lk ρ B0) ρ' S' x
theorem unlock (r : SR K mg ρ S B0 H) (hk : LkOk lk ws S) (e : Ext ρ (lockS lk ws S) H ρ' S' H') (r' : SR K mg ρ' S' (lockB lk ρ B0) H') : Unl K mg lk ws B0 ρ S H ρ' S' H' := by
  cases lk with
  | none => exact ⟨e, r', fun _ => Iff.rfl⟩
  | some n =>
    have hn : S[n]? = some (.lst ws) := hk
    have hnl : n < ρ.length := by rw [r.len]; exact (List.getElem?_eq_some_iff.mp hn).1
    have ha : ρ[n]? = some ρ[n] := by simp [hnl]
    have ha' := e.pre n _ ha
    have hn' : n < S'.length := by rw [← r'.len]; exact (List.getElem?_eq_some_iff.mp ha').1
    have hs' : S'[n]? = some S'[n] := by simp [hn']
    obtain ⟨vs, q1, q2⟩ := r.obj n _ _ hn ha
    have nl : ¬ Lv ρ (lockS (some n) ws S) ρ[n] := fun l => by
      obtain ⟨m, o1, hm, h1, h2, h3⟩ := (lv_set_off (S := S) (n := n) (o' := .ro ws) rfl _).mp l
      exact hm (nd_at r.nd h3 ha)
    have q1' := e.keep _ _ q1 nl
    have off : S'[n].alive = false := by
      cases q : S'[n].alive with
      | false => rfl
      | true => exact absurd (e.live _ ⟨n, _, hs', q, ha'⟩ (by rw [q1]; simp)) nl
    have lvE : ∀ x, Lv ρ' S' x ↔ ∃ m o1, m ≠ n ∧ S'[m]? = some o1 ∧ o1.alive = true ∧ ρ'[m]? = some x := fun x => by
      constructor
      · rintro ⟨m, o1, h1, h2, h3⟩
        by_cases hm : m = n
        · subst hm
          rw [hs'] at h1; cases h1
          rw [off] at h2; cases h2
        · exact ⟨m, o1, hm, h1, h2, h3⟩
      · rintro ⟨m, o1, _, h1, h2, h3⟩
        exact ⟨m, o1, h1, h2, h3⟩
    have hb : ∀ x, Bn B0 ρ' (S'.set n (.lst ws)) x ↔ Bn (lockB (some n) ρ B0) ρ' S' x := fun x => by
      show (B0 x ∨ Lv ρ' (S'.set n (.lst ws)) x) ↔ ((B0 x ∨ ρ[n]? = some x) ∨ Lv ρ' S' x)
      rw [lv_set_alive hs' rfl ha', lvE]
      constructor
      · rintro (h | rfl | h)
        · exact .inl (.inl h)
        · exact .inl (.inr ha)
        · exact .inr h
      · rintro ((h | h) | h)
        · exact .inl h
        · rw [ha] at h; cases h; exact .inr (.inl rfl)
        · exact .inr (.inr h)
    refine ⟨⟨e.pre, fun a o h l => ?_, fun a l h => ?_, e.there, e.nw⟩, ⟨by show _ = (S'.set n _).length; simp [r'.len], r'.nd, fun m so b h1 h2 => ?_, fun b h => r'.ban b (.inl h), fun m so b h1 h2 h3 => ?_⟩, hb⟩
    · refine e.keep a o h fun l' => l ?_
      obtain ⟨m, o1, hm, h1, h2, h3⟩ := (lv_set_off (S := S) (n := n) (o' := .ro ws) rfl a).mp l'
      exact ⟨m, o1, h1, h2, h3⟩
    · have l : Lv ρ' (S'.set n (.lst ws)) a := l
      rw [lv_set_alive hs' rfl ha'] at l
      rcases l with rfl | l
      · exact ⟨n, _, hn, rfl, ha⟩
      · obtain ⟨m, o1, hm, h1, h2, h3⟩ := (lv_set_off (S := S) (n := n) (o' := .ro ws) rfl a).mp (e.live a ((lvE a).mpr l) h)
        exact ⟨m, o1, h1, h2, h3⟩
    · have h1 : (S'.set n (.lst ws))[m]? = some so := h1
      rw [List.getElem?_set] at h1
      by_cases hm : n = m
      · subst hm
        rw [if_pos rfl, if_pos hn'] at h1
        cases h1
        rw [ha'] at h2; cases h2
        refine ⟨vs, q1', Rels.bans ?_ hb⟩
        have q3 : Rels K ρ (Bn (lockB (some n) ρ B0) ρ (lockS (some n) ws S)) H ws vs := q2.bans (bn_lock hk r.len)
        exact q3.ext (r.lock hk) e
      · rw [if_neg hm] at h1
        exact (r'.obj m so b h1 h2).bans hb
    · have h1 : (S'.set n (.lst ws))[m]? = some so := h1
      rw [List.getElem?_set] at h1
      by_cases hm : n = m
      · subst hm
        rw [ha'] at h3; cases h3
        exact r.sep n _ _ hn rfl ha
      · rw [if_neg hm] at h1
        exact fun q => r'.sep m so b h1 h2 h3 (.inl q)
/-- under a wider ban -/
theorem Rel.ext2 (h : Rel K ρ (Bn B0 ρ S) H w v) (r : SR K mg ρ S B0 H) (e : Ext ρ S H ρ' S' H') (hb : ∀ a, B1 a → H a ≠ none → B0 a) : Rel K ρ' (Bn B1 ρ' S') H' w v :=
  h.stay e.pre (fun _ _ hu q => r.stf_stays e hu q) fun a vs q nb => by
    refine ⟨e.keep _ _ q fun l => nb (.inr l), fun b => ?_⟩
    rcases b with b | b
    · exact nb (.inl (hb a b (by rw [q]; simp)))
    · exact nb (.inr (e.live a b (by rw [q]; simp)))
theorem Rels.ext2 (h : Rels K ρ (Bn B0 ρ S) H ws vs) (r : SR K mg ρ S B0 H) (e : Ext ρ S H ρ' S' H') (hb : ∀ a, B1 a → H a ≠ none → B0 a) : Rels K ρ' (Bn B1 ρ' S') H' ws vs := ⟨h.1, fun i w v h1 h2 => (h.2 i w v h1 h2).ext2 r e hb⟩
end

/-! ### iterators -/
/-- an iterator gives these items, from (B0, ρ, S, H) on -/
def ItOk (K : PySem.W.Frag) (mg : Str → Option Value) (J : It) (B0 : Ban) (ρ : List Addr) (S : Sto) (H : Hp) (ws : List W) : Prop :=
  ∀ B1 ρ2 S2 H2, (∀ a, B1 a → H a ≠ none → B0 a) → Ext ρ S H ρ2 S2 H2 → SR K mg ρ2 S2 B1 H2 →
    (∀ i w, ws[i]? = some w → J.go i H2 ∧ ∀ x H3, J.yld i H2 x H3 → Ext ρ2 S2 H2 ρ2 S2 H3 ∧ SR K mg ρ2 S2 B1 H3 ∧ Rel K ρ2 (Bn B1 ρ2 S2) H3 w x) ∧ J.stop ws.length H2
def gI (K : PySem.W.Frag) (mg : Str → Option Value) (R : It → Hp → Prop) : GP (List W × Option Nat) := fun B0 ρ S H o S' =>
  ∀ ρ' H' J, Ext ρ S H ρ' S' H' → SR K mg ρ' S' B0 H' → LkOk o.2 o.1 S' → ItOk K mg J (lockB o.2 ρ' B0) ρ' (lockS o.2 o.1 S') H' o.1 → R J H'
abbrev TIm (K : PySem.W.Frag) (mg : Str → Option Value) (Wx : WX) (m : Env → Sto → Out (List W × Option Nat)) : TI := fun σ H R => Tg K mg Wx m σ H (gI K mg R)
/-- what a value that is walked gives: a frozen one as it is; a live list is locked meanwhile -/
def seqIt (x : W) (S : Sto) : Out (List W × Option Nat) := match x with
  | .tup xs => .ok (xs, none) S
  | .lst xs => .ok (xs, none) S
  | .fro xs => .ok (xs, none) S
  | .ref n => match S[n]? with
    | some (.lst xs) => .ok (xs, some n) S
    | some (.ro xs) => .ok (xs, none) S
    | _ => .fail
  | _ => .fail
section
variable {K : PySem.W.Frag} {mg : Str → Option Value} {ρ ρ' : List Addr} {S S' : Sto} {B0 B1 B B' : Ban} {H H' : Hp} {w : W} {v : V} {ws : List W} {vs : List V} {lk : Option Nat} {env : Env} {σ : L2.St}
theorem itok_list {a : Addr} (r : SR K mg ρ S B0 H) (h : Rd H a (.lst vs)) (nl : ¬ Lv ρ S a) (hr : Rels K ρ (Bn B0 ρ S) H ws vs) : ItOk K mg (Itl K a) B0 ρ S H ws := fun B1 ρ2 S2 H2 hb e r2 => by
  have hs : SqL K H2 a vs := .inl (rd_keep e h nl)
  refine ⟨fun i w hw => ?_, vs, hs, Nat.le_of_eq hr.1.symm⟩
  obtain ⟨v, hv, rv⟩ := hr.get hw
  refine ⟨⟨vs, v, hs, hv⟩, fun x H3 y => ?_⟩
  obtain ⟨rfl, y⟩ := y
  have e2 := y vs hs
  rw [hv] at e2; cases e2
  exact ⟨.refl, r2, rv.ext2 r e hb⟩
theorem itok_fro {a : Addr} (r : SR K mg ρ S B0 H) (h : SqF K H a vs) (hr : Rels K ρ (Bn B0 ρ S) H ws vs) : ItOk K mg (Itl K a) B0 ρ S H ws := fun B1 ρ2 S2 H2 hb e r2 => by
  have hs : SqL K H2 a vs := (show SqF K H2 a vs from h.elim (fun ⟨o, h⟩ => .inl ⟨o, r.stf_stays e trivial h⟩) .inr).toL
  refine ⟨fun i w hw => ?_, vs, hs, Nat.le_of_eq hr.1.symm⟩
  obtain ⟨v, hv, rv⟩ := hr.get hw
  refine ⟨⟨vs, v, hs, hv⟩, fun x H3 y => ?_⟩
  obtain ⟨rfl, y⟩ := y
  have e2 := y vs hs
  rw [hv] at e2; cases e2
  exact ⟨.refl, r2, rv.ext2 r e hb⟩
theorem itok_tup {a : Addr} (r : SR K mg ρ S B0 H) (h : SqT K H a vs) (hr : Rels K ρ (Bn B0 ρ S) H ws vs) : ItOk K mg (Itt K a) B0 ρ S H ws := fun B1 ρ2 S2 H2 hb e r2 => by
  have hs : SqT K H2 a vs := h.elim (fun h => .inl (r.tup_stays e h)) .inr
  refine ⟨fun i w hw => ?_, vs, hs, Nat.le_of_eq hr.1.symm⟩
  obtain ⟨v, hv, rv⟩ := hr.get hw
  refine ⟨⟨vs, v, hs, hv⟩, fun x H3 y => ?_⟩
  obtain ⟨rfl, y⟩ := y
  have e2 := y vs hs
  rw [hv] at e2; cases e2
  exact ⟨.refl, r2, rv.ext2 r e hb⟩
theorem itok_range {lo : Int} {n : Nat} : ItOk K mg (Itr lo n) B0 ρ S H ((List.range n).map fun i => W.int (lo + (i : Nat))) := fun B1 ρ2 S2 H2 hb e r2 => by
  refine ⟨fun i w hw => ?_, by show n ≤ _; simp⟩
  rw [List.getElem?_map, Option.map_eq_some_iff] at hw
  obtain ⟨j, hj, rfl⟩ := hw
  have hi : i < n := by
    have := (List.getElem?_eq_some_iff.mp hj).1
    simpa using this
  have : i = j := by
    rw [List.getElem?_range hi] at hj
    exact Option.some.inj hj
  subst this
  refine ⟨hi, fun x H3 y => ?_⟩
  obtain ⟨rfl, rfl⟩ := y
  exact ⟨.refl, r2, .int _⟩
theorem itok_str {s : List Nat} : ItOk K mg (Its ⟨s.toArray⟩) B0 ρ S H (s.map fun c => W.str [c]) := fun B1 ρ2 S2 H2 hb e r2 => by
  refine ⟨fun i w hw => ?_, by show s.toArray.size ≤ _; simp⟩
  rw [List.getElem?_map, Option.map_eq_some_iff] at hw
  obtain ⟨c, hc, rfl⟩ := hw
  have hi := (List.getElem?_eq_some_iff.mp hc).1
  refine ⟨by show i < s.toArray.size; simpa using hi, fun x H3 y => ?_⟩
  obtain ⟨rfl, c', h1, rfl⟩ := y
  have h2 : s.toArray[i]? = some c' := h1
  have h3 : s[i]? = some c' := by simpa using h2
  rw [hc] at h3; cases h3
  exact ⟨.refl, r2, .str [c]⟩
end
section
variable {X : Cx} {Wx : WX} {tg e : Expr} {m : Env → Sto → Out W}
theorem pi_imp {it : Expr} {t t' : TI} (h : PI X tg it t) (i : ∀ σ H Q, t' σ H Q → t σ H Q) : PI X tg it t' := ⟨fun pins s σ H Q I w => h.run pins s σ H Q I (i σ H Q w)⟩
/-- a list, a tuple or a text -/
def iAny (K : PySem.W.Frag) (te : TE) : TI := fun σ H R => te σ H fun v H1 => (∃ a vs, v = .ref a ∧ ((SqL K H1 a vs ∧ R (Itl K a) H1) ∨ (SqT K H1 a vs ∧ R (Itt K a) H1))) ∨ ∃ x, v = .str x ∧ R (Its x) H1
theorem pi_any {te : TE} (he : PE X e te) : PI X tg e (iAny X.K te) := by
  refine ⟨fun pins s σ H R I h => ?_⟩
  refine thn (he.run pins s σ H _ I h) fun v s1 ⟨y, H1, I1, r1, q1⟩ => ?_
  rcases q1 with ⟨a, xs, ev, q⟩ | ⟨x, ex, q⟩
  · subst ev
    cases r1
    rcases q with ⟨hq, q⟩ | ⟨hq, q⟩
    · obtain ⟨its, rv, p, hz⟩ := I1.list hq
      refine wpAny_pyIter_list p.isList ?_
      refine ⟨s1.heap.objs.size, [s1.heap.objs.size], _, _, H1, rfl, I1.kept (t' := s1.toks) fun b o e => Heap.get?_push_of_some _ e, turn_list a _, ⟨_, Heap.get?_push_size _ rfl, rfl, rfl⟩, fun b hb => ?_, q⟩
      have e : b = s1.heap.objs.size := by simpa using hb
      subst e
      exact I1.fpOk (Nat.le_refl _) (I1.hok.fresh (Nat.le_refl _))
    · obtain ⟨its, rv, p, hz⟩ := I1.tuple hq
      refine wpAny_pyIter_tuple (show s1.heap.IsTuple a its.toArray from p) ?_
      refine ⟨s1.heap.objs.size, [s1.heap.objs.size], _, _, H1, rfl, I1.kept (t' := s1.toks) fun b o e => Heap.get?_push_of_some _ e, turn_tuple a _, ⟨_, Heap.get?_push_size _ rfl, rfl, rfl⟩, fun b hb => ?_, q⟩
      have e : b = s1.heap.objs.size := by simpa using hb
      subst e
      exact I1.fpOk (Nat.le_refl _) (I1.hok.fresh (Nat.le_refl _))
  · subst ex
    obtain ⟨t, rfl⟩ := r1
    cases ha : x.cps.all (· < 128)
    · exact wpAny_pyIter_wide ha (pi_one (tk := s1.toks) I1 _ (turn_str _ x t "str_iterator" (.inr rfl)) ⟨_, Heap.get?_push_size _ rfl, rfl, rfl⟩ q)
    · exact wpAny_pyIter_ascii ha (pi_one (tk := s1.toks) I1 _ (turn_str _ x t "str_ascii_iterator" (.inl rfl)) ⟨_, Heap.get?_push_size _ rfl, rfl, rfl⟩ q)
def anyIt (x : W) (S : Sto) : Out (List W × Option Nat) := match x with
  | .str s => .ok (s.map fun c => W.str [c], none) S
  | x => seqIt x S
def iSeqM (m : Env → Sto → Out W) : Env → Sto → Out (List W × Option Nat) := fun env S => (m env S).bind fun x S1 => anyIt x S1
theorem lat_gI {K : PySem.W.Frag} {mg : Str → Option Value} {R : It → Hp → Prop} : Lat (gI K mg R) := ⟨fun _ _ _ _ _ _ _ _ _ e h ρ2 H2 J f r q => h ρ2 H2 J (e.trans f) r q⟩
theorem mi_any (he : PE X e (TEm X.K X.mg Wx m)) : PI X tg e (TIm X.K X.mg Wx (iSeqM m)) :=
  pi_imp (pi_any he) fun σ H R ⟨B0, ρ, env, S, r, er, h⟩ => ⟨B0, ρ, env, S, r, er, h.bindE lat_gI fun x S1 ρ1 H1 v e1 r1 q1 h1 => by
    cases x with
    | str s =>
      rw [q1.str_inv]
      exact .inr ⟨_, rfl, h1 ρ1 H1 _ .refl r1 trivial itok_str⟩
    | tup xs =>
      obtain ⟨a, vs, rfl, k1, k2⟩ := q1.tup_inv
      exact .inl ⟨a, vs, rfl, .inr ⟨k1, h1 ρ1 H1 _ .refl r1 trivial (itok_tup r1 k1 k2)⟩⟩
    | fro xs =>
      cases q1 with
      | fro k1 k3 k4 => exact .inl ⟨_, _, rfl, .inl ⟨k1.toL, h1 ρ1 H1 _ .refl r1 trivial (itok_fro r1 k1 ⟨k3, k4⟩)⟩⟩
    | lst xs =>
      cases q1 with
      | lst k1 k2 k3 k4 => exact .inl ⟨_, _, rfl, .inl ⟨.of k1, h1 ρ1 H1 _ .refl r1 trivial (itok_list r1 (.inl k1) (fun l => k2 (.inr l)) ⟨k3, k4⟩)⟩⟩
    | ref n =>
      have h2 : End X.K X.mg (fun c H' => Wx c none σ H') (gI X.K X.mg R) B0 ρ1 S1 H1 (match S1[n]? with
        | some (.lst xs) => .ok (xs, some n) S1
        | some (.ro xs) => .ok (xs, none) S1
        | _ => .fail) := h1
      split at h2
      · rename_i xs q
        obtain ⟨a, vs, rfl, k1, k2, k3⟩ := r1.ref_lst q1 q
        have hk : LkOk (some n) xs S1 := q
        have nl : ¬ Lv ρ1 (lockS (some n) xs S1) a := fun l => by
          obtain ⟨m, o1, hm, h1, h2, h3⟩ := (lv_set_off (S := S1) (n := n) (o' := .ro xs) rfl _).mp l
          exact hm (nd_at r1.nd h3 k1)
        exact .inl ⟨a, vs, rfl, .inl ⟨.of k2, h2 ρ1 H1 _ .refl r1 hk (itok_list (r1.lock hk) (.inl k2) nl (k3.bans (bn_lock hk r1.len)))⟩⟩
      · rename_i xs q
        cases q1 with
        | @ref _ a k1 =>
          obtain ⟨vs, k2, k3⟩ := r1.obj _ _ _ q k1
          have nl : ¬ Lv ρ1 S1 a := fun l => by
            obtain ⟨m, o1, l1, l2, l3⟩ := l
            have := nd_at r1.nd l3 k1
            subst this
            rw [q] at l1; cases l1; cases l2
          exact .inl ⟨a, vs, rfl, .inl ⟨.inl k2, h2 ρ1 H1 _ .refl r1 trivial (itok_list r1 k2 nl k3)⟩⟩
      · exact h2.elim
    | _ => exact h1.elim⟩
/-- range(n), range(a, b) -/
def iR1 (ms : Env → Sto → Out (List W)) : Env → Sto → Out (List W × Option Nat) := fun env S => (ms env S).bind fun ws S1 => match ws with
  | [.int j] => if -(2 ^ 62) ≤ j ∧ j < 2 ^ 62 then .ok ((List.range j.toNat).map fun i => W.int (0 + (i : Nat)), none) S1 else .fail
  | _ => .fail
def iR2 (ms : Env → Sto → Out (List W)) : Env → Sto → Out (List W × Option Nat) := fun env S => (ms env S).bind fun ws S1 => match ws with
  | [.int i, .int j] => if -(2 ^ 62) ≤ i ∧ i < 2 ^ 62 ∧ -(2 ^ 62) ≤ j ∧ j < 2 ^ 62 then .ok ((List.range (j - i).toNat).map fun k => W.int (i + (k : Nat)), none) S1 else .fail
  | _ => .fail
theorem mi_range1 {it : Expr} {ms : Env → Sto → Out (List W)} (h : PI X tg it (iRng1 (TAm X.K X.mg Wx ms))) : PI X tg it (TIm X.K X.mg Wx (iR1 ms)) :=
  pi_imp h fun σ H R ⟨B0, ρ, env, S, r, er, h⟩ => ⟨B0, ρ, env, S, r, er, h.bindA lat_gI fun ws S1 ρ1 H1 vs e1 r1 q1 h1 => by
    split at h1
    · rename_i j
      split at h1
      · rename_i c
        obtain ⟨v, vs', rfl, k1, k2⟩ := q1.cons_inv
        have := k2.nil_inv
        subst this
        rw [k1.int_inv]
        exact ⟨j, rfl, c.1, c.2, h1 ρ1 H1 _ .refl r1 trivial itok_range⟩
      · exact h1.elim
    · exact h1.elim⟩
theorem mi_range2 {it : Expr} {ms : Env → Sto → Out (List W)} (h : PI X tg it (iRng2 (TAm X.K X.mg Wx ms))) : PI X tg it (TIm X.K X.mg Wx (iR2 ms)) :=
  pi_imp h fun σ H R ⟨B0, ρ, env, S, r, er, h⟩ => ⟨B0, ρ, env, S, r, er, h.bindA lat_gI fun ws S1 ρ1 H1 vs e1 r1 q1 h1 => by
    split at h1
    · rename_i i j
      split at h1
      · rename_i c
        obtain ⟨v, vs', rfl, k1, k2⟩ := q1.cons_inv
        obtain ⟨v2, vs2, rfl, k3, k4⟩ := k2.cons_inv
        have := k4.nil_inv
        subst this
        rw [k1.int_inv, k3.int_inv]
        exact ⟨i, j, rfl, c, h1 ρ1 H1 _ .refl r1 trivial itok_range⟩
      · exact h1.elim
    · exact h1.elim⟩

/-! ### for -/
def loopL (mt : W → Env → Sto → Out Env) (body : Env → Sto → OutS) : List W → Env → Sto → OutS
  | [], env, S => .next env S
  | w :: ws, env, S => match mt w env S with
    | .ok e S1 => match body e S1 with
      | .next e2 S2 => loopL mt body ws e2 S2
      | .cont e2 S2 => loopL mt body ws e2 S2
      | .brk e2 S2 => .next e2 S2
      | .ret w S2 => .ret w S2
      | .exc c e2 S2 => .exc c e2 S2
      | .fail => .fail
    | .exc c S1 => .exc c env S1
    | .fail => .fail
def unlockO (lk : Option Nat) (ws : List W) : OutS → OutS
  | .next e S => .next e (unlockS lk ws S)
  | .brk e S => .brk e (unlockS lk ws S)
  | .cont e S => .cont e (unlockS lk ws S)
  | .ret w S => .ret w (unlockS lk ws S)
  | .exc c e S => .exc c e (unlockS lk ws S)
  | .fail => .fail
def sFor (mi : Env → Sto → Out (List W × Option Nat)) (mt : W → Env → Sto → Out Env) (body : Env → Sto → OutS) : Env → Sto → OutS := fun env S =>
  (mi env S).bindS env fun o S1 => unlockO o.2 o.1 (loopL mt body o.1 env (lockS o.2 o.1 S1))
theorem ms_for {iter : Expr} {bd : List Stmt} {pos : Pos} {mi : Env → Sto → Out (List W × Option Nat)} {mt : W → Env → Sto → Out Env} {body : Env → Sto → OutS} (hp : PassesOwn (model X.prog X.w) X.A X.env X.xe) (hc : X.calm = true) (hi : PI X tg iter (TIm X.K X.mg Wx mi)) (hg : PG X tg (TGm X.K X.mg Wx mt)) (hb : PSs X bd (TSm X.K X.mg Wx body))
    (hs : ∀ x, foldedSetIterable iter X.env x = pure x := by intro _; rfl) : PS X (.For tg iter bd [] pos) (TSm X.K X.mg Wx (sFor mi mt body)) :=
  ps_imp (ps_for hp hc hi hg hb hs) fun D σ H ⟨B0, ρ, env, S, r, er, h⟩ => ⟨B0, ρ, env, S, r, er, EndS.bind r er h fun o S1 h1 => by
    obtain ⟨ws, lk⟩ := o
    intro ρ1 H1 J e1 r1 hk itok
    have h1 := h1.later e1
    have er1 := er.ext r e1
    have rl := r1.lock hk
    refine ⟨fun i m σ2 H2 => m = ws.length - i ∧ i ≤ ws.length ∧ ∃ ρ2 env2 S2, Ext ρ1 (lockS lk ws S1) H1 ρ2 S2 H2 ∧ SR X.K X.mg ρ2 S2 (lockB lk ρ1 B0) H2 ∧ ER X.K ρ2 (Bn (lockB lk ρ1 B0) ρ2 S2) H2 env2 σ2 ∧
      EndS X.K X.mg Wx D B0 ρ1 S1 H1 (unlockO lk ws (loopL mt body (ws.drop i) env2 S2)), ⟨ws.length, rfl, Nat.zero_le _, ρ1, env, lockS lk ws S1, .refl, rl, er1.lock r1 hk, h1⟩, ?_⟩
    rintro i m σ2 H2 ⟨rfl, hi, ρ2, env2, S2, e2, r2, er2, h2⟩
    obtain ⟨it1, it2⟩ := itok (lockB lk ρ1 B0) ρ2 S2 H2 (fun a b _ => b) e2 r2
    by_cases hlt : i < ws.length
    · have hw : ws[i]? = some ws[i] := by simp [hlt]
      obtain ⟨go, yl⟩ := it1 i _ hw
      have hd : ws.drop i = ws[i] :: ws.drop (i + 1) := List.drop_eq_getElem_cons hlt
      rw [hd] at h2
      refine .inr ⟨go, fun σ' H' => ∃ ρ3 env3 S3, Ext ρ1 (lockS lk ws S1) H1 ρ3 S3 H' ∧ SR X.K X.mg ρ3 S3 (lockB lk ρ1 B0) H' ∧ ER X.K ρ3 (Bn (lockB lk ρ1 B0) ρ3 S3) H' env3 σ' ∧
        EndS X.K X.mg Wx D B0 ρ1 S1 H1 (unlockO lk ws (loopL mt body (ws.drop (i + 1)) env3 S3)), fun σ' H' q => ⟨ws.length - (i + 1), by omega, rfl, hlt, q⟩, fun x H3 y => ?_⟩
      obtain ⟨e3, r3, q3⟩ := yl x H3 y
      refine ⟨lockB lk ρ1 B0, ρ2, env2, S2, ws[i], r3, er2.ext r2 e3, q3, ?_⟩
      have e23 := e2.trans e3
      unfold loopL at h2
      cases qt : mt ws[i] env2 S2 with
      | ok e4 S4 =>
        rw [qt] at h2
        refine fun ρ4 H4 σ4 ex4 r4 er4 => ⟨lockB lk ρ1 B0, ρ4, e4, S4, r4, er4, ?_⟩
        have e24 := e23.trans ex4
        simp only at h2
        cases qb : body e4 S4 with
        | next e5 S5 =>
          rw [qb] at h2
          exact fun ρ5 H5 σ5 ex5 r5 er5 => ⟨ρ5, e5, S5, e24.trans ex5, r5, er5, h2⟩
        | cont e5 S5 =>
          rw [qb] at h2
          exact fun ρ5 H5 σ5 ex5 r5 er5 => ⟨ρ5, e5, S5, e24.trans ex5, r5, er5, h2⟩
        | brk e5 S5 =>
          rw [qb] at h2
          intro ρ5 H5 σ5 ex5 r5 er5
          have u := unlock r1 hk (e24.trans ex5) r5
          exact h2 ρ5 H5 σ5 u.ext u.sr (er5.bans u.bn)
        | ret w5 S5 =>
          rw [qb] at h2
          intro ρ5 H5 v5 ex5 r5 q5
          have u := unlock r1 hk (e24.trans ex5) r5
          exact h2 ρ5 H5 v5 u.ext u.sr (q5.bans u.bn)
        | exc c e5 S5 =>
          rw [qb] at h2
          intro ρ5 H5 σ5 C ex5 r5 er5 hC
          have u := unlock r1 hk (e24.trans ex5) r5
          exact h2 ρ5 H5 σ5 C u.ext u.sr (er5.bans u.bn) hC
        | fail =>
          rw [qb] at h2
          exact h2.elim
      | exc c S4 =>
        rw [qt] at h2
        intro ρ4 H4 C ex4 r4 hC
        have u := unlock r1 hk (e23.trans ex4) r4
        exact h2 ρ4 H4 σ2 C u.ext u.sr (((er2.ext r2 e3).ext r3 ex4).bans u.bn) hC
      | fail =>
        rw [qt] at h2
        exact h2.elim
    · have e : i = ws.length := by omega
      subst e
      rw [List.drop_length] at h2
      have u := unlock r1 hk e2 r2
      exact .inl ⟨it2, h2 ρ2 H2 σ2 u.ext u.sr (er2.bans u.bn)⟩⟩
/-! ### while -/
def loopW (c : Env → Sto → Out Bool) (body : Env → Sto → OutS) : Nat → Env → Sto → OutS
  | 0, _, _ => .fail
  | n + 1, env, S => (c env S).bindS env fun b S1 => if b = true then match body env S1 with
      | .next e2 S2 => loopW c body n e2 S2
      | .cont e2 S2 => loopW c body n e2 S2
      | .brk e2 S2 => .next e2 S2
      | .ret w S2 => .ret w S2
      | .exc c e2 S2 => .exc c e2 S2
      | .fail => .fail
    else .next env S1
def FUEL : Nat := 1000000000000
def sWhile (c : Env → Sto → Out Bool) (body : Env → Sto → OutS) : Env → Sto → OutS := fun env S => loopW c body FUEL env S
theorem ms_while {c : Expr} {bd : List Stmt} {pos : Pos} {mc : Env → Sto → Out Bool} {body : Env → Sto → OutS} (hp : PassesOwn (model X.prog X.w) X.A X.env X.xe) (hc : PT X c (TTm X.K X.mg Wx mc)) (hb : PSs X bd (TSm X.K X.mg Wx body)) : PS X (.While c bd [] pos) (TSm X.K X.mg Wx (sWhile mc body)) :=
  ps_imp (ps_while hp hc hb) fun D σ H ⟨B0, ρ, env, S, r, er, h⟩ => by
    refine ⟨fun m σ2 H2 => ∃ ρ2 env2 S2, SR X.K X.mg ρ2 S2 B0 H2 ∧ ER X.K ρ2 (Bn B0 ρ2 S2) H2 env2 σ2 ∧ EndS X.K X.mg Wx D B0 ρ2 S2 H2 (loopW mc body m env2 S2), ⟨FUEL, ρ, env, S, r, er, h⟩, ?_⟩
    rintro m σ2 H2 ⟨ρ2, env2, S2, r2, er2, h2⟩
    cases m with
    | zero => exact h2.elim
    | succ m =>
      refine ⟨B0, ρ2, env2, S2, r2, er2, EndS.bindT r2 er2 h2 fun b S3 ρ3 H3 e3 r3 h3 => ?_⟩
      have er3 := er2.ext r2 e3
      cases b with
      | false =>
        rw [if_neg Bool.false_ne_true] at h3 ⊢
        exact here_next r3 er3 h3
      | true =>
        rw [if_pos rfl] at h3 ⊢
        refine ⟨fun σ' H' => ∃ ρ4 env4 S4, SR X.K X.mg ρ4 S4 B0 H' ∧ ER X.K ρ4 (Bn B0 ρ4 S4) H' env4 σ' ∧ EndS X.K X.mg Wx D B0 ρ4 S4 H' (loopW mc body m env4 S4), fun σ' H' q => ⟨m, Nat.lt_succ_self m, q⟩, B0, ρ3, env2, S3, r3, er3, ?_⟩
        cases qb : body env2 S3 with
        | next e5 S5 =>
          rw [qb] at h3
          exact fun ρ5 H5 σ5 ex5 r5 er5 => ⟨ρ5, e5, S5, r5, er5, h3.later ex5⟩
        | cont e5 S5 =>
          rw [qb] at h3
          exact fun ρ5 H5 σ5 ex5 r5 er5 => ⟨ρ5, e5, S5, r5, er5, h3.later ex5⟩
        | brk e5 S5 => rw [qb] at h3; exact h3
        | ret w5 S5 => rw [qb] at h3; exact h3
        | exc c e5 S5 => rw [qb] at h3; exact h3
        | fail => rw [qb] at h3; exact h3.elim

/-! ### list comprehensions -/
abbrev W0 : WX := fun _ _ _ _ => False
def Out.nox {α : Type} (o : Out α) : Out α := match o with
  | .ok a S => .ok a S
  | _ => .fail
/-- a target of a comprehension: its names' slots are among vs -/
def gSv (K : PySem.W.Frag) (mg : Str → Option Value) (vs : List Nat) (σ0 : L2.St) (Q : L2.St → Hp → Prop) : GP Env := fun B0 ρ S H e S' =>
  ∀ ρ' H' σ', Ext ρ S H ρ' S' H' → SR K mg ρ' S' B0 H' → ER K ρ' (Bn B0 ρ' S') H' e σ' → wipe σ' vs = wipe σ0 vs → Q σ' H'
def TGv (K : PySem.W.Frag) (mg : Str → Option Value) (vs : List Nat) (mt : W → Env → Sto → Out Env) : TG := fun v σ H Q =>
  ∃ B0 ρ env S w, SR K mg ρ S B0 H ∧ ER K ρ (Bn B0 ρ S) H env σ ∧ Rel K ρ (Bn B0 ρ S) H w v ∧ End K mg (fun _ _ => False) (gSv K mg vs σ Q) B0 ρ S H (mt w env S)
def TGsv (K : PySem.W.Frag) (mg : Str → Option Value) (vs : List Nat) (mt : List W → Env → Sto → Out Env) : TGs := fun v σ H Q =>
  ∃ B0 ρ env S ws, SR K mg ρ S B0 H ∧ ER K ρ (Bn B0 ρ S) H env σ ∧ Rels K ρ (Bn B0 ρ S) H ws v ∧ End K mg (fun _ _ => False) (gSv K mg vs σ Q) B0 ρ S H (mt ws env S)
theorem wipe_get {σ : L2.St} {i : Nat} : ∀ {vs : List Nat}, i ∉ vs → (wipe σ vs)[i]? = σ[i]?
  | [], _ => rfl
  | v :: vs, h => by
    unfold wipe
    rw [List.getElem?_set_ne (fun e => h (by simp [e]))]
    exact wipe_get fun q => h (List.mem_cons_of_mem _ q)
theorem wipe_in {σ : L2.St} {i : Nat} : ∀ {vs : List Nat}, i ∈ vs → i < σ.length → (wipe σ vs)[i]? = some none
  | v :: vs, h, hl => by
    unfold wipe
    by_cases e : v = i
    · subst e
      rw [List.getElem?_set_self (by rw [wipe_length]; exact hl)]
    · rw [List.getElem?_set_ne e]
      exact wipe_in (by
        rcases List.mem_cons.mp h with h | h
        · exact absurd h.symm e
        · exact h) hl
theorem wipe_ext {σ σ' : L2.St} {vs : List Nat} (hl : σ'.length = σ.length) (h : ∀ i, i ∉ vs → σ'[i]? = σ[i]?) : wipe σ' vs = wipe σ vs := by
  apply List.ext_getElem?
  intro i
  by_cases hi : i ∈ vs
  · by_cases hlt : i < σ.length
    · rw [wipe_in hi (by omega), wipe_in hi hlt]
    · rw [List.getElem?_eq_none (by rw [wipe_length]; omega), List.getElem?_eq_none (by rw [wipe_length]; omega)]
  · rw [wipe_get hi, wipe_get hi]; exact h i hi
theorem wipe_set {σ : L2.St} {vs : List Nat} {i : Nat} {x : Option V} (hi : i ∈ vs) : wipe (σ.set i x) vs = wipe σ vs :=
  wipe_ext (by simp) fun j hj => List.getElem?_set_ne fun e => hj (by rw [← e]; exact hi)
theorem mg_nameV {i : Nat} {vs : List Nat} {x : Str} {pos : Pos} (hN : X.N.Nodup) (hi : X.N[i]? = some x) (hx : Loc X.env.scope x) (hv : i ∈ vs) (hf : X.fn x = true ∨ X.env.scope.names.lookup x = some .local := by first | exact .inl rfl | exact .inr rfl | assumption) : PG X (.Name x pos) (TGv X.K X.mg vs (tName i)) :=
  pg_imp (pg_name hN hi hx hf) fun v σ H Q ⟨B0, ρ, env, S, w, r, er, rw', h⟩ => h ρ H _ .refl r (er.set rw' i) (wipe_set hv)
theorem mgs_nilV {vs : List Nat} : PGs X [] (TGsv X.K X.mg vs tsNil) := pgs_imp pgs_nil fun v σ H Q ⟨B0, ρ, env, S, ws, r, er, rw', h⟩ => by
  cases ws with
  | nil => exact ⟨rw'.nil_inv, h ρ H _ .refl r er rfl⟩
  | cons w ws => exact h.elim
theorem mgs_consV {vs : List Nat} {tg : Expr} {tgs : List Expr} {mt : W → Env → Sto → Out Env} {ms : List W → Env → Sto → Out Env} (h1 : PG X tg (TGv X.K X.mg vs mt)) (h2 : PGs X tgs (TGsv X.K X.mg vs ms))
    (hs : (assignEach (tg :: tgs) X.env).map (·.2) = assign tg X.env :: (assignEach tgs X.env).map (·.2) := by rfl) : PGs X (tg :: tgs) (TGsv X.K X.mg vs (tsCons mt ms)) :=
  pgs_imp (pgs_cons h1 h2 hs) fun us σ H Q ⟨B0, ρ, env, S, ws, r, er, rw', h⟩ => by
    cases ws with
    | nil => exact h.elim
    | cons w ws =>
      obtain ⟨v, vs', rfl, q1, q2⟩ := rw'.cons_inv
      refine ⟨v, vs', rfl, B0, ρ, env, S, w, r, er, q1, End.bind h fun e S1 h1 ρ1 H1 σ1 e1 r1 er1 hw => ?_⟩
      refine ⟨B0, ρ1, e, S1, ws, r1, er1, q2.ext r e1, ?_⟩
      cases q : ms ws e S1 with
      | ok e2 S2 =>
        rw [q] at h1
        exact fun ρ2 H2 σ2 e2 r2 er2 hw2 => h1 ρ2 H2 σ2 (e1.trans e2) r2 er2 (hw2.trans hw)
      | exc c S2 =>
        rw [q] at h1
        exact fun ρ2 H2 C e2 r2 hC => h1 ρ2 H2 C (e1.trans e2) r2 hC
      | fail => rw [q] at h1; exact h1.elim
theorem mg_tupV {vs : List Nat} {es : List Expr} {k : Nat} {pos : Pos} {ms : List W → Env → Sto → Out Env} {n : Nat} (hc : X.calm = true) (h : PGs X es (TGsv X.K X.mg vs ms))
    (hn : (assignEach es X.env).length = n := by rfl) (hst : (assignEach es X.env).findIdx? (·.1) = none := by rfl) : PG X (.Tuple es k pos) (TGv X.K X.mg vs (tTupT ms n)) :=
  pg_imp (pg_tup hc h hn hst) fun v σ H Q ⟨B0, ρ, env, S, w, r, er, rw', h⟩ => by
    cases w with
    | tup ws =>
      obtain ⟨a, us, rfl, k1, k2⟩ := rw'.tup_inv
      have h' : End X.K X.mg (fun _ _ => False) (gSv X.K X.mg vs σ Q) B0 ρ S H (if ws.length = n then ms ws env S else .fail) := h
      split at h'
      · rename_i hl
        exact ⟨a, us, rfl, k1, by rw [← k2.1]; exact hl, B0, ρ, env, S, ws, r, er, k2, h'⟩
      · exact h'.elim
    | _ => exact h.elim
def compL (mt : W → Env → Sto → Out Env) (tt : Env → Sto → Out Bool) (el : Env → Sto → Out W) (env : Env) : List W → Sto → Out (List W)
  | [], S => .ok [] S
  | w :: ws, S => (mt w env S).nox.bind fun e S1 => (tt e S1).nox.bind fun b S2 => if b = true then (el e S2).nox.bind fun y S3 => (compL mt tt el env ws S3).bind fun ys S4 => .ok (y :: ys) S4 else compL mt tt el env ws S2
def wipeE (env : Env) : List Nat → Env
  | [] => env
  | v :: vs => (wipeE env vs).set v none
def tYesM : Env → Sto → Out Bool := fun _ S => .ok true S
def mComp (own : List Nat) (mi : Env → Sto → Out (List W × Option Nat)) (mt : W → Env → Sto → Out Env) (tt : Env → Sto → Out Bool) (el : Env → Sto → Out W) : Env → Sto → Out FW := fun env S =>
  (mi env S).bind fun o S1 => (compL mt tt el (wipeE env own) o.1 (lockS o.2 o.1 S1)).nox.bind fun ys S2 => if ys.length ≤ LINE then .ok (.new ys) (unlockS o.2 o.1 S2) else .fail
theorem wipeE_get {env : Env} {i : Nat} {w : W} : ∀ {vs : List Nat}, (wipeE env vs)[i]? = some (some w) → env[i]? = some (some w) ∧ i ∉ vs
  | [], h => ⟨h, by simp⟩
  | v :: vs, h => by
    unfold wipeE at h
    by_cases hi : v = i
    · subst hi
      rw [List.getElem?_set, if_pos rfl] at h
      split at h <;> cases h
    · rw [List.getElem?_set_ne hi] at h
      obtain ⟨h1, h2⟩ := wipeE_get h
      exact ⟨h1, by simp only [List.mem_cons, not_or]; exact ⟨fun e => hi e.symm, h2⟩⟩
theorem wipeE_length (env : Env) : ∀ vs : List Nat, (wipeE env vs).length = env.length
  | [] => rfl
  | v :: vs => by unfold wipeE; rw [List.length_set, wipeE_length env vs]
theorem ER.wipe {K : PySem.W.Frag} {ρ : List Addr} {B : Ban} {H : Hp} {env : Env} {σ : L2.St} (h : ER K ρ B H env σ) (vs : List Nat) : ER K ρ B H (wipeE env vs) (L2.wipe σ vs) := by
  refine ⟨by rw [wipeE_length, wipe_length]; exact h.1, fun i w q => ?_⟩
  obtain ⟨q1, q2⟩ := wipeE_get q
  rw [wipe_get q2]
  exact h.2 i w q1
theorem mt_yes : PTs X [] (TTm X.K X.mg Wx tYesM) := ⟨fun pins s σ H Q I ⟨B0, ρ, env, S, r, er, h⟩ => pts_nil.run pins s σ H Q I (h ρ H .refl r)⟩
theorem mt_one {c : Expr} {t : Env → Sto → Out Bool} (h : PT X c (TTm X.K X.mg Wx t)) : PTs X [c] (TTm X.K X.mg Wx t) := pts_one h
theorem nox_bind {α β : Type} {K : PySem.W.Frag} {mg : Str → Option Value} {Xw Xw' : Value → Hp → Prop} {g : GP β} {ga : GP α} {B0 : Ban} {ρ : List Addr} {S : Sto} {H : Hp} {o : Out α} {k : α → Sto → Out β} (h : End K mg Xw g B0 ρ S H (o.nox.bind k))
    (hk : ∀ a S1, o = .ok a S1 → End K mg Xw g B0 ρ S H (k a S1) → ga B0 ρ S H a S1) : End K mg Xw' ga B0 ρ S H o := by
  cases o with
  | ok a S1 => exact hk a S1 rfl h
  | exc c S1 => exact h.elim
  | fail => exact h.elim
section
variable {K : PySem.W.Frag} {mg : Str → Option Value} {ρ ρ' : List Addr} {S S' : Sto} {B0 B1 B B' : Ban} {H H' : Hp} {w : W} {v : V} {ws : List W} {vs xs ys : List V} {D : Addr} {env : Env} {σ : L2.St}
/-- a banned list that nobody knows grows -/
theorem Rel.bump (h : Rel K ρ B H w v) (hb : B D) (hD : H D = some (.lst xs)) : Rel K ρ B (L2.upd H D (.lst ys)) w v :=
  h.stay (fun _ _ q => q) (fun a u hu q => by
    have ne : a ≠ D := fun e => by subst e; rw [hD] at q; cases q; cases hu
    rw [upd_ne ne]; exact q) fun a us q nb => ⟨by rw [upd_ne (fun e => nb (by rw [e]; exact hb))]; exact q, nb⟩
theorem Rels.bump (h : Rels K ρ B H ws vs) (hb : B D) (hD : H D = some (.lst xs)) : Rels K ρ B (L2.upd H D (.lst ys)) ws vs := ⟨h.1, fun i w v h1 h2 => (h.2 i w v h1 h2).bump hb hD⟩
theorem SR.bump (r : SR K mg ρ S B0 H) (hb : B0 D) (hD : H D = some (.lst xs)) (np : D ∉ ρ) : SR K mg ρ S B0 (L2.upd H D (.lst ys)) := by
  refine ⟨r.len, r.nd, fun n o a h1 h2 => ?_, fun a h => ?_, r.sep⟩
  · have ne : a ≠ D := fun e => np (by rw [← e]; exact List.mem_of_getElem? h2)
    have q := r.obj n o a h1 h2
    have hb' : Bn B0 ρ S D := .inl hb
    cases o with
    | dead => show L2.upd H D _ a ≠ none; rw [upd_ne ne]; exact q
    | lst ws => obtain ⟨vs, h1, h2⟩ := q; exact ⟨vs, by rw [upd_ne ne]; exact h1, h2.bump hb' hD⟩
    | ro ws =>
      obtain ⟨vs, h1, h2⟩ := q
      refine ⟨vs, ?_, h2.bump hb' hD⟩
      rcases h1 with h1 | ⟨o, h1⟩
      · exact .inl (by rw [upd_ne ne]; exact h1)
      · exact .inr ⟨o, by rw [upd_ne ne]; exact h1⟩
    | dict kvs => obtain ⟨k, h1, h2, h3⟩ := q; exact ⟨k, by rw [upd_ne ne]; exact h1, h2, h3.bump hb' hD⟩
    | ins c fs => obtain ⟨C, dx, f, h1, h2, h3, h4⟩ := q; exact ⟨C, dx, f, by rw [upd_ne ne]; exact h1, h2, h3, h4.bump hb' hD⟩
  · by_cases e : a = D
    · rw [e, upd_same]; simp
    · rw [upd_ne e]; exact r.ban a h
theorem Ext.bump {o : HO} (e : Ext ρ S H ρ' S' H') (hD : H D = none) : Ext ρ S H ρ' S' (L2.upd H' D o) :=
  ⟨e.pre, fun a u h l => by
    have ne : a ≠ D := fun q => by rw [q, hD] at h; cases h
    rw [upd_ne ne]; exact e.keep a u h l, e.live, fun a h => by
    have ne : a ≠ D := fun q => h (by rw [q, hD])
    rw [upd_ne ne]; exact e.there a h, e.nw⟩
/-- from the heap in which D holds what it holds now -/
theorem Ext.since {o : HO} (e : Ext ρ S H ρ' S' H') (hD : H D = none) (h2 : H' D = some o) (hl : ¬ Lv ρ' S' D) (np : D ∉ ρ') : Ext ρ S (L2.upd H D o) ρ' S' H' :=
  ⟨e.pre, fun a u h l => by
    by_cases q : a = D
    · subst q; rw [upd_same] at h; cases h; exact h2
    · rw [upd_ne q] at h; exact e.keep a u h l, fun a l h => by
    by_cases q : a = D
    · subst q; exact absurd l hl
    · rw [upd_ne q] at h; exact e.live a l h, fun a h => by
    by_cases q : a = D
    · rw [q, h2]; simp
    · rw [upd_ne q] at h; exact e.there a h, fun a h => by
    have q : a ≠ D := fun q => np (by rw [← q]; exact h)
    rw [upd_ne q]; exact e.nw a h⟩
theorem ER.ext2 (h : ER K ρ (Bn B0 ρ S) H env σ) (r : SR K mg ρ S B0 H) (e : Ext ρ S H ρ' S' H') (hb : ∀ a, B1 a → H a ≠ none → B0 a) : ER K ρ' (Bn B1 ρ' S') H' env σ :=
  ⟨h.1, fun i w q => by obtain ⟨v, q1, q2⟩ := h.2 i w q; exact ⟨v, q1, q2.ext2 r e hb⟩⟩
end
def kAcc (lk : Option Nat) (ws0 acc : List W) : List W → Sto → Out FW := fun ys S => if (acc ++ ys).length ≤ LINE then .ok (.new (acc ++ ys)) (unlockS lk ws0 S) else .fail
theorem kAcc_cons (lk : Option Nat) (ws0 acc : List W) (y : W) (o : Out (List W)) : ((o.bind fun ys S4 => .ok (y :: ys) S4).nox.bind (kAcc lk ws0 acc)) = (o.nox.bind (kAcc lk ws0 (acc ++ [y]))) := by
  cases o with
  | ok ys S4 =>
    show kAcc lk ws0 acc (y :: ys) S4 = kAcc lk ws0 (acc ++ [y]) ys S4
    unfold kAcc
    rw [List.append_assoc, List.singleton_append]
  | exc c S => rfl
  | fail => rfl
theorem comp_imp {own : List Nat} {mi : Env → Sto → Out (List W × Option Nat)} {mt : W → Env → Sto → Out Env} {tt : Env → Sto → Out Bool} {el : Env → Sto → Out W} : ∀ σ H Q, TFm X.K X.mg Wx (mComp own mi mt tt el) σ H Q →
    tLc (TIm X.K X.mg Wx mi) (TGv X.K X.mg own mt) (TTm X.K X.mg W0 tt) (TEm X.K X.mg W0 el) own σ H Q := by
  refine fun σ H Q ⟨B0, ρ, env, S, r, er, h⟩ => ⟨B0, ρ, env, S, r, er, h.bind fun o S1 h1 => ?_⟩
  obtain ⟨ws, lk⟩ := o
  intro ρ1 H1 J e1 r1 hk itok D hD
  have h1 := h1.later lat_gF e1
  have er1 := er.ext r e1
  have rl := r1.lock hk
  generalize own = vs at *
  have np1 := r1.not_in hD
  have nb1 : ¬ B0 D := fun b => r1.ban D b hD
  have hb : ∀ a, lockB lk ρ1 (fun a => B0 a ∨ a = D) a → H1 a ≠ none → lockB lk ρ1 B0 a := fun a b hn => by
    cases lk with
    | none =>
      rcases b with b | b
      · exact b
      · exact absurd (by rw [b]; exact hD) hn
    | some n =>
      rcases b with (b | b) | b
      · exact .inl b
      · exact absurd (by rw [b]; exact hD) hn
      · exact .inr b
  have hbD : lockB lk ρ1 (fun a => B0 a ∨ a = D) D := by
    cases lk with
    | none => exact .inr rfl
    | some n => exact .inl (.inr rfl)
  have h1' : End X.K X.mg (fun c H' => Wx c none σ H') (gF X.K X.mg Q) B0 ρ1 S1 H1 ((compL mt tt el (wipeE env vs) ws (lockS lk ws S1)).nox.bind (kAcc lk ws [])) := h1
  refine ⟨fun i m H2 => m = ws.length - i ∧ i ≤ ws.length ∧ ∃ ρ2 S2 acc av, Ext ρ1 (lockS lk ws S1) H1 ρ2 S2 H2 ∧ SR X.K X.mg ρ2 S2 (lockB lk ρ1 fun a => B0 a ∨ a = D) H2 ∧ D ∉ ρ2 ∧ H2 D = some (.lst av) ∧
    Rels X.K ρ2 (Bn (lockB lk ρ1 fun a => B0 a ∨ a = D) ρ2 S2) H2 acc av ∧ End X.K X.mg (fun c H' => Wx c none σ H') (gF X.K X.mg Q) B0 ρ1 S1 H1 ((compL mt tt el (wipeE env vs) (ws.drop i) S2).nox.bind (kAcc lk ws acc)),
    ⟨ws.length, rfl, Nat.zero_le _, ρ1, lockS lk ws S1, [], [], .bump .refl hD, (r1.made hD).lock hk, np1, upd_same, .nil, h1'⟩, ?_⟩
  rintro i m H2 ⟨rfl, hi, ρ2, S2, acc, av, e2, r2, np, hD2, ra, h2⟩
  obtain ⟨it1, it2⟩ := itok _ ρ2 S2 H2 hb e2 r2
  by_cases hlt : i < ws.length
  · have hw : ws[i]? = some ws[i] := by simp [hlt]
    obtain ⟨go, yl⟩ := it1 i _ hw
    have hd : ws.drop i = ws[i] :: ws.drop (i + 1) := List.drop_eq_getElem_cons hlt
    rw [hd] at h2
    refine .inr ⟨go, fun H' => ∃ ρ3 S3 acc av, Ext ρ1 (lockS lk ws S1) H1 ρ3 S3 H' ∧ SR X.K X.mg ρ3 S3 (lockB lk ρ1 fun a => B0 a ∨ a = D) H' ∧ D ∉ ρ3 ∧ H' D = some (.lst av) ∧
      Rels X.K ρ3 (Bn (lockB lk ρ1 fun a => B0 a ∨ a = D) ρ3 S3) H' acc av ∧ End X.K X.mg (fun c H' => Wx c none σ H') (gF X.K X.mg Q) B0 ρ1 S1 H1 ((compL mt tt el (wipeE env vs) (ws.drop (i + 1)) S3).nox.bind (kAcc lk ws acc)),
      fun H' q => ⟨ws.length - (i + 1), by omega, rfl, hlt, q⟩, fun x H3 y => ?_⟩
    obtain ⟨e3, r3, q3⟩ := yl x H3 y
    have e13 := e2.trans e3
    have er3 : ER X.K ρ2 (Bn (lockB lk ρ1 fun a => B0 a ∨ a = D) ρ2 S2) H3 (wipeE env vs) (L2.wipe σ vs) := (ER.ext2 (er1.lock r1 hk) rl e13 hb).wipe vs
    have nl2 : ¬ Lv ρ2 S2 D := fun l => by
      obtain ⟨n, o, l1, l2, l3⟩ := l
      exact np (List.mem_of_getElem? l3)
    have hD3 := e3.keep _ _ hD2 nl2
    have ra3 := ra.ext r2 e3
    refine ⟨lockB lk ρ1 (fun a => B0 a ∨ a = D), ρ2, wipeE env vs, S2, ws[i], r3, er3, q3, ?_⟩
    unfold compL at h2
    cases qt : mt ws[i] (wipeE env vs) S2 with
    | exc c S4 => rw [qt] at h2; exact h2.elim
    | fail => rw [qt] at h2; exact h2.elim
    | ok e4 S4 =>
      rw [qt] at h2
      intro ρ4 H4 σ4 ex4 r4 er4 hw4
      refine ⟨by rw [hw4]; exact wipe_ext (wipe_length _ _) fun j hj => wipe_get hj, ?_⟩
      have np4 : D ∉ ρ4 := fun hm => (ex4.nw D hm).elim np fun z => by rw [hD3] at z; cases z
      have hD4 := ex4.keep _ _ hD3 nl2
      have ra4 := ra3.ext r3 ex4
      have nl4 : ¬ Lv ρ4 S4 D := fun l => by
        obtain ⟨n, o, l1, l2, l3⟩ := l
        exact np4 (List.mem_of_getElem? l3)
      refine ⟨lockB lk ρ1 (fun a => B0 a ∨ a = D), ρ4, e4, S4, r4, er4, ?_⟩
      cases qb : tt e4 S4 with
      | exc c S5 =>
        have h2 : End X.K X.mg (fun c H' => Wx c none σ H') (gF X.K X.mg Q) B0 ρ1 S1 H1 ((((tt e4 S4).nox.bind fun b S2 => if b = true then (el e4 S2).nox.bind fun y S3 => (compL mt tt el (wipeE env vs) (ws.drop (i + 1)) S3).bind fun ys S4 => .ok (y :: ys) S4 else compL mt tt el (wipeE env vs) (ws.drop (i + 1)) S2)).nox.bind (kAcc lk ws acc)) := h2
        rw [qb] at h2; exact h2.elim
      | fail =>
        have h2 : End X.K X.mg (fun c H' => Wx c none σ H') (gF X.K X.mg Q) B0 ρ1 S1 H1 ((((tt e4 S4).nox.bind fun b S2 => if b = true then (el e4 S2).nox.bind fun y S3 => (compL mt tt el (wipeE env vs) (ws.drop (i + 1)) S3).bind fun ys S4 => .ok (y :: ys) S4 else compL mt tt el (wipeE env vs) (ws.drop (i + 1)) S2)).nox.bind (kAcc lk ws acc)) := h2
        rw [qb] at h2; exact h2.elim
      | ok b S5 =>
        have h2 : End X.K X.mg (fun c H' => Wx c none σ H') (gF X.K X.mg Q) B0 ρ1 S1 H1 ((((tt e4 S4).nox.bind fun b S2 => if b = true then (el e4 S2).nox.bind fun y S3 => (compL mt tt el (wipeE env vs) (ws.drop (i + 1)) S3).bind fun ys S4 => .ok (y :: ys) S4 else compL mt tt el (wipeE env vs) (ws.drop (i + 1)) S2)).nox.bind (kAcc lk ws acc)) := h2
        rw [qb] at h2
        intro ρ5 H5 ex5 r5
        have np5 : D ∉ ρ5 := fun hm => (ex5.nw D hm).elim np4 fun z => by rw [hD4] at z; cases z
        have hD5 := ex5.keep _ _ hD4 nl4
        have ra5 := ra4.ext r4 ex5
        have e15 := (e13.trans ex4).trans ex5
        have nl5 : ¬ Lv ρ5 S5 D := fun l => by
          obtain ⟨n, o, l1, l2, l3⟩ := l
          exact np5 (List.mem_of_getElem? l3)
        cases b with
        | false =>
          rw [if_neg Bool.false_ne_true]
          exact ⟨ρ5, S5, acc, av, e15, r5, np5, hD5, ra5, h2⟩
        | true =>
          rw [if_pos rfl]
          refine ⟨lockB lk ρ1 (fun a => B0 a ∨ a = D), ρ5, e4, S5, r5, er4.ext r4 ex5, ?_⟩
          have h2 : End X.K X.mg (fun c H' => Wx c none σ H') (gF X.K X.mg Q) B0 ρ1 S1 H1 (((el e4 S5).nox.bind fun y S3 => (compL mt tt el (wipeE env vs) (ws.drop (i + 1)) S3).bind fun ys S4 => .ok (y :: ys) S4).nox.bind (kAcc lk ws acc)) := h2
          cases qe : el e4 S5 with
          | exc c S6 => rw [qe] at h2; exact h2.elim
          | fail => rw [qe] at h2; exact h2.elim
          | ok y6 S6 =>
            rw [qe] at h2
            have h2 : End X.K X.mg (fun c H' => Wx c none σ H') (gF X.K X.mg Q) B0 ρ1 S1 H1 (((compL mt tt el (wipeE env vs) (ws.drop (i + 1)) S6).bind fun ys S4 => .ok (y6 :: ys) S4).nox.bind (kAcc lk ws acc)) := h2
            rw [kAcc_cons] at h2
            intro ρ6 H6 v6 ex6 r6 q6
            have np6 : D ∉ ρ6 := fun hm => (ex6.nw D hm).elim np5 fun z => by rw [hD5] at z; cases z
            have hD6 := ex6.keep _ _ hD5 nl5
            have ra6 := ra5.ext r5 ex6
            have hlen : acc.length < LINE := by
              cases qc : compL mt tt el (wipeE env vs) (ws.drop (i + 1)) S6 with
              | exc c S7 => rw [qc] at h2; exact h2.elim
              | fail => rw [qc] at h2; exact h2.elim
              | ok ys S7 =>
                rw [qc] at h2
                have h3 : End X.K X.mg (fun c H' => Wx c none σ H') (gF X.K X.mg Q) B0 ρ1 S1 H1 (kAcc lk ws (acc ++ [y6]) ys S7) := h2
                unfold kAcc at h3
                split at h3
                · rename_i hl
                  rw [List.length_append, List.length_append, List.length_singleton] at hl
                  omega
                · exact h3.elim
            have hbn : Bn (lockB lk ρ1 fun a => B0 a ∨ a = D) ρ6 S6 D := .inl hbD
            exact ⟨av, hD6, by rw [← ra.1, line_eq]; exact hlen, ρ6, S6, acc ++ [y6], av ++ [v6], .bump (e15.trans ex6) hD, r6.bump hbD hD6 np6, np6, upd_same, (ra6.snoc q6).bump hbn hD6, h2⟩
  · have e : i = ws.length := by omega
    subst e
    rw [List.drop_length] at h2
    have h3 : End X.K X.mg (fun c H' => Wx c none σ H') (gF X.K X.mg Q) B0 ρ1 S1 H1 (kAcc lk ws acc [] S2) := h2
    unfold kAcc at h3
    rw [List.append_nil] at h3
    split at h3
    · have nl2 : ¬ Lv ρ2 S2 D := fun l => by
        obtain ⟨n, o, l1, l2, l3⟩ := l
        exact np (List.mem_of_getElem? l3)
      have u := unlock (r1.made (o := .lst av) hD) hk (e2.since hD hD2 nl2 np) r2
      exact .inl ⟨it2, h3 ρ2 H2 av D ((Ext.upd hD).trans u.ext) u.sr hD hD2 np nb1 (ra.bans u.bn)⟩
    · exact h3.elim
theorem me_comp {elt : Expr} {ifs : List Expr} {scope : Scope} {own : List (Str × Nat)} {pos : Pos} {iter : Expr} {mi : Env → Sto → Out (List W × Option Nat)} {mt : W → Env → Sto → Out Env} {tt : Env → Sto → Out Bool} {el : Env → Sto → Out W} (hc : X.calm = true) (hN : X.N.Nodup) (hi : PI X tg iter (TIm X.K X.mg Wx mi)) (ok : BlkOk X.N X.env.scope scope own)
    (hg : ∀ (s : Shared) (H : Hp) (C : Addr) (cl : List (Str × Addr)) (fp : List Addr), PG (X.blk s H scope (compEnvC scope cl C X.env) fp) tg (TGv X.K X.mg (own.map (·.2)) mt)) (ht : ∀ (s : Shared) (H : Hp) (C : Addr) (cl : List (Str × Addr)) (fp : List Addr), PTs (X.blk s H scope (compEnvC scope cl C X.env) fp) ifs (TTm X.K X.mg W0 tt))
    (he : ∀ (s : Shared) (H : Hp) (C : Addr) (cl : List (Str × Addr)) (fp : List Addr), PE (X.blk s H scope (compEnvC scope cl C X.env) fp) elt (TEm X.K X.mg W0 el)) (hs : ∀ x, foldedSetIterable iter X.env x = pure x := by intro _; rfl) :
    PE X (.ListComp elt [⟨tg, iter, ifs, 0⟩] scope pos) (TFm X.K X.mg Wx (mComp (own.map (·.2)) mi mt tt el)) :=
  pe_imp (pe_lc hc hN hi ok hg ht he hs) comp_imp
/-- name = [..] on one line -/
theorem ms_setLc {i : Nat} {y : Str} {py spos : Pos} {elt : Expr} {ifs : List Expr} {scope : Scope} {own : List (Str × Nat)} {pos : Pos} {tg iter : Expr} {mi : Env → Sto → Out (List W × Option Nat)} {mt : W → Env → Sto → Out Env} {tt : Env → Sto → Out Bool} {el : Env → Sto → Out W} {m : Env → Sto → Out W} (hc : X.calm = true) (hN : X.N.Nodup) (hy : X.N[i]? = some y) (hyl : X.env.scope.names.lookup y = some .local)
    (hm : ∀ σ H Q, TEm X.K X.mg Wx m σ H Q → TFm X.K X.mg Wx (mComp (own.map (·.2)) mi mt tt el) σ H Q)
    (hi : PI X tg iter (TIm X.K X.mg Wx mi)) (ok : BlkOk X.N X.env.scope scope own)
    (hg : ∀ (s : Shared) (H : Hp) (C : Addr) (cl : List (Str × Addr)) (fp : List Addr), PG (X.blk s H scope (compEnvC scope cl C X.env) fp) tg (TGv X.K X.mg (own.map (·.2)) mt)) (ht : ∀ (s : Shared) (H : Hp) (C : Addr) (cl : List (Str × Addr)) (fp : List Addr), PTs (X.blk s H scope (compEnvC scope cl C X.env) fp) ifs (TTm X.K X.mg W0 tt))
    (he : ∀ (s : Shared) (H : Hp) (C : Addr) (cl : List (Str × Addr)) (fp : List Addr), PE (X.blk s H scope (compEnvC scope cl C X.env) fp) elt (TEm X.K X.mg W0 el))
    (hk : X.env.scope.kind = .function := by rfl) (hl : (py.line == pos.line) = true := by rfl)
    (ha : (scope.names.any fun (n, k) => n == y && (k == .local || k == .cell)) = false := by rfl) (hs : ∀ x, foldedSetIterable iter X.env x = pure x := by intro _; rfl) :
    PS X (.Assign [.Name y py] (.ListComp elt [⟨tg, iter, ifs, 0⟩] scope pos) spos) (TSm X.K X.mg Wx (sSet i m)) :=
  ps_imp (ps_setLc hc hN hy hyl (sw_true hk hyl hl ha) hi ok hg ht he hs) fun D σ H ⟨B0, ρ, env, S, r, er, h⟩ => comp_imp σ H _ (hm σ H _ ⟨B0, ρ, env, S, r, er, h.bindE r er fun w S1 ρ1 H1 v e1 r1 q1 h1 => h1 ρ1 H1 _ .refl r1 ((er.ext r e1).set q1 i)⟩)
end
end L2.Mi

set_option Elab.async false
set_option linter.all false
set_option maxRecDepth 100000
set_option maxHeartbeats 2000000
/-! # The engine, part F: defs, calls, raise, try -/
namespace L2.Mi
open PySem PySem.Spec PyProof.Rows
abbrev MF := List W → Sto → Out W
/-- what a def does that does what its mirror does -/
def spM (K : PySem.W.Frag) (mg : Str → Option Value) (n : Nat) (f : MF) : Sp := fun vs H Q E =>
  vs.length = n ∧ ∃ B0 ρ S ws, SR K mg ρ S B0 H ∧ Rels K ρ (Bn B0 ρ S) H ws vs ∧ End K mg (fun c H' => E c none H') (gE K mg Q) B0 ρ S H (f ws S)
/-- a body's outcome as a call's -/
def outF : OutS → Out W
  | .next _ S => .ok .non S
  | .ret w S => .ok w S
  | .exc c _ S => .exc c S
  | _ => .fail
/-- the mirror of a def with n parameters and N names -/
def mfun (n N : Nat) (b : Env → Sto → OutS) : MF := fun ws S => if ws.length = n then outF (b (ws.map some ++ List.replicate (N - n) none) S) else .fail
section
variable {P : Program} {w : World} {K : PySem.W.Frag} {mg : Str → Option Value} {base : Heap}
/-- a def of the module that keeps its mirror -/
structure FnM (P : Program) (w : World) (K : PySem.W.Frag) (mg : Str → Option Value) (base : Heap) (x : Str) (st : Stmt) (ps : List Str) (k : Nat) (f : MF) : Prop where
  ex : ∃ (a : Addr) (kV doc pm : Value) (an : Option Addr) (cdv ct : Value), mg x = some (.ref a) ∧ PySem.W.keepIn K (.ref a) = true ∧
    FnOk P w K mg base (L2.CX P w) k a (PySem.W.fnOf x x (defArgs st) (defBody st) (defScope st) .none kV doc pm an cdv ct) ps (spM K mg ps.length f)
  len : ∀ ws S, ws.length ≠ ps.length → f ws S = .fail
def Wb (E : XK) : WX := fun cls d _ H => E cls d H
theorem fnok_of {x : Str} {st : Stmt} {N ps : List Str} {k : Nat} {body : Env → Sto → OutS} {f : Addr} {oc : Value} {od an : Option Addr} {osl : Array (Option Value)} {kV doc pm cdv ct : Value}
    (l : K.lookup f = some ⟨oc, od, .func (PySem.W.fnOf x x (defArgs st) (defBody st) (defScope st) .none kV doc pm an cdv ct), osl⟩) (c : PySem.W.codeIn K cdv x = true) (kp : PySem.W.keepIn K (.ref f) = true) (hm : mg x = some (.ref f)) (S : FnScope N ps (defScope st))
    (hbody : ∀ (cdv : Value) (A : Around) (outer : List PySem.Env) (s : Shared) (H : Hp) (E : XK), Room k (A.deeper (envOfC x (defScope st) s.heap.objs.size f cdv)) →
      PSs (cxOf (L2.CX P w) P w K mg base N x (defScope st) f cdv A outer s H E) (defBody st) (TSm K mg (Wb E) body)) : FnOk P w K mg base (L2.CX P w) (k + 1) f (PySem.W.fnOf x x (defArgs st) (defBody st) (defScope st) .none kV doc pm an cdv ct) ps (spM K mg ps.length (mfun ps.length N.length body)) := by
  have F : Fun K x x st f (PySem.W.fnOf x x (defArgs st) (defBody st) (defScope st) .none kV doc pm an cdv ct) := fun_mk l c kp
  refine F.okX S (fun vs H Q E h => h.1) fun cdv A outer s H vs Q E hr h => ⟨_, hbody cdv A outer s H E hr, ?_⟩
  obtain ⟨hl, B0, ρ, S0, ws, r, rw', he⟩ := h
  have hws : ws.length = ps.length := rw'.1.trans hl
  have hpl : ps.length ≤ N.length := by have := congrArg List.length S.pre; rw [List.length_take] at this; omega
  refine ⟨B0, ρ, ws.map some ++ List.replicate (N.length - ps.length) none, S0, r, ⟨?_, fun i w' q => ?_⟩, ?_⟩
  · unfold start
    simp only [List.length_append, List.length_map, List.length_replicate]
    have := rw'.1
    omega
  · have hi : i < ws.length := by
      by_cases hi : i < ws.length
      · exact hi
      · rw [List.getElem?_append_right (by simpa using hi), List.getElem?_replicate] at q
        split at q <;> cases q
    rw [List.getElem?_append_left (by simpa using hi), List.getElem?_map] at q
    have hw : ws[i]? = some w' := by
      cases e : ws[i]? with
      | none => rw [e] at q; cases q
      | some a => rw [e] at q; cases q; rfl
    obtain ⟨v, hv, rv⟩ := rw'.get hw
    refine ⟨v, ?_, rv⟩
    unfold start
    rw [List.getElem?_append_left (by rw [List.length_map, ← rw'.1]; exact hi), List.getElem?_map, hv]
    rfl
  · unfold mfun at he
    rw [if_pos hws] at he
    cases q : body (ws.map some ++ List.replicate (N.length - ps.length) none) S0 with
    | next e S1 =>
      rw [q] at he
      exact fun ρ1 H1 σ1 e1 r1 er1 => he ρ1 H1 .non e1 r1 .non
    | ret w1 S1 => rw [q] at he; exact he
    | exc c e S1 =>
      rw [q] at he
      exact fun ρ1 H1 σ1 C e1 r1 er1 hC => he ρ1 H1 C e1 r1 hC
    | brk e S1 => rw [q] at he; exact he.elim
    | cont e S1 => rw [q] at he; exact he.elim
    | fail => rw [q] at he; exact he.elim
theorem fnm_of {x : Str} {st : Stmt} {N ps : List Str} {k : Nat} {body : Env → Sto → OutS} {f : Addr} {oc : Value} {od an : Option Addr} {osl : Array (Option Value)} {kV doc pm cdv ct : Value}
    (l : K.lookup f = some ⟨oc, od, .func (PySem.W.fnOf x x (defArgs st) (defBody st) (defScope st) .none kV doc pm an cdv ct), osl⟩) (c : PySem.W.codeIn K cdv x = true) (kp : PySem.W.keepIn K (.ref f) = true) (hm : mg x = some (.ref f)) (S : FnScope N ps (defScope st))
    (hbody : ∀ (cdv : Value) (A : Around) (outer : List PySem.Env) (s : Shared) (H : Hp) (E : XK), Room k (A.deeper (envOfC x (defScope st) s.heap.objs.size f cdv)) →
      PSs (cxOf (L2.CX P w) P w K mg base N x (defScope st) f cdv A outer s H E) (defBody st) (TSm K mg (Wb E) body)) : FnM P w K mg base x st ps (k + 1) (mfun ps.length N.length body) :=
  ⟨⟨f, kV, doc, pm, an, cdv, ct, hm, kp, fnok_of l c kp hm S hbody⟩, fun ws S h => if_neg h⟩
end

/-! ### calls -/
mutual
/-- refers to objects below k alone -/
def refsLt (k : Nat) : W → Bool
  | .ref n => decide (n < k)
  | .tup xs => refsLts k xs
  | .lst xs => refsLts k xs
  | .fro xs => refsLts k xs
  | _ => true
def refsLts (k : Nat) : List W → Bool
  | [] => true
  | x :: xs => refsLt k x && refsLts k xs
end
mutual
/-- holds no list -/
def noLst : W → Bool
  | .lst _ => false
  | .tup xs => noLsts xs
  | .fro xs => noLsts xs
  | _ => true
def noLsts : List W → Bool
  | [] => true
  | x :: xs => noLst x && noLsts xs
end
def soOk (k : Nat) : SO → Bool
  | .dead => true
  | .lst xs => refsLts k xs
  | .ro xs => refsLts k xs
  | .dict kvs => refsLts k (kvs.map (·.2))
  | .ins _ fs => refsLts k (fs.map (·.2))
def soFlat : SO → Bool
  | .dead => true
  | .lst xs => noLsts xs
  | .ro xs => noLsts xs
  | .dict kvs => noLsts (kvs.map (·.2))
  | .ins _ fs => noLsts (fs.map (·.2))
/-- an argument for a callee that knows the first k objects: another list is handed as it stands -/
def argW (k : Nat) (S : Sto) : W → W
  | .ref n => if n < k then .ref n else match lsxOf S (.ref n) with
    | some xs => .lst xs
    | none => .ref n
  | w => w
def okRes (k : Nat) (plain : Bool) (w : W) (S2 : Sto) : Bool := decide (k ≤ S2.length) && refsLt k w && (S2.take k).all (soOk k) && (plain || (noLst w && (S2.take k).all soFlat))
/-- f(..) for a callee that knows the first k objects -/
def callRes (k : Nat) (plain : Bool) (S : Sto) (o : Out W) : Out W := match o with
  | .ok w S2 => if okRes k plain w S2 = true then .ok w (S2.take k ++ S.drop k) else .fail
  | .exc c S2 => if okRes k plain .non S2 = true then .exc c (S2.take k ++ S.drop k) else .fail
  | .fail => .fail
def callAt (k : Nat) (plain : Bool) (f : MF) (as : List W) (S : Sto) : Out W := if as.all (refsLt k) = true ∧ k ≤ S.length ∧ (S.take k).all (soOk k) = true then callRes k plain S (f as (S.take k)) else .fail
def callK (k : Nat) (f : MF) (ws : List W) (S : Sto) : Out W := callAt k (ws.all (refsLt k)) f (if ws.all (refsLt k) = true then ws else ws.map (argW k S)) S
section
variable {K : PySem.W.Frag} {mg : Str → Option Value} {ρ ρ' : List Addr} {S S' S2 : Sto} {B0 B1 B B' : Ban} {H H' : Hp} {w : W} {v : V} {ws : List W} {vs : List V} {k : Nat}
mutual
/-- from one world of objects to another -/
theorem Rel.move : ∀ (w : W) {v : V}, Rel K ρ B H w v → refsLt k w = true → (∀ n a, n < k → ρ[n]? = some a → ρ'[n]? = some a) → (∀ a, B' a → B a ∨ noLst w = true) → Rel K ρ' B' H w v
  | .non, _, h, _, _, _ => by cases h; exact .non
  | .bl b, _, h, _, _, _ => by cases h; exact .bl b
  | .int i, _, h, _, _, _ => by cases h; exact .int i
  | .str s, _, h, _, _, _ => by cases h; exact .str s
  | .ref n, _, h, hr, hρ, _ => by
    cases h with
    | ref h1 => exact .ref (hρ n _ (by simpa [refsLt] using hr) h1)
  | .tup xs, _, h, hr, hρ, hb => by
    obtain ⟨a, vs, rfl, h1, h2⟩ := h.tup_inv
    have := Rels.move xs h2 (by simpa [refsLt] using hr) hρ (fun a q => by simpa [noLst] using hb a q)
    exact .tup h1 this.1 this.2
  | .fro xs, _, h, hr, hρ, hb => by
    cases h with
    | @fro _ vs a h1 h3 h4 =>
      have := Rels.move xs (vs := vs) ⟨h3, h4⟩ (by simpa [refsLt] using hr) hρ (fun a q => by simpa [noLst] using hb a q)
      exact .fro h1 this.1 this.2
  | .lst xs, _, h, hr, hρ, hb => by
    cases h with
    | @lst _ vs a h1 h2 h3 h4 =>
      have hb' : ∀ a, B' a → B a := fun a q => (hb a q).elim id fun z => by simp [noLst] at z
      have := Rels.move xs (vs := vs) ⟨h3, h4⟩ (by simpa [refsLt] using hr) hρ (fun a q => .inl (hb' a q))
      exact .lst h1 (fun q => h2 (hb' _ q)) this.1 this.2
theorem Rels.move : ∀ (ws : List W) {vs : List V}, Rels K ρ B H ws vs → refsLts k ws = true → (∀ n a, n < k → ρ[n]? = some a → ρ'[n]? = some a) → (∀ a, B' a → B a ∨ noLsts ws = true) → Rels K ρ' B' H ws vs
  | [], _, h, _, _, _ => by
    have := h.nil_inv
    subst this
    exact .nil
  | x :: xs, _, h, hr, hρ, hb => by
    obtain ⟨v, vs', rfl, h1, h2⟩ := h.cons_inv
    simp only [refsLts, Bool.and_eq_true] at hr
    have hb1 : ∀ a, B' a → B a ∨ noLst x = true := fun a q => (hb a q).imp id fun z => by simp only [noLsts, Bool.and_eq_true] at z; exact z.1
    have hb2 : ∀ a, B' a → B a ∨ noLsts xs = true := fun a q => (hb a q).imp id fun z => by simp only [noLsts, Bool.and_eq_true] at z; exact z.2
    exact .cons (Rel.move x h1 hr.1 hρ hb1) (Rels.move xs h2 hr.2 hρ hb2)
end
theorem OR.move {a : Addr} {o : SO} (h : OR K mg ρ B H a o) (hr : soOk k o = true) (hρ : ∀ n a, n < k → ρ[n]? = some a → ρ'[n]? = some a) (hb : ∀ a, B' a → B a ∨ soFlat o = true) : OR K mg ρ' B' H a o := by
  cases o with
  | dead => exact h
  | lst ws => obtain ⟨vs, h1, h2⟩ := h; exact ⟨vs, h1, Rels.move ws h2 hr hρ hb⟩
  | ro ws => obtain ⟨vs, h1, h2⟩ := h; exact ⟨vs, h1, Rels.move ws h2 hr hρ hb⟩
  | dict kvs => obtain ⟨kv, h1, h2, h3⟩ := h; exact ⟨kv, h1, h2, Rels.move _ h3 hr hρ hb⟩
  | ins c fs => obtain ⟨C, dx, f, h1, h2, h3, h4⟩ := h; exact ⟨C, dx, f, h1, h2, h3, Rels.move _ h4 hr hρ hb⟩
theorem take_get {α : Type} {l : List α} {n : Nat} {a : α} (h : (l.take k)[n]? = some a) : n < k ∧ l[n]? = some a := by
  rw [List.getElem?_take] at h
  split at h
  · rename_i hn; exact ⟨hn, h⟩
  · cases h
theorem take_of {α : Type} {l : List α} {n : Nat} {a : α} (hn : n < k) (h : l[n]? = some a) : (l.take k)[n]? = some a := by
  rw [List.getElem?_take, if_pos hn]; exact h
/-- the callee's world: the first k objects; the others are banned (those that are handed as they stand are not: then no list comes back) -/
def calB (k : Nat) (plain : Bool) (B0 : Ban) (ρ : List Addr) (S : Sto) : Ban := fun a => plain = true ∧ (B0 a ∨ ∃ n o, k ≤ n ∧ S[n]? = some o ∧ o.alive = true ∧ ρ[n]? = some a)
theorem SR.callee (plain : Bool) (r : SR K mg ρ S B0 H) (hk : k ≤ S.length) (hs : (S.take k).all (soOk k) = true) : SR K mg (ρ.take k) (S.take k) (calB k plain B0 ρ S) H := by
  refine ⟨by simp [r.len], r.nd.sublist (List.take_sublist _ _), fun n o a h1 h2 => ?_, fun a h => ?_, fun n o a h1 h2 h3 q => ?_⟩
  · obtain ⟨hn, h1'⟩ := take_get h1
    obtain ⟨_, h2'⟩ := take_get h2
    refine (r.obj n o a h1' h2').move (k := k) (by
      rw [List.all_eq_true] at hs
      exact hs o (List.mem_of_getElem? h1)) (fun n a hn h => take_of hn h) fun a b => .inl ?_
    rcases b with ⟨_, b | ⟨m, o, _, q1, q2, q3⟩⟩ | ⟨m, o, q1, q2, q3⟩
    · exact .inl b
    · exact .inr ⟨m, o, q1, q2, q3⟩
    · exact .inr ⟨m, o, (take_get q1).2, q2, (take_get q3).2⟩
  · rcases h with ⟨_, h | ⟨m, o, _, q1, q2, q3⟩⟩
    · exact r.ban a h
    · exact r.live_some ⟨m, o, q1, q2, q3⟩
  · obtain ⟨hn, h1'⟩ := take_get h1
    obtain ⟨_, h3'⟩ := take_get h3
    rcases q with ⟨_, q | ⟨m, o', hm, q1, q2, q3⟩⟩
    · exact r.sep n o a h1' h2 h3' q
    · have := nd_at r.nd h3' q3
      omega
theorem back_get {n : Nat} {o : SO} (h : (S2.take k ++ S.drop k)[n]? = some o) (h2 : k ≤ S2.length) (hk : k ≤ S.length) : (n < k ∧ S2[n]? = some o) ∨ (k ≤ n ∧ S[n]? = some o) := by
  have hl : (S2.take k).length = k := by rw [List.length_take]; omega
  by_cases hn : n < k
  · rw [List.getElem?_append_left (by omega)] at h
    exact .inl ⟨hn, (take_get h).2⟩
  · rw [List.getElem?_append_right (by omega), hl, List.getElem?_drop] at h
    exact .inr ⟨by omega, by rw [← h]; congr 1; omega⟩
theorem back_of {n : Nat} {o : SO} (h : (n < k ∧ S2[n]? = some o) ∨ (k ≤ n ∧ S[n]? = some o)) (h2 : k ≤ S2.length) (hk : k ≤ S.length) : (S2.take k ++ S.drop k)[n]? = some o := by
  have hl : (S2.take k).length = k := by rw [List.length_take]; omega
  rcases h with ⟨hn, h⟩ | ⟨hn, h⟩
  · rw [List.getElem?_append_left (by omega)]
    exact take_of hn h
  · rw [List.getElem?_append_right (by omega), hl, List.getElem?_drop]
    rw [← h]; congr 1; omega
structure Back (K : PySem.W.Frag) (mg : Str → Option Value) (k : Nat) (B0 : Ban) (ρ : List Addr) (S S2 : Sto) (H H' : Hp) : Prop where
  ext : Ext ρ S H ρ (S2.take k ++ S.drop k) H'
  sr : SR K mg ρ (S2.take k ++ S.drop k) B0 H'
theorem call_back {plain : Bool} (r : SR K mg ρ S B0 H) (hk : k ≤ S.length) (e : Ext (ρ.take k) (S.take k) H ρ' S2 H') (r' : SR K mg ρ' S2 (calB k plain B0 ρ S) H') (ho : okRes k plain w S2 = true) :
    Back K mg k B0 ρ S S2 H H' ∧ (Rel K ρ' (Bn (calB k plain B0 ρ S) ρ' S2) H' w v → Rel K ρ (Bn B0 ρ (S2.take k ++ S.drop k)) H' w v) := by
  unfold okRes at ho
  simp only [Bool.and_eq_true, Bool.or_eq_true, decide_eq_true_eq] at ho
  obtain ⟨⟨⟨h2, hw⟩, hso⟩, hfl⟩ := ho
  have hkl : k ≤ ρ.length := by rw [r.len]; exact hk
  have hρ : ∀ n a, n < k → ρ'[n]? = some a → ρ[n]? = some a := fun n a hn h => by
    have h1 : ρ[n]? = some ρ[n] := by simp [show n < ρ.length by omega]
    have h3 := e.pre n _ (take_of hn h1)
    rw [h] at h3; cases h3
    exact h1
  have hρ' : ∀ n a, n < k → ρ[n]? = some a → ρ'[n]? = some a := fun n a hn h => e.pre n _ (take_of hn h)
  have lvT : ∀ a, Lv ρ (S2.take k ++ S.drop k) a → Lv ρ' S2 a ∨ ∃ n o, k ≤ n ∧ S[n]? = some o ∧ o.alive = true ∧ ρ[n]? = some a := fun a ⟨n, o, q1, q2, q3⟩ => by
    rcases back_get q1 h2 hk with ⟨hn, q⟩ | ⟨hn, q⟩
    · exact .inl ⟨n, o, q, q2, hρ' n a hn q3⟩
    · exact .inr ⟨n, o, hn, q, q2, q3⟩
  have lvS : ∀ a, Lv (ρ.take k) (S.take k) a → Lv ρ S a := fun a ⟨n, o, q1, q2, q3⟩ => ⟨n, o, (take_get q1).2, q2, (take_get q3).2⟩
  have ex : Ext ρ S H ρ (S2.take k ++ S.drop k) H' := ⟨fun _ _ h => h, fun a o h l => e.keep a o h fun l' => l (lvS a l'), fun a l h => by
    rcases lvT a l with l | ⟨n, o, _, q1, q2, q3⟩
    · exact lvS a (e.live a l h)
    · exact ⟨n, o, q1, q2, q3⟩, e.there, fun _ h => .inl h⟩
  have hb : ∀ {c : Bool}, (plain = false → c = true) → ∀ a, Bn B0 ρ (S2.take k ++ S.drop k) a → Bn (calB k plain B0 ρ S) ρ' S2 a ∨ c = true := fun {c} hc a b => by
    cases plain with
    | false => exact .inr (hc rfl)
    | true =>
      refine .inl ?_
      rcases b with b | b
      · exact .inl ⟨rfl, .inl b⟩
      · rcases lvT a b with b | b
        · exact .inr b
        · exact .inl ⟨rfl, .inr b⟩
  refine ⟨⟨ex, ?_, r.nd, fun n o a q1 q2 => ?_, fun a h => e.there a (r.ban a h), fun n o a q1 q2 q3 => ?_⟩, fun h => ?_⟩
  · rw [List.length_append, List.length_take, List.length_drop, r.len]; omega
  · rcases back_get q1 h2 hk with ⟨hn, q⟩ | ⟨hn, q⟩
    · have hm : o ∈ S2.take k := List.mem_of_getElem? (take_of hn q)
      refine (r'.obj n o a q (hρ' n a hn q2)).move (k := k) (List.all_eq_true.mp hso o hm) hρ (hb fun z => ?_)
      rw [z] at hfl
      exact List.all_eq_true.mp ((hfl.resolve_left Bool.false_ne_true).2) o hm
    · have q5 := r.obj n o a q q2
      refine q5.ext r ex ?_
      have nl : ¬ Lv (ρ.take k) (S.take k) a := fun ⟨m, o', l1, l2, l3⟩ => by
        have := nd_at r.nd (take_get l3).2 q2
        have := (take_get l3).1
        omega
      have : ∃ u, H a = some u := by
        cases o with
        | dead =>
          cases q6 : H a with
          | none => exact absurd q6 q5
          | some u => exact ⟨u, rfl⟩
        | lst ws => obtain ⟨_, q6, _⟩ := q5; exact ⟨_, q6⟩
        | ro ws => obtain ⟨_, q6 | ⟨_, q6⟩, _⟩ := q5 <;> exact ⟨_, q6⟩
        | dict kvs => obtain ⟨_, q6, _⟩ := q5; exact ⟨_, q6⟩
        | ins c fs => obtain ⟨_, _, _, q6, _⟩ := q5; exact ⟨_, q6⟩
      obtain ⟨u, hu⟩ := this
      rw [hu]
      exact e.keep a u hu nl
  · rcases back_get q1 h2 hk with ⟨hn, q⟩ | ⟨hn, q⟩
    · have ha : H a ≠ none := fun z => r.not_in z (List.mem_of_getElem? q3)
      obtain ⟨m, o', l1, l2, l3⟩ := lvS a (e.live a ⟨n, o, q, q2, hρ' n a hn q3⟩ ha)
      exact r.sep m o' a l1 l2 l3
    · exact r.sep n o a q q2 q3
  · refine Rel.move w h hw hρ (hb fun z => ?_)
    rw [z] at hfl
    exact (hfl.resolve_left Bool.false_ne_true).1
theorem args_plain (r : SR K mg ρ S B0 H) (h : Rels K ρ (Bn B0 ρ S) H ws vs) (hr : ws.all (refsLt k) = true) : Rels K (ρ.take k) (Bn (calB k true B0 ρ S) (ρ.take k) (S.take k)) H ws vs := by
  refine ⟨h.1, fun i w v h1 h2 => Rel.move w (h.2 i w v h1 h2) (List.all_eq_true.mp hr w (List.mem_of_getElem? h1)) (fun n a hn q => take_of hn q) fun a b => .inl ?_⟩
  rcases b with ⟨_, b | ⟨m, o, _, q1, q2, q3⟩⟩ | ⟨m, o, q1, q2, q3⟩
  · exact .inl b
  · exact .inr ⟨m, o, q1, q2, q3⟩
  · exact .inr ⟨m, o, (take_get q1).2, q2, (take_get q3).2⟩
theorem args_snap (r : SR K mg ρ S B0 H) (h : Rels K ρ (Bn B0 ρ S) H ws vs) (hr : (ws.map (argW k S)).all (refsLt k) = true) : Rels K (ρ.take k) (Bn (calB k false B0 ρ S) (ρ.take k) (S.take k)) H (ws.map (argW k S)) vs := by
  have hb : ∀ a, Bn (calB k false B0 ρ S) (ρ.take k) (S.take k) a → Bn B0 ρ S a := fun a b => by
    rcases b with ⟨z, _⟩ | ⟨m, o, q1, q2, q3⟩
    · cases z
    · exact .inr ⟨m, o, (take_get q1).2, q2, (take_get q3).2⟩
  refine ⟨by rw [List.length_map]; exact h.1, fun i w' v h1 h2 => ?_⟩
  have hr' := List.all_eq_true.mp hr w' (List.mem_of_getElem? h1)
  rw [List.getElem?_map, Option.map_eq_some_iff] at h1
  obtain ⟨w, hw, rfl⟩ := h1
  have q := h.2 i w v hw h2
  by_cases hc : argW k S w = w
  · rw [hc] at hr' ⊢
    exact Rel.move w q hr' (fun n a hn q => take_of hn q) fun a b => .inl (hb a b)
  · cases w with
    | ref n =>
      by_cases hn : n < k
      · exact absurd (by show (if n < k then W.ref n else _) = _; rw [if_pos hn]) hc
      · have e : argW k S (.ref n) = match lsxOf S (.ref n) with
          | some xs => .lst xs
          | none => .ref n := by show (if n < k then W.ref n else _) = _; rw [if_neg hn]
        cases q2 : lsxOf S (.ref n) with
        | none => rw [q2] at e; exact absurd e hc
        | some xs =>
          rw [q2] at e
          simp only at e
          rw [e] at hr' ⊢
          cases q with
          | @ref _ a ha =>
            obtain ⟨a', us, e3, h3, h4⟩ := r.lsx (.ref ha) q2
            cases e3
            have nb : ¬ Bn (calB k false B0 ρ S) (ρ.take k) (S.take k) a := fun b => by
              rcases b with ⟨z, _⟩ | ⟨m, o, q1, q2, q3⟩
              · cases z
              · have := nd_at r.nd (take_get q3).2 ha
                have := (take_get q3).1
                omega
            have h5 := Rels.move xs h4 (k := k) (ρ' := ρ.take k) (B' := Bn (calB k false B0 ρ S) (ρ.take k) (S.take k)) (by simpa [refsLt] using hr') (fun n a hn q => take_of hn q) fun a b => .inl (hb a b)
            exact .lst h3 nb h5.1 h5.2
    | _ => exact absurd rfl hc
end
/-- what a call wants of its callee -/
theorem callK_sp {K : PySem.W.Frag} {mg : Str → Option Value} {k n : Nat} {f : MF} {Xw : Value → Hp → Prop} {B0 : Ban} {ρ : List Addr} {S : Sto} {H : Hp} {ws : List W} {vs : List V} {Q : VK} {E : XK} (hE : ∀ C H', Xw C H' → E C none H') (hn : ∀ ws S, ws.length ≠ n → f ws S = .fail)
    (r : SR K mg ρ S B0 H) (hv : Rels K ρ (Bn B0 ρ S) H ws vs) (h : End K mg Xw (gE K mg Q) B0 ρ S H (callK k f ws S)) : spM K mg n f vs H Q E := by
  have key : ∀ (plain : Bool) (as : List W), ((as.all (refsLt k) = true) → Rels K (ρ.take k) (Bn (calB k plain B0 ρ S) (ρ.take k) (S.take k)) H as vs) →
      End K mg Xw (gE K mg Q) B0 ρ S H (callAt k plain f as S) → spM K mg n f vs H Q E := fun plain as hrel h => by
    unfold callAt at h
    split at h
    · rename_i hc
      obtain ⟨hra, hk, hso⟩ := hc
      have hrel := hrel hra
      have hl : as.length = n := by
        by_cases q : as.length = n
        · exact q
        · rw [hn as _ q] at h; exact (show False from h).elim
      refine ⟨by rw [← hrel.1]; exact hl, calB k plain B0 ρ S, ρ.take k, S.take k, as, r.callee plain hk hso, hrel, ?_⟩
      cases q : f as (S.take k) with
      | ok w S2 =>
        rw [q] at h
        unfold callRes at h
        simp only at h
        split at h
        · rename_i ho
          intro ρ' H' v e r' q'
          obtain ⟨b, hw⟩ := call_back (v := v) r hk e r' ho
          exact h ρ H' v b.ext b.sr (hw q')
        · exact (show False from h).elim
      | exc c S2 =>
        rw [q] at h
        unfold callRes at h
        simp only at h
        split at h
        · rename_i ho
          intro ρ' H' C e r' hC
          obtain ⟨b, _⟩ := call_back (v := .non) r hk e r' ho
          exact hE _ _ (h ρ H' C b.ext b.sr hC)
        · exact (show False from h).elim
      | fail => rw [q] at h; exact (show False from h).elim
    · exact (show False from h).elim
  unfold callK at h
  cases hp : ws.all (refsLt k) with
  | true =>
    rw [hp, if_pos rfl] at h
    exact key true ws (fun hra => args_plain r hv hra) h
  | false =>
    rw [hp, if_neg Bool.false_ne_true] at h
    exact key false _ (fun hra => args_snap r hv hra) h
section
variable {X : Cx} {Wx : WX}
def mCall (k : Nat) (f : MF) (ms : Env → Sto → Out (List W)) : Env → Sto → Out W := fun env S => (ms env S).bind fun ws S1 => callK k f ws S1
theorem me_call {j : Nat} {x : Str} {st : Stmt} {ps : List Str} {f : MF} {p pos : Pos} {e : Expr} {es : List Expr} {ms : Env → Sto → Out (List W)} (k : Nat) (F : FnM X.prog X.w X.K X.mg X.base x st ps j f) (tk : Takes X Wx) (hr : Room j X.A) (hg : Gl X x)
    (hb : ∀ (kV doc pm : Value) (an : Option Addr) (cdv ct : Value) (us : List Value), us.length = ps.length → bindArgs (PySem.W.fnOf x x (defArgs st) (defBody st) (defScope st) .none kV doc pm an cdv ct) ⟨us, []⟩ = pure (ps.zip us))
    (ha : PA X (e :: es) (TAm X.K X.mg Wx ms)) (hdb : (x == ("__debug__" : Str)) = false := by decide) (he : starEach (e :: es) X.env = (false, eval e X.env) :: starEach es X.env := by rfl) (hpl : (backTo pos (starEach es X.env)).any (·.1) = false := by rfl) :
    PE X (.Call (.Name x p) (e :: es) [] pos) (TEm X.K X.mg Wx (mCall k f ms)) := by
  obtain ⟨⟨a, kV, doc, pm, an, cdv, ct, hm, hk, G⟩, hlen⟩ := F
  exact pe_imp (pe_callS (E := WE Wx) G hr hg hm hk (.all (hb kV doc pm an cdv ct)) (fun σ => passAt tk σ) ha hdb he hpl) fun σ H Q ⟨B0, ρ, env, S, r, er, h⟩ => ⟨B0, ρ, env, S, r, er, h.bindA lat_gE fun ws S1 ρ1 H1 vs e1 r1 q1 h1 =>
    callK_sp (fun _ _ z => z) hlen r1 q1 h1⟩
/-- a callee that knows all objects and may leave new ones -/
def mCallG (f : MF) (ms : Env → Sto → Out (List W)) : Env → Sto → Out W := fun env S => (ms env S).bind fun ws S1 => f ws S1
theorem callG_sp {K : PySem.W.Frag} {mg : Str → Option Value} {n : Nat} {f : MF} {Xw : Value → Hp → Prop} {B0 : Ban} {ρ : List Addr} {S : Sto} {H : Hp} {ws : List W} {vs : List V} {Q : VK} {E : XK} (hE : ∀ C H', Xw C H' → E C none H') (hn : ∀ ws S, ws.length ≠ n → f ws S = .fail)
    (r : SR K mg ρ S B0 H) (hv : Rels K ρ (Bn B0 ρ S) H ws vs) (h : End K mg Xw (gE K mg Q) B0 ρ S H (f ws S)) : spM K mg n f vs H Q E := by
  have hl : ws.length = n := by
    by_cases q : ws.length = n
    · exact q
    · rw [hn _ _ q] at h; exact (show False from h).elim
  refine ⟨by rw [← hv.1]; exact hl, B0, ρ, S, ws, r, hv, ?_⟩
  cases q : f ws S with
  | ok w S2 => rw [q] at h; exact h
  | exc c S2 => rw [q] at h; exact fun ρ' H' C e r' hC => hE _ _ (h ρ' H' C e r' hC)
  | fail => rw [q] at h; exact (show False from h).elim
theorem me_callG {j : Nat} {x : Str} {st : Stmt} {ps : List Str} {f : MF} {p pos : Pos} {e : Expr} {es : List Expr} {ms : Env → Sto → Out (List W)} (F : FnM X.prog X.w X.K X.mg X.base x st ps j f) (tk : Takes X Wx) (hr : Room j X.A) (hg : Gl X x)
    (hb : ∀ (kV doc pm : Value) (an : Option Addr) (cdv ct : Value) (us : List Value), us.length = ps.length → bindArgs (PySem.W.fnOf x x (defArgs st) (defBody st) (defScope st) .none kV doc pm an cdv ct) ⟨us, []⟩ = pure (ps.zip us))
    (ha : PA X (e :: es) (TAm X.K X.mg Wx ms)) (hdb : (x == ("__debug__" : Str)) = false := by decide) (he : starEach (e :: es) X.env = (false, eval e X.env) :: starEach es X.env := by rfl) (hpl : (backTo pos (starEach es X.env)).any (·.1) = false := by rfl) :
    PE X (.Call (.Name x p) (e :: es) [] pos) (TEm X.K X.mg Wx (mCallG f ms)) := by
  obtain ⟨⟨a, kV, doc, pm, an, cdv, ct, hm, hk, G⟩, hlen⟩ := F
  exact pe_imp (pe_callS (E := WE Wx) G hr hg hm hk (.all (hb kV doc pm an cdv ct)) (fun σ => passAt tk σ) ha hdb he hpl) fun σ H Q ⟨B0, ρ, env, S, r, er, h⟩ => ⟨B0, ρ, env, S, r, er, h.bindA lat_gE fun ws S1 ρ1 H1 vs e1 r1 q1 h1 =>
    callG_sp (fun _ _ z => z) hlen r1 q1 h1⟩
/-- f(e, .., k = v, ..), the keywords in the parameters' order -/
theorem run_kw {k : Nat} {f : Addr} {fd : FuncData} {ps ks : List Str} {sp : Sp} {CX : CXT} {E : L2.St → XK} {pins : List (Addr × Obj)} {σ : L2.St} {H : Hp} {s : Shared} {Q : VK} {us ws : List Value} {vs zs : List V} (F : FnOk X.prog X.w X.K X.mg X.base CX k f fd ps sp) (hr : Room k X.A)
    (hb : bindArgs fd ⟨us, ks.zip ws⟩ = pure (ps.zip (us ++ ws))) (hx : PassesAt CX X σ (E σ)) (I : Inv X pins σ H s) (r : Vals vs us) (rz : Vals zs ws) (h : sp (vs ++ zs) H Q (E σ)) : wpAny (model X.prog X.w) X.A (call (.ref f) us (ks.zip ws)) (EP X pins σ Q) X.xe s := by
  have r2 := r.append rz
  refine wpAny_call (codeAny_mono (F.run X.A X.stack s H ⟨us, ks.zip ws⟩ (us ++ ws) (vs ++ zs) Q (E σ) hr I.env0 (.of_eq hb) r2 h) fun r s' hq => ?_)
  cases r with
  | error e => exact hx pins H s e s' I hq
  | ok fl =>
    cases fl with
    | ret u => exact I.after hq
    | next => exact False.elim hq
    | brk => exact False.elim hq
    | cont => exact False.elim hq
def tCallKw (n m : Nat) (sp : Sp) (E : L2.St → XK) (t tk : TA) : TE := fun σ H Q => t σ H fun vs H1 => tk σ H1 fun zs H2 => vs.length = n ∧ zs.length = m ∧ sp (vs ++ zs) H2 Q (E σ)
theorem pe_kw {k n : Nat} {f : Addr} {fd : FuncData} {ps ks : List Str} {sp : Sp} {CX : CXT} {E : L2.St → XK} {x : Str} {p pos : Pos} {e : Expr} {es : List Expr} {kws : List Keyword} {t tk : TA} (F : FnOk X.prog X.w X.K X.mg X.base CX k f fd ps sp) (hr : Room k X.A) (hg : Gl X x) (hm : X.mg x = some (.ref f)) (hk : PySem.W.keepIn X.K (.ref f) = true)
    (hb : ∀ us ws : List Value, us.length = n → ws.length = ks.length → bindArgs fd ⟨us, ks.zip ws⟩ = pure (ps.zip (us ++ ws))) (hx : ∀ σ, PassesAt CX X σ (E σ))
    (ha : PA X (e :: es) t) (hkw : PK X kws tk) (hall : (backToKw pos (keywordEach kws X.env)).all (·.1.isSome) = true) (hks : (backToKw pos (keywordEach kws X.env)).filterMap (·.1) = ks)
    (hdb : (x == ("__debug__" : Str)) = false) (he : starEach (e :: es) X.env = (false, eval e X.env) :: starEach es X.env)
    (hpl : ((backTo pos (starEach (e :: es) X.env)).any (·.1) || (backToKw pos (keywordEach kws X.env)).any (·.1.isNone)) = false) :
    PE X (.Call (.Name x p) (e :: es) kws pos) (tCallKw n ks.length sp E t tk) := by
  refine ⟨fun pins s σ H Q I h => ?_⟩
  refine wpAny_Call_Name_kw (ld_glob I hg hm ?_ hdb)
  refine PySem.W.callWith_KW (h₀ := X.base) I.ok.mod.kin hk hall (thn (ha.run pos pins s σ H _ I h) fun us s1 ⟨vs, H1, I1, r, q⟩ => ?_) hpl he
  refine thn (hkw.run pos pins s1 σ H1 _ I1 q) fun ws s2 ⟨zs, H2, I2, rz, l1, l2, q2⟩ => ⟨I2.kIn, ?_⟩
  rw [hks]
  exact run_kw F hr (hb us ws (by rw [← r.length]; exact l1) (by rw [← rz.length]; exact l2)) (hx σ) I2 r rz q2
theorem pe_kw0 {k : Nat} {f : Addr} {fd : FuncData} {ps ks : List Str} {sp : Sp} {CX : CXT} {E : L2.St → XK} {x : Str} {p pos : Pos} {kws : List Keyword} {tk : TA} (F : FnOk X.prog X.w X.K X.mg X.base CX k f fd ps sp) (hr : Room k X.A) (hg : Gl X x) (hm : X.mg x = some (.ref f)) (hk : PySem.W.keepIn X.K (.ref f) = true)
    (hb : ∀ us ws : List Value, us.length = 0 → ws.length = ks.length → bindArgs fd ⟨us, ks.zip ws⟩ = pure (ps.zip (us ++ ws))) (hx : ∀ σ, PassesAt CX X σ (E σ))
    (hkw : PK X kws tk) (hall : (backToKw pos (keywordEach kws X.env)).all (·.1.isSome) = true) (hks : (backToKw pos (keywordEach kws X.env)).filterMap (·.1) = ks)
    (hdb : (x == ("__debug__" : Str)) = false)
    (hpl : ((backTo pos (starEach [] X.env)).any (·.1) || (backToKw pos (keywordEach kws X.env)).any (·.1.isNone)) = false) :
    PE X (.Call (.Name x p) [] kws pos) (tCallKw 0 ks.length sp E tNil tk) := by
  refine ⟨fun pins s σ H Q I h => ?_⟩
  refine wpAny_Call_Name_kw (ld_glob I hg hm ?_ hdb)
  refine PySem.W.callWith_KW0 (h₀ := X.base) I.ok.mod.kin hk hall (thn (hkw.run pos pins s σ H _ I h) fun ws s2 ⟨zs, H2, I2, rz, l1, l2, q2⟩ => ⟨I2.kIn, ?_⟩) hpl
  rw [hks]
  exact run_kw (us := []) (vs := []) F hr (hb [] ws rfl (by rw [← rz.length]; exact l2)) (hx σ) I2 .nil rz q2
def mCallKw (k n m : Nat) (f : MF) (ms mk : Env → Sto → Out (List W)) : Env → Sto → Out W := fun env S => (ms env S).bind fun ws S1 => (mk env S1).bind fun zs S2 => if ws.length = n ∧ zs.length = m then callK k f (ws ++ zs) S2 else .fail
theorem kw_imp {K : PySem.W.Frag} {mg : Str → Option Value} {k n m np : Nat} {f : MF} {ms mk : Env → Sto → Out (List W)} (hlen : ∀ ws S, ws.length ≠ np → f ws S = .fail) {σ : L2.St} {H : Hp} {Q : VK} (h : TEm K mg Wx (mCallKw k n m f ms mk) σ H Q) : tCallKw n m (spM K mg np f) (WE Wx) (TAm K mg Wx ms) (TAm K mg Wx mk) σ H Q := by
  obtain ⟨B0, ρ, env, S, r, er, h⟩ := h
  exact ⟨B0, ρ, env, S, r, er, h.bindA lat_gE fun ws S1 ρ1 H1 vs e1 r1 q1 h1 => ⟨B0, ρ1, env, S1, r1, er.ext r e1, h1.bindA lat_gE fun zs S2 ρ2 H2 us e2 r2 q2 h2 => by
    split at h2
    · rename_i c
      exact ⟨by rw [← q1.1]; exact c.1, by rw [← q2.1]; exact c.2, callK_sp (fun _ _ z => z) hlen r2 ((q1.ext r1 e2).append q2) h2⟩
    · exact h2.elim⟩⟩
theorem me_callKw {j n : Nat} {x : Str} {st : Stmt} {ps ks : List Str} {f : MF} {p pos : Pos} {e : Expr} {es : List Expr} {kws : List Keyword} {ms mk : Env → Sto → Out (List W)} (k : Nat) (F : FnM X.prog X.w X.K X.mg X.base x st ps j f) (tk : Takes X Wx) (hr : Room j X.A) (hg : Gl X x)
    (hb : ∀ (kV doc pm : Value) (an : Option Addr) (cdv ct : Value) (us ws : List Value), us.length = n → ws.length = ks.length → bindArgs (PySem.W.fnOf x x (defArgs st) (defBody st) (defScope st) .none kV doc pm an cdv ct) ⟨us, ks.zip ws⟩ = pure (ps.zip (us ++ ws)))
    (ha : PA X (e :: es) (TAm X.K X.mg Wx ms)) (hkw : PK X kws (TAm X.K X.mg Wx mk)) (hall : (backToKw pos (keywordEach kws X.env)).all (·.1.isSome) = true := by rfl) (hks : (backToKw pos (keywordEach kws X.env)).filterMap (·.1) = ks := by rfl)
    (hdb : (x == ("__debug__" : Str)) = false := by decide) (he : starEach (e :: es) X.env = (false, eval e X.env) :: starEach es X.env := by rfl)
    (hpl : ((backTo pos (starEach (e :: es) X.env)).any (·.1) || (backToKw pos (keywordEach kws X.env)).any (·.1.isNone)) = false := by rfl) :
    PE X (.Call (.Name x p) (e :: es) kws pos) (TEm X.K X.mg Wx (mCallKw k n ks.length f ms mk)) := by
  obtain ⟨⟨a, kV, doc, pm, an, cdv, ct, hm, hk, G⟩, hlen⟩ := F
  exact pe_imp (pe_kw (E := WE Wx) G hr hg hm hk (hb kV doc pm an cdv ct) (fun σ => passAt tk σ) ha hkw hall hks hdb he hpl) fun _ _ _ => kw_imp hlen
theorem nil_ta {K : PySem.W.Frag} {mg : Str → Option Value} {σ : L2.St} {H : Hp} {Q : List V → Hp → Prop} (h : TAm K mg Wx mNil σ H Q) : tNil σ H Q := by
  obtain ⟨B0, ρ, env, S, r, er, h⟩ := h
  exact h ρ H [] .refl r .nil
theorem me_callKw0 {j : Nat} {x : Str} {st : Stmt} {ps ks : List Str} {f : MF} {p pos : Pos} {kws : List Keyword} {mk : Env → Sto → Out (List W)} (k : Nat) (F : FnM X.prog X.w X.K X.mg X.base x st ps j f) (tk : Takes X Wx) (hr : Room j X.A) (hg : Gl X x)
    (hb : ∀ (kV doc pm : Value) (an : Option Addr) (cdv ct : Value) (us ws : List Value), us.length = 0 → ws.length = ks.length → bindArgs (PySem.W.fnOf x x (defArgs st) (defBody st) (defScope st) .none kV doc pm an cdv ct) ⟨us, ks.zip ws⟩ = pure (ps.zip (us ++ ws)))
    (hkw : PK X kws (TAm X.K X.mg Wx mk)) (hall : (backToKw pos (keywordEach kws X.env)).all (·.1.isSome) = true := by rfl) (hks : (backToKw pos (keywordEach kws X.env)).filterMap (·.1) = ks := by rfl)
    (hdb : (x == ("__debug__" : Str)) = false := by decide)
    (hpl : ((backTo pos (starEach [] X.env)).any (·.1) || (backToKw pos (keywordEach kws X.env)).any (·.1.isNone)) = false := by rfl) :
    PE X (.Call (.Name x p) [] kws pos) (TEm X.K X.mg Wx (mCallKw k 0 ks.length f mNil mk)) := by
  obtain ⟨⟨a, kV, doc, pm, an, cdv, ct, hm, hk, G⟩, hlen⟩ := F
  exact pe_imp (pe_kw0 (E := WE Wx) G hr hg hm hk (hb kV doc pm an cdv ct) (fun σ => passAt tk σ) hkw hall hks hdb hpl) fun σ H Q h => nil_ta (kw_imp hlen h)

/-! ### raise, try -/
def sRaise (c : Str) : Env → Sto → OutS := fun env S => .exc c env S
theorem ms_raise {e : Expr} {pos : Pos} {C : Addr} {c : Str} (hc : X.calm = true) (tk : Takes X Wx) (hC : X.mg c = some (.ref C)) (he : PMk X e (fun _ H Q => Q (.ref C) none H)) : PS X (.Raise (some e) none pos) (TSm X.K X.mg Wx (sRaise c)) :=
  ps_imp (ps_raise hc tk he) fun D σ H ⟨B0, ρ, env, S, r, er, h⟩ => h ρ H σ C .refl r er hC
/-- try: a except c: b; l tells of each error that may come whether the clause takes it -/
def sTry (a : Env → Sto → OutS) (l : List (Str × Bool)) (b : Env → Sto → OutS) : Env → Sto → OutS := fun env S => match a env S with
  | .exc c e S1 => match l.lookup c with
    | some true => b e S1
    | some false => .exc c e S1
    | none => .fail
  | o => o
theorem ms_try {x : Str} {c : Value} {body suite : List Stmt} {b₀ : Stmt} {np pos pos' : Pos} {sa sb : Env → Sto → OutS} {l : List (Str × Bool)} (hs : X.stack = X.env :: X.outer) (hf : X.env.frame = some X.env.locals) (hc : Names X x c) (tk : Takes X Wx)
    (hl : ∀ p ∈ l, ∀ C, X.mg p.1 = some (.ref C) → PySem.W.exmOne X.K (.ref C) c = some p.2)
    (hb : ∀ (W : WX) (pn : List (Addr × Obj)) (xe : Value → Shared → Prop), Takes (X.tr pn xe) W → PassesOwn (model X.prog X.w) X.A X.env xe → PSs (X.tr pn xe) body (TSm X.K X.mg W sa))
    (hsu : ∀ (a : Addr) (pn : List (Addr × Obj)), PSs (X.suite a pn) (b₀ :: suite) (TSm X.K X.mg W0 sb))
    (hx : ∀ e S c e' S', sb e S ≠ .exc c e' S') :
    PS X (.Try body [.ExceptHandler (some (.Name x np)) none (b₀ :: suite) pos'] [] [] pos) (TSm X.K X.mg Wx (sTry sa l sb)) :=
  ps_imp (ps_try_only (tb := fun W => TSm X.K X.mg W sa) (ts := fun _ _ _ => TSm X.K X.mg W0 sb) hs hf hc tk hb fun a oe cls d pn _ _ => hsu a ((a, oe) :: pn)) fun D σ H ⟨B0, ρ, env, S, r, er, h⟩ => by
    refine ⟨B0, ρ, env, S, r, er, ?_⟩
    unfold sTry at h
    cases q : sa env S with
    | exc c' e S1 =>
      rw [q] at h
      simp only at h
      intro ρ1 H1 σ1 C e1 r1 er1 hC
      cases ql : l.lookup c' with
      | none => rw [ql] at h; exact (show False from h).elim
      | some b =>
        rw [ql] at h
        have hm : (c', b) ∈ l := PySem.mem_of_lookup ql
        refine ⟨b, hl _ hm C hC, fun hb a ha => ?_, fun hb => ?_⟩
        · subst hb
          refine ⟨B0, ρ1, e, S1, r1, er1, ?_⟩
          have h' := EndS.later e1 (show EndS X.K X.mg Wx D B0 ρ S H (sb e S1) from h)
          cases q2 : sb e S1 with
          | exc c2 e2 S2 => exact absurd q2 (hx _ _ _ _ _)
          | next e2 S2 => rw [q2] at h'; exact h'
          | brk e2 S2 => rw [q2] at h'; exact h'
          | cont e2 S2 => rw [q2] at h'; exact h'
          | ret w2 S2 => rw [q2] at h'; exact h'
          | fail => rw [q2] at h'; exact h'
        · subst hb
          exact h ρ1 H1 σ1 C e1 r1 er1 hC
    | next e2 S2 => rw [q] at h; exact h
    | brk e2 S2 => rw [q] at h; exact h
    | cont e2 S2 => rw [q] at h; exact h
    | ret w2 S2 => rw [q] at h; exact h
    | fail => rw [q] at h; exact (show False from h).elim
/-- several clauses: l tells of each error that may come which clause takes it -/
def sTryN (a : Env → Sto → OutS) (l : List (Str × Option Nat)) (bs : List (Env → Sto → OutS)) : Env → Sto → OutS := fun env S => match a env S with
  | .exc c e S1 => match l.lookup c with
    | some (some i) => match bs[i]? with
      | some b => b e S1
      | none => .fail
    | some none => .exc c e S1
    | none => .fail
  | o => o
/-- the clauses' classes: which one takes C -/
inductive Takes1 (K : PySem.W.Frag) (C : Value) : List Value → Option Nat → Prop
  | nil : Takes1 K C [] none
  | here {c cs} : PySem.W.exmOne K C c = some true → Takes1 K C (c :: cs) (some 0)
  | next {c cs n} : PySem.W.exmOne K C c = some false → Takes1 K C cs (some n) → Takes1 K C (c :: cs) (some (n + 1))
  | off {c cs} : PySem.W.exmOne K C c = some false → Takes1 K C cs none → Takes1 K C (c :: cs) none
theorem many_of {K : PySem.W.Frag} {Wout : WX} {D : Ends} {C : Value} {d : Option Addr} {σ : L2.St} {H : Hp} : ∀ {l : List (Value × TS)} {o : Option Nat}, Takes1 K C (l.map (·.1)) o → (∀ i, o = some i → ∀ p, l[i]? = some p → p.2 D σ H) → (o = none → Wout C d σ H) →
    wMany K Wout D (l.map fun p => (p.1, fun _ _ _ => p.2)) C d σ H
  | [], _, t, _, h => by cases t; exact h rfl
  | p :: l, _, t, h1, h2 => by
    cases t with
    | here hc => exact ⟨true, hc, fun _ _ _ => h1 0 rfl p rfl, fun z => nomatch z⟩
    | next hc t => exact ⟨false, hc, fun z => (nomatch z), fun _ => many_of t (fun i e q hq => h1 (i + 1) (by cases e; rfl) q (by simpa using hq)) fun z => nomatch z⟩
    | off hc t => exact ⟨false, hc, fun z => (nomatch z), fun _ => many_of t (fun i e => nomatch e) fun _ => h2 rfl⟩
theorem ms_tryN {body : List Stmt} {h₀ : ExceptHandler} {hds : List ExceptHandler} {pos : Pos} {sa : Env → Sto → OutS} {cl : List (Value × (Env → Sto → OutS))} {l : List (Str × Option Nat)} (hs : X.stack = X.env :: X.outer) (hf : X.env.frame = some X.env.locals) (tk : Takes X Wx)
    (hl : ∀ p ∈ l, ∀ C, X.mg p.1 = some (.ref C) → Takes1 X.K (.ref C) (cl.map (·.1)) p.2)
    (hb : ∀ (W : WX) (pn : List (Addr × Obj)) (xe : Value → Shared → Prop), Takes (X.tr pn xe) W → PassesOwn (model X.prog X.w) X.A X.env xe → PSs (X.tr pn xe) body (TSm X.K X.mg W sa))
    (hh : HdsOk X (h₀ :: hds) (cl.map fun p => (p.1, fun _ _ _ => TSm X.K X.mg W0 p.2)))
    (hx : ∀ p ∈ cl, ∀ e S c e' S', p.2 e S ≠ .exc c e' S') :
    PS X (.Try body (h₀ :: hds) [] [] pos) (TSm X.K X.mg Wx (sTryN sa l (cl.map (·.2)))) :=
  ps_imp (ps_try_many (tb := fun W => TSm X.K X.mg W sa) hs hf tk hb hh) fun D σ H ⟨B0, ρ, env, S, r, er, h⟩ => by
    refine ⟨B0, ρ, env, S, r, er, ?_⟩
    unfold sTryN at h
    cases q : sa env S with
    | exc c' e S1 =>
      rw [q] at h
      simp only at h
      intro ρ1 H1 σ1 C e1 r1 er1 hC
      cases ql : l.lookup c' with
      | none => rw [ql] at h; exact (show False from h).elim
      | some o =>
        rw [ql] at h
        have hm : (c', o) ∈ l := PySem.mem_of_lookup ql
        have t := hl _ hm C hC
        have e3 : (cl.map fun p => (p.1, fun (_ : Addr) (_ : Value) (_ : Option Addr) => TSm X.K X.mg W0 p.2)) = ((cl.map fun p => (p.1, TSm X.K X.mg W0 p.2)).map fun p => (p.1, fun (_ : Addr) (_ : Value) (_ : Option Addr) => p.2)) := by rw [List.map_map]; rfl
        rw [e3]
        refine many_of (by rw [List.map_map]; exact t) (fun i ei p hp => ?_) fun eo => ?_
        · have ei : o = some i := ei
          subst ei
          simp only at h
          rw [List.getElem?_map, Option.map_eq_some_iff] at hp
          obtain ⟨p0, hp0, rfl⟩ := hp
          have hb0 : (cl.map (·.2))[i]? = some p0.2 := by rw [List.getElem?_map, hp0]; rfl
          rw [hb0] at h
          refine ⟨B0, ρ1, e, S1, r1, er1, ?_⟩
          have h' := EndS.later e1 (show EndS X.K X.mg Wx D B0 ρ S H (p0.2 e S1) from h)
          cases q2 : p0.2 e S1 with
          | exc c2 e2 S2 => exact absurd q2 (hx _ (List.mem_of_getElem? hp0) _ _ _ _ _)
          | next e2 S2 => rw [q2] at h'; exact h'
          | brk e2 S2 => rw [q2] at h'; exact h'
          | cont e2 S2 => rw [q2] at h'; exact h'
          | ret w2 S2 => rw [q2] at h'; exact h'
          | fail => rw [q2] at h'; exact h'
        · have eo : o = none := eo
          subst eo
          exact h ρ1 H1 σ1 C e1 r1 er1 hC
    | next e2 S2 => rw [q] at h; exact h
    | brk e2 S2 => rw [q] at h; exact h
    | cont e2 S2 => rw [q] at h; exact h
    | ret w2 S2 => rw [q] at h; exact h
    | fail => rw [q] at h; exact (show False from h).elim
end
end L2.Mi

set_option Elab.async false
set_option linter.all false
set_option maxRecDepth 100000
set_option maxHeartbeats 2000000
/-! # The engine, part G: isinstance, in, is, text methods, all, any -/
namespace L2.Mi
open PySem PySem.Spec PyProof.Rows

/-! ### isinstance -/
inductive Ty where
  | non | bl | int | str | tup | lst | dict
deriving DecidableEq
def Ty.name : Ty → String
  | .non => "NoneType"
  | .bl => "bool"
  | .int => "int"
  | .str => "str"
  | .tup => "tuple"
  | .lst => "list"
  | .dict => "dict"
def tyW (S : Sto) : W → Option Ty
  | .non => some .non
  | .bl _ => some .bl
  | .int _ => some .int
  | .str _ => some .str
  | .tup _ => some .tup
  | .lst _ => some .lst
  | .fro _ => some .lst
  | .ref n => match S[n]? with
    | some (.lst _) => some .lst
    | some (.ro _) => some .lst
    | some (.dict _) => some .dict
    | _ => none
def subTy (t T : Ty) : Bool := decide (t = T) || (decide (t = .bl) && decide (T = .int))
theorem kitTy (t T : Ty) : kitB t.name T.name = some (subTy t T) := by
  cases t <;> cases T <;> decide +kernel
section
variable {K : PySem.W.Frag} {mg : Str → Option Value} {ρ : List Addr} {S : Sto} {B0 B : Ban} {H : Hp} {x : W} {v : V}
theorem SR.tyx (r : SR K mg ρ S B0 H) (h : Rel K ρ B H x v) {t : Ty} (e : tyW S x = some t) : TyX K H v (.type t.name) := by
  cases h with
  | non => cases e; exact .base .non
  | bl b => cases e; exact .base (.bl b)
  | int i => cases e; exact .base (.int i)
  | str s => cases e; exact .base (.str _)
  | tup h1 _ _ =>
    cases e
    rcases h1 with (h1 | ⟨o, h1⟩) | ⟨o, its, n, h1, h2, _⟩
    · exact .base (.tup h1)
    · exact .fTuple h1
    · exact .kTuple h1 h2
  | lst h1 _ _ _ => cases e; exact .base (.lst h1)
  | fro h1 _ _ =>
    cases e
    rcases h1 with ⟨o, h1⟩ | ⟨o, its, n, h1, h2, _⟩
    · exact .base (.frz h1)
    · exact .kList h1 h2
  | @ref n a ha =>
    have e : (match S[n]? with
      | some (.lst _) => some Ty.lst
      | some (.ro _) => some Ty.lst
      | some (.dict _) => some Ty.dict
      | _ => none) = some t := e
    split at e
    · rename_i ws q
      cases e
      obtain ⟨vs, h1, _⟩ := r.obj n _ a q ha
      exact .base (.lst h1)
    · rename_i ws q
      cases e
      obtain ⟨vs, h1 | ⟨o, h1⟩, _⟩ := r.obj n _ a q ha
      · exact .base (.lst h1)
      · exact .base (.frz h1)
    · rename_i ws q
      cases e
      obtain ⟨vs, h1, _⟩ := r.obj n _ a q ha
      exact .base (.dK h1)
    · cases e
end
def fIsi (T : Ty) (x : W) (S : Sto) : Out FW := match tyW S x with
  | some t => .ok (.val (.bl (subTy t T))) S
  | none => .fail
def mIsi (T : Ty) (m : Env → Sto → Out W) : Env → Sto → Out W := fun env S => (m env S).bind fun x S1 => match tyW S1 x with
  | some t => .ok (.bl (subTy t T)) S1
  | none => .fail
section
variable {X : Cx} {Wx : WX}
/-- isinstance(e, T), T a built-in type -/
theorem me_isi (T : Ty) {y : Str} {e : Expr} {p q pos : Pos} {m : Env → Sto → Out W} (hg : Gl X "isinstance") (hm : X.mg "isinstance" = none) (hgT : Gl X y) (hmT : X.mg y = none) (hv : bootBuiltins y = some (.type T.name)) (he : PE X e (TEm X.K X.mg Wx m))
    (hn : y ≠ "__name__" := by decide) (hd : (y == ("__debug__" : Str)) = false := by decide) (h1 : starEach [e, .Name y q] X.env = (false, eval e X.env) :: starEach [.Name y q] X.env := by rfl) (h2 : starEach [.Name y q] X.env = (false, eval (.Name y q) X.env) :: starEach [] X.env := by rfl)
    (hpl : (backTo pos (starEach [.Name y q] X.env)).any (·.1) = false := by rfl) : PE X (.Call (.Name "isinstance" p) [e, .Name y q] [] pos) (TEm X.K X.mg Wx (mIsi T m)) := by
  have ht : PE X (.Name y q) (tC (.ty T.name)) := pe_bltn hgT hmT hv rfl hn hd
  have ha := pa_cons he (pa_cons ht pa_nil h2) h1
  refine pe_imp (pe_callB call_isi hg hm boot_isinstance ha (by decide) (by decide) h1 hpl) fun σ H Q ⟨B0, ρ, env, S, r, er, h⟩ => ?_
  refine ⟨B0, ρ, env, S, r, er, h.bindE lat_gE fun w S1 ρ1 H1 v e1 r1 q1 h1 => ?_⟩
  cases hty : tyW S1 w with
  | none => rw [hty] at h1; exact h1.elim
  | some t =>
    rw [hty] at h1
    exact ⟨v, .ty T.name, .type t.name, .type T.name, subTy t T, rfl, .ty _, r1.tyx q1 hty, kit_ty (kitTy t T), gE_here r1 h1 (.bl _)⟩
end

/-! ### in, is -/
def flatW : W → Bool
  | .non => true
  | .bl _ => true
  | .int _ => true
  | .str _ => true
  | _ => false
section
variable {X : Cx} {K : PySem.W.Frag} {mg : Str → Option Value} {ρ : List Addr} {S : Sto} {B0 B : Ban} {H : Hp} {x : W} {v : V} {ws : List W} {vs : List V}
theorem flat_rel (h : Rel K ρ B H x v) (f : flatW x = true) : flatV v = true := by
  cases h <;> first | rfl | cases f
theorem flat_rels (h : Rels K ρ B H ws vs) (f : ws.all flatW = true) : vs.all flatV = true := by
  rw [List.all_eq_true] at f ⊢
  intro u hu
  obtain ⟨i, hi⟩ := List.mem_iff_getElem?.mp hu
  have hlt := (List.getElem?_eq_some_iff.mp hi).1
  have hw : ws[i]? = some (ws[i]'(by rw [h.1]; exact hlt)) := by simp [h.1, hlt]
  exact flat_rel (h.2 i _ u hw hi) (f _ (List.mem_of_getElem? hw))
theorem str_beq (s t : List Nat) : ((⟨s.toArray⟩ : Str) == ⟨t.toArray⟩) = (s == t) := by
  rw [Bool.eq_iff_iff]
  simp
theorem eq_flat {y : W} {u : V} (hx : Rel K ρ B H x v) (hy : Rel K ρ B H y u) (fx : flatW x = true) (fy : flatW y = true) : eqV v u = eqW x y := by
  cases hx <;> cases hy <;> first | rfl | (cases fx; done) | (cases fy; done) | exact str_beq _ _ | (unfold eqV eqW; rfl)
theorem any_flat (hx : Rel K ρ B H x v) (fx : flatW x = true) : ∀ {ws : List W} {vs : List V}, Rels K ρ B H ws vs → ws.all flatW = true → (vs.any fun u => eqV u v) = ws.any fun y => eqW y x
  | [], vs, h, _ => by rw [h.nil_inv]; rfl
  | w :: ws, vs, h, f => by
    obtain ⟨u, us, rfl, h1, h2⟩ := h.cons_inv
    rw [List.all_cons, Bool.and_eq_true] at f
    rw [List.any_cons, List.any_cons, eq_flat h1 hx f.1 fx, any_flat hx fx h2 f.2]
/-- x in y: one sign in a text; a value in a list or a tuple -/
def inW (x y : W) (S : Sto) : Option Bool := match x, y with
  | .str [c], .str s => some (decide (c ∈ s))
  | _, _ => match seqOf S y with
    | some ys => if flatW x = true ∧ ys.all flatW = true then some (ys.any fun z => eqW z x) else match lstOf S y with
      | some ys => if okD 60 (snap S x) = true ∧ okD 60 (.lst ys) = true then some (ys.any fun z => eqW z (snap S x)) else none
      | none => none
    | none => none
def fIn (x y : W) (S : Sto) : Out FW := match inW x y S with
  | some b => .ok (.val (.bl b)) S
  | none => .fail
def fNotIn (x y : W) (S : Sto) : Out FW := match inW x y S with
  | some b => .ok (.val (.bl (!b))) S
  | none => .fail
def rInSg (b : Bool) : R2 := fun x y H Q => ∃ (c : Nat) (z : Str), x = .str ⟨#[c]⟩ ∧ y = .str z ∧ Q (.bl (decide (c ∈ z.cps.toList) != b)) H
def rInDg (K : PySem.W.Frag) (b : Bool) : R2 := fun x y H Q => ∃ d ds, Dp K H x d ∧ Dp K H y (.list ds) ∧ SeqAt.shaped d = true ∧ SeqAt.shaped (.list ds) = true ∧ Q (.bl ((ds.any fun z => PyData.eqv z d) != b)) H
def rInA (K : PySem.W.Frag) (b : Bool) : R2 := fun x y H Q => rInSg b x y H Q ∨ (rIn K b x y H Q ∨ rInDg K b x y H Q)
theorem op_inA (hu : X.A.units + 65 < cLine) : OpR X (compareOp .In) (rInA X.K false) := by
  refine OpR.or ?_ (op_in_seq.or ?_)
  · intro pins s σ H x y v u Q I rx ry ⟨c, z, e1, e2, q⟩
    exact op_in_sign pins s σ H x y v u Q I rx ry ⟨c, z, e1, e2, by simpa using q⟩
  · intro pins s σ H x y v u Q I rx ry ⟨d, ds, e1, e2, e3, e4, q⟩
    exact op_inD hu pins s σ H x y v u Q I rx ry ⟨d, ds, e1, e2, e3, e4, by simpa using q⟩
theorem op_notInA (hu : X.A.units + 65 < cLine) : OpR X (compareOp .NotIn) (rInA X.K true) := by
  refine OpR.or ?_ (op_notIn_seq.or ?_)
  · intro pins s σ H x y v u Q I rx ry ⟨c, z, e1, e2, q⟩
    exact op_notIn_sign pins s σ H x y v u Q I rx ry ⟨c, z, e1, e2, by simpa using q⟩
  · intro pins s σ H x y v u Q I rx ry ⟨d, ds, e1, e2, e3, e4, q⟩
    exact op_notInD hu pins s σ H x y v u Q I rx ry ⟨d, ds, e1, e2, e3, e4, by simpa using q⟩
theorem pds_any {x : W} {n : Nat} (hx : okD n x = true) : ∀ {ys : List W} {m : Nat}, okDs m ys = true → ((pds ys).any fun z => PyData.eqv z (pd x)) = ys.any fun y => eqW y x
  | [], _, _ => rfl
  | y :: ys, m, h => by
    simp only [okDs, Bool.and_eq_true] at h
    show (pd y :: pds ys).any _ = _
    rw [List.any_cons, List.any_cons, pd_eqv y x m n h.1 hx, pds_any hx h.2]
theorem SR.lst_snap (r : SR K mg ρ S B0 H) (h : Rel K ρ (Bn B0 ρ S) H x v) {ys : List W} (e : lstOf S x = some ys) : snap S x = .lst ys := by
  cases h with
  | lst h1 h2 h3 h4 => unfold lstOf at e; simp at e; subst e; rfl
  | fro h1 h3 h4 => unfold lstOf at e; simp at e; subst e; rfl
  | @ref n a ha => unfold lstOf at e; unfold snap; simp only [lstOf]; simp only at e; rw [e]
  | _ => simp [lstOf] at e
theorem in_all {b : Bool} {y : W} {u : V} {Q : VK} (r : SR K mg ρ S B0 H) (hx : Rel K ρ (Bn B0 ρ S) H x v) (hy : Rel K ρ (Bn B0 ρ S) H y u) {a : Bool} (e : inW x y S = some a) (q : Q (.bl (a != b)) H) : rInA K b v u H Q := by
  have key : (match seqOf S y with
    | some ys => if flatW x = true ∧ ys.all flatW = true then some (ys.any fun z => eqW z x) else match lstOf S y with
      | some ys => if okD 60 (snap S x) = true ∧ okD 60 (.lst ys) = true then some (ys.any fun z => eqW z (snap S x)) else none
      | none => none
    | none => none) = some a → rInA K b v u H Q := by
    intro e
    cases hs : seqOf S y with
    | none => rw [hs] at e; cases e
    | some ys =>
      rw [hs] at e
      simp only at e
      split at e
      · rename_i hc
        cases e
        obtain ⟨p, us, rfl, h1, h2⟩ := r.seq hy hs
        refine .inr (.inl ⟨p, us, rfl, h1, flat_rel hx hc.1, flat_rels h2 hc.2, ?_⟩)
        unfold inV
        rw [any_flat hx hc.1 h2 hc.2]
        cases b <;> simpa using q
      · cases hl : lstOf S y with
        | none => rw [hl] at e; cases e
        | some zs =>
          rw [hl] at e
          simp only at e
          split at e
          · rename_i hc
            cases e
            have hy2 := r.lst_snap hy hl
            have d1 := snap_dp r hx hc.1
            have d2 := snap_dp r hy (n := 60) (by rw [hy2]; exact hc.2)
            rw [hy2] at d2
            have hz : okDs 59 zs = true := hc.2
            refine .inr (.inr ⟨pd (snap S x), pds zs, d1, d2, shaped_of hc.1, shaped_of hc.2, ?_⟩)
            rw [pds_any hc.1 hz]
            exact q
          · cases e
  unfold inW at e
  split at e
  · rename_i c s
    cases e
    rw [hx.str_inv, hy.str_inv]
    exact .inl ⟨c, _, rfl, rfl, by simpa using q⟩
  · exact key e
theorem of_in : OpM K mg fIn (rInA K false) := fun {Xw B0 ρ S H x y v u Q} r hx hy h => by
  unfold fIn at h
  cases e : inW x y S with
  | none => rw [e] at h; exact h.elim
  | some a => rw [e] at h; exact in_all r hx hy e (gE_here r h (by simpa using .bl a))
theorem of_notIn : OpM K mg fNotIn (rInA K true) := fun {Xw B0 ρ S H x y v u Q} r hx hy h => by
  unfold fNotIn at h
  cases e : inW x y S with
  | none => rw [e] at h; exact h.elim
  | some a => rw [e] at h; exact in_all r hx hy e (gE_here r h (by simpa using .bl (!a)))
/-- is: None at the right, or two truths -/
def isV (x y : W) : Option Bool := match x, y with
  | .non, .non => some true
  | _, .non => some false
  | .bl a, .bl b => some (decide (a = b))
  | _, _ => none
def fIs (x y : W) (S : Sto) : Out FW := match isV x y with
  | some b => .ok (.val (.bl b)) S
  | none => .fail
def fIsNot (x y : W) (S : Sto) : Out FW := match isV x y with
  | some b => .ok (.val (.bl (!b))) S
  | none => .fail
def rIsG (b : Bool) : R2 := fun x y H Q => (y = .non ∧ Q (.bl (decide (x = .non) != b)) H) ∨ (∃ i j, x = .bl i ∧ y = .bl j ∧ Q (.bl (decide (i = j) != b)) H)
theorem op_isG : OpR X (compareOp .Is) (rIsG false) := by
  intro pins s σ H x y v u Q I rx ry h
  rcases h with ⟨e, q⟩ | ⟨i, j, e1, e2, q⟩
  · exact op_isN pins s σ H x y v u Q I rx ry ⟨e, by simpa using q⟩
  · exact op_is_bl pins s σ H x y v u Q I rx ry ⟨i, j, e1, e2, by simpa using q⟩
theorem op_isNotG : OpR X (compareOp .IsNot) (rIsG true) := by
  intro pins s σ H x y v u Q I rx ry h
  rcases h with ⟨e, q⟩ | ⟨i, j, e1, e2, q⟩
  · exact op_notN pins s σ H x y v u Q I rx ry ⟨e, by simpa using q⟩
  · exact op_isnot_bl pins s σ H x y v u Q I rx ry ⟨i, j, e1, e2, by simpa using q⟩
theorem is_all {b : Bool} {y : W} {u : V} {Q : VK} (hx : Rel K ρ B H x v) (hy : Rel K ρ B H y u) {a : Bool} (e : isV x y = some a) (q : Q (.bl (a != b)) H) : rIsG b v u H Q := by
  cases y with
  | non =>
    refine .inl ⟨hy.non_inv, ?_⟩
    cases hx <;> (simp only [isV] at e; cases e; simpa using q)
  | bl j =>
    cases hx with
    | bl i =>
      simp only [isV] at e
      cases e
      exact .inr ⟨i, j, rfl, hy.bl_inv, by simpa using q⟩
    | _ => simp [isV] at e
  | _ => cases x <;> simp [isV] at e
theorem of_is : OpM K mg fIs (rIsG false) := fun {Xw B0 ρ S H x y v u Q} r hx hy h => by
  unfold fIs at h
  cases e : isV x y with
  | none => rw [e] at h; exact h.elim
  | some a => rw [e] at h; exact is_all hx hy e (gE_here r h (by simpa using .bl a))
theorem of_isNot : OpM K mg fIsNot (rIsG true) := fun {Xw B0 ρ S H x y v u Q} r hx hy h => by
  unfold fIsNot at h
  cases e : isV x y with
  | none => rw [e] at h; exact h.elim
  | some a => rw [e] at h; exact is_all hx hy e (gE_here r h (by simpa using .bl (!a)))
end
end L2.Mi

set_option Elab.async false
set_option linter.all false
set_option maxRecDepth 100000
set_option maxHeartbeats 2000000
/-! # The engine, part H: builtins' calls, text methods, chains -/
namespace L2.Mi
open PySem PySem.Spec PyProof.Rows
section
variable {X : Cx} {K : PySem.W.Frag} {mg : Str → Option Value} {ρ : List Addr} {S : Sto} {B0 B : Ban} {H : Hp} {x : W} {v : V} {ws : List W} {vs : List V}
theorem Rels.one_inv (h : Rels K ρ B H [x] vs) : ∃ v, vs = [v] ∧ Rel K ρ B H x v := by
  obtain ⟨v, us, rfl, h1, h2⟩ := h.cons_inv
  rw [h2.nil_inv]
  exact ⟨v, rfl, h1⟩
theorem Rels.two_inv {y : W} (h : Rels K ρ B H [x, y] vs) : ∃ v u, vs = [v, u] ∧ Rel K ρ B H x v ∧ Rel K ρ B H y u := by
  obtain ⟨v, us, rfl, h1, h2⟩ := h.cons_inv
  obtain ⟨u, rfl, h3⟩ := h2.one_inv
  exact ⟨v, u, rfl, h1, h3⟩
/-! ### all, any -/
def blsOf : List W → Option (List Bool)
  | [] => some []
  | .bl b :: ws => (blsOf ws).map (b :: ·)
  | _ => none
theorem bls_rel : ∀ {ws : List W} {vs : List V} {bs : List Bool}, Rels K ρ B H ws vs → blsOf ws = some bs → vs = bs.map V.bl
  | [], vs, bs, h, e => by cases e; rw [h.nil_inv]; rfl
  | .bl b :: ws, vs, bs, h, e => by
    obtain ⟨v, us, rfl, h1, h2⟩ := h.cons_inv
    unfold blsOf at e
    cases q : blsOf ws with
    | none => rw [q] at e; cases e
    | some cs => rw [q] at e; cases e; rw [h1.bl_inv, bls_rel h2 q]; rfl
  | .non :: _, _, _, _, e => by cases e
  | .int _ :: _, _, _, _, e => by cases e
  | .str _ :: _, _, _, _, e => by cases e
  | .tup _ :: _, _, _, _, e => by cases e
  | .lst _ :: _, _, _, _, e => by cases e
  | .fro _ :: _, _, _, _, e => by cases e
  | .ref _ :: _, _, _, _, e => by cases e
def fAll (as : List W) (S : Sto) : Out FW := match as with
  | [x] => match lstOf S x with
    | some ws => match blsOf ws with
      | some bs => .ok (.val (.bl (bs.all id))) S
      | none => .fail
    | none => .fail
  | _ => .fail
def fAny (as : List W) (S : Sto) : Out FW := match as with
  | [x] => match lstOf S x with
    | some ws => match blsOf ws with
      | some bs => .ok (.val (.bl (bs.any id))) S
      | none => .fail
    | none => .fail
  | _ => .fail
theorem cf_all : CaM K mg fAll (rAll K) := fun {Xw B0 ρ S H ws vs Q} r hx h => by
  unfold fAll at h
  split at h
  · rename_i x
    obtain ⟨v, rfl, hv⟩ := hx.one_inv
    cases e : lstOf S x with
    | none => rw [e] at h; exact h.elim
    | some ys =>
      rw [e] at h
      simp only at h
      cases e2 : blsOf ys with
      | none => rw [e2] at h; exact h.elim
      | some bs =>
        rw [e2] at h
        obtain ⟨a, us, rfl, h1, h2⟩ := r.lst hv e
        have := bls_rel h2 e2
        subst this
        exact ⟨a, bs, rfl, h1, gE_here r h (.bl _)⟩
  · exact h.elim
theorem cf_any : CaM K mg fAny (rAny K) := fun {Xw B0 ρ S H ws vs Q} r hx h => by
  unfold fAny at h
  split at h
  · rename_i x
    obtain ⟨v, rfl, hv⟩ := hx.one_inv
    cases e : lstOf S x with
    | none => rw [e] at h; exact h.elim
    | some ys =>
      rw [e] at h
      simp only at h
      cases e2 : blsOf ys with
      | none => rw [e2] at h; exact h.elim
      | some bs =>
        rw [e2] at h
        obtain ⟨a, us, rfl, h1, h2⟩ := r.lst hv e
        have := bls_rel h2 e2
        subst this
        exact ⟨a, bs, rfl, h1, gE_here r h (.bl _)⟩
  · exact h.elim
/-! ### int(x), min, max, abs -/
def fInt (as : List W) (S : Sto) : Out FW := match as with
  | [.int i] => .ok (.val (.int i)) S
  | [.bl b] => .ok (.val (.int (if b then 1 else 0))) S
  | _ => .fail
abbrev rInt1 : List V → Hp → VK → Prop := fun xs H Q => (∃ i, xs = [.int i] ∧ Q (.int i) H) ∨ ∃ k, xs = [.bl k] ∧ Q (.int (if k then 1 else 0)) H
theorem cf_int : CaM K mg fInt rInt1 := fun {Xw B0 ρ S H ws vs Q} r hx h => by
  unfold fInt at h
  split at h
  · obtain ⟨v, rfl, hv⟩ := hx.one_inv
    rw [hv.int_inv]
    exact .inl ⟨_, rfl, gE_here r h (.int _)⟩
  · obtain ⟨v, rfl, hv⟩ := hx.one_inv
    rw [hv.bl_inv]
    exact .inr ⟨_, rfl, gE_here r h (.int _)⟩
  · exact h.elim
def fII (g : Int → Int → Int) (as : List W) (S : Sto) : Out FW := match as with
  | [.int i, .int j] => .ok (.val (.int (g i j))) S
  | _ => .fail
abbrev rII (g : Int → Int → Int) : List V → Hp → VK → Prop := fun xs H Q => ∃ i j, xs = [.int i, .int j] ∧ Q (.int (g i j)) H
theorem cf_II {g : Int → Int → Int} : CaM K mg (fII g) (rII g) := fun {Xw B0 ρ S H ws vs Q} r hx h => by
  unfold fII at h
  split at h
  · obtain ⟨v, u, rfl, hv, hu⟩ := hx.two_inv
    rw [hv.int_inv, hu.int_inv]
    exact ⟨_, _, rfl, gE_here r h (.int _)⟩
  · exact h.elim
abbrev gMax (i j : Int) : Int := if j > i then j else i
abbrev gMin (i j : Int) : Int := if j < i then j else i
def fAbs (as : List W) (S : Sto) : Out FW := match as with
  | [.int i] => .ok (.val (.int (if i < 0 then -i else i))) S
  | _ => .fail
abbrev rAbs1 : List V → Hp → VK → Prop := fun xs H Q => ∃ i, xs = [.int i] ∧ Q (.int (if i < 0 then -i else i)) H
theorem cf_abs : CaM K mg fAbs rAbs1 := fun {Xw B0 ρ S H ws vs Q} r hx h => by
  unfold fAbs at h
  split at h
  · obtain ⟨v, rfl, hv⟩ := hx.one_inv
    rw [hv.int_inv]
    exact ⟨_, rfl, gE_here r h (.int _)⟩
  · exact h.elim
/-! ### tuple(x), list(x) -/
def fTupOf (as : List W) (S : Sto) : Out FW := match as with
  | [x] => match seqOf S x with
    | some ws => .ok (.val (.tup ws)) S
    | none => .fail
  | _ => .fail
abbrev rTupOf (K : PySem.W.Frag) : List V → Hp → VK → Prop := fun xs H Q => ∃ p ys, xs = [.ref p] ∧ ((SqL K H p ys ∧ ∀ l, H l = none → Q (.ref l) (upd H l (.tup ys))) ∨ (SqT K H p ys ∧ Q (.ref p) H))
theorem cf_tupOf : CaM K mg fTupOf (rTupOf K) := fun {Xw B0 ρ S H ws vs Q} r hx h => by
  unfold fTupOf at h
  split at h
  · rename_i x
    obtain ⟨v, rfl, hv⟩ := hx.one_inv
    cases e : seqOf S x with
    | none => rw [e] at h; exact h.elim
    | some ys =>
      rw [e] at h
      obtain ⟨a, us, rfl, h1, h2⟩ := r.seq hv e
      rcases h1 with h1 | h1
      · exact ⟨a, us, rfl, .inl ⟨h1, fun l hl => gE_tup r h hl h2⟩⟩
      · exact ⟨a, us, rfl, .inr ⟨h1, gE_here r h (.tup h1 h2.1 h2.2)⟩⟩
  · exact h.elim
def fListOf (as : List W) (S : Sto) : Out FW := match as with
  | [.str s] => if s.length ≤ LINE then .ok (.new (s.map fun c => W.str [c])) S else .fail
  | [x] => match seqOf S x with
    | some ws => .ok (.new ws) S
    | none => .fail
  | _ => .fail
abbrev rListStr : List V → Hp → VK → Prop := fun xs H Q => ∃ x : Str, xs = [.str x] ∧ x.length ≤ sizeLine ∧ ∀ l, H l = none → Q (.ref l) (upd H l (.lst (x.cps.toList.map fun c => V.str ⟨#[c]⟩)))
theorem call_list_strV (hc : X.calm = true) : CallR X (.type "list") rListStr := by
  intro pins s σ H xs us Q I r h
  obtain ⟨x, rfl, hz, q⟩ := h
  obtain ⟨u, rfl, t, rfl⟩ := vals1 r
  refine call_list_str (I.ok.hd hc) x t (fun h' tk acc' c' kp e hi => ?_) hz
  have hl : acc'.toList.length = x.cps.toList.length := by rw [Array.length_toList, hi.1, Array.length_toList]
  have r' : Vals (x.cps.toList.map fun c => V.str ⟨#[c]⟩) acc'.toList := by
    have : ∀ (cs : List Nat) (us : List Value), us.length = cs.length → (∀ (j : Nat) (v : Value), us[j]? = some v → ∃ c t, cs[j]? = some c ∧ v = .str ⟨#[c]⟩ t) → Vals (cs.map fun c => V.str ⟨#[c]⟩) us := by
      intro cs
      induction cs with
      | nil => intro us hl _; cases us with
        | nil => exact .nil
        | cons _ _ => cases hl
      | cons c cs ih => intro us hl h; cases us with
        | nil => cases hl
        | cons u us =>
          obtain ⟨c', t, e1, e2⟩ := h 0 u rfl
          cases e1
          refine .cons ⟨t, e2⟩ (ih us (by simpa using hl) fun j v hv => h (j + 1) v hv)
    refine this _ _ hl fun j v hv => ?_
    obtain ⟨c, u, hcx, rfl⟩ := hi.2 j v (by rw [← Array.getElem?_toList]; exact hv)
    exact ⟨c, u, by rw [Array.getElem?_toList]; exact hcx, rfl⟩
  exact ⟨.ref s.heap.objs.size, _, I.laid (t' := tk) kp (Nat.le_refl _) (show ObjOk X.prog X.w _ h' _ (.lst _) from ⟨by rw [List.length_map]; exact hz, acc'.toList, c', r', by simpa using e⟩), rfl, q _ (I.hok.fresh (Nat.le_refl _))⟩
abbrev rListOf (K : PySem.W.Frag) : List V → Hp → VK → Prop := fun xs H Q => (∃ p ys, xs = [.ref p] ∧ (SqL K H p ys ∨ SqT K H p ys) ∧ ∀ l, H l = none → Q (.ref l) (upd H l (.lst ys))) ∨ rListStr xs H Q
theorem call_listA (hc : X.calm = true) : CallR X (.type "list") (rListOf X.K) := call_list_of.or (call_list_strV hc)
theorem rels_signs (s : List Nat) : Rels K ρ B H (s.map fun c => W.str [c]) (s.map fun c => V.str ⟨#[c]⟩) := by
  induction s with
  | nil => exact .nil
  | cons c s ih => exact .cons (.str [c]) ih
theorem cf_listOf : CaM K mg fListOf (rListOf K) := fun {Xw B0 ρ S H ws vs Q} r hx h => by
  unfold fListOf at h
  split at h
  · rename_i s
    obtain ⟨v, rfl, hv⟩ := hx.one_inv
    rw [hv.str_inv]
    split at h
    · rename_i hl
      refine .inr ⟨_, rfl, by rw [line_eq]; simpa [Str.length] using hl, fun l hl => ?_⟩
      exact gN_made r h hl (rels_signs s)
    · exact h.elim
  · rename_i x _
    obtain ⟨v, rfl, hv⟩ := hx.one_inv
    cases e : seqOf S x with
    | none => rw [e] at h; exact h.elim
    | some ys =>
      rw [e] at h
      obtain ⟨a, us, rfl, h1, h2⟩ := r.seq hv e
      exact .inl ⟨a, us, rfl, h1, fun l hl => gN_made r h hl h2⟩
  · exact h.elim
/-! ### text.index, count, join -/
theorem occ_one (s : List Nat) (c : Nat) (h : c ∈ s) : ∃ r, Builtin.Str.occurrences ⟨s.toArray⟩ ⟨#[c]⟩ 0 (⟨s.toArray⟩ : Str).length 1 = s.idxOf c :: r := by
  rcases StrLaws.occ_head ⟨s.toArray⟩ ⟨#[c]⟩ 1 (Nat.le_refl _) with ⟨_, hn⟩ | ⟨i, r, e, ha, hn⟩
  · obtain ⟨i, hi⟩ := List.mem_iff_getElem?.mp h
    exact absurd ((StrLaws.subAt_one _ _ _).mpr hi) (hn i)
  · refine ⟨r, ?_⟩
    rw [e]
    congr 1
    have h1 : s[i]? = some c := (StrLaws.subAt_one ⟨s.toArray⟩ c i).mp ha
    have h2 : ∀ k, k < i → s[k]? ≠ some c := fun k hk q => hn k hk ((StrLaws.subAt_one ⟨s.toArray⟩ c k).mpr q)
    clear e ha hn r h
    induction s generalizing i with
    | nil => simp at h1
    | cons a s ih =>
      rw [List.idxOf_cons]
      by_cases q : a = c
      · subst q
        simp
        cases i with
        | zero => rfl
        | succ i => exact absurd rfl (h2 0 (by omega))
      · cases i with
        | zero => simp at h1; exact absurd h1 q
        | succ i =>
          have := ih i (by simpa using h1) fun k hk => by have := h2 (k + 1) (by omega); simpa using this
          have e : (a == c) = false := beq_false_of_ne q
          rw [e]
          show i + 1 = List.idxOf c s + 1
          rw [← this]
def fSIndex (x : W) (as : List W) (S : Sto) : Out FW := match x, as with
  | .str s, [.str [c]] => if c ∈ s then .ok (.val (.int (s.idxOf c : Nat))) S else .fail
  | _, _ => .fail
abbrev rSIndex : V → List V → Hp → VK → Prop := fun x xs H Q => ∃ a b i rest, x = .str a ∧ xs = [.str b] ∧ Builtin.Str.occurrences a b 0 a.length 1 = i :: rest ∧ Q (.int (i : Nat)) H
theorem mf_sindex : MtMi K mg fSIndex rSIndex := fun {Xw B0 ρ S H x v as vs Q} r hx ha h => by
  unfold fSIndex at h
  split at h
  · rename_i s c
    obtain ⟨u, rfl, hu⟩ := ha.one_inv
    rw [hx.str_inv, hu.str_inv]
    split at h
    · rename_i hc
      obtain ⟨rest, e⟩ := occ_one s c hc
      exact ⟨_, _, _, rest, rfl, rfl, e, gE_here r h (.int _)⟩
    · exact h.elim
  · exact h.elim
theorem occ_filter (s : Str) (c hi limit : Nat) (hh : hi ≤ s.length) : ∀ (n lo : Nat) (acc : Array Nat) (free : Nat), lo + n = hi + 1 → acc.size + n ≤ limit → free ≤ lo →
    (forIn (List.range' lo n) (acc, free) (StrLaws.occBody s ⟨#[c]⟩ hi limit)).run.fst.size = acc.size + ((s.cps.toList.take hi).drop lo).count c
  | 0, lo, acc, free, e, _, _ => by
    have : ((s.cps.toList.take hi).drop lo) = [] := by
      rw [List.drop_eq_nil_iff, List.length_take]; omega
    rw [this]; simp [List.range']
  | n + 1, lo, acc, free, e, hl, hf => by
    rw [List.range'_succ, List.forIn_cons]
    unfold StrLaws.occBody
    have h1 : (⟨#[c]⟩ : Str).length = 1 := rfl
    have hsub : lo < hi → (Builtin.Str.subAt s ⟨#[c]⟩ lo = true ↔ s.cps.toList[lo]? = some c) := fun hlt => by
      rw [← StrLaws.subAt_one s c lo]
      exact ⟨fun h => ⟨by rw [h1]; omega, h⟩, fun h => h.2⟩
    by_cases hlt : lo < hi
    · have hlen : lo < s.cps.toList.length := by
        have : s.length = s.cps.toList.length := by simp [Str.length]
        omega
      have hd : (s.cps.toList.take hi).drop lo = s.cps.toList[lo] :: (s.cps.toList.take hi).drop (lo + 1) := by
        rw [List.drop_eq_getElem_cons (by rw [List.length_take]; omega)]
        congr 1
        simp
      by_cases hc : s.cps.toList[lo] = c
      · rw [if_pos ⟨⟨⟨by show acc.size < limit; omega, hf⟩, by rw [h1]; omega⟩, (hsub hlt).mpr (by rw [List.getElem?_eq_getElem hlen, hc])⟩]
        have := occ_filter s c hi limit hh n (lo + 1) (acc.push lo) (lo + 1) (by omega) (by simp; omega) (Nat.le_refl _)
        refine Eq.trans this ?_
        rw [hd, hc, List.count_cons_self, Array.size_push]
        omega
      · rw [if_neg fun q => hc (by have := (hsub hlt).mp q.2; rw [List.getElem?_eq_getElem hlen] at this; exact Option.some.inj this)]
        have := occ_filter s c hi limit hh n (lo + 1) acc free (by omega) (by omega) (by omega)
        refine Eq.trans this ?_
        rw [hd, List.count_cons_of_ne hc]
    · have hd : (s.cps.toList.take hi).drop lo = [] := by rw [List.drop_eq_nil_iff, List.length_take]; omega
      have hd2 : (s.cps.toList.take hi).drop (lo + 1) = [] := by rw [List.drop_eq_nil_iff, List.length_take]; omega
      rw [if_neg fun q => by have := q.1.2; rw [h1] at this; omega]
      have := occ_filter s c hi limit hh n (lo + 1) acc free (by omega) (by omega) (by omega)
      refine Eq.trans this ?_
      rw [hd, hd2]
theorem count_one (s : List Nat) (c : Nat) : Txt.count ⟨s.toArray⟩ ⟨#[c]⟩ = (s.count c : Nat) := by
  unfold Txt.count
  rw [StrLaws.occ_eq]
  have hl : (⟨s.toArray⟩ : Str).length = s.length := str_len s
  rw [hl]
  have := occ_filter ⟨s.toArray⟩ c s.length (s.length + 1) (by rw [hl]; exact Nat.le_refl _) (s.length + 1) 0 #[] 0 (by omega) (by simp) (Nat.le_refl _)
  rw [Nat.sub_zero, Array.length_toList, this]
  have e1 : ((⟨s.toArray⟩ : Str).cps.toList.take s.length).drop 0 = s := by
    show ((s.toArray.toList).take s.length).drop 0 = s
    simp
  rw [e1]
  show ((0 + s.count c : Nat) : Int) = _
  rw [Nat.zero_add]
def fSCount (x : W) (as : List W) (S : Sto) : Out FW := match x, as with
  | .str s, [.str [c]] => .ok (.val (.int (s.count c : Nat))) S
  | _, _ => .fail
abbrev rSCount : V → List V → Hp → VK → Prop := fun x xs H Q => ∃ a b, x = .str a ∧ xs = [.str b] ∧ Q (.int (Txt.count a b)) H
theorem mf_scount : MtMi K mg fSCount rSCount := fun {Xw B0 ρ S H x v as vs Q} r hx ha h => by
  unfold fSCount at h
  split at h
  · rename_i s c
    obtain ⟨u, rfl, hu⟩ := ha.one_inv
    rw [hx.str_inv, hu.str_inv]
    exact ⟨_, _, rfl, rfl, by rw [count_one]; exact gE_here r h (.int _)⟩
  · exact h.elim
def strsOf : List W → Option (List (List Nat))
  | [] => some []
  | .str s :: ws => (strsOf ws).map (s :: ·)
  | _ => none
theorem strs_rel : ∀ {ws : List W} {vs : List V} {ss : List (List Nat)}, Rels K ρ B H ws vs → strsOf ws = some ss → vs = (ss.map fun s => (⟨s.toArray⟩ : Str)).map V.str
  | [], vs, bs, h, e => by cases e; rw [h.nil_inv]; rfl
  | .str b :: ws, vs, bs, h, e => by
    obtain ⟨v, us, rfl, h1, h2⟩ := h.cons_inv
    unfold strsOf at e
    cases q : strsOf ws with
    | none => rw [q] at e; cases e
    | some cs => rw [q] at e; cases e; rw [h1.str_inv, strs_rel h2 q]; rfl
  | .non :: _, _, _, _, e => by cases e
  | .int _ :: _, _, _, _, e => by cases e
  | .bl _ :: _, _, _, _, e => by cases e
  | .tup _ :: _, _, _, _, e => by cases e
  | .lst _ :: _, _, _, _, e => by cases e
  | .fro _ :: _, _, _, _, e => by cases e
  | .ref _ :: _, _, _, _, e => by cases e
def joinN (sep : List Nat) : List (List Nat) → List Nat
  | [] => []
  | [x] => x
  | x :: y :: r => x ++ sep ++ joinN sep (y :: r)
theorem join_eq (sep : List Nat) : ∀ ss : List (List Nat), Str.join ⟨sep.toArray⟩ (ss.map fun s => (⟨s.toArray⟩ : Str)) = ⟨(joinN sep ss).toArray⟩
  | [] => rfl
  | [x] => rfl
  | x :: y :: r => by
    show (⟨x.toArray⟩ : Str) ++ ⟨sep.toArray⟩ ++ Str.join ⟨sep.toArray⟩ ((y :: r).map fun s => (⟨s.toArray⟩ : Str)) = _
    rw [join_eq sep (y :: r), str_app, str_app]
    rfl
theorem joinN_nil : ∀ ss : List (List Nat), joinN [] ss = ss.flatten
  | [] => rfl
  | [x] => by simp [joinN]
  | x :: y :: r => by rw [joinN, joinN_nil (y :: r)]; simp
def fJoin (x : W) (as : List W) (S : Sto) : Out FW := match x, as with
  | .str sep, [y] => match seqOf S y with
    | some ws => match strsOf ws with
      | some ss => if (ss.map (·.length)).sum + ss.length * sep.length ≤ LINE then .ok (.val (.str (joinN sep ss))) S else .fail
      | none => .fail
    | none => .fail
  | _, _ => .fail
abbrev rJoin (K : PySem.W.Frag) : V → List V → Hp → VK → Prop := fun x xs H Q => ∃ a p, ∃ ys : List Str, x = .str a ∧ xs = [.ref p] ∧ (SqL K H p (ys.map V.str) ∨ SqT K H p (ys.map V.str)) ∧
    (ys.map (·.length)).sum + ys.length * a.length ≤ 16777216 ∧ Q (.str (Txt.join a ys)) H
theorem mf_join : MtMi K mg fJoin (rJoin K) := fun {Xw B0 ρ S H x v as vs Q} r hx ha h => by
  unfold fJoin at h
  split at h
  · rename_i sep y
    obtain ⟨u, rfl, hu⟩ := ha.one_inv
    rw [hx.str_inv]
    cases e : seqOf S y with
    | none => rw [e] at h; exact h.elim
    | some ws =>
      rw [e] at h
      simp only at h
      cases e2 : strsOf ws with
      | none => rw [e2] at h; exact h.elim
      | some ss =>
        rw [e2] at h
        simp only at h
        split at h
        · rename_i hl
          obtain ⟨p, us, rfl, h1, h2⟩ := r.seq hu e
          have := strs_rel h2 e2
          subst this
          refine ⟨_, p, _, rfl, rfl, h1, ?_, ?_⟩
          · have e3 : ((ss.map fun s => (⟨s.toArray⟩ : Str)).map (·.length)) = ss.map (·.length) := by
              rw [List.map_map]; apply List.map_congr_left; intro s _; exact str_len s
            rw [e3, List.length_map, str_len]
            exact hl
          · unfold Txt.join
            rw [StrLaws.glued_eq_join, join_eq]
            exact gE_here r h (.str _)
        · exact h.elim
  · exact h.elim
end
/-! ### a op b op c -/
def mChain (f g : W → W → Sto → Out FW) (ma mb mc : Env → Sto → Out W) : Env → Sto → Out W := fun env S => (ma env S).bind fun x S1 => (mb env S1).bind fun y S2 => (f x y S2).bind fun z S3 => match z with
  | .val (.bl true) => (mc env S3).bind fun w S4 => (g y w S4).bind fun z S5 => match z with
    | .val z => .ok z S5
    | .new _ => .fail
  | .val (.bl false) => .ok (.bl false) S3
  | _ => .fail
section
variable {X : Cx} {Wx : WX} {a b c : Expr} {pos : Pos}
theorem me_chain {op op' : CmpOp} {f g : W → W → Sto → Out FW} {r r' : R2} {ma mb mc : Env → Sto → Out W} (ho : OpR X (compareOp op) r) (ho' : OpR X (compareOp op') r') (hf : OpM X.K X.mg f r) (hg : OpM X.K X.mg g r') (ha : PE X a (TEm X.K X.mg Wx ma)) (hb : PE X b (TEm X.K X.mg Wx mb)) (hc : PE X c (TEm X.K X.mg Wx mc))
    (hm : lastMarks [op, op'] [b, c] = false := by with_unfolding_all rfl) : PE X (.Compare a [op, op'] [b, c] pos) (TEm X.K X.mg Wx (mChain f g ma mb mc)) :=
  pe_imp (pe_chain ho ho' ha hb hc hm) fun σ H Q ⟨B0, ρ, env, S, r, er, h⟩ => ⟨B0, ρ, env, S, r, er, h.bindE lat_gE fun x S1 ρ1 H1 v e1 r1 q1 h1 =>
    ⟨B0, ρ1, env, S1, r1, er.ext r e1, h1.bindE lat_gE fun y S2 ρ2 H2 u e2 r2 q2 h2 => by
      refine hf r2 (q1.ext r1 e2) q2 (h2.bind fun z S3 h3 => ?_)
      cases z with
      | new ws => exact h3.elim
      | val z =>
        cases z with
        | bl k =>
          intro ρ3 H3 zv e3 r3 q3
          refine ⟨k, q3.bl_inv, ?_⟩
          have h3 := End.later (lat_gE) e3 h3
          cases k with
          | false => rw [if_neg Bool.false_ne_true]; exact gE_here r3 h3 (.bl _)
          | true =>
            rw [if_pos rfl]
            refine ⟨B0, ρ3, env, S3, r3, ((er.ext r e1).ext r1 e2).ext r2 e3, h3.bindE lat_gE fun w S4 ρ4 H4 uw e4 r4 q4 h4 => ?_⟩
            refine hg r4 ((q2.ext r2 e3).ext r3 e4) q4 (h4.bind fun z S5 h5 => ?_)
            cases z with
            | val z => exact h5
            | new ws => exact h5.elim
        | _ => exact h3.elim⟩⟩
end
end L2.Mi

set_option Elab.async false
set_option linter.all false
set_option maxRecDepth 100000
set_option maxHeartbeats 2000000
/-! # The engine, part I: reversed(text), text[::-1] -/
namespace L2.Mi
open PySem PySem.Spec PyProof.Rows RT
theorem norev_str : typeLookup (.type "str") "__reversed__" = pure none := by rw [typeLookup_type, builtinLookup_eq_fast]; kernel_rfl
theorem get_str : typeLookup (.type "str") "__getitem__" = pure (some (.builtin "str.__getitem__")) := by rw [typeLookup_type, builtinLookup_eq_fast]; kernel_rfl
def rsObj (x : Str) (t : Tok) (i : Int) : Obj := { cls := .type "reversed", data := .fields #[.str x t, rawInt i] }
def IsRs (h : Heap) (a : Addr) (x : Str) (t : Tok) (i : Int) : Prop := ∃ o, h.get? a = some o ∧ o.cls = .type "reversed" ∧ o.data = .fields #[.str x t, rawInt i]
theorem IsRs.at {h h' : Heap} {a : Addr} {x : Str} {t : Tok} {i : Int} (y : IsRs h a x t i) (e : ∀ o, h.get? a = some o → h'.get? a = some o) : IsRs h' a x t i := let ⟨o, ho, r⟩ := y; ⟨o, e _ ho, r⟩
section
variable {prog : Program} {w : World} {A : Around} {E : Value → Shared → Prop} {s : Shared}
theorem IsRs.typeIs {a : Addr} {x : Str} {t : Tok} {i : Int} (y : IsRs s.heap a x t i) : s.TypeIs (.ref a) "reversed" := let ⟨o, ho, hc, _⟩ := y; ⟨o, ho, hc⟩
theorem code_reversed_str {x : Str} {t : Tok} {Q₁ : Value → Shared → Prop} 
    (hlen : ∀ (A : Around) (E : Value → Shared → Prop) (Q : Value → Shared → Prop), Q (.int x.length (s.toks + 1)) { s with toks := s.toks + 1 + 1 } → wpAny (model prog w) A (call (.builtin "len") [.str x t]) Q E s)
    (h : Q₁ (.ref s.heap.objs.size) { s with heap := s.heap.push (rsObj x t ((x.length : Int) - 1)), toks := s.toks + 1 + 1 }) :
    codeAny (model prog w) A (.call (.builtin "reversed.__new__") ⟨[.type "reversed", .str x t], []⟩) (wants Q₁ E) s := by
  have hT : s.TypeIs (.str x t) "str" := typeIs_str s x t
  refine codeAny_of_tree ?_
  show wpAny _ A.in1 (do checkBuiltinCall "reversed.__new__" ⟨[.type "reversed", .str x t], []⟩; again (.builtin "reversed.__new__" ⟨[.type "reversed", .str x t], []⟩)) _ _ s
  refine wpAny_bind (wpAny_of_eq (F.newCall_reversed_1 _) (wpAny_pure ⟨plainId_quiet F.plain_reversed_new _, codeAny_builtin F.entry_reversed_new ?_⟩))
  rw [Around.under_plainId F.plain_reversed_new _]
  unfold Builtin.«reversed.__new__»
  refine wpAny_bind (wpAny_of_eq (newClass_reversed _) ?_)
  try dsimp only
  refine wpAny_bind (wpAny_of_eq (a := ()) (by first | rfl | kernel_rfl) ?_)
  try dsimp only
  refine wpAny_bind (wpAny_of_eq (a := ()) (by first | rfl | kernel_rfl) ?_)
  try dsimp only
  refine wpAny_bind (wpAny_specialOf hT norev_str ?_)
  try dsimp only
  refine wpAny_bind ?_
  wp_delta
  refine wpAny_bind (wpAny_isInstance (T := "str") (U := "dict") (b := false) hT (by rw [isSubtype_type]; kernel_rfl) ?_)
  try dsimp only
  try rw [if_neg Bool.false_ne_true]
  try dsimp only
  refine wpAny_bind (wpAny_specialOf hT get_str ?_)
  try dsimp only
  try rw [if_pos (by decide +kernel)]
  refine wpAny_pure ?_
  try dsimp only
  try rw [if_neg (by decide)]
  try dsimp only
  refine wpAny_bind (hlen _ _ _ ?_)
  refine wpAny_bind (wpAny_of_eq (a := some ((x.length : Nat) : Int)) rfl ?_)
  try dsimp only
  refine wpAny_bind ?_
  show wpAny _ _ (newObj (.type "reversed") (.fields #[.str x t, rawInt ((x.length : Int) - 1)])) _ _ _
  refine wpAny_newObj_type ?_
  exact wpAny_pure h

theorem call_reversed_str {x : Str} {t : Tok} {Q : Value → Shared → Prop} 
    (hlen : ∀ (A : Around) (E : Value → Shared → Prop) (Q : Value → Shared → Prop), Q (.int x.length (s.toks + 1)) { s with toks := s.toks + 1 + 1 } → wpAny (model prog w) A (call (.builtin "len") [.str x t]) Q E s)
    (h : Q (.ref s.heap.objs.size) { s with heap := s.heap.push (rsObj x t ((x.length : Int) - 1)), toks := s.toks + 1 + 1 }) : wpAny (model prog w) A (call (.type "reversed") [.str x t]) Q E s := by
  refine callType_codes (Q₁ := fun obj s₁ => s₁.TypeIs obj "reversed" ∧ Q obj s₁) called_rt (F.typeCall_reversed_1 _) F.entry_object_init
    (code_reversed_str (A := A.in1) hlen ⟨⟨_, Heap.get?_push_size _ rfl, rfl⟩, h⟩) fun obj s₁ h₁ => ?_
  exact ⟨h₁.1, F.args_object_init_2 obj _, object_init_meets called_rt.init.lookup called_rt.made (by decide) prog w A.in1 _ s₁ ⟨h₁.1, rfl, h₁.2⟩⟩

theorem next_rs_item {it : Addr} {x : Str} {t : Tok} {i c : Nat} {Q : Option Value → Shared → Prop} (hit : IsRs s.heap it x t (i : Int)) (hx : x.cps[i]? = some c) (hsz : x.length ≤ sizeLine)
    (hQ : ∀ h' tk u, IsRs h' it x t ((i : Int) - 1) → Heap.SameBut it s.heap h' → Q (some (.str ⟨#[c]⟩ u)) { s with heap := h', toks := tk }) : wpAny (model prog w) A (pyNext (.ref it)) Q E s := by
  obtain ⟨o, ho, hc, hd⟩ := id hit
  have hi : i < x.length := (Array.getElem?_eq_some_iff.mp hx).1
  have hT : s.TypeIs (.str x t) "str" := typeIs_str s x t
  rw [sizeLine_eq] at hsz
  unfold pyNext
  refine wpAny_bind (wpAny_attempt (wpAny_callSpecial?_slot (name := Str.ofString "__next__") hit.typeIs slot_rt_next
    (wpAny_call_entry slot_rt_next hit.typeIs entry_rt_next ?_ (args_rt_next _))))
  unfold Builtin.«reversed.__next__»
  refine wpAny_bind (wpAny_of_eq (a := (Value.ref it, [])) rfl ?_)
  try dsimp only
  refine wpAny_bind (wpAny_field ho hd (x := .str x t) rfl ?_)
  try dsimp only
  refine wpAny_bind (wpAny_field ho hd (x := rawInt (i : Int)) rfl ?_)
  show wpAny _ _ (if (i : Int) < 0 then _ else _) _ _ s
  rw [if_neg (by omega)]
  try dsimp only
  refine wpAny_bind (wpAny_specialOf hT get_str ?_)
  try dsimp only
  try rw [if_neg (by decide)]
  try dsimp only
  refine wpAny_bind (wpAny_mkInt ?_)
  refine wpAny_bind (wpAny_attempt ?_)
  have fin : (seqIndex? (i : Int) x.length).bind (x.cps[·]?) = some c := by
    have : seqIndex? (i : Int) x.length = some i := seqIndex_of (by omega) (by omega)
    rw [this]
    exact hx
  refine PyProof.Rows.getItem_str (s := { s with toks := s.toks + 1 }) (by
    rw [Bool.or_eq_false_iff, decide_eq_false_iff_not, decide_eq_false_iff_not]
    constructor <;> omega) fin ?_
  try dsimp only
  refine wpAny_bind (wpAny_field (s := { s with toks := s.toks + 1 + 1 }) ho hd (x := rawInt (i : Int)) rfl ?_)
  try dsimp only
  refine wpAny_bind (wpAny_setField (s := { s with toks := s.toks + 1 + 1 }) ho hd (by simp) ?_)
  first
  | refine wpAny_pure ⟨_, rfl, wpAny_pure (hQ _ _ _ ?_ (Heap.SameBut.update ..))⟩
  | refine wpAny_bind (wpAny_pure (wpAny_pure ⟨_, rfl, wpAny_pure (hQ _ _ _ ?_ (Heap.SameBut.update ..))⟩))
  exact ⟨_, Heap.get?_update_self _ ho (Obj.isFreed_of_fields (Obj.data_mapFields hd _)), (Obj.cls_mapFields ..).trans hc, by
    rw [Obj.data_mapFields hd]; simp⟩

theorem next_rs_end {it : Addr} {x : Str} {t : Tok} {Q : Option Value → Shared → Prop} (hh : A.handled = none) (hit : IsRs s.heap it x t (-1))
    (hQ : ∀ h', Heap.ExtBut it s.heap h' → Q none { s with heap := h' }) : wpAny (model prog w) A (pyNext (.ref it)) Q E s := by
  obtain ⟨o, ho, hc, hd⟩ := id hit
  unfold pyNext
  refine wpAny_bind (wpAny_attempt (wpAny_callSpecial?_slot (name := Str.ofString "__next__") hit.typeIs slot_rt_next
    (wpAny_call_entry slot_rt_next hit.typeIs entry_rt_next ?_ (args_rt_next _))))
  unfold Builtin.«reversed.__next__»
  refine wpAny_bind (wpAny_of_eq (a := (Value.ref it, [])) rfl ?_)
  try dsimp only
  refine wpAny_bind (wpAny_field ho hd (x := .str x t) rfl ?_)
  try dsimp only
  refine wpAny_bind (wpAny_field ho hd (x := rawInt (-1)) rfl ?_)
  show wpAny _ _ (if (-1 : Int) < 0 then _ else _) _ _ s
  rw [if_pos (by decide)]
  try dsimp only
  refine wpAny_bind (wpAny_rule ?_)
  refine wpAny_bind ?_
  wp_delta
  refine wpAny_bind (wpAny_setField ho hd (by simp) ?_)
  have ho2 := Heap.get?_update_self (Obj.mapFields (·.setIfInBounds 1 (rawInt (-1)))) ho (Obj.isFreed_of_fields (Obj.data_mapFields hd _))
  refine wpAny_setField (s := { s with heap := s.heap.update it (Obj.mapFields (·.setIfInBounds 1 (rawInt (-1)))) }) ho2 (Obj.data_mapFields hd _) (by simp) ?_
  try dsimp only
  first
  | show wpAny _ _ (newExc (.type "StopIteration") [] >>= _) _ _ _
  | (refine wpAny_bind ?_; show wpAny _ _ (newExc (.type "StopIteration") [] >>= _) _ _ _)
  | (refine wpAny_bind ?_; wp_delta; show wpAny _ _ (newExc (.type "StopIteration") [] >>= _) _ _ _)
  refine wpAny_bind ?_
  simp only [newExc, newTuple]
  refine wpAny_bind (wpAny_newObj_type ?_ (by size_fits))
  refine wpAny_bind (m := firstArgMember _ _) (wpAny_of_eq (a := Value.none) (by first | rfl | (simp only [firstArgMember]; rfl)) ?_)
  refine wpAny_newObj_type ?_ (by size_fits)
  simp only [raiseNew]
  refine wpAny_bind (wpAny_handled ?_)
  first | rw [show A.in1.handled = none from hh] | rw [hh]
  refine wpAny_bind (wpAny_pure (wpAny_throw ?_))
  refine wpAny_bind (wpAny_isInstance (T := "StopIteration") (b := true) ⟨_, Heap.get?_push_size _ rfl, rfl⟩ isSubtype_stop ?_)
  refine wpAny_pure (hQ _ ?_)
  refine ((?_ : Heap.ExtBut it s.heap _).push _).push _
  exact fun b ob hb e => (Heap.get?_update_other _ _ (Ne.symm hb)).trans ((Heap.get?_update_other _ _ (Ne.symm hb)).trans e)

theorem iter_rs {it : Addr} {x : Str} {t : Tok} {i : Int} {Q : Value → Shared → Prop} (hit : IsRs s.heap it x t i) (h : Q (.ref it) s) : wpAny (model prog w) A (pyIter (.ref it)) Q E s := by
  refine wpAny_pyIter_slot hit.typeIs slot_rt_iter (wpAny_call_entry slot_rt_iter hit.typeIs entry_rt_iter ?_ (args_rt_iter _))
  show wpAny _ _ (ret (.ref it)) _ _ s
  exact wpAny_pure ⟨_, rfl, "reversed", _, hit.typeIs, slot_rt_next.lookup, h⟩
end
def ItvS (x : Str) : It :=
  ⟨fun i H => i < x.length, fun i H v H' => H' = H ∧ ∃ c, x.cps[x.length - 1 - i]? = some c ∧ v = .str ⟨#[c]⟩, fun i _ => x.length ≤ i⟩
theorem turn_rs {P : Program} {w : World} {K : PySem.W.Frag} {tg : Expr} (it : Addr) (x : Str) (t : Tok) (hz : x.length ≤ sizeLine) : Turn P w K tg (ItvS x) [it] it (fun i h => i ≤ x.length ∧ IsRs h it x t ((x.length : Int) - 1 - (i : Nat))) where
  mem := by simp
  obj := fun i h st b hb => by
    have e : b = it := by simpa using hb
    subst e
    obtain ⟨_, o, e, c, d⟩ := st
    exact ⟨o, e, fun v z => by rw [d] at z; cases z⟩
  keep := fun i h h' st k => ⟨st.1, st.2.at fun o e => k it (by simp) o e⟩
  item := by
    intro X hP hw hK hc i pins s σ H E I hf st hg
    subst hP hw hK
    have hin : i < x.length := hg
    have hj : x.length - 1 - i < x.cps.size := by show _ < x.length; omega
    have hx : x.cps[x.length - 1 - i]? = some x.cps[x.length - 1 - i] := Array.getElem?_eq_getElem hj
    obtain ⟨f0, f1, f2, f3, f4, f5⟩ := hf it (by simp)
    obtain ⟨_, hit⟩ := st
    have e1 : (x.length : Int) - 1 - ((i : Nat) : Int) = ((x.length - 1 - i : Nat) : Int) := by omega
    rw [e1] at hit
    refine next_rs_item hit hx hz fun h' tk u st' sb => ?_
    have e2 : ((x.length - 1 - i : Nat) : Int) - 1 = (x.length : Int) - 1 - ((i + 1 : Nat) : Int) := by omega
    rw [e2] at st'
    have I1 : Inv X pins σ H { s with heap := h', toks := tk } := I.turned (t' := tk) (fun b o hb e => (sb.2 b hb).trans e) f0 f1 f3 f4 f5
    obtain ⟨o, e, c, d⟩ := id st'
    exact ⟨_, rfl, go_of (s := { s with heap := h', toks := tk }) e c d (by decide) ⟨.str ⟨#[_]⟩, H, I1, ⟨u, rfl⟩, ⟨rfl, _, hx, rfl⟩, ⟨hin, st'⟩, fun b hb => (hf b hb).1⟩⟩
  done := by
    intro X hP hw hK hc i pins s σ H E I hf st hg
    subst hP hw hK
    obtain ⟨f0, f1, f2, f3, f4, f5⟩ := hf it (by simp)
    obtain ⟨hin, hit⟩ := st
    have hge : x.length ≤ i := hg
    have e1 : (x.length : Int) - 1 - ((i : Nat) : Int) = -1 := by omega
    rw [e1] at hit
    exact next_rs_end (I.ok.hd hc) hit fun h' eb => ⟨rfl, I.turned (t' := s.toks) (fun b o hb e => eb b o hb e) f0 f1 f3 f4 f5⟩
  self := fun A i s Q E st h => iter_rs st.2 h
/-- reversed(x), x a text, a list or a tuple -/
def iRevS (K : PySem.W.Frag) (te : TE) : TI := fun σ H R => te σ H fun v H1 => (∃ (a : Addr) (xs : List V), v = .ref a ∧ ((SqL K H1 a xs ∧ R (Itv K a xs.length) H1) ∨ (SqT K H1 a xs ∧ R (ItvT K a xs.length) H1))) ∨ ∃ x, v = .str x ∧ x.length ≤ sizeLine ∧ R (ItvS x) H1
section
variable {X : Cx} {tg : Expr}
theorem pi_revS {e : Expr} {te : TE} {p pos : Pos} (hg : Gl X "reversed") (hm : X.mg "reversed" = none) (he : PE X e te) (hs : starEach [e] X.env = (false, eval e X.env) :: starEach [] X.env := by rfl) : PI X tg (.Call (.Name "reversed" p) [e] [] pos) (iRevS X.K te) := by
  refine ⟨fun pins s σ H R I h => ?_⟩
  refine Call_ (ld_blt I hg hm PyProof.Rows.boot_reversed (PyProof.Rows.callWith_type1 (args_cons (thn (he.run pins s σ H _ I h) fun u s1 ⟨v, H1, I1, r1, q1⟩ => args_nil ?_) hs) hs rfl))
  rcases q1 with ⟨a, xs, ev, q⟩ | ⟨x, ev, hz, q⟩
  · subst ev
    obtain rfl : u = Value.ref a := r1
    rcases q with ⟨hq, q⟩ | ⟨hq, q⟩
    · obtain ⟨its, rv, p', hz⟩ := I1.list hq
      have hl := rv.length
      have e1 : ((its.toArray.size : Nat) : Int) - 1 = (xs.length : Int) - 1 - ((0 : Nat) : Int) := by simp only [List.size_toArray]; omega
      refine call_reversed_list p'.isList (wpAny_pyIter_revIter (l := a) (i := ((its.toArray.size : Nat) : Int) - 1) ⟨_, Heap.get?_push_size _ rfl, rfl, rfl⟩ ?_)
      refine pi_one (tk := s1.toks) I1 _ (turn_rev a _ xs.length) ⟨Nat.zero_le _, ?_⟩ q
      rw [← e1]
      exact ⟨_, Heap.get?_push_size _ rfl, rfl, rfl⟩
    · obtain ⟨its, rv, p', hz⟩ := I1.tuple hq
      have hl := rv.length
      have hn := line63
      have e1 : ((its.toArray.size : Nat) : Int) - 1 = (xs.length : Int) - 1 - ((0 : Nat) : Int) := by simp only [List.size_toArray]; omega
      refine call_reversed_tup p' (fun A E Q k => len_tuple p' (by simp only [List.size_toArray] <;> omega) k) (iter_rt (t := a) (i := ((its.toArray.size : Nat) : Int) - 1) ⟨_, Heap.get?_push_size _ rfl, rfl, rfl⟩ ?_)
      refine pi_one (tk := s1.toks + 1 + 1) I1 _ (turn_rt a _ xs.length) ⟨Nat.zero_le _, ?_⟩ q
      rw [← e1]
      exact ⟨_, Heap.get?_push_size _ rfl, rfl, rfl⟩
  · subst ev
    obtain ⟨t, rfl⟩ := r1
    have hn := line63
    refine call_reversed_str (fun A E Q k => len_str (by omega) k) (iter_rs (x := x) (t := t) (i := (x.length : Int) - 1) ⟨_, Heap.get?_push_size _ rfl, rfl, rfl⟩ ?_)
    refine pi_one (tk := s1.toks + 1 + 1) I1 _ (turn_rs _ x t hz) ⟨Nat.zero_le _, ?_⟩ q
    have e1 : (x.length : Int) - 1 - ((0 : Nat) : Int) = (x.length : Int) - 1 := by omega
    rw [e1]
    exact ⟨_, Heap.get?_push_size _ rfl, rfl, rfl⟩
end

/-! ### reversed(x) -/
section
variable {K : PySem.W.Frag} {mg : Str → Option Value} {ρ : List Addr} {S : Sto} {B0 B : Ban} {H : Hp} {x : W} {v : V} {ws : List W} {vs : List V}
theorem rev_at {α : Type} {l : List α} {i : Nat} (h : i < l.length) : l.reverse[i]? = l[l.length - 1 - i]? := List.getElem?_reverse h
theorem itok_rev {a : Addr} (r : SR K mg ρ S B0 H) (h : Rd H a (.lst vs)) (nl : ¬ Lv ρ S a) (hr : Rels K ρ (Bn B0 ρ S) H ws vs) : ItOk K mg (Itv K a vs.length) B0 ρ S H ws.reverse := fun B1 ρ2 S2 H2 hb e r2 => by
  have hs : SqL K H2 a vs := .inl (rd_keep e h nl)
  refine ⟨fun i w hw => ?_, by show vs.length ≤ _; rw [List.length_reverse, hr.1]; exact Nat.le_refl _⟩
  have hi : i < ws.length := by have := (List.getElem?_eq_some_iff.mp hw).1; simpa using this
  rw [rev_at hi] at hw
  obtain ⟨v, hv, rv⟩ := hr.get hw
  rw [hr.1] at hv
  refine ⟨⟨by rw [← hr.1]; exact hi, vs, v, hs, hv⟩, fun x H3 y => ?_⟩
  obtain ⟨rfl, y⟩ := y
  have e2 := y vs hs
  rw [hv] at e2; cases e2
  exact ⟨.refl, r2, rv.ext2 r e hb⟩
theorem itok_revT {a : Addr} (r : SR K mg ρ S B0 H) (h : SqT K H a vs) (hr : Rels K ρ (Bn B0 ρ S) H ws vs) : ItOk K mg (ItvT K a vs.length) B0 ρ S H ws.reverse := fun B1 ρ2 S2 H2 hb e r2 => by
  have hs : SqT K H2 a vs := h.elim (fun h => .inl (r.tup_stays e h)) .inr
  refine ⟨fun i w hw => ?_, by show vs.length ≤ _; rw [List.length_reverse, hr.1]; exact Nat.le_refl _⟩
  have hi : i < ws.length := by have := (List.getElem?_eq_some_iff.mp hw).1; simpa using this
  rw [rev_at hi] at hw
  obtain ⟨v, hv, rv⟩ := hr.get hw
  rw [hr.1] at hv
  refine ⟨⟨by rw [← hr.1]; exact hi, vs, v, hs, hv⟩, fun x H3 y => ?_⟩
  obtain ⟨rfl, y⟩ := y
  have e2 := y vs hs
  rw [hv] at e2; cases e2
  exact ⟨.refl, r2, rv.ext2 r e hb⟩
theorem itok_revS {s : List Nat} : ItOk K mg (ItvS ⟨s.toArray⟩) B0 ρ S H (s.map fun c => W.str [c]).reverse := fun B1 ρ2 S2 H2 hb e r2 => by
  refine ⟨fun i w hw => ?_, by show (⟨s.toArray⟩ : Str).length ≤ _; rw [str_len]; simp⟩
  have hi : i < s.length := by have := (List.getElem?_eq_some_iff.mp hw).1; simpa using this
  rw [rev_at (by simpa using hi), List.getElem?_map, Option.map_eq_some_iff] at hw
  obtain ⟨c, hc, rfl⟩ := hw
  rw [List.length_map] at hc
  refine ⟨by show i < (⟨s.toArray⟩ : Str).length; rw [str_len]; exact hi, fun x H3 y => ?_⟩
  obtain ⟨rfl, c', h1, rfl⟩ := y
  have h2 : s.toArray[(⟨s.toArray⟩ : Str).length - 1 - i]? = some c' := h1
  rw [str_len] at h2
  have h3 : s[s.length - 1 - i]? = some c' := by simpa using h2
  rw [hc] at h3; cases h3
  exact ⟨.refl, r2, .str [c]⟩
end
section
variable {X : Cx} {Wx : WX} {tg e : Expr} {m : Env → Sto → Out W}
/-- what reversed(x) gives; a live list is not covered -/
def revIt (x : W) (S : Sto) : Out (List W × Option Nat) := match x with
  | .str s => if s.length ≤ LINE then .ok ((s.map fun c => W.str [c]).reverse, none) S else .fail
  | .tup xs => .ok (xs.reverse, none) S
  | .lst xs => .ok (xs.reverse, none) S
  | .ref n => match S[n]? with
    | some (.ro xs) => .ok (xs.reverse, none) S
    | _ => .fail
  | _ => .fail
def iRevM (m : Env → Sto → Out W) : Env → Sto → Out (List W × Option Nat) := fun env S => (m env S).bind fun x S1 => revIt x S1
theorem mi_rev {p pos : Pos} (hg : Gl X "reversed") (hm : X.mg "reversed" = none) (he : PE X e (TEm X.K X.mg Wx m)) (hs : starEach [e] X.env = (false, eval e X.env) :: starEach [] X.env := by rfl) : PI X tg (.Call (.Name "reversed" p) [e] [] pos) (TIm X.K X.mg Wx (iRevM m)) :=
  pi_imp (pi_revS hg hm he hs) fun σ H R ⟨B0, ρ, env, S, r, er, h⟩ => ⟨B0, ρ, env, S, r, er, h.bindE lat_gI fun x S1 ρ1 H1 v e1 r1 q1 h1 => by
    cases x with
    | str s =>
      rw [q1.str_inv]
      have h2 : End X.K X.mg (fun c H' => Wx c none σ H') (gI X.K X.mg R) B0 ρ1 S1 H1 (if s.length ≤ LINE then .ok ((s.map fun c => W.str [c]).reverse, none) S1 else .fail) := h1
      split at h2
      · rename_i hl
        exact .inr ⟨_, rfl, by rw [line_eq, str_len]; exact hl, h2 ρ1 H1 _ .refl r1 trivial itok_revS⟩
      · exact h2.elim
    | tup xs =>
      obtain ⟨a, vs, rfl, k1, k2⟩ := q1.tup_inv
      exact .inl ⟨a, vs, rfl, .inr ⟨k1, h1 ρ1 H1 _ .refl r1 trivial (itok_revT r1 k1 k2)⟩⟩
    | lst xs =>
      cases q1 with
      | lst k1 k2 k3 k4 => exact .inl ⟨_, _, rfl, .inl ⟨.of k1, h1 ρ1 H1 _ .refl r1 trivial (itok_rev r1 (.inl k1) (fun l => k2 (.inr l)) ⟨k3, k4⟩)⟩⟩
    | ref n =>
      have h2 : End X.K X.mg (fun c H' => Wx c none σ H') (gI X.K X.mg R) B0 ρ1 S1 H1 (match S1[n]? with
        | some (.ro xs) => .ok (xs.reverse, none) S1
        | _ => .fail) := h1
      split at h2
      · rename_i xs q
        cases q1 with
        | @ref _ a k1 =>
          obtain ⟨vs, k2, k3⟩ := r1.obj _ _ _ q k1
          have nl : ¬ Lv ρ1 S1 a := fun l => by
            obtain ⟨m, o1, l1, l2, l3⟩ := l
            have := nd_at r1.nd l3 k1
            subst this
            rw [q] at l1; cases l1; cases l2
          exact .inl ⟨a, vs, rfl, .inl ⟨.inl k2, h2 ρ1 H1 _ .refl r1 trivial (itok_rev r1 k2 nl k3)⟩⟩
      · exact h2.elim
    | _ => exact h1.elim⟩
/-! ### x[::-1] -/
theorem sidx_rev (n : Nat) : Builtin.Str.strSliceIndices none none (-1) n = (List.range n).reverse := by
  show sliceRange ((n : Int) - 1) (-1) (-1) = _
  rw [PySem.W.krv_sliceRange, PySem.W.krv_range]
/-- a text or a list, the other way round -/
def tRevX (K : PySem.W.Frag) (te : TE) : TE := fun σ H Q => te σ H fun x H1 => (∃ a xs, x = .ref a ∧ SqL K H1 a xs ∧ ∀ p, H1 p = none → Q (.ref p) (upd H1 p (.lst xs.reverse))) ∨ ∃ z : Str, x = .str z ∧ z.length ≤ sizeLine ∧ Q (.str ⟨z.cps.toList.reverse.toArray⟩) H1
theorem pe_revX {e : Expr} {te : TE} {k : Nat} {p1 p2 p3 pos : Pos} (he : PE X e te) : PE X (.Subscript e (.Slice none none (some (.UnaryOp .USub (.Constant (.int 1) k p1) p2)) p3) pos) (tRevX X.K te) := by
  refine ⟨fun pins s σ H Q I h => ?_⟩
  refine Subscript_ (thn (he.run pins s σ H _ I h) fun v s1 ⟨x, H1, I1, r1, q1⟩ => ?_)
  have hst : PO X (some (.UnaryOp .USub (.Constant (.int 1) k p1) p2)) (tPart (tUn (rU fun i => .int (-i)) (tC (.int 1)))) := po_some (pe_un un_neg pe_int)
  refine wpAny_Slice (thn (po_none.run pins s1 σ H1 (fun o H2 => o = none ∧ H2 = H1) I1 ⟨rfl, rfl⟩) fun vl s2 ⟨l, H2, I2, pl, el, e2⟩ => ?_)
  subst el e2
  refine thn (po_none.run pins s2 σ H2 (fun o H3 => o = none ∧ H3 = H2) I2 ⟨rfl, rfl⟩) fun vu s3 ⟨u, H3, I3, pu, eu, e3⟩ => ?_
  subst eu e3
  refine thn (hst.run pins s3 σ H3 (fun o H4 => o = some (-1) ∧ H4 = H3) I3 ⟨1, rfl, -1, rfl, rfl, rfl⟩) fun vs s4 ⟨o, H4, I4, ps, eo, e4⟩ => ?_
  subst eo e4
  have I5 : Inv X pins σ H4 { s4 with heap := s4.heap.push { cls := .type "slice", data := .fields #[vl, vu, vs] } } := I4.kept (t' := s4.toks) fun b ob q => Heap.get?_push_of_some _ q
  rcases q1 with ⟨a, xs, ex, hx, q⟩ | ⟨z, ex, hz, q⟩
  · subst ex
    cases r1
    obtain ⟨its, r, ht, hz⟩ := I5.list hx
    have hlen := r.length
    show wpAny (model X.prog X.w) X.A (subscriptTail e (.Slice none none (some (.UnaryOp .USub (.Constant (.int 1) k p1) p2)) p3) (.ref a) (.ref s4.heap.objs.size)) (EP X pins σ Q) X.xe { s4 with heap := s4.heap.push { cls := .type "slice", data := .fields #[vl, vu, vs] } }
    refine tail_any (ops := [.ref a, .ref s4.heap.objs.size]) ht.isList.typeIs (PySem.slot_list_getitem.lookup) ?_ (by with_unfolding_all rfl)
    refine wpAny_getItem_list_slice ht.isList (Heap.IsSliceOf.new _ vl vu vs) pl pu ps (by decide) ?_ (by rw [List.size_toArray]; omega)
    rw [PySem.W.krv_pick]
    refine ⟨.ref _, _, I5.laid (t' := s4.toks) (o := .lst xs.reverse) (fun b ob q => Heap.get?_push_of_some _ q) (Nat.le_refl _) ?_, rfl, q _ (I5.hok.fresh (Nat.le_refl _))⟩
    exact ⟨by rw [List.length_reverse]; exact hz, _, 0, r.reverse, Heap.get?_push_size _ rfl⟩
  · subst ex
    obtain ⟨t, rfl⟩ := r1
    obtain ⟨l, rfl, hl'⟩ := IsPart.raw pl
    obtain ⟨u, rfl, hu'⟩ := IsPart.raw pu
    obtain ⟨st, rfl, hst'⟩ := IsPart.raw ps
    show wpAny (model X.prog X.w) X.A (subscriptTail e (.Slice none none (some (.UnaryOp .USub (.Constant (.int 1) k p1) p2)) p3) (.str z t) (.ref s4.heap.objs.size)) (EP X pins σ Q) X.xe { s4 with heap := s4.heap.push { cls := .type "slice", data := .fields #[partValue l, partValue u, partValue st] } }
    refine tail_any (ops := [.str z t, .ref s4.heap.objs.size]) (typeIs_str _ _ _) F.slot_str_getitem.lookup ?_ (by with_unfolding_all rfl)
    have h0 : ((st.map (·.1)).getD 1 == 0) = false := by rw [hst']; rfl
    refine wpAny_getItem_str_slice (l := l) (u := u) (st := st) ⟨_, Heap.get?_push_size _ rfl, rfl, rfl⟩ h0 ?_
    have e1 : sliceMade z t l u st = .str ⟨((slicePicked z l u st).filterMap (z.cps[·]?)).toArray⟩ := by
      unfold sliceMade
      rw [if_neg]
      rw [hst']
      intro q
      simp at q
    have e2 : ((slicePicked z l u st).filterMap (z.cps[·]?)) = z.cps.toList.reverse := by
      unfold slicePicked
      rw [hst', hl', hu']
      show ((Builtin.Str.strSliceIndices none none (-1) z.length).filterMap (z.cps[·]?)) = _
      rw [sidx_rev, List.filterMap_reverse]
      have := PySem.W.krv_all z.cps
      rw [← this]
      rfl
    rw [e1, e2]
    exact ⟨by show z.cps.toList.reverse.toArray.size ≤ _; rw [List.size_toArray, List.length_reverse, Array.length_toList]; exact hz, .str _, H4, I5.tok _, ⟨_, rfl⟩, q⟩
def fRevX (x : W) (S : Sto) : Out FW := match x with
  | .str s => if s.length ≤ LINE then .ok (.val (.str s.reverse)) S else .fail
  | x => match lstOf S x with
    | some ws => .ok (.new ws.reverse) S
    | none => .fail
theorem Rels.reverse {K : PySem.W.Frag} {ρ : List Addr} {B : Ban} {H : Hp} : ∀ {ws : List W} {vs : List V}, Rels K ρ B H ws vs → Rels K ρ B H ws.reverse vs.reverse
  | [], vs, h => by rw [h.nil_inv]; exact .nil
  | w :: ws, vs, h => by
    obtain ⟨v, us, rfl, h1, h2⟩ := h.cons_inv
    rw [List.reverse_cons, List.reverse_cons]
    exact h2.reverse.snoc h1
theorem me_revX {k : Nat} {p1 p2 p3 pos : Pos} (he : PE X e (TEm X.K X.mg Wx m)) : PE X (.Subscript e (.Slice none none (some (.UnaryOp .USub (.Constant (.int 1) k p1) p2)) p3) pos) (TFm X.K X.mg Wx (m1 fRevX m)) :=
  pe_imp (pe_revX he) fun σ H Q ⟨B0, ρ, env, S, r, er, h⟩ => ⟨B0, ρ, env, S, r, er, h.bindE lat_gF fun x S1 ρ1 H1 v e1 r1 q1 h1 => by
    unfold fRevX at h1
    split at h1
    · rename_i s
      rw [q1.str_inv]
      split at h1
      · rename_i hl
        exact .inr ⟨_, rfl, by rw [line_eq, str_len]; exact hl, gE_here r1 h1 (.str _)⟩
      · exact h1.elim
    · cases e2 : lstOf S1 x with
      | none => rw [e2] at h1; exact h1.elim
      | some ws =>
        rw [e2] at h1
        obtain ⟨a, vs, rfl, k1, k2⟩ := r1.lst q1 e2
        exact .inl ⟨a, vs, rfl, k1, fun p hp => gN_made r1 h1 hp k2.reverse⟩⟩
end
end L2.Mi

set_option Elab.async false
set_option linter.all false
set_option maxRecDepth 100000
set_option maxHeartbeats 2000000
/-! # The engine, part J: what the top has written, chains as tests, the end -/
namespace L2.Mi
open PySem PySem.Spec PyProof.Rows
section
variable {P : Program} {w : World} {K : PySem.W.Frag} {mg : Str → Option Value} {base : Heap}
/-- a def of the top -/
structure FF (K : PySem.W.Frag) (mg : Str → Option Value) (x : Str) (st : Stmt) : Prop where
  ex : ∃ (f : Addr) (oc : Value) (od an : Option Addr) (osl : Array (Option Value)) (kV doc pm cdv ct : Value),
    K.lookup f = some ⟨oc, od, .func (PySem.W.fnOf x x (defArgs st) (defBody st) (defScope st) .none kV doc pm an cdv ct), osl⟩ ∧ PySem.W.codeIn K cdv x = true ∧ PySem.W.keepIn K (.ref f) = true ∧ mg x = some (.ref f)
theorem ff_mk {h : Heap} {x : Str} {st : Stmt} {f : Addr} {oc : Value} {od an : Option Addr} {osl : Array (Option Value)} {kV doc pm cdv ct : Value} (X : K.In h) (G : h.Ns mainGlobals mg) (a : PySem.W.nsIn K mainGlobals x = some (some (.ref f)))
    (l : K.lookup f = some ⟨oc, od, .func (PySem.W.fnOf x x (defArgs st) (defBody st) (defScope st) .none kV doc pm an cdv ct), osl⟩) (c : PySem.W.codeIn K cdv x = true) (kp : PySem.W.keepIn K (.ref f) = true) : FF K mg x st :=
  ⟨f, oc, od, an, osl, kV, doc, pm, cdv, ct, l, c, kp, PySem.W.mg_of X G a⟩
theorem FF.fnm {x : Str} {st : Stmt} {N ps : List Str} {k : Nat} {body : Env → Sto → OutS} (F : FF K mg x st) (S : FnScope N ps (defScope st))
    (hbody : ∀ (f : Addr) (cdv : Value) (A : Around) (outer : List PySem.Env) (s : Shared) (H : Hp) (E : XK), Room k (A.deeper (envOfC x (defScope st) s.heap.objs.size f cdv)) →
      PSs (cxOf (L2.CX P w) P w K mg base N x (defScope st) f cdv A outer s H E) (defBody st) (TSm K mg (Wb E) body)) : FnM P w K mg base x st ps (k + 1) (mfun ps.length N.length body) := by
  obtain ⟨f, oc, od, an, osl, kV, doc, pm, cdv, ct, l, c, kp, hm⟩ := F
  exact fnm_of l c kp hm S (hbody f)
/-- an own exception class of the top, under ValueError -/
structure EF (K : PySem.W.Frag) (mg : Str → Option Value) (x : Str) : Prop where
  ex : ∃ C : Addr, mg x = some (.ref C) ∧ PySem.W.excIn K C [.type "ValueError", .type "Exception", .type "BaseException", .type "object"] "ValueError.__new__" = true ∧ PySem.W.keepIn K (.ref C) = true ∧
    PySem.W.subIn K (.ref C) (.type "BaseException") = some true ∧ PySem.W.typeIn K (.ref C) = some (.type "type")
/-- an error of class x, in front of a clause that names y -/
structure XF (K : PySem.W.Frag) (mg : Str → Option Value) (x y : Str) (b : Bool) : Prop where
  ex : ∃ C D : Addr, mg x = some (.ref C) ∧ mg y = some (.ref D) ∧ PySem.W.exmOne K (.ref C) (.ref D) = some b
theorem EF.at (h : EF K mg x) : ∃ C : Addr, mg x = some (.ref C) := let ⟨C, h, _⟩ := h.ex; ⟨C, h⟩
end
section
variable {X : Cx} {Wx : WX}
theorem ms_raiseE {c m : Str} {j : Nat} {p p2 pos pos2 : Pos} (hc : X.calm = true) (tk : Takes X Wx) (F : EF X.K X.mg c) (hg : Gl X c) (hdb : (c == ("__debug__" : Str)) = false := by decide) :
    PS X (.Raise (some (.Call (.Name c p) [.Constant (.str m) j p2] [] pos)) none pos2) (TSm X.K X.mg Wx (sRaise c)) := by
  obtain ⟨C, h1, h2, h3, h4, h5⟩ := F
  exact ms_raise hc tk h1 (pmk_own PySem.F.excBase_ValueError h2 h1 h3 (raises_own h4 h5) hg hdb)
/-- which of the errors of l the clause of y takes -/
def XFs (K : PySem.W.Frag) (mg : Str → Option Value) (y : Str) (l : List (Str × Bool)) : Prop := ∀ p ∈ l, XF K mg p.1 y p.2
theorem XFs.nil {K : PySem.W.Frag} {mg : Str → Option Value} {y : Str} : XFs K mg y [] := fun _ h => nomatch h
theorem XFs.cons {K : PySem.W.Frag} {mg : Str → Option Value} {x y : Str} {b : Bool} {l : List (Str × Bool)} (h : XF K mg x y b) (t : XFs K mg y l) : XFs K mg y ((x, b) :: l) := fun p hp => by
  rcases List.mem_cons.mp hp with rfl | hp
  · exact h
  · exact t p hp
theorem ms_tryE {y : Str} {body suite : List Stmt} {b₀ : Stmt} {np pos pos' : Pos} {sa sb : Env → Sto → OutS} {l : List (Str × Bool)} (hs : X.stack = X.env :: X.outer) (hf : X.env.frame = some X.env.locals) (hg : Gl X y) (EY : EF X.K X.mg y) (tk : Takes X Wx)
    (hl : XFs X.K X.mg y l)
    (hb : ∀ (W : WX) (pn : List (Addr × Obj)) (xe : Value → Shared → Prop), Takes (X.tr pn xe) W → PassesOwn (model X.prog X.w) X.A X.env xe → PSs (X.tr pn xe) body (TSm X.K X.mg W sa))
    (hsu : ∀ (a : Addr) (pn : List (Addr × Obj)), PSs (X.suite a pn) (b₀ :: suite) (TSm X.K X.mg W0 sb))
    (hx : ∀ e S c e' S', sb e S ≠ .exc c e' S') (hdb : (y == ("__debug__" : Str)) = false := by decide) :
    PS X (.Try body [.ExceptHandler (some (.Name y np)) none (b₀ :: suite) pos'] [] [] pos) (TSm X.K X.mg Wx (sTry sa l sb)) := by
  obtain ⟨C, h1, _⟩ := EY
  refine ms_try (c := .ref C) hs hf ⟨hg, hdb, .inl h1⟩ tk (fun p hp D hD => ?_) hb hsu hx
  obtain ⟨D', C', e1, e2, e3⟩ := hl p hp
  rw [h1] at e2; cases e2
  rw [hD] at e1; cases e1
  exact e3
/-! ### chains as tests -/
def mChainT (f g : W → W → Sto → Out FW) (ma mb mc : Env → Sto → Out W) : Env → Sto → Out Bool := mTest (mChain f g ma mb mc)
theorem mt_chain {a b c : Expr} {pos : Pos} {op op' : CmpOp} {f g : W → W → Sto → Out FW} {r r' : R2} {ma mb mc : Env → Sto → Out W} (ho : OpR X (compareOp op) r) (ho' : OpR X (compareOp op') r') (hf : OpM X.K X.mg f r) (hg : OpM X.K X.mg g r') (ha : PE X a (TEm X.K X.mg Wx ma)) (hb : PE X b (TEm X.K X.mg Wx mb)) (hc : PE X c (TEm X.K X.mg Wx mc))
    (hm : lastMarks [op, op'] [b, c] = false := by with_unfolding_all rfl) : PT X (.Compare a [op, op'] [b, c] pos) (TTm X.K X.mg Wx (mTest (mChain f g ma mb mc))) :=
  pt_imp (pt_chain ho ho' ha hb hc hm) fun σ H Q ⟨B0, ρ, env, S, r, er, h⟩ => by
    have h' : Tg X.K X.mg Wx (mChain f g ma mb mc) σ H (gE X.K X.mg fun v H' => ∃ b, v = .bl b ∧ Q b H') := ⟨B0, ρ, env, S, r, er, h.bindE lat_gT fun w S1 ρ1 H1 v e1 r1 q1 h1 => by
      cases w with
      | bl b => exact ⟨b, q1.bl_inv, h1 ρ1 H1 .refl r1⟩
      | _ => exact h1.elim⟩
    obtain ⟨B0, ρ, env, S, r, er, h⟩ := h'
    exact ⟨B0, ρ, env, S, r, er, h.bindE lat_gE fun x S1 ρ1 H1 v e1 r1 q1 h1 =>
      ⟨B0, ρ1, env, S1, r1, er.ext r e1, h1.bindE lat_gE fun y S2 ρ2 H2 u e2 r2 q2 h2 => by
        refine hf r2 (q1.ext r1 e2) q2 (h2.bind fun z S3 h3 => ?_)
        cases z with
        | new ws => exact h3.elim
        | val z =>
          cases z with
          | bl k =>
            intro ρ3 H3 zv e3 r3 q3
            refine ⟨k, q3.bl_inv, ?_⟩
            have h3 := End.later (lat_gE) e3 h3
            cases k with
            | false => rw [if_neg Bool.false_ne_true]; exact gE_here r3 h3 (.bl _)
            | true =>
              rw [if_pos rfl]
              refine ⟨B0, ρ3, env, S3, r3, ((er.ext r e1).ext r1 e2).ext r2 e3, h3.bindE lat_gE fun w S4 ρ4 H4 uw e4 r4 q4 h4 => ?_⟩
              refine hg r4 ((q2.ext r2 e3).ext r3 e4) q4 (h4.bind fun z S5 h5 => ?_)
              cases z with
              | val z => exact h5
              | new ws => exact h5.elim
          | _ => exact h3.elim⟩⟩
end
/-! ### the end -/
/-- the law's promise -/
def spL (K : PySem.W.Frag) : Sp := fun vs H Q _ => ∃ (a : Addr) (ns : List Int), vs = [.ref a] ∧ ns.length ≤ 63 ∧ Only H ∧ SqL K H a (ns.map V.int) ∧ ∀ H', Q (.bl true) H'
theorem rels_ints {K : PySem.W.Frag} {ρ : List Addr} {B : Ban} {H : Hp} : ∀ ns : List Int, Rels K ρ B H (ns.map W.int) (ns.map V.int)
  | [] => .nil
  | n :: ns => .cons (.int n) (rels_ints ns)
theorem spL_imp {K : PySem.W.Frag} {mg : Str → Option Value} {f : MF} (hlaw : ∀ ns : List Int, ns.length ≤ 63 → ∃ S, f [.fro (ns.map W.int)] [] = .ok (.bl true) S) (vs : List V) (H : Hp) (Q : VK) (E : XK) (h : spL K vs H Q E) : spM K mg 1 f vs H Q E := by
  obtain ⟨a, ns, rfl, hl, hO, hS, q⟩ := h
  obtain ⟨S, e⟩ := hlaw ns hl
  have r : SR K mg [] [] (fun _ => False) H := ⟨rfl, .nil, fun n o a h => by simp at h, fun a h => h.elim, fun n o a h => by simp at h⟩
  have nl : ∀ us, H a ≠ some (.lst us) := fun us z => by
    rcases hO a with z2 | ⟨o, xs, z2⟩ <;> (rw [z] at z2; cases z2)
  have hr := rels_ints (K := K) (ρ := []) (B := Bn (fun _ => False) [] []) (H := H) ns
  refine ⟨rfl, fun _ => False, [], [], [.fro (ns.map W.int)], r, .cons (.fro (SqL.toF hS nl) hr.1 hr.2) .nil, ?_⟩
  rw [e]
  intro ρ' H' v e' r' hv
  rw [hv.bl_inv]
  exact q H'
theorem walkM {l : PySem.W.OpenLaw} {q : Program} {loose : List Str} {XP : (Str → Option Value) → Heap → Prop} {YP : World → Heap → Prop} {d : DefRec} {K : Params → PySem.W.Frag} {k : Nat} {st : Stmt} {N : List Str} {body : Env → Sto → OutS} (hn : l.most = some 63) (hdf : d.params.defaults = []) (hd : d.name = "law")
    (hr : Room (k + 1) callerA) (hY : ∀ (w : World) (h : Heap), YP w h → (K w.params).In h)
    (hlaw : ∀ ns : List Int, ns.length ≤ 63 → ∃ S, mfun 1 N.length body [.fro (ns.map W.int)] [] = .ok (.bl true) S)
    (hbind : ∀ (kV doc pm : Value) (an : Option Addr) (cdv ct : Value) (s : Shared) (u : Value), BindsTo s (PySem.W.fnOf "law" "law" (defArgs st) (defBody st) (defScope st) .none kV doc pm an cdv ct) ⟨[u], []⟩ [("script", u)])
    (S : FnScope N ["script"] (defScope st))
    (F : ∀ (w : World) (mg : Str → Option Value) (h : Heap), (K w.params).In h → h.Ns mainGlobals mg → FF (K w.params) mg "law" st ∧ ∀ base : Heap, (K w.params).In base → base.Ns mainGlobals mg →
      ∀ (f : Addr) (cdv : Value) (A : Around) (outer : List PySem.Env) (s : Shared) (H : Hp) (E : XK), Room k (A.deeper (envOfC "law" (defScope st) s.heap.objs.size f cdv)) →
        PSs (cxOf (L2.CX l.prog w) l.prog w (K w.params) mg base N "law" (defScope st) f cdv A outer s H E) (defBody st) (TSm (K w.params) mg (Wb E) body)) :
    PySem.W.WalkO q loose XP YP l.row.toRowW d [] (fun f vs => PySem.call f vs) := by
  refine L2.walk_of (n := 63) (k := k + 1) (x := "script") (CX := fun w => L2.CX l.prog w) (sp := fun w => spL (K w.params)) hn (by decide) hdf hr hY (fun w mg fa h KX G hmg => ?_)
    (fun w H a ns hl hO hS => ⟨a, ns, rfl, hl, hO, hS, fun _ => rfl⟩) fun w H s e s' ⟨_, _, _, _, _, _, _, _, _, _, _, _, z⟩ => z
  obtain ⟨hff, hb⟩ := F w mg h KX G
  obtain ⟨f0, oc, od, an, osl, kV, doc, pm, cdv, ct, l1, c, kp, hm⟩ := hff.ex
  rw [hd, hm] at hmg
  cases hmg
  exact ⟨_, hbind kV doc pm an cdv ct, fun base KB GB => (fnok_of l1 c kp hm S (hb base KB GB fa)).imp (spL_imp hlaw)⟩
end L2.Mi

set_option Elab.async false
set_option linter.all false
set_option maxRecDepth 100000
set_option maxHeartbeats 2000000
/-! # The engine, part K: small things -/
namespace L2.Mi
open PySem PySem.Spec PyProof.Rows
theorem units65 {k : Nat} {A : Around} (r : Room k A) : A.units + 65 < cLine := by have := r.un; omega
/-! ### what raises nothing -/
theorem nxs_nil : ∀ ws env S c S1, tsNil ws env S ≠ .exc c S1 := fun ws env S c S1 h => by cases ws <;> cases h
theorem bind_nx {α β : Type} {o : Out α} {k : α → Sto → Out β} (h1 : ∀ c S1, o ≠ .exc c S1) (h2 : ∀ a S c S1, k a S ≠ .exc c S1) : ∀ c S1, o.bind k ≠ .exc c S1 := fun c S1 h => by
  cases o with
  | ok a S => exact h2 a S c S1 h
  | exc c' S' => exact h1 _ _ rfl
  | fail => cases h
theorem nxs_cons {mt : W → Env → Sto → Out Env} {ms : List W → Env → Sto → Out Env} (h1 : ∀ w env S c S1, mt w env S ≠ .exc c S1) (h2 : ∀ w env S c S1, ms w env S ≠ .exc c S1) : ∀ ws env S c S1, tsCons mt ms ws env S ≠ .exc c S1 := fun ws env S c S1 h => by
  cases ws with
  | nil => cases h
  | cons w ws => exact bind_nx (fun c S1 => h1 _ _ _ c S1) (fun a S c S1 => h2 _ _ _ c S1) c S1 h
theorem nx_tup {ms : List W → Env → Sto → Out Env} {n : Nat} (h : ∀ w env S c S1, ms w env S ≠ .exc c S1) : ∀ w env S c S1, tTupT ms n w env S ≠ .exc c S1 := fun w env S c S1 h' => by
  unfold tTupT at h'
  split at h'
  · split at h'
    · exact h _ _ _ _ _ h'
    · cases h'
  · cases h'
abbrev NxE {α : Type} (m : Env → Sto → Out α) : Prop := ∀ e S c S', m e S ≠ .exc c S'
abbrev NxS (m : Env → Sto → OutS) : Prop := ∀ e S c e' S', m e S ≠ .exc c e' S'
theorem nx_c {w : W} : NxE (mC w) := fun _ _ _ _ h => nomatch h
theorem nx_var {i : Nat} : NxE (mVar i) := fun e S c S' h => by
  unfold mVar at h
  split at h <;> cases h
theorem nx_nil : NxE mNil := fun _ _ _ _ h => nomatch h
theorem nx_cons {m : Env → Sto → Out W} {ms : Env → Sto → Out (List W)} (h1 : NxE m) (h2 : NxE ms) : NxE (mCons m ms) := fun e S c S' h =>
  bind_nx (h1 e S) (fun a S1 => bind_nx (h2 e S1) fun _ _ _ _ z => by cases z) c S' h
theorem nx_mtup {ms : Env → Sto → Out (List W)} (h1 : NxE ms) : NxE (mTup ms) := fun e S c S' h =>
  bind_nx (h1 e S) (fun a S1 c S' (z : (if a.length ≤ LINE then Out.ok (W.tup a) S1 else .fail) = .exc c S') => by
    split at z <;> cases z) c S' h
theorem bindS_nx {α : Type} {o : Out α} {k : α → Sto → OutS} {env : Env} (h1 : ∀ c S1, o ≠ .exc c S1) (h2 : ∀ a S c e S1, k a S ≠ .exc c e S1) : ∀ c e S1, o.bindS env k ≠ .exc c e S1 := fun c e S1 h => by
  cases o with
  | ok a S => exact h2 a S c e S1 h
  | exc c' S' => exact h1 _ _ rfl
  | fail => cases h
theorem nx_set {i : Nat} {m : Env → Sto → Out W} (h1 : NxE m) : NxS (sSet i m) := fun e S c e' S' h => bindS_nx (h1 e S) (fun _ _ _ _ _ z => by cases z) c e' S' h
theorem nx_ret {m : Env → Sto → Out W} (h1 : NxE m) : NxS (sRet m) := fun e S c e' S' h => bindS_nx (h1 e S) (fun _ _ _ _ _ z => by cases z) c e' S' h
theorem nx_skip : NxS sSkip := fun _ _ _ _ _ h => nomatch h
theorem nx_seq {a b : Env → Sto → OutS} (h1 : NxS a) (h2 : NxS b) : NxS (sSeq a b) := fun e S c e' S' h => by
  unfold sSeq at h
  split at h
  · exact h2 _ _ _ _ _ h
  · exact h1 _ _ _ _ _ h
/-- an error's class and a clause's -/
theorem exm_cd {K : PySem.W.Frag} {c : Value} {D : Addr} {b : Bool} (h1 : PySem.W.subIn K (.ref D) (.type "BaseException") = some true) (h2 : PySem.W.isClsIn K D = true) (h3 : PySem.W.typeIn K (.ref D) = some (.type "type")) (h4 : PySem.W.subIn K c (.ref D) = some b) :
    PySem.W.exmOne K c (.ref D) = some b := by
  have e1 : (PySem.W.subIn K (.ref D) (.type "BaseException") == some true) = true := by rw [h1] <;> rfl
  have e2 : ((PySem.W.clsIn K D).isSome && PySem.W.typeIn K (.ref D) == some (.type "type")) = true := by
    have h2' : (PySem.W.clsIn K D).isSome = true := h2
    rw [h2', h3] <;> rfl
  show (if (PySem.W.subIn K (.ref D) (.type "BaseException") == some true) = true then (if ((PySem.W.clsIn K D).isSome && PySem.W.typeIn K (.ref D) == some (.type "type")) = true then PySem.W.subIn K c (.ref D) else none) else none) = some b
  rw [if_pos e1, if_pos e2]
  exact h4
end L2.Mi

set_option Elab.async false
set_option linter.all false
set_option maxRecDepth 100000
set_option maxHeartbeats 2000000
/-! # The engine, part L: reckoning with mirrors -/
namespace L2.Mi
open PySem PySem.Spec PyProof.Rows
/-! ### weakest conditions -/
@[irreducible] def wp {α : Type} (o : Out α) (Q : α → Sto → Prop) (E : Str → Sto → Prop) : Prop := match o with
  | .ok a S => Q a S
  | .exc c S => E c S
  | .fail => False
structure Post where
  nx : Env → Sto → Prop
  rt : W → Sto → Prop
  bk : Env → Sto → Prop
  ct : Env → Sto → Prop
  xc : Str → Env → Sto → Prop
@[irreducible] def wpS (o : OutS) (D : Post) : Prop := match o with
  | .next e S => D.nx e S
  | .brk e S => D.bk e S
  | .cont e S => D.ct e S
  | .ret w S => D.rt w S
  | .exc c e S => D.xc c e S
  | .fail => False
section
variable {α β : Type} {Q : α → Sto → Prop} {R : β → Sto → Prop} {E : Str → Sto → Prop} {D : Post}
@[simp] theorem wp_ok {a : α} {S : Sto} : wp (.ok a S) Q E ↔ Q a S := by unfold wp; exact Iff.rfl
@[simp] theorem wp_exc {c : Str} {S : Sto} : wp (.exc c S : Out α) Q E ↔ E c S := by unfold wp; exact Iff.rfl
@[simp] theorem wp_fail : wp (.fail : Out α) Q E ↔ False := by unfold wp; exact Iff.rfl
@[simp] theorem wp_bind {o : Out α} {k : α → Sto → Out β} : wp (o.bind k) R E ↔ wp o (fun a S => wp (k a S) R E) E := by cases o <;> simp
@[simp] theorem wp_ite {c : Prop} [Decidable c] {a b : Out α} : wp (if c then a else b) Q E ↔ (c → wp a Q E) ∧ (¬ c → wp b Q E) := by
  by_cases h : c <;> simp [h]
@[simp] theorem wpS_next {e : Env} {S : Sto} : wpS (.next e S) D ↔ D.nx e S := by unfold wpS; exact Iff.rfl
@[simp] theorem wpS_brk {e : Env} {S : Sto} : wpS (.brk e S) D ↔ D.bk e S := by unfold wpS; exact Iff.rfl
@[simp] theorem wpS_cont {e : Env} {S : Sto} : wpS (.cont e S) D ↔ D.ct e S := by unfold wpS; exact Iff.rfl
@[simp] theorem wpS_ret {e : W} {S : Sto} : wpS (.ret e S) D ↔ D.rt e S := by unfold wpS; exact Iff.rfl
@[simp] theorem wpS_exc {c : Str} {e : Env} {S : Sto} : wpS (.exc c e S) D ↔ D.xc c e S := by unfold wpS; exact Iff.rfl
@[simp] theorem wpS_fail : wpS .fail D ↔ False := by unfold wpS; exact Iff.rfl
@[simp] theorem wpS_ite {c : Prop} [Decidable c] {a b : OutS} : wpS (if c then a else b) D ↔ (c → wpS a D) ∧ (¬ c → wpS b D) := by
  by_cases h : c <;> simp [h]
@[simp] theorem wpS_bindS {o : Out α} {env : Env} {k : α → Sto → OutS} : wpS (o.bindS env k) D ↔ wp o (fun a S => wpS (k a S) D) (fun c S => D.xc c env S) := by cases o <;> simp [Out.bindS]
theorem wp_mono {o : Out α} {Q' : α → Sto → Prop} {E' : Str → Sto → Prop} (h : wp o Q E) (hq : ∀ a S, Q a S → Q' a S) (he : ∀ c S, E c S → E' c S) : wp o Q' E' := by
  cases o with
  | ok a S => exact wp_ok.mpr (hq a S (wp_ok.mp h))
  | exc c S => exact wp_exc.mpr (he c S (wp_exc.mp h))
  | fail => exact (wp_fail.mp h).elim
structure Post.Le (D D' : Post) : Prop where
  nx : ∀ e S, D.nx e S → D'.nx e S
  rt : ∀ e S, D.rt e S → D'.rt e S
  bk : ∀ e S, D.bk e S → D'.bk e S
  ct : ∀ e S, D.ct e S → D'.ct e S
  xc : ∀ c e S, D.xc c e S → D'.xc c e S
theorem wpS_mono {o : OutS} {D' : Post} (h : wpS o D) (l : D.Le D') : wpS o D' := by
  cases o with
  | next e S => exact wpS_next.mpr (l.nx _ _ (wpS_next.mp h))
  | brk e S => exact wpS_brk.mpr (l.bk _ _ (wpS_brk.mp h))
  | cont e S => exact wpS_cont.mpr (l.ct _ _ (wpS_cont.mp h))
  | ret e S => exact wpS_ret.mpr (l.rt _ _ (wpS_ret.mp h))
  | exc c e S => exact wpS_exc.mpr (l.xc _ _ _ (wpS_exc.mp h))
  | fail => exact (wpS_fail.mp h).elim
/-- a def's outcome from its body's -/
theorem wp_outF {o : OutS} {Q : W → Sto → Prop} (h : wpS o ⟨fun _ S => Q .non S, Q, fun _ _ => False, fun _ _ => False, fun c _ S => E c S⟩) : wp (outF o) Q E := by
  cases o with
  | next e S => exact wp_ok.mpr (wpS_next.mp h)
  | brk e S => exact (wpS_brk.mp h).elim
  | cont e S => exact (wpS_cont.mp h).elim
  | ret e S => exact wp_ok.mpr (wpS_ret.mp h)
  | exc c e S => exact wp_exc.mpr (wpS_exc.mp h)
  | fail => exact (wpS_fail.mp h).elim
theorem wp_eq {o : Out α} (h : wp o Q fun _ _ => False) : ∃ a S, o = .ok a S ∧ Q a S := by
  cases o with
  | ok a S => exact ⟨a, S, rfl, wp_ok.mp h⟩
  | exc c S => exact (wp_exc.mp h).elim
  | fail => exact (wp_fail.mp h).elim
end
/-! ### the combinators, applied -/
section
variable {α β : Type} {env : Env} {S : Sto} {i j k : Nat} {w x y : W} {ws : List W} {b : Bool}
def vK : FW → Sto → Out W
  | .val w, S => .ok w S
  | .new ws, S => .ok (.lst ws) S
def nK : FW → Sto → Out W
  | .val w, S => .ok w S
  | .new ws, S => .ok (.ref S.length) (S ++ [.lst ws])
@[simp] theorem vK_val : vK (.val w) S = .ok w S := rfl
@[simp] theorem vK_new : vK (.new ws) S = .ok (.lst ws) S := rfl
@[simp] theorem nK_val : nK (.val w) S = .ok w S := rfl
@[simp] theorem nK_new : nK (.new ws) S = .ok (.ref S.length) (S ++ [.lst ws]) := rfl
theorem ev_mVar (h : env[i]? = some (some w)) : mVar i env S = .ok w S := by unfold mVar; rw [h]
@[simp] theorem ev_mVar0 {e : Env} : mVar 0 (some w :: e) S = .ok w S := rfl
@[simp] theorem ev_mVarS {e : Env} {o : Option W} : mVar (i + 1) (o :: e) S = mVar i e S := rfl
@[simp] theorem ev_mC : mC w env S = .ok w S := rfl
@[simp] theorem ev_mVal {m : Env → Sto → Out FW} : mVal m env S = (m env S).bind vK := by unfold mVal; congr 1; funext w S1; cases w <;> rfl
@[simp] theorem ev_mNew {m : Env → Sto → Out FW} : mNew m env S = (m env S).bind nK := by unfold mNew; congr 1; funext w S1; cases w <;> rfl
@[simp] theorem ev_mNil : mNil env S = .ok [] S := rfl
@[simp] theorem ev_mCons {m : Env → Sto → Out W} {ms : Env → Sto → Out (List W)} : mCons m ms env S = (m env S).bind fun w S1 => (ms env S1).bind fun ws S2 => .ok (w :: ws) S2 := rfl
def lK (ws : List W) (S : Sto) : Out FW := if ws.length ≤ LINE then .ok (.new ws) S else .fail
def tK (ws : List W) (S : Sto) : Out W := if ws.length ≤ LINE then .ok (.tup ws) S else .fail
theorem lK_ok (h : ws.length ≤ LINE) : lK ws S = .ok (.new ws) S := if_pos h
theorem tK_ok (h : ws.length ≤ LINE) : tK ws S = .ok (.tup ws) S := if_pos h
@[simp] theorem lK0 : lK [] S = .ok (.new []) S := rfl
@[simp] theorem lK1 {a : W} : lK [a] S = .ok (.new [a]) S := lK_ok (by show 1 ≤ LINE; decide)
@[simp] theorem lK2 {a b : W} : lK [a, b] S = .ok (.new [a, b]) S := lK_ok (by show 2 ≤ LINE; decide)
@[simp] theorem lK3 {a b c : W} : lK [a, b, c] S = .ok (.new [a, b, c]) S := lK_ok (by show 3 ≤ LINE; decide)
@[simp] theorem tK0 : tK [] S = .ok (.tup []) S := rfl
@[simp] theorem tK1 {a : W} : tK [a] S = .ok (.tup [a]) S := tK_ok (by show 1 ≤ LINE; decide)
@[simp] theorem tK2 {a b : W} : tK [a, b] S = .ok (.tup [a, b]) S := tK_ok (by show 2 ≤ LINE; decide)
@[simp] theorem tK3 {a b c : W} : tK [a, b, c] S = .ok (.tup [a, b, c]) S := tK_ok (by show 3 ≤ LINE; decide)
@[simp] theorem ev_mLst {ms : Env → Sto → Out (List W)} : mLst ms env S = (ms env S).bind lK := rfl
@[simp] theorem ev_mTup {ms : Env → Sto → Out (List W)} : mTup ms env S = (ms env S).bind tK := rfl
@[simp] theorem ev_m2 {f : W → W → Sto → Out α} {ma mb : Env → Sto → Out W} : m2 f ma mb env S = (ma env S).bind fun x S1 => (mb env S1).bind fun y S2 => f x y S2 := rfl
@[simp] theorem ev_m1 {f : W → Sto → Out α} {ma : Env → Sto → Out W} : m1 f ma env S = (ma env S).bind fun x S1 => f x S1 := rfl
@[simp] theorem ev_mA {f : List W → Sto → Out α} {ma : Env → Sto → Out (List W)} : mA f ma env S = (ma env S).bind fun x S1 => f x S1 := rfl
@[simp] theorem ev_mM {ty : W → Sto → Bool} {f : W → List W → Sto → Out α} {mo : Env → Sto → Out W} {ms : Env → Sto → Out (List W)} : mM ty f mo ms env S = (mo env S).bind fun x S1 => if ty x S1 = true then (ms env S1).bind fun ws S2 => f x ws S2 else .fail := rfl
@[simp] theorem ev_mM0 {ty : W → Sto → Bool} {f : W → List W → Sto → Out α} {mo : Env → Sto → Out W} : mM0 ty f mo env S = (mo env S).bind fun x S1 => if ty x S1 = true then f x [] S1 else .fail := rfl
@[simp] theorem ev_mNoPart : mNoPart env S = .ok none S := rfl
def pK : W → Sto → Out (Option Int)
  | .int i, S => .ok (some i) S
  | _, _ => .fail
@[simp] theorem pK_int {i : Int} : pK (.int i) S = .ok (some i) S := rfl
@[simp] theorem ev_mPart {m : Env → Sto → Out W} : mPart m env S = (m env S).bind pK := by unfold mPart; congr 1; funext w S1; cases w <;> rfl
@[simp] theorem ev_mSl {m : Env → Sto → Out W} {lo hi : Env → Sto → Out (Option Int)} : mSl m lo hi env S = (m env S).bind fun x S1 => (lo env S1).bind fun l S2 => (hi env S2).bind fun u S3 => fSl x l u S3 := rfl
def bK : W → Sto → Out Bool
  | .bl b, S => .ok b S
  | _, _ => .fail
def bKF : FW → Sto → Out Bool
  | .val (.bl b), S => .ok b S
  | _, _ => .fail
@[simp] theorem bK_bl : bK (.bl b) S = .ok b S := rfl
@[simp] theorem bKF_bl : bKF (.val (.bl b)) S = .ok b S := rfl
@[simp] theorem ev_mTest {m : Env → Sto → Out W} : mTest m env S = (m env S).bind bK := by unfold mTest; congr 1; funext w S1; cases w <;> rfl
@[simp] theorem ev_mTestF {m : Env → Sto → Out FW} : mTestF m env S = (m env S).bind bKF := by
  unfold mTestF; congr 1; funext w S1
  cases w with
  | val w => cases w <;> rfl
  | new ws => rfl
@[simp] theorem ev_mAnd {a b : Env → Sto → Out Bool} : mAnd a b env S = (a env S).bind fun c S1 => if c = true then b env S1 else .ok false S1 := rfl
@[simp] theorem ev_mOr {a b : Env → Sto → Out Bool} : mOr a b env S = (a env S).bind fun c S1 => if c = true then .ok true S1 else b env S1 := rfl
@[simp] theorem ev_mNot {a : Env → Sto → Out Bool} : mNot a env S = (a env S).bind fun c S1 => .ok (!c) S1 := rfl
@[simp] theorem ev_mAndV {a b : Env → Sto → Out W} : mAndV a b env S = (a env S).bind fun w S1 => (bK w S1).bind fun c S1 => if c = true then b env S1 else .ok (.bl false) S1 := by unfold mAndV; congr 1; funext w S1; cases w <;> rfl
@[simp] theorem ev_mOrV {a b : Env → Sto → Out W} : mOrV a b env S = (a env S).bind fun w S1 => (bK w S1).bind fun c S1 => if c = true then .ok (.bl true) S1 else b env S1 := by unfold mOrV; congr 1; funext w S1; cases w <;> rfl
@[simp] theorem ev_mNotV {a : Env → Sto → Out W} : mNotV a env S = (a env S).bind fun w S1 => (bK w S1).bind fun c S1 => .ok (.bl (!c)) S1 := by unfold mNotV; congr 1; funext w S1; cases w <;> rfl
@[simp] theorem ev_mIf {c : Env → Sto → Out Bool} {a b : Env → Sto → Out α} : mIf c a b env S = (c env S).bind fun c S1 => if c = true then a env S1 else b env S1 := rfl
def cK : FW → Sto → Out W
  | .val w, S => .ok w S
  | .new _, _ => .fail
@[simp] theorem cK_val : cK (.val w) S = .ok w S := rfl
@[simp] theorem ev_mChain {f g : W → W → Sto → Out FW} {ma mb mc : Env → Sto → Out W} : mChain f g ma mb mc env S = (ma env S).bind fun x S1 => (mb env S1).bind fun y S2 => (f x y S2).bind fun z S3 => (bKF z S3).bind fun c S3 => if c = true then (mc env S3).bind fun w S4 => (g y w S4).bind cK else .ok (.bl false) S3 := by
  unfold mChain
  congr 1; funext x S1; congr 1; funext y S2; congr 1; funext z S3
  cases z with
  | new ws => rfl
  | val z =>
    cases z with
    | bl b =>
      cases b with
      | true =>
        show ((mc env S3).bind fun w S4 => (g y w S4).bind fun z S5 => match z with
          | .val z => .ok z S5
          | .new _ => .fail) = _
        simp only [bKF_bl, Out.bind_ok, if_true]
        congr 1; funext w S4; congr 1; funext z S5
        cases z <;> rfl
      | false => rfl
    | _ => rfl
def iK (T : Ty) (x : W) (S : Sto) : Out W := match tyW S x with
  | some t => .ok (.bl (subTy t T)) S
  | none => .fail
@[simp] theorem ev_mIsi {T : Ty} {m : Env → Sto → Out W} : mIsi T m env S = (m env S).bind (iK T) := rfl
/-! values -/
@[simp] theorem fSub_ii {i j : Int} : fSub (.int i) (.int j) S = .ok (.val (.int (i - j))) S := rfl
@[simp] theorem fAdd_ii {i j : Int} : fAdd (.int i) (.int j) S = .ok (.val (.int (i + j))) S := rfl
@[simp] theorem fMod_ii {i j : Int} : fMod (.int i) (.int j) S = if 0 < j then .ok (.val (.int (i % j))) S else .fail := by
  show (if decide (0 < j) = true then _ else _) = _
  simp only [decide_eq_true_eq]
@[simp] theorem fDiv_ii {i j : Int} : fDiv (.int i) (.int j) S = if 0 < j ∧ j < 1073741824 then .ok (.val (.int (i / j))) S else .fail := by
  show (if (decide (0 < j) && decide (j < 1073741824)) = true then _ else _) = _
  simp only [Bool.and_eq_true, decide_eq_true_eq]
@[simp] theorem fLt_ii {i j : Int} : fLt (.int i) (.int j) S = .ok (.val (.bl (decide (i < j)))) S := rfl
@[simp] theorem fLe_ii {i j : Int} : fLe (.int i) (.int j) S = .ok (.val (.bl (decide (i ≤ j)))) S := rfl
@[simp] theorem fGt_ii {i j : Int} : fGt (.int i) (.int j) S = .ok (.val (.bl (decide (j < i)))) S := rfl
@[simp] theorem fGe_ii {i j : Int} : fGe (.int i) (.int j) S = .ok (.val (.bl (decide (j ≤ i)))) S := rfl
@[simp] theorem fNeg_i {i : Int} : fNeg (.int i) S = .ok (.val (.int (-i))) S := rfl
theorem fPow_ii {i j : Int} (h : cPow i j = true) : fPow (.int i) (.int j) S = .ok (.val (.int (i ^ j.toNat))) S := if_pos h
@[simp] theorem fInt_i {i : Int} : fInt [.int i] S = .ok (.val (.int i)) S := rfl
@[simp] theorem fII_ii {g : Int → Int → Int} {i j : Int} : fII g [.int i, .int j] S = .ok (.val (.int (g i j))) S := rfl
theorem fMul_ii {i j : Int} (h : cMul i j = true) : fMul (.int i) (.int j) S = .ok (.val (.int (i * j))) S := by
  unfold fMul
  simp [h]
theorem cMul_l {i j : Int} (h1 : -(2 ^ 64) < i) (h2 : i < 2 ^ 64) : cMul i j = true := by
  unfold cMul smallI
  rw [Bool.or_eq_true, Bool.and_eq_true, decide_eq_true_eq, decide_eq_true_eq]
  exact .inl ⟨h1, h2⟩
theorem cMul_r {i j : Int} (h1 : -(2 ^ 64) < j) (h2 : j < 2 ^ 64) : cMul i j = true := by
  unfold cMul smallI
  rw [Bool.or_eq_true, Bool.and_eq_true, Bool.and_eq_true, decide_eq_true_eq, decide_eq_true_eq, decide_eq_true_eq, decide_eq_true_eq]
  exact .inr ⟨h1, h2⟩
end
/-! ### statements -/
section
variable {env : Env} {S : Sto} {i j : Nat} {D : Post} {E : Env} {a b : Env → Sto → OutS} {m : Env → Sto → Out W}
def Post.seq (D : Post) (b : Env → Sto → OutS) : Post := ⟨fun e S => wpS (b e S) D, D.rt, D.bk, D.ct, D.xc⟩
@[simp] theorem wpS_seq : wpS (sSeq a b env S) D ↔ wpS (a env S) (D.seq b) := by
  show wpS (match a env S with
    | .next e S1 => b e S1
    | o => o) D ↔ _
  cases a env S <;> simp [Post.seq]
@[simp] theorem seq_nx {e : Env} : (D.seq b).nx e S = wpS (b e S) D := rfl
@[simp] theorem seq_rt {w : W} : (D.seq b).rt w S = D.rt w S := rfl
@[simp] theorem seq_bk {e : Env} : (D.seq b).bk e S = D.bk e S := rfl
@[simp] theorem seq_ct {e : Env} : (D.seq b).ct e S = D.ct e S := rfl
@[simp] theorem seq_xc {c : Str} {e : Env} : (D.seq b).xc c e S = D.xc c e S := rfl
@[simp] theorem ev_sSkip : sSkip env S = .next env S := rfl
@[simp] theorem ev_sBrk : sBrk env S = .brk env S := rfl
@[simp] theorem ev_sCont : sCont env S = .cont env S := rfl
@[simp] theorem ev_sRaise {c : Str} : sRaise c env S = .exc c env S := rfl
@[simp] theorem ev_sExpr : sExpr m env S = (m env S).bindS env fun _ S1 => .next env S1 := rfl
@[simp] theorem ev_sRet : sRet m env S = (m env S).bindS env fun w S1 => .ret w S1 := rfl
@[simp] theorem ev_sIf {c : Env → Sto → Out Bool} : sIf c a b env S = (c env S).bindS env fun c S1 => if c = true then a env S1 else b env S1 := rfl
@[simp] theorem ev_sSet : sSet i m env S = (m env S).bindS env fun w S1 => .next (env.set i (some w)) S1 := rfl
def parK (env : Env) (i j : Nat) (ws : List W) (S : Sto) : OutS := match ws with
  | [v, w] => .next ((env.set i (some v)).set j (some w)) S
  | _ => .fail
@[simp] theorem parK_2 {v w : W} : parK env i j [v, w] S = .next ((env.set i (some v)).set j (some w)) S := rfl
@[simp] theorem ev_sPar {ms : Env → Sto → Out (List W)} : sPar i j ms env S = (ms env S).bindS env (parK env i j) := rfl
@[simp] theorem ev_sAsg {mt : W → Env → Sto → Out Env} : sAsg m mt env S = (m env S).bindS env fun w S1 => (mt w env S1).bindS env fun e S2 => .next e S2 := rfl
@[simp] theorem ev_tName {w : W} : tName i w env S = .ok (env.set i (some w)) S := rfl
@[simp] theorem ev_tsNil : tsNil [] env S = .ok env S := rfl
@[simp] theorem ev_tsCons {mt : W → Env → Sto → Out Env} {ms : List W → Env → Sto → Out Env} {w : W} {ws : List W} : tsCons mt ms (w :: ws) env S = (mt w env S).bind fun e S1 => ms ws e S1 := rfl
@[simp] theorem ev_tTupT {ms : List W → Env → Sto → Out Env} {n : Nat} {ws : List W} : tTupT ms n (.tup ws) env S = if ws.length = n then ms ws env S else .fail := rfl
@[simp] theorem ev_tSubL {mo mi : Env → Sto → Out W} {w : W} : tSubL mo mi w env S = (mo env S).bind fun o S1 => (mi env S1).bind fun i S2 => (fSetL o i w S2).bind fun _ S3 => .ok env S3 := rfl
/-- for -/
def Post.loop (D : Post) (P : Env → Sto → Prop) (lk : Option Nat) (ws : List W) : Post := ⟨P, fun w S => D.rt w (unlockS lk ws S), fun e S => D.nx e (unlockS lk ws S), P, fun c e S => D.xc c e (unlockS lk ws S)⟩
theorem wpS_unlock {o : OutS} {lk : Option Nat} {ws : List W} : wpS (unlockO lk ws o) D ↔ wpS o ⟨fun e S => D.nx e (unlockS lk ws S), fun w S => D.rt w (unlockS lk ws S), fun e S => D.bk e (unlockS lk ws S), fun e S => D.ct e (unlockS lk ws S), fun c e S => D.xc c e (unlockS lk ws S)⟩ := by
  cases o <;> simp [unlockO]
theorem loop_inv {mt : W → Env → Sto → Out Env} {body : Env → Sto → OutS} (D : Post) (P : Nat → Env → Sto → Prop) (ws : List W) (hs : ∀ i w env S, ws[i]? = some w → P i env S → wp (mt w env S) (fun e S1 => wpS (body e S1) ⟨P (i + 1), D.rt, D.nx, P (i + 1), D.xc⟩) (fun c S1 => D.xc c env S1))
    (hd : ∀ env S, P ws.length env S → D.nx env S) : ∀ (n : Nat) (env : Env) (S : Sto), n ≤ ws.length → P n env S → wpS (loopL mt body (ws.drop n) env S) D := by
  intro n
  generalize hk : ws.length - n = k
  induction k generalizing n with
  | zero =>
    intro env S hn h
    have : n = ws.length := by omega
    subst this
    rw [List.drop_length]
    exact wpS_next.mpr (hd env S h)
  | succ k ih =>
    intro env S hn h
    have hlt : n < ws.length := by omega
    rw [List.drop_eq_getElem_cons hlt]
    have q := hs n ws[n] env S (by simp [hlt]) h
    unfold loopL
    cases e1 : mt ws[n] env S with
    | fail => rw [e1] at q; exact (wp_fail.mp q).elim
    | exc c S1 => rw [e1] at q; exact wpS_exc.mpr (wp_exc.mp q)
    | ok e2 S1 =>
      rw [e1] at q
      have q : wpS (body e2 S1) _ := wp_ok.mp q
      simp only
      cases e3 : body e2 S1 with
      | next e4 S2 => rw [e3] at q; exact ih (n + 1) (by omega) e4 S2 (by omega) (wpS_next.mp q)
      | cont e4 S2 => rw [e3] at q; exact ih (n + 1) (by omega) e4 S2 (by omega) (wpS_cont.mp q)
      | brk e4 S2 => rw [e3] at q; exact wpS_next.mpr (wpS_brk.mp q)
      | ret w S2 => rw [e3] at q; exact wpS_ret.mpr (by have q2 := wpS_ret.mp q; exact q2)
      | exc c e4 S2 => rw [e3] at q; exact wpS_exc.mpr (by have q2 := wpS_exc.mp q; exact q2)
      | fail => rw [e3] at q; exact (wpS_fail.mp q).elim
/-- a loop over what is not locked -/
theorem for_inv {mi : Env → Sto → Out (List W × Option Nat)} {mt : W → Env → Sto → Out Env} {body : Env → Sto → OutS} {ws : List W} (e : mi env S = .ok (ws, none) S) (P : Nat → Env → Sto → Prop) (h0 : P 0 env S)
    (hs : ∀ i w env S, ws[i]? = some w → P i env S → wp (mt w env S) (fun e S1 => wpS (body e S1) ⟨P (i + 1), D.rt, D.nx, P (i + 1), D.xc⟩) (fun c S1 => D.xc c env S1))
    (hd : ∀ env S, P ws.length env S → D.nx env S) : wpS (sFor mi mt body env S) D := by
  unfold sFor
  rw [e]
  show wpS (unlockO none ws (loopL mt body ws env S)) D
  rw [wpS_unlock]
  have := loop_inv (mt := mt) (body := body) D P ws hs hd 0 env S (Nat.zero_le _) h0
  rw [List.drop_zero] at this
  exact this
/-- while, by a measure -/
theorem loopW_inv {c : Env → Sto → Out Bool} {body : Env → Sto → OutS} (P : Nat → Env → Sto → Prop)
    (hs : ∀ n env S, P n env S → wp (c env S) (fun b S1 => if b = true then wpS (body env S1) ⟨fun e S => ∃ m, m < n ∧ P m e S, D.rt, D.nx, fun e S => ∃ m, m < n ∧ P m e S, D.xc⟩ else D.nx env S1) (fun c S1 => D.xc c env S1)) :
    ∀ (k n : Nat) (env : Env) (S : Sto), n < k → P n env S → wpS (loopW c body k env S) D := by
  intro k
  induction k with
  | zero => intro n env S h; omega
  | succ k ih =>
    intro n env S hn h
    have q := hs n env S h
    unfold loopW
    cases e1 : c env S with
    | fail => rw [e1] at q; exact (wp_fail.mp q).elim
    | exc c S1 => rw [e1] at q; exact wpS_exc.mpr (wp_exc.mp q)
    | ok b S1 =>
      rw [e1] at q
      simp only [wp_ok] at q
      cases b with
      | false => simpa using q
      | true =>
        simp only [if_true] at q
        show wpS (match body env S1 with
          | .next e S2 => loopW c body k e S2
          | .cont e S2 => loopW c body k e S2
          | .brk e S2 => .next e S2
          | .ret w S2 => .ret w S2
          | .exc c e2 S2 => .exc c e2 S2
          | .fail => .fail) D
        cases e3 : body env S1 with
        | next e4 S2 => rw [e3] at q; obtain ⟨m, hm, p⟩ := wpS_next.mp q; exact ih m e4 S2 (by omega) p
        | cont e4 S2 => rw [e3] at q; obtain ⟨m, hm, p⟩ := wpS_cont.mp q; exact ih m e4 S2 (by omega) p
        | brk e4 S2 => rw [e3] at q; exact wpS_next.mpr (wpS_brk.mp q)
        | ret w S2 => rw [e3] at q; exact wpS_ret.mpr (by have q2 := wpS_ret.mp q; exact q2)
        | exc c e4 S2 => rw [e3] at q; exact wpS_exc.mpr (by have q2 := wpS_exc.mp q; exact q2)
        | fail => rw [e3] at q; exact (wpS_fail.mp q).elim
theorem while_inv {c : Env → Sto → Out Bool} {body : Env → Sto → OutS} (P : Nat → Env → Sto → Prop) (n : Nat) (hn : n < FUEL) (h0 : P n env S)
    (hs : ∀ n env S, P n env S → wp (c env S) (fun b S1 => if b = true then wpS (body env S1) ⟨fun e S => ∃ m, m < n ∧ P m e S, D.rt, D.nx, fun e S => ∃ m, m < n ∧ P m e S, D.xc⟩ else D.nx env S1) (fun c S1 => D.xc c env S1)) : wpS (sWhile c body env S) D :=
  loopW_inv P hs FUEL n env S hn h0
@[simp] theorem wpS_try {l : List (Str × Bool)} : wpS (sTry a l b env S) D ↔ wpS (a env S) ⟨D.nx, D.rt, D.bk, D.ct, fun c e S1 => match l.lookup c with
    | some true => wpS (b e S1) D
    | some false => D.xc c e S1
    | none => False⟩ := by
  unfold sTry
  cases a env S with
  | exc c e S1 =>
    simp only [wpS_exc]
    cases l.lookup c with
    | none => exact wpS_fail
    | some b =>
      cases b with
      | true => exact Iff.rfl
      | false => exact wpS_exc
  | _ => simp
end
end L2.Mi

set_option Elab.async false
set_option linter.all false
set_option maxRecDepth 100000
set_option maxHeartbeats 2000000
/-! # The engine, part M: comprehensions, calls, values -/
namespace L2.Mi
open PySem PySem.Spec PyProof.Rows
section
variable {α β : Type} {Q : α → Sto → Prop} {E : Str → Sto → Prop} {env : Env} {S S' D D' J R : Sto} {i : Nat} {w x y : W} {ws ys : List W} {own : List Nat}
/-! ### comprehensions -/
@[simp] theorem nox_ok {a : α} : (Out.ok a S).nox = .ok a S := rfl
theorem wp_nox {o : Out α} : wp o.nox Q E ↔ wp o Q fun _ _ => False := by cases o <;> simp [Out.nox]
def cmK (o : List W × Option Nat) (ys : List W) (S2 : Sto) : Out FW := if ys.length ≤ LINE then .ok (.new ys) (unlockS o.2 o.1 S2) else .fail
theorem cmK_ok {o : List W × Option Nat} (h : ys.length ≤ LINE) : cmK o ys S = .ok (.new ys) (unlockS o.2 o.1 S) := if_pos h
theorem ev_mComp {mi : Env → Sto → Out (List W × Option Nat)} {mt : W → Env → Sto → Out Env} {tt : Env → Sto → Out Bool} {el : Env → Sto → Out W} :
    mComp own mi mt tt el env S = (mi env S).bind fun o S1 => (compL mt tt el (wipeE env own) o.1 (lockS o.2 o.1 S1)).nox.bind (cmK o) := rfl
theorem compL_filter {tt : Env → Sto → Out Bool} {el : Env → Sto → Out W} {p : W → Bool} {f : W → W} : ∀ (ws : List W), (∀ w ∈ ws, tt (env.set i (some w)) S = .ok (p w) S) → (∀ w ∈ ws, p w = true → el (env.set i (some w)) S = .ok (f w) S) →
    compL (tName i) tt el env ws S = .ok ((ws.filter p).map f) S
  | [], _, _ => rfl
  | w :: ws, h1, h2 => by
    have ih := compL_filter ws (fun w hw => h1 w (List.mem_cons_of_mem _ hw)) fun w hw => h2 w (List.mem_cons_of_mem _ hw)
    have e1 := h1 w List.mem_cons_self
    have e2 := h2 w List.mem_cons_self
    unfold compL
    simp only [ev_tName, nox_ok, Out.bind_ok, e1]
    cases hp : p w with
    | true => rw [if_pos rfl, e2 hp]; simp [ih, hp]
    | false => rw [if_neg Bool.false_ne_true]; simp [ih, hp]
theorem compL_map {el : Env → Sto → Out W} {f : W → W} (ws : List W) (h : ∀ w ∈ ws, el (env.set i (some w)) S = .ok (f w) S) : compL (tName i) tYesM el env ws S = .ok (ws.map f) S := by
  rw [compL_filter (p := fun _ => true) (f := f) ws (fun _ _ => rfl) fun w hw _ => h w hw]
  rw [List.filter_eq_self.mpr fun _ _ => rfl]
/-- with a state that moves on: P by the number of turns -/
theorem compL_wp {mt : W → Env → Sto → Out Env} {tt : Env → Sto → Out Bool} {el : Env → Sto → Out W} (P : Nat → List W → Sto → Prop) : ∀ (ws : List W) (k : Nat) (acc : List W) (S : Sto), 
    (∀ w ∈ ws, ∀ k acc S, P k acc S → wp (mt w env S) (fun e S1 => wp (tt e S1) (fun b S2 => if b = true then wp (el e S2) (fun y S3 => P (k + 1) (acc ++ [y]) S3) (fun _ _ => False) else P (k + 1) acc S2) fun _ _ => False) fun _ _ => False) → P k acc S →
    wp (compL mt tt el env ws S) (fun ys S' => P (k + ws.length) (acc ++ ys) S') fun _ _ => False
  | [], k, acc, S, _, h => by
    show wp (.ok [] S) _ _
    rw [wp_ok]
    show P (k + 0) (acc ++ []) S
    rw [List.append_nil]; exact h
  | w :: ws, k, acc, S, hs, h => by
    have q := hs w List.mem_cons_self k acc S h
    have ih := fun acc S => compL_wp P ws (k + 1) acc S fun w hw => hs w (List.mem_cons_of_mem _ hw)
    have el : k + (w :: ws).length = k + 1 + ws.length := by rw [List.length_cons]; omega
    rw [el]
    unfold compL
    rw [wp_bind, wp_nox]
    refine wp_mono q (fun e S1 q => ?_) fun _ _ z => z
    rw [wp_bind, wp_nox]
    refine wp_mono q (fun b S2 q => ?_) fun _ _ z => z
    cases b with
    | true =>
      rw [if_pos rfl] at q ⊢
      rw [wp_bind, wp_nox]
      refine wp_mono q (fun y S3 q => ?_) fun _ _ z => z
      rw [wp_bind]
      refine wp_mono (ih (acc ++ [y]) S3 q) (fun ys S4 q => ?_) fun _ _ z => z
      rw [List.append_assoc] at q
      exact wp_ok.mpr q
    | false =>
      rw [if_neg Bool.false_ne_true] at q ⊢
      exact ih acc S2 q
/-- the whole comprehension -/
theorem mComp_wp {mi : Env → Sto → Out (List W × Option Nat)} {mt : W → Env → Sto → Out Env} {tt : Env → Sto → Out Bool} {el : Env → Sto → Out W} {Q : FW → Sto → Prop} (P : Nat → List W → Sto → Prop) 
    (hi : wp (mi env S) (fun o S1 => o.2 = none ∧ P 0 [] S1 ∧ (∀ w ∈ o.1, ∀ k acc S, P k acc S → wp (mt w (wipeE env own) S) (fun e S1 => wp (tt e S1) (fun b S2 => if b = true then wp (el e S2) (fun y S3 => P (k + 1) (acc ++ [y]) S3) (fun _ _ => False) else P (k + 1) acc S2) fun _ _ => False) fun _ _ => False) ∧
      ∀ ys S, P o.1.length ys S → ys.length ≤ LINE ∧ Q (.new ys) S) E) : wp (mComp own mi mt tt el env S) Q E := by
  rw [ev_mComp, wp_bind]
  refine wp_mono hi (fun o S1 ⟨h1, h2, h3, h4⟩ => ?_) fun _ _ z => z
  obtain ⟨ws, lk⟩ := o
  have h1 : lk = none := h1
  subst h1
  rw [wp_bind, wp_nox]
  refine wp_mono (compL_wp P ws 0 [] S1 h3 h2) (fun ys S2 q => ?_) fun _ _ z => z.elim
  have q : P ws.length ys S2 := by simpa using q
  obtain ⟨q1, q2⟩ := h4 ys S2 q
  rw [cmK_ok q1]
  exact wp_ok.mpr q2
/-! ### calls -/
theorem callRes_ok {k : Nat} {pl : Bool} (h : okRes k pl w S' = true) : callRes k pl S (.ok w S') = .ok w (S'.take k ++ S.drop k) := if_pos h
/-- a def that needs no object, handed values alone -/
theorem call0 {f : MF} (ha : ws.all (refsLt 0) = true) (e : f ws [] = .ok w S') (hw : refsLt 0 w = true) : callK 0 f ws S = .ok w S := by
  unfold callK callAt
  rw [ha]
  simp only [if_true]
  have e0 : S.take 0 = [] := rfl
  rw [if_pos ⟨ha, Nat.zero_le _, by rw [e0]; rfl⟩, e0, e, callRes_ok]
  · simp
  · unfold okRes
    rw [hw]
    simp
theorem call0_exc {f : MF} {c : Str} (ha : ws.all (refsLt 0) = true) (e : f ws [] = .exc c S') : callK 0 f ws S = .exc c S := by
  unfold callK callAt
  rw [ha]
  simp only [if_true]
  have e0 : S.take 0 = [] := rfl
  rw [if_pos ⟨ha, Nat.zero_le _, by rw [e0]; rfl⟩, e0, e]
  show (if okRes 0 true .non S' = true then Out.exc c (S'.take 0 ++ S.drop 0) else .fail) = _
  rw [if_pos (by unfold okRes; simp [refsLt])]
  simp
theorem call0_wp {f : MF} {Q : W → Sto → Prop} (ha : ws.all (refsLt 0) = true) (h : wp (f ws []) (fun w _ => refsLt 0 w = true ∧ Q w S) (fun c _ => E c S)) : wp (callK 0 f ws S) Q E := by
  cases e : f ws [] with
  | ok w S' => rw [e] at h; have h := wp_ok.mp h; rw [call0 ha e h.1]; exact wp_ok.mpr h.2
  | exc c S' => rw [e] at h; rw [call0_exc ha e]; exact wp_exc.mpr (by have h := wp_exc.mp h; exact h)
  | fail => rw [e] at h; exact (wp_fail.mp h).elim
/-- a def that knows the first k objects -/
theorem callK_wp {k : Nat} {f : MF} {Q : W → Sto → Prop} (hD : D.length = k) (hs : D.all (soOk k) = true) (ha : ws.all (refsLt k) = true)
    (h : wp (f ws D) (fun w S' => ∃ D' J, S' = D' ++ J ∧ D'.length = k ∧ D'.all (soOk k) = true ∧ refsLt k w = true ∧ Q w (D' ++ R)) (fun c S' => ∃ D' J, S' = D' ++ J ∧ D'.length = k ∧ D'.all (soOk k) = true ∧ E c (D' ++ R))) : wp (callK k f ws (D ++ R)) Q E := by
  have e0 : (D ++ R).take k = D := by rw [← hD]; simp
  have e1 : (D ++ R).drop k = R := by rw [← hD]; simp
  have hk : k ≤ (D ++ R).length := by rw [List.length_append]; omega
  unfold callK callAt
  rw [ha]
  simp only [if_true]
  rw [e0, if_pos ⟨ha, hk, hs⟩]
  cases e : f ws D with
  | ok w S' =>
    rw [e] at h
    obtain ⟨D', J, rfl, h1, h2, h3, h4⟩ := wp_ok.mp h
    have e2 : (D' ++ J).take k = D' := by rw [← h1]; simp
    rw [callRes_ok, e2, e1]
    · exact wp_ok.mpr h4
    · unfold okRes
      rw [e2, h3, h2]
      simp; omega
  | exc c S' =>
    rw [e] at h
    obtain ⟨D', J, rfl, h1, h2, h4⟩ := wp_exc.mp h
    have e2 : (D' ++ J).take k = D' := by rw [← h1]; simp
    show wp (if okRes k true .non (D' ++ J) = true then Out.exc c ((D' ++ J).take k ++ (D ++ R).drop k) else .fail) Q E
    rw [if_pos, e2, e1]
    · exact wp_exc.mpr h4
    · unfold okRes
      rw [e2, h2]
      simp [refsLt]; omega
  | fail => rw [e] at h; exact (wp_fail.mp h).elim
@[simp] theorem ev_mCall {k : Nat} {f : MF} {ms : Env → Sto → Out (List W)} : mCall k f ms env S = (ms env S).bind fun ws S1 => callK k f ws S1 := rfl
@[simp] theorem ev_mCallG {f : MF} {ms : Env → Sto → Out (List W)} : mCallG f ms env S = (ms env S).bind fun ws S1 => f ws S1 := rfl
@[simp] theorem ev_mCallKw {k n m : Nat} {f : MF} {ms mk : Env → Sto → Out (List W)} : mCallKw k n m f ms mk env S = (ms env S).bind fun ws S1 => (mk env S1).bind fun zs S2 => if ws.length = n ∧ zs.length = m then callK k f (ws ++ zs) S2 else .fail := rfl
/-! ### iterators -/
@[simp] theorem ev_iSeqM {m : Env → Sto → Out W} : iSeqM m env S = (m env S).bind anyIt := rfl
@[simp] theorem anyIt_str {s : List Nat} : anyIt (.str s) S = .ok (s.map fun c => W.str [c], none) S := rfl
@[simp] theorem anyIt_tup {xs : List W} : anyIt (.tup xs) S = .ok (xs, none) S := rfl
@[simp] theorem anyIt_lst {xs : List W} : anyIt (.lst xs) S = .ok (xs, none) S := rfl
@[simp] theorem anyIt_fro {xs : List W} : anyIt (.fro xs) S = .ok (xs, none) S := rfl
@[simp] theorem ev_iRevM {m : Env → Sto → Out W} : iRevM m env S = (m env S).bind revIt := rfl
theorem revIt_str {s : List Nat} (h : s.length ≤ LINE) : revIt (.str s) S = .ok ((s.map fun c => W.str [c]).reverse, none) S := if_pos h
def r1K (ws : List W) (S1 : Sto) : Out (List W × Option Nat) := match ws with
  | [.int j] => if -(2 ^ 62) ≤ j ∧ j < 2 ^ 62 then .ok ((List.range j.toNat).map fun i => W.int (0 + (i : Nat)), none) S1 else .fail
  | _ => .fail
@[simp] theorem ev_iR1 {ms : Env → Sto → Out (List W)} : iR1 ms env S = (ms env S).bind r1K := rfl
theorem r1K_ok {j : Int} (h1 : -(2 ^ 62) ≤ j) (h2 : j < 2 ^ 62) : r1K [.int j] S = .ok ((List.range j.toNat).map fun i => W.int (i : Nat), none) S := by
  show (if -(2 ^ 62) ≤ j ∧ j < 2 ^ 62 then Out.ok ((List.range j.toNat).map fun i => W.int (0 + (i : Nat)), none) S else .fail) = _
  rw [if_pos ⟨h1, h2⟩]
  simp
theorem r1K_nat {n : Nat} (h2 : n ≤ LINE) : r1K [.int (n : Nat)] S = .ok ((List.range n).map fun i => W.int (i : Nat), none) S := by
  have h : LINE = 16777216 := rfl
  rw [r1K_ok (by omega) (by omega)]
  simp
/-! ### values -/
theorem fLen_str {s : List Nat} (h : s.length ≤ LINE) : fLen [.str s] S = .ok (.val (.int s.length)) S := if_pos h
theorem fLen_seq (hn : ∀ s, x ≠ .str s) (h : seqOf S x = some ws) : fLen [x] S = .ok (.val (.int ws.length)) S := by
  cases x with
  | str s => exact absurd rfl (hn s)
  | _ => unfold fLen; simp only; rw [h]
@[simp] theorem fLen_lst : fLen [.lst ws] S = .ok (.val (.int ws.length)) S := rfl
@[simp] theorem fLen_tup : fLen [.tup ws] S = .ok (.val (.int ws.length)) S := rfl
@[simp] theorem fLen_fro : fLen [.fro ws] S = .ok (.val (.int ws.length)) S := rfl
theorem fIx_str {s : List Nat} {j : Int} {c : Nat} (h : s.length ≤ LINE) (e : atI s j = some c) : fIx (.str s) (.int j) S = .ok (.val (.str [c])) S := by
  show (if s.length ≤ LINE then (match atI s j with
    | some c => Out.ok (FW.val (.str [c])) S
    | none => .fail) else .fail) = _
  rw [if_pos h, e]
theorem fIx_seq {j : Int} (hn : ∀ s, x ≠ .str s) (h : seqOf S x = some ws) (e : atI ws j = some w) : fIx x (.int j) S = .ok (.val w) S := by
  cases x with
  | str s => exact absurd rfl (hn s)
  | _ => unfold fIx; simp only; rw [h]; simp only; rw [e]
theorem atI_nat {l : List α} {n : Nat} (h : n < l.length) : atI l (n : Int) = l[n]? := by
  unfold atI ixN
  simp [h]
theorem atI_last {l : List α} {a : α} : atI (l ++ [a]) (-1) = some a := by
  unfold atI ixN
  rw [if_neg (by omega), List.length_append, List.length_singleton, if_pos (by omega)]
  show (l ++ [a])[(-1 + ((l.length + 1 : Nat) : Int)).toNat]? = _
  have : (-1 + ((l.length + 1 : Nat) : Int)).toNat = l.length := by omega
  rw [this]
  simp
theorem fAdd_str {s t : List Nat} (h : s.length + t.length ≤ LINE) : fAdd (.str s) (.str t) S = .ok (.val (.str (s ++ t))) S := if_pos h
end
end L2.Mi

set_option Elab.async false
set_option linter.all false
set_option maxRecDepth 100000
set_option maxHeartbeats 2000000
/-! # Words in signs: plain Lean -/
namespace L2.Mi.Wd
def SG : List Nat := [97, 98, 99, 100, 65, 66, 67, 68]
def iv (c : Nat) : Nat := if 97 ≤ c then c - 32 else c + 32
theorem sg_all : ∀ c ∈ SG, iv c ∈ SG ∧ iv (iv c) = c ∧ iv c ≠ c := by decide
theorem iv_mem {c : Nat} (h : c ∈ SG) : iv c ∈ SG := (sg_all c h).1
theorem iv_iv {c : Nat} (h : c ∈ SG) : iv (iv c) = c := (sg_all c h).2.1
theorem iv_sym {a b : Nat} (ha : a ∈ SG) (h : a = iv b) (hb : b ∈ SG) : b = iv a := by rw [h, iv_iv hb]
def Word (s : List Nat) : Prop := ∀ c ∈ s, c ∈ SG
theorem Word.nil : Word [] := fun _ h => nomatch h
theorem Word.cons {c : Nat} {s : List Nat} (h : c ∈ SG) (t : Word s) : Word (c :: s) := fun d hd => by
  rcases List.mem_cons.mp hd with rfl | hd
  · exact h
  · exact t d hd
theorem Word.head {c : Nat} {s : List Nat} (h : Word (c :: s)) : c ∈ SG := h c List.mem_cons_self
theorem Word.tail {c : Nat} {s : List Nat} (h : Word (c :: s)) : Word s := fun d hd => h d (List.mem_cons_of_mem _ hd)
theorem Word.app {s t : List Nat} (h : Word s) (h' : Word t) : Word (s ++ t) := fun d hd => (List.mem_append.mp hd).elim (h d) (h' d)
theorem Word.left {s t : List Nat} (h : Word (s ++ t)) : Word s := fun d hd => h d (List.mem_append_left _ hd)
theorem Word.right {s t : List Nat} (h : Word (s ++ t)) : Word t := fun d hd => h d (List.mem_append_right _ hd)
theorem Word.rev {s : List Nat} (h : Word s) : Word s.reverse := fun d hd => h d (List.mem_reverse.mp hd)
theorem Word.take {s : List Nat} (h : Word s) (n : Nat) : Word (s.take n) := fun d hd => h d (List.mem_of_mem_take hd)
theorem Word.drop {s : List Nat} (h : Word s) (n : Nat) : Word (s.drop n) := fun d hd => h d (List.mem_of_mem_drop hd)
def invw (s : List Nat) : List Nat := (s.map iv).reverse
theorem Word.inv {s : List Nat} (h : Word s) : Word (invw s) := by
  refine Word.rev fun d hd => ?_
  obtain ⟨c, hc, rfl⟩ := List.mem_map.mp hd
  exact iv_mem (h c hc)
theorem invw_app (s t : List Nat) : invw (s ++ t) = invw t ++ invw s := by unfold invw; rw [List.map_append, List.reverse_append]
theorem invw_nil : invw [] = [] := rfl
theorem invw_one (c : Nat) : invw [c] = [iv c] := rfl
theorem invw_cons (c : Nat) (s : List Nat) : invw (c :: s) = invw s ++ [iv c] := by unfold invw; rw [List.map_cons, List.reverse_cons]
theorem invw_length (s : List Nat) : (invw s).length = s.length := by simp [invw]
theorem invw_invw {s : List Nat} (h : Word s) : invw (invw s) = s := by
  unfold invw
  rw [List.map_reverse, List.reverse_reverse, List.map_map]
  have : ∀ c ∈ s, (iv ∘ iv) c = id c := fun c hc => iv_iv (h c hc)
  rw [List.map_congr_left this, List.map_id]
/-! cancelling -/
def stp (st : List Nat) (c : Nat) : List Nat := match st with
  | [] => [c]
  | x :: r => if x = iv c then r else c :: x :: r
def run (s st : List Nat) : List Nat := s.foldl stp st
def red (s : List Nat) : List Nat := (run s []).reverse
theorem run_app (u v st : List Nat) : run (u ++ v) st = run v (run u st) := by unfold run; rw [List.foldl_append]
/-- no two neighbours undo one another -/
def NP (l : List Nat) : Prop := ∀ u a b v, l = u ++ a :: b :: v → b ≠ iv a
theorem NP.nil : NP [] := fun u a b v h => by cases u <;> cases h
theorem NP.one (c : Nat) : NP [c] := fun u a b v h => by
  cases u with
  | nil => cases h
  | cons x u => cases u <;> cases h
theorem NP.tail {c : Nat} {l : List Nat} (h : NP (c :: l)) : NP l := fun u a b v e => h (c :: u) a b v (by rw [e]; rfl)
theorem NP.fst {a b : Nat} {l : List Nat} (h : NP (a :: b :: l)) : b ≠ iv a := h [] a b l rfl
theorem NP.cons {a b : Nat} {l : List Nat} (h : b ≠ iv a) (t : NP (b :: l)) : NP (a :: b :: l) := fun u x y v e => by
  cases u with
  | nil => cases e; exact h
  | cons z u =>
    simp only [List.cons_append, List.cons.injEq] at e
    exact t u x y v e.2
theorem NP.rev {l : List Nat} (w : Word l) (h : NP l) : NP l.reverse := fun u a b v e z => by
  have e2 : l = v.reverse ++ b :: a :: u.reverse := by
    have := congrArg List.reverse e
    rw [List.reverse_reverse] at this
    rw [this]
    simp
  have ha : a ∈ SG := w a (by rw [e2]; simp)
  have hb : b ∈ SG := w b (by rw [e2]; simp)
  exact h _ b a _ e2 (iv_sym hb z ha)
theorem stp_word {st : List Nat} {c : Nat} (h : Word st) (hc : c ∈ SG) : Word (stp st c) := by
  cases st with
  | nil => exact Word.cons hc .nil
  | cons x r =>
    unfold stp
    simp only
    split
    · exact h.tail
    · exact .cons hc h
theorem run_word : ∀ {s st : List Nat}, Word s → Word st → Word (run s st)
  | [], _, _, h => h
  | c :: s, st, hs, h => (run_word (s := s) (st := stp st c) hs.tail (stp_word h hs.head) :)
theorem stp_np {st : List Nat} {c : Nat} (w : Word st) (hc : c ∈ SG) (h : NP st) : NP (stp st c) := by
  cases st with
  | nil => exact .one c
  | cons x r =>
    unfold stp
    simp only
    split
    · exact h.tail
    · rename_i e
      exact .cons e h
theorem run_np : ∀ {s st : List Nat}, Word s → Word st → NP st → NP (run s st)
  | [], _, _, _, h => h
  | c :: s, st, hs, w, h => (run_np (s := s) (st := stp st c) hs.tail (stp_word w hs.head) (stp_np w hs.head h) :)
theorem red_word {s : List Nat} (h : Word s) : Word (red s) := (run_word h .nil).rev
theorem red_np {s : List Nat} (h : Word s) : NP (red s) := (run_np h .nil .nil).rev (run_word h .nil)
theorem stp_undo {st : List Nat} {c : Nat} (w : Word st) (hc : c ∈ SG) (h : NP st) : stp (stp st c) (iv c) = st := by
  cases st with
  | nil =>
    show (if c = iv (iv c) then [] else _) = _
    rw [if_pos (iv_iv hc).symm]
  | cons x r =>
    show stp (if x = iv c then r else c :: x :: r) (iv c) = _
    by_cases e : x = iv c
    · rw [if_pos e]
      cases r with
      | nil => show [iv c] = [x]; rw [e]
      | cons y r =>
        show (if y = iv (iv c) then r else iv c :: y :: r) = _
        have := h.fst
        rw [if_neg fun z => this (by rw [z, iv_iv hc, e, iv_iv hc]), e]
    · rw [if_neg e]
      show (if c = iv (iv c) then x :: r else _) = _
      rw [if_pos (iv_iv hc).symm]
theorem red_del {u v : List Nat} {c : Nat} (hu : Word u) (hc : c ∈ SG) : red (u ++ c :: iv c :: v) = red (u ++ v) := by
  unfold red
  rw [run_app, run_app]
  show (run v (stp (stp (run u []) c) (iv c))).reverse = _
  rw [stp_undo (run_word hu .nil) hc (run_np hu .nil .nil)]
theorem red_del' {u v : List Nat} {c : Nat} (hu : Word u) (hc : c ∈ SG) : red (u ++ iv c :: c :: v) = red (u ++ v) := by
  have := red_del (u := u) (v := v) hu (iv_mem hc)
  rw [iv_iv hc] at this
  exact this
theorem run_id : ∀ {s st : List Nat}, Word s → NP s → (∀ x r c t, st = x :: r → s = c :: t → x ≠ iv c) → run s st = s.reverse ++ st
  | [], st, _, _, _ => rfl
  | c :: s, st, w, h, hh => by
    have e : stp st c = c :: st := by
      cases st with
      | nil => rfl
      | cons x r => show (if x = iv c then r else _) = _; rw [if_neg (hh x r c s rfl rfl)]
    show run s (stp st c) = _
    rw [e, run_id w.tail h.tail fun x r d t e1 e2 => by
      cases e1
      subst e2
      exact fun z => h.fst (iv_sym w.head z w.tail.head)]
    simp
theorem red_id {s : List Nat} (w : Word s) (h : NP s) : red s = s := by
  unfold red
  rw [run_id w h fun x r c t e => by cases e]
  simp
theorem red_red {s : List Nat} (w : Word s) : red (red s) = red s := red_id (red_word w) (red_np w)
theorem red_nil : red [] = [] := rfl
/-- the inverse of what is left -/
theorem inv_run : ∀ {w st : List Nat}, Word w → Word st → red (invw (st.reverse ++ w)) = red (invw (run w st).reverse)
  | [], st, _, _ => by rw [List.append_nil]; rfl
  | c :: w, st, hw, hs => by
    show _ = red (invw (run w (stp st c)).reverse)
    rw [← inv_run hw.tail (stp_word hs hw.head)]
    cases st with
    | nil => rfl
    | cons x r =>
      show _ = red (invw ((if x = iv c then r else c :: x :: r).reverse ++ w))
      by_cases e : x = iv c
      · rw [if_pos e, List.reverse_cons, invw_app, invw_app, invw_cons, invw_one, e, iv_iv hw.head, List.append_assoc]
        show red (invw w ++ iv c :: c :: invw r.reverse) = _
        rw [red_del' hw.tail.inv hw.head, ← invw_app, invw_app]
      · rw [if_neg e]
        simp
theorem NP.inv {s : List Nat} (w : Word s) (h : NP s) : NP (invw s) := by
  refine NP.rev (fun d hd => ?_) fun u a b v e z => ?_
  · obtain ⟨c, hc, rfl⟩ := List.mem_map.mp hd
    exact iv_mem (w c hc)
  · have e2 : (s.map iv).map iv = s := by
      rw [List.map_map]
      have : ∀ c ∈ s, (iv ∘ iv) c = id c := fun c hc => iv_iv (w c hc)
      rw [List.map_congr_left this, List.map_id]
    rw [e, List.map_append, List.map_cons, List.map_cons] at e2
    refine h _ _ _ _ e2.symm ?_
    rw [z]
theorem red_invw {s : List Nat} (w : Word s) : red (invw s) = invw (red s) := by
  have := inv_run (st := []) w .nil
  rw [List.reverse_nil, List.nil_append] at this
  rw [this]
  exact red_id (red_word w).inv ((red_np w).inv (red_word w))
theorem red_cancel : ∀ {s : List Nat}, Word s → ∀ v, red (s ++ invw s ++ v) = red v := by
  have key : ∀ t : List Nat, Word t → ∀ v, red (t.reverse ++ invw t.reverse ++ v) = red v := by
    intro t
    induction t with
    | nil => intro _ v; rfl
    | cons c t ih =>
      intro w v
      rw [List.reverse_cons, invw_app, invw_one]
      have : t.reverse ++ [c] ++ ([iv c] ++ invw t.reverse) ++ v = t.reverse ++ c :: iv c :: (invw t.reverse ++ v) := by simp
      rw [this, red_del w.tail.rev w.head, ← List.append_assoc]
      exact ih w.tail v
  intro s w v
  have := key s.reverse w.rev v
  rw [List.reverse_reverse] at this
  exact this
theorem red_mul_inv {s : List Nat} (w : Word s) : red (s ++ invw s) = [] := by
  have := red_cancel w []
  rw [List.append_nil] at this
  exact this
theorem red_inv_mul {s : List Nat} (w : Word s) : red (invw s ++ s) = [] := by
  have := red_mul_inv w.inv
  rw [invw_invw w] at this
  exact this
end L2.Mi.Wd

set_option Elab.async false
set_option linter.all false
set_option maxRecDepth 100000
set_option maxHeartbeats 2000000
/-! # Mirrors that many laws share: words -/
namespace L2.Mi.Lb
open PySem PySem.Spec PyProof.Rows L2 L2.Mi L2.Mi.Wd
def b__law_deck : Env → Sto → OutS :=
  sRet (mNew (mLst (mCons (mNew (mComp [1] (iSeqM (mVal (mSl (mVar 0) (mNoPart) (mPart (mC (.int 63)))))) (tName 1) (tYesM) (mVal (m2 fMod (mVal (mA fInt (mCons (mVar 1) (mNil)))) (mVal (m2 fPow (mC (.int 10)) (mC (.int 60)))))))) (mCons (mC (.int 0)) (mCons (mC (.int 5563)) (mNil))))))
def m__law_deck : MF := mfun 1 2 b__law_deck
def b__law_pick : Env → Sto → OutS :=
  sSeq (sSet 2 (mNew (m2 fIx (mVar 0) (mC (.int 0)))))
    (sSeq (sIf (mAnd (mTestF (m2 fLt (mVal (m2 fIx (mVar 0) (mC (.int 1)))) (mVal (m2 fPow (mC (.int 10)) (mC (.int 6)))))) (mTestF (m2 fNe (mVar 2) (mVal (mLst (mNil)))))) (sSeq (sSet 3 (mVal (mM tyLst (onLst fPopAt) (mVar 2) (mCons (mC (.int 0)) (mNil)))))
    (sIf (mTestF (m2 fGe (mVar 3) (mVal (m2 fPow (mC (.int 10)) (mC (.int 18)))))) (sAsg (mVar 3) (tSubL (mVar 0) (mC (.int 1)))) (sAsg (mVal (m2 fMod (mVal (mA fInt (mCons (mVal (m2 fAdd (mVal (m2 fAdd (mVal (m2 fMul (mVal (m2 fIx (mVar 0) (mC (.int 2)))) (mC (.int 69621)))) (mVal (m2 fMul (mVal (m2 fMod (mVal (mA fInt (mCons (mVar 3) (mNil)))) (mC (.int 2147483563)))) (mC (.int 40014)))))) (mC (.int 3)))) (mNil)))) (mC (.int 2147483563)))) (tSubL (mVar 0) (mC (.int 2)))))) (sSkip))
    (sSeq (sIf (mTestF (m2 fGe (mVal (m2 fIx (mVar 0) (mC (.int 1)))) (mVal (m2 fPow (mC (.int 10)) (mC (.int 6)))))) (sSeq (sSet 4 (mVal (m2 fMod (mVal (mA fInt (mCons (mVal (m2 fIx (mVar 0) (mC (.int 1)))) (mNil)))) (mVar 1))))
    (sSeq (sAsg (mVal (m2 fDiv (mVal (m2 fIx (mVar 0) (mC (.int 1)))) (mVar 1))) (tSubL (mVar 0) (mC (.int 1))))
    (sRet (mVar 4)))) (sSkip))
    (sSeq (sAsg (mVal (m2 fMod (mVal (mA fInt (mCons (mVal (m2 fAdd (mVal (m2 fMul (mVal (m2 fIx (mVar 0) (mC (.int 2)))) (mC (.int 48271)))) (mC (.int 11)))) (mNil)))) (mC (.int 2147483647)))) (tSubL (mVar 0) (mC (.int 2))))
    (sRet (mVal (m2 fMod (mVal (mA fInt (mCons (mVal (m2 fDiv (mVal (m2 fIx (mVar 0) (mC (.int 2)))) (mC (.int 53)))) (mNil)))) (mVar 1)))))))
def m__law_pick : MF := mfun 2 5 b__law_pick
def b__law_word : Env → Sto → OutS :=
  sSeq (sSet 3 (mVal (m2 fAdd (mVal (mSl (mC (.str [97, 98, 99, 100])) (mNoPart) (mPart (mVar 1)))) (mVal (mSl (mC (.str [65, 66, 67, 68])) (mNoPart) (mPart (mVar 1)))))))
    (sRet (mVal (mM tyStr fJoin (mC (.str [])) (mCons (mVal (mComp [4] (iR1 (mCons (mCall 2 m__law_pick (mCons (mVar 0) (mCons (mVal (m2 fAdd (mVar 2) (mC (.int 1)))) (mNil)))) (mNil))) (tName 4) (tYesM) (mVal (m2 fIx (mVar 3) (mCall 2 m__law_pick (mCons (mVar 0) (mCons (mVal (mA fLen (mCons (mVar 3) (mNil)))) (mNil)))))))) (mNil)))))
def m__law_word : MF := mfun 3 5 b__law_word
def b__law_undone : Env → Sto → OutS :=
  sRet (mVal (mM tyStr fJoin (mC (.str [])) (mCons (mVal (mComp [1] (iSeqM (mVal (m1 fRevX (mVar 0)))) (tName 1) (tYesM) (mVal (m2 fIx (mC (.str [97, 98, 99, 100, 65, 66, 67, 68])) (mVal (mM tyStr fSIndex (mC (.str [65, 66, 67, 68, 97, 98, 99, 100])) (mCons (mVar 1) (mNil)))))))) (mNil))))
def m__law_undone : MF := mfun 1 2 b__law_undone
def b_is_word_of : Env → Sto → OutS :=
  sRet (mAndV (mIsi .str (mVar 0)) (mAndV (mVal (m2 fLe (mVal (mA fLen (mCons (mVar 0) (mNil)))) (mVar 1))) (mVal (mA fAll (mCons (mVal (mComp [2] (iSeqM (mVar 0)) (tName 2) (tYesM) (mVal (m2 fIn (mVar 2) (mC (.str [97, 98, 99, 100, 65, 66, 67, 68])))))) (mNil))))))
def m_is_word_of : MF := mfun 2 3 b_is_word_of
def b_need_word : Env → Sto → OutS :=
  sIf (mNot (mTest (mCall 0 m_is_word_of (mCons (mVar 0) (mCons (mC (.int 60)) (mNil)))))) (sRaise "BadWord") (sSkip)
def m_need_word : MF := mfun 1 1 b_need_word
def b_inverse_sign : Env → Sto → OutS :=
  sRet (mVal (m2 fIx (mC (.str [97, 98, 99, 100, 65, 66, 67, 68])) (mVal (m2 fSub (mVal (mM tyStr fSIndex (mC (.str [97, 98, 99, 100, 65, 66, 67, 68])) (mCons (mVar 0) (mNil)))) (mC (.int 4))))))
def m_inverse_sign : MF := mfun 1 1 b_inverse_sign
def b_inverse_in : Env → Sto → OutS :=
  sRet (mVal (mM tyStr fJoin (mC (.str [])) (mCons (mVal (mComp [1] (iRevM (mVar 0)) (tName 1) (tYesM) (mCall 0 m_inverse_sign (mCons (mVar 1) (mNil))))) (mNil))))
def m_inverse_in : MF := mfun 1 2 b_inverse_in
def b_inverse : Env → Sto → OutS :=
  sSeq (sExpr (mCall 0 m_need_word (mCons (mVar 0) (mNil))))
    (sRet (mCall 0 m_inverse_in (mCons (mVar 0) (mNil))))
def m_inverse : MF := mfun 1 1 b_inverse
def b_reduced_in : Env → Sto → OutS :=
  sSeq (sSet 1 (mNew (mLst (mNil))))
    (sSeq (sFor (iSeqM (mVar 0)) (tName 2) (sIf (mAnd (mTestF (m2 fNe (mVar 1) (mVal (mLst (mNil))))) (mTestF (m2 fEq (mVal (m2 fIx (mVar 1) (mVal (m1 fNeg (mC (.int 1)))))) (mCall 0 m_inverse_sign (mCons (mVar 2) (mNil)))))) (sExpr (mVal (mM0 tyLst (onLst fPop) (mVar 1)))) (sExpr (mVal (mM tyLst (onLst fAppend) (mVar 1) (mCons (mVar 2) (mNil)))))))
    (sRet (mVal (mM tyStr fJoin (mC (.str [])) (mCons (mVar 1) (mNil))))))
def m_reduced_in : MF := mfun 1 3 b_reduced_in
def b_reduced : Env → Sto → OutS :=
  sSeq (sExpr (mCall 0 m_need_word (mCons (mVar 0) (mNil))))
    (sRet (mCall 0 m_reduced_in (mCons (mVar 0) (mNil))))
def m_reduced : MF := mfun 1 1 b_reduced
def b_is_reduced : Env → Sto → OutS :=
  sSeq (sExpr (mCall 0 m_need_word (mCons (mVar 0) (mNil))))
    (sRet (mVal (m2 fEq (mCall 0 m_reduced_in (mCons (mVar 0) (mNil))) (mVar 0))))
def m_is_reduced : MF := mfun 1 1 b_is_reduced
def b__law_same : Env → Sto → OutS :=
  sSeq (sSet 2 (mNew (mLst (mCons (mTup (mCons (mVar 0) (mCons (mVar 1) (mNil)))) (mNil)))))
    (sSeq (sWhile (mTestF (m2 fNe (mVar 2) (mVal (mLst (mNil))))) (sSeq (sAsg (mVal (mM0 tyLst (onLst fPop) (mVar 2))) (tTupT (tsCons (tName 3) (tsCons (tName 4) (tsNil))) 2))
    (sIf (mTest (mIsi .tup (mVar 4))) (sSeq (sIf (mOr (mNot (mTest (mIsi .tup (mVar 3)))) (mTestF (m2 fNe (mVal (mA fLen (mCons (mVar 3) (mNil)))) (mVal (mA fLen (mCons (mVar 4) (mNil))))))) (sRet (mC (.bl false))) (sSkip))
    (sExpr (mVal (mM tyLst (onLst fExtend) (mVar 2) (mCons (mVal (mComp [5] (iR1 (mCons (mVal (mA fLen (mCons (mVar 4) (mNil)))) (mNil))) (tName 5) (tYesM) (mTup (mCons (mVal (m2 fIx (mVar 3) (mVar 5))) (mCons (mVal (m2 fIx (mVar 4) (mVar 5))) (mNil)))))) (mNil)))))) (sIf (mTestF (m2 fIs (mVar 4) (mC .non))) (sIf (mTestF (m2 fIsNot (mVar 3) (mC .non))) (sRet (mC (.bl false))) (sSkip)) (sIf (mTest (mIsi .bl (mVar 4))) (sIf (mOr (mNot (mTest (mIsi .bl (mVar 3)))) (mTestF (m2 fNe (mVar 3) (mVar 4)))) (sRet (mC (.bl false))) (sSkip)) (sIf (mTest (mIsi .str (mVar 4))) (sIf (mOr (mNot (mTest (mIsi .str (mVar 3)))) (mTestF (m2 fNe (mVar 3) (mVar 4)))) (sRet (mC (.bl false))) (sSkip)) (sIf (mOr (mNot (mTest (mIsi .int (mVar 3)))) (mOr (mTest (mIsi .bl (mVar 3))) (mTestF (m2 fNe (mVar 3) (mVar 4))))) (sRet (mC (.bl false))) (sSkip))))))))
    (sRet (mC (.bl true))))
def m__law_same : MF := mfun 2 6 b__law_same
def b_is_word : Env → Sto → OutS :=
  sRet (mCall 0 m_is_word_of (mCons (mVar 0) (mCons (mC (.int 60)) (mNil))))
def m_is_word : MF := mfun 1 1 b_is_word
section
variable {S : Sto} {s t : List Nat} {c : Nat} {w : W}
theorem strsOf_map {α : Type} (f : α → List Nat) : ∀ l : List α, strsOf (l.map fun c => W.str (f c)) = some (l.map f)
  | [] => rfl
  | c :: l => by
    show (strsOf (l.map fun c => W.str (f c))).map (f c :: ·) = _
    rw [strsOf_map f l]
    rfl
theorem flat_signs (l : List Nat) : (l.map fun c => [c]).flatten = l := by
  induction l with
  | nil => rfl
  | cons c l ih => simp [ih]
theorem sum_signs (l : List Nat) : ((l.map fun c => [c]).map (·.length)).sum = l.length := by
  induction l with
  | nil => rfl
  | cons c l ih => simp at ih ⊢; omega
theorem fJoin_signs {x : W} {l : List Nat} (h : seqOf S x = some (l.map fun c => W.str [c])) (hl : l.length ≤ LINE) : fJoin (.str []) [x] S = .ok (.val (.str l)) S := by
  unfold fJoin
  simp only [h, strsOf_map (fun c => [c]) l, sum_signs, joinN_nil, flat_signs]
  rw [if_pos (by simpa using hl)]
@[simp] theorem tyStr_str {s : List Nat} : tyStr (.str s) S = true := rfl
theorem mfun_1 {N : Nat} {b : Env → Sto → OutS} : mfun 1 N b [w] S = outF (b (some w :: List.replicate (N - 1) none) S) := rfl
theorem mfun_2 {N : Nat} {b : Env → Sto → OutS} {x : W} : mfun 2 N b [w, x] S = outF (b (some w :: some x :: List.replicate (N - 2) none) S) := rfl
theorem mfun_3 {N : Nat} {b : Env → Sto → OutS} {x y : W} : mfun 3 N b [w, x, y] S = outF (b (some w :: some x :: some y :: List.replicate (N - 3) none) S) := rfl
@[simp] theorem outF_ret {w : W} : outF (.ret w S) = .ok w S := rfl
@[simp] theorem outF_next {e : Env} : outF (.next e S) = .ok .non S := rfl
@[simp] theorem outF_exc {c : Str} {e : Env} : outF (.exc c e S) = .exc c S := rfl
@[simp] theorem bindS_ok {α : Type} {a : α} {env : Env} {k : α → Sto → OutS} : (Out.ok a S).bindS env k = k a S := rfl
@[simp] theorem bindS_exc {α : Type} {c : Str} {env : Env} {k : α → Sto → OutS} : (Out.exc c S : Out α).bindS env k = .exc c env S := rfl
@[simp] theorem unlockS_none {ws : List W} : unlockS none ws S = S := rfl
@[simp] theorem lockS_none {ws : List W} : lockS none ws S = S := rfl
theorem e_inverse_sign (h : c ∈ SG) : m_inverse_sign [.str [c]] S = .ok (.str [iv c]) S := by
  simp [SG] at h
  rcases h with rfl | rfl | rfl | rfl | rfl | rfl | rfl | rfl <;> rfl
theorem c_inverse_sign (h : c ∈ SG) : callK 0 m_inverse_sign [.str [c]] S = .ok (.str [iv c]) S := call0 rfl (e_inverse_sign h) rfl
theorem e_inverse_in (h : Word s) (hl : s.length ≤ LINE) : m_inverse_in [.str s] S = .ok (.str (invw s)) S := by
  have e1 : ∀ env : Env, compL (tName 1) tYesM (mCall 0 m_inverse_sign (mCons (mVar 1) mNil)) [some (.str s), none] ((s.map fun c => W.str [c]).reverse) S = .ok ((invw s).map fun c => W.str [c]) S := fun _ => by
    have : (s.map fun c => W.str [c]).reverse = s.reverse.map fun c => W.str [c] := by rw [List.map_reverse]
    rw [this]
    refine (compL_map (f := fun w => match w with | .str [c] => .str [iv c] | w => w) _ fun w hw => ?_).trans ?_
    · obtain ⟨c, hc, rfl⟩ := List.mem_map.mp hw
      have hc := h c (List.mem_reverse.mp hc)
      show (Out.ok [W.str [c]] S).bind (fun ws S1 => callK 0 m_inverse_sign ws S1) = _
      exact c_inverse_sign hc
    · rw [List.map_map]
      unfold invw
      rw [← List.map_reverse, List.map_map]
      rfl
  show outF (b_inverse_in [some (.str s), none] S) = _
  unfold b_inverse_in
  simp only [ev_sRet, ev_mVal, ev_mM, ev_mC, ev_mCons, ev_mNil, ev_mComp, ev_iRevM, ev_mVar0, Out.bind_ok, revIt_str hl, wipeE, List.set_cons_succ, List.set_cons_zero, lockS_none, tyStr_str, if_true]
  rw [e1 []]
  have hl2 : ((invw s).map fun c => W.str [c]).length ≤ LINE := by rw [List.length_map, invw_length]; exact hl
  simp only [nox_ok, Out.bind_ok, cmK_ok hl2, unlockS_none, vK_new]
  rw [fJoin_signs (l := invw s) rfl (by rw [invw_length]; exact hl)]
  rfl
end
end L2.Mi.Lb

set_option Elab.async false
set_option linter.all false
set_option maxRecDepth 100000
set_option maxHeartbeats 2000000
/-! # Mirrors that many laws share: words, further -/
namespace L2.Mi.Lb
open PySem PySem.Spec PyProof.Rows L2 L2.Mi L2.Mi.Wd
section
variable {S : Sto} {s t : List Nat} {c : Nat} {w x y : W}
/-! ### equality -/
def okS (s : List Nat) : Bool := s.all (· < 0x110000)
theorem okD_str {s : List Nat} {n : Nat} (h : okS s = true) : okD n (.str s) = true := by cases n <;> exact h
theorem fEq_str (h : okS s = true) (h' : okS t = true) : fEq (.str s) (.str t) S = .ok (.val (.bl (s == t))) S := if_pos ⟨okD_str h, okD_str h'⟩
theorem fNe_str (h : okS s = true) (h' : okS t = true) : fNe (.str s) (.str t) S = .ok (.val (.bl (!(s == t)))) S := if_pos ⟨okD_str h, okD_str h'⟩
theorem okD_int {i : Int} {n : Nat} : okD n (.int i) = true := by cases n <;> rfl
theorem okD_bl {i : Bool} {n : Nat} : okD n (.bl i) = true := by cases n <;> rfl
theorem okD_non {n : Nat} : okD n .non = true := by cases n <;> rfl
@[simp] theorem fEq_ii {i j : Int} : fEq (.int i) (.int j) S = .ok (.val (.bl (i == j))) S := rfl
@[simp] theorem fNe_ii {i j : Int} : fNe (.int i) (.int j) S = .ok (.val (.bl (!(i == j)))) S := rfl
@[simp] theorem fEq_bb {i j : Bool} : fEq (.bl i) (.bl j) S = .ok (.val (.bl (i == j))) S := rfl
@[simp] theorem fNe_bb {i j : Bool} : fNe (.bl i) (.bl j) S = .ok (.val (.bl (!(i == j)))) S := rfl
theorem okDs_map {α : Type} {f : α → W} {n : Nat} : ∀ {l : List α}, (∀ a ∈ l, okD n (f a) = true) → okDs n (l.map f) = true
  | [], _ => by cases n <;> rfl
  | a :: l, h => by
    have e1 := h a List.mem_cons_self
    have e2 := okDs_map (l := l) fun b hb => h b (List.mem_cons_of_mem _ hb)
    show okDs n (f a :: l.map f) = true
    unfold okDs
    rw [e1, e2]; rfl
theorem sg_lt {c : Nat} (h : c ∈ SG) : c < 0x110000 := (by decide : ∀ c ∈ SG, c < 0x110000) c h
theorem Word.ok (h : Word s) : okS s = true := List.all_eq_true.mpr fun c hc => decide_eq_true (sg_lt (h c hc))
theorem okDs_signs {n : Nat} (h : okS s = true) : okDs n (s.map fun c => W.str [c]) = true := okDs_map fun c hc => okD_str (by
  have := List.all_eq_true.mp h c hc
  simp [okS] at this ⊢
  exact this)
theorem eqWs_nil {l : List W} : eqWs l [] = l.isEmpty := by cases l <;> rfl
/-! ### a list object against [] -/
theorem fNe_nil {xs : List W} (h : snap S x = .lst xs) (o : okDs 59 xs = true) : fNe x (.lst []) S = .ok (.val (.bl (!xs.isEmpty))) S := by
  unfold fNe
  rw [h]
  have : okD 60 (.lst xs) = true := o
  have h2 : snap S (.lst []) = .lst [] := rfl
  rw [h2, if_pos ⟨this, rfl⟩]
  have : eqW (.lst xs) (.lst []) = xs.isEmpty := by
    show eqWs xs [] = _
    exact eqWs_nil
  rw [this]
theorem fEq_nil {xs : List W} (h : snap S x = .lst xs) (o : okDs 59 xs = true) : fEq x (.lst []) S = .ok (.val (.bl xs.isEmpty)) S := by
  unfold fEq
  rw [h]
  have : okD 60 (.lst xs) = true := o
  have h2 : snap S (.lst []) = .lst [] := rfl
  rw [h2, if_pos ⟨this, rfl⟩]
  have : eqW (.lst xs) (.lst []) = xs.isEmpty := by
    show eqWs xs [] = _
    exact eqWs_nil
  rw [this]
/-! ### is_word_of -/
@[simp] theorem iK_str {T : Ty} {s : List Nat} : iK T (.str s) S = .ok (.bl (subTy .str T)) S := rfl
@[simp] theorem iK_int {T : Ty} {i : Int} : iK T (.int i) S = .ok (.bl (subTy .int T)) S := rfl
@[simp] theorem iK_bl {T : Ty} {b : Bool} : iK T (.bl b) S = .ok (.bl (subTy .bl T)) S := rfl
@[simp] theorem iK_non {T : Ty} : iK T .non S = .ok (.bl (subTy .non T)) S := rfl
@[simp] theorem iK_tup {T : Ty} {xs : List W} : iK T (.tup xs) S = .ok (.bl (subTy .tup T)) S := rfl
@[simp] theorem iK_lst {T : Ty} {xs : List W} : iK T (.lst xs) S = .ok (.bl (subTy .lst T)) S := rfl
theorem sub_ss : subTy .str .str = true := rfl
theorem blsOf_map {α : Type} (p : α → Bool) : ∀ l : List α, blsOf (l.map fun c => W.bl (p c)) = some (l.map p)
  | [] => rfl
  | c :: l => by
    show (blsOf (l.map fun c => W.bl (p c))).map (p c :: ·) = _
    rw [blsOf_map p l]
    rfl
theorem fAll_map {α : Type} (p : α → Bool) (l : List α) (h : lstOf S x = some (l.map fun c => W.bl (p c))) : fAll [x] S = .ok (.val (.bl (l.all p))) S := by
  unfold fAll
  simp only [h, blsOf_map]
  simp [List.all_map]
theorem fAny_map {α : Type} (p : α → Bool) (l : List α) (h : lstOf S x = some (l.map fun c => W.bl (p c))) : fAny [x] S = .ok (.val (.bl (l.any p))) S := by
  unfold fAny
  simp only [h, blsOf_map]
  simp [List.any_map]
def isW (s : List Nat) (n : Int) : Bool := decide ((s.length : Int) ≤ n) && s.all fun c => decide (c ∈ SG)
theorem isW_iff {n : Nat} : isW s n = true ↔ s.length ≤ n ∧ Word s := by
  unfold isW Word
  simp
theorem e_is_word_of {n : Int} (hl : s.length ≤ LINE) : m_is_word_of [.str s, .int n] S = .ok (.bl (isW s n)) S := by
  have e1 : compL (tName 2) tYesM (mVal (m2 fIn (mVar 2) (mC (.str [97, 98, 99, 100, 65, 66, 67, 68])))) [some (.str s), some (.int n), none] (s.map fun c => W.str [c]) S = .ok (s.map fun c => W.bl (decide (c ∈ SG))) S := by
    refine (compL_map (f := fun w => match w with | .str [c] => .bl (decide (c ∈ SG)) | w => w) _ fun w hw => ?_).trans ?_
    · obtain ⟨c, hc, rfl⟩ := List.mem_map.mp hw
      rfl
    · rw [List.map_map]
      rfl
  show outF (b_is_word_of [some (.str s), some (.int n), none] S) = _
  unfold b_is_word_of
  simp only [ev_sRet, ev_mAndV, ev_mIsi, ev_mVal, ev_m2, ev_mA, ev_mC, ev_mCons, ev_mNil, ev_mComp, ev_iSeqM, ev_mVar0, ev_mVarS, Out.bind_ok, anyIt_str, wipeE, List.set_cons_succ, List.set_cons_zero, lockS_none, fLen_str hl, vK_val, fLe_ii, iK_str, sub_ss, bK_bl, if_true]
  rw [e1]
  have hl2 : (s.map fun c => W.bl (decide (c ∈ SG))).length ≤ LINE := by rw [List.length_map]; exact hl
  simp only [nox_ok, Out.bind_ok, cmK_ok hl2, unlockS_none, vK_new, fAll_map (fun c => decide (c ∈ SG)) s (show lstOf S (.lst _) = some _ from rfl), vK_val]
  unfold isW
  by_cases h : (s.length : Int) ≤ n <;> simp [h]
theorem e_is_word_of_not {n : Int} {t : Ty} (h : tyW S x = some t) (ht : t ≠ .str) : m_is_word_of [x, .int n] S = .ok (.bl false) S := by
  show outF (b_is_word_of [some x, some (.int n), none] S) = _
  unfold b_is_word_of
  have : subTy t .str = false := by
    unfold subTy
    cases t <;> first | rfl | exact absurd rfl ht
  simp only [ev_sRet, ev_mAndV, ev_mIsi, ev_mVar0, Out.bind_ok, iK, h, this, bK_bl]
  rfl
/-- is_word_of of any value -/
def isWx (x : W) (n : Int) : Bool := match x with
  | .str s => isW s n
  | _ => false
/-- a value without live objects whose text, if it is one, is not too long -/
def plainV : W → Bool
  | .str s => decide (s.length ≤ LINE)
  | .ref _ => false
  | _ => true
theorem e_is_word_of_any {n : Int} (h : plainV x = true) : m_is_word_of [x, .int n] S = .ok (.bl (isWx x n)) S := by
  cases x with
  | str s => exact e_is_word_of (by simpa [plainV] using h)
  | ref i => cases h
  | non => exact e_is_word_of_not (t := .non) rfl (by decide)
  | bl b => exact e_is_word_of_not (t := .bl) rfl (by decide)
  | int b => exact e_is_word_of_not (t := .int) rfl (by decide)
  | tup b => exact e_is_word_of_not (t := .tup) rfl (by decide)
  | lst b => exact e_is_word_of_not (t := .lst) rfl (by decide)
  | fro b => exact e_is_word_of_not (t := .lst) rfl (by decide)
theorem refsLt_more : True := trivial
theorem e_is_word (h : plainV x = true) (hr : refsLt 0 x = true) : m_is_word [x] S = .ok (.bl (isWx x 60)) S := by
  show outF (b_is_word [some x] S) = _
  unfold b_is_word
  simp only [ev_sRet, ev_mCall, ev_mCons, ev_mVar0, ev_mC, ev_mNil, Out.bind_ok]
  rw [call0 (by simp [hr, refsLt]) (e_is_word_of_any h) rfl]
  rfl
theorem e_need_word (h : plainV x = true) (hr : refsLt 0 x = true) : m_need_word [x] S = if isWx x 60 = true then .ok .non S else .exc "BadWord" S := by
  show outF (b_need_word [some x] S) = _
  unfold b_need_word
  simp only [ev_sIf, ev_mNot, ev_mTest, ev_mCall, ev_mCons, ev_mVar0, ev_mC, ev_mNil, Out.bind_ok]
  rw [call0 (by simp [hr, refsLt]) (e_is_word_of_any h) rfl]
  cases isWx x 60 <;> rfl
theorem c_need_word (h : plainV x = true) (hr : refsLt 0 x = true) : callK 0 m_need_word [x] S = if isWx x 60 = true then .ok .non S else .exc "BadWord" S := by
  have e := e_need_word (S := []) h hr
  by_cases c : isWx x 60 = true
  · rw [if_pos c] at e ⊢
    exact call0 (by simp [hr]) e rfl
  · rw [if_neg c] at e ⊢
    exact call0_exc (by simp [hr]) e
theorem e_inverse (hs : isW s 60 = true) : m_inverse [.str s] S = .ok (.str (invw s)) S := by
  obtain ⟨h1, h2⟩ := isW_iff (n := 60) |>.mp hs
  have hl : s.length ≤ LINE := by have : LINE = 16777216 := rfl; omega
  show outF (b_inverse [some (.str s)] S) = _
  unfold b_inverse
  simp only [sSeq, ev_sExpr, ev_mCall, ev_mCons, ev_mVar0, ev_mNil, Out.bind_ok, c_need_word (x := .str s) (by simpa [plainV] using hl) rfl]
  rw [if_pos (show isWx (.str s) 60 = true from hs)]
  simp only [bindS_ok, ev_sRet, ev_mCall, ev_mCons, ev_mVar0, ev_mNil, Out.bind_ok]
  rw [call0 (by rfl) (e_inverse_in h2 hl) rfl]
  rfl
theorem e_inverse_bad (h : plainV x = true) (hr : refsLt 0 x = true) (hs : isWx x 60 = false) : m_inverse [x] S = .exc "BadWord" S := by
  show outF (b_inverse [some x] S) = _
  unfold b_inverse
  simp only [sSeq, ev_sExpr, ev_mCall, ev_mCons, ev_mVar0, ev_mNil, Out.bind_ok, c_need_word h hr]
  rw [hs]
  rfl
end
end L2.Mi.Lb

set_option Elab.async false
set_option linter.all false
set_option maxRecDepth 100000
set_option maxHeartbeats 2000000
/-! # Mirrors that many laws share: the deck -/
namespace L2.Mi.Lb
open PySem PySem.Spec PyProof.Rows L2 L2.Mi L2.Mi.Wd
section
variable {S : Sto} {s t : List Nat} {c : Nat} {w x y z : W} {E : Str → Sto → Prop} {Q : W → Sto → Prop}
theorem fMul_r {i k : Int} (h : smallI k = true) : fMul (.int i) (.int k) S = .ok (.val (.int (i * k))) S := fMul_ii (by unfold cMul; rw [h, Bool.or_true])
theorem pow6 : fPow (.int 10) (.int 6) S = .ok (.val (.int 1000000)) S := rfl
theorem pow18 : fPow (.int 10) (.int 18) S = .ok (.val (.int 1000000000000000000)) S := rfl
theorem pow60 : fPow (.int 10) (.int 60) S = .ok (.val (.int (10 ^ 60))) S := rfl
theorem pow4 : fPow (.int 10) (.int 4) S = .ok (.val (.int 10000)) S := rfl
/-! ### the deck -/
def dk (cs : List Int) (a b : Int) : Sto := [.lst (cs.map W.int), .lst [.ref 0, .int a, .int b]]
def Dk (D : Sto) : Prop := ∃ cs a b, cs.length ≤ 63 ∧ D = dk cs a b
theorem dk_ix0 {cs : List Int} {a b : Int} : fIx (.ref 1) (.int 0) (dk cs a b) = .ok (.val (.ref 0)) (dk cs a b) := rfl
theorem dk_ix1 {cs : List Int} {a b : Int} : fIx (.ref 1) (.int 1) (dk cs a b) = .ok (.val (.int a)) (dk cs a b) := rfl
theorem dk_ix2 {cs : List Int} {a b : Int} : fIx (.ref 1) (.int 2) (dk cs a b) = .ok (.val (.int b)) (dk cs a b) := rfl
theorem dk_set1 {cs : List Int} {a b i : Int} : fSetL (.ref 1) (.int 1) (.int i) (dk cs a b) = .ok () (dk cs i b) := rfl
theorem dk_set2 {cs : List Int} {a b i : Int} : fSetL (.ref 1) (.int 2) (.int i) (dk cs a b) = .ok () (dk cs a i) := rfl
theorem okDs_ints {n : Nat} (cs : List Int) : okDs n (cs.map W.int) = true := okDs_map fun _ _ => okD_int
theorem dk_ne {cs : List Int} {a b : Int} : fNe (.ref 0) (.lst []) (dk cs a b) = .ok (.val (.bl (!cs.isEmpty))) (dk cs a b) := by
  rw [fNe_nil (xs := cs.map W.int) rfl (okDs_ints cs)]
  cases cs <;> rfl
theorem dk_ty {cs : List Int} {a b : Int} : tyLst (.ref 0) (dk cs a b) = true := rfl
theorem dk_pop {c : Int} {cs : List Int} {a b : Int} (hl : (c :: cs).length ≤ 63) : onLst fPopAt (.ref 0) [.int 0] (dk (c :: cs) a b) = .ok (.val (.int c)) (dk cs a b) := by
  have e : ixN (W.int c :: cs.map W.int).length 0 = some 0 := by
    unfold ixN
    simp
  have e2 : fPopAt (dk (c :: cs) a b) (W.int c :: cs.map W.int) [.int 0] = some (cs.map W.int, .int c) := by
    show (if (W.int c :: cs.map W.int).length ≤ LINE then (match ixN (W.int c :: cs.map W.int).length 0 with
      | some k => (match (W.int c :: cs.map W.int)[k]? with
        | some y => some ((W.int c :: cs.map W.int).eraseIdx k, y)
        | none => none)
      | none => none) else none) = _
    rw [e, if_pos]
    · rfl
    · have : LINE = 16777216 := rfl
      simp at hl ⊢
      omega
  show (match fPopAt (dk (c :: cs) a b) (W.int c :: cs.map W.int) [.int 0] with
    | some (ys, w) => Out.ok (FW.val w) ((dk (c :: cs) a b).set 0 (.lst ys))
    | none => .fail) = _
  rw [e2]
  rfl
theorem w_pick {D : Sto} {n : Int} (h : Dk D) (h0 : 0 < n) (h1 : n < 1073741824) (hQ : ∀ (D' : Sto) (r : Nat), Dk D' → (r : Int) < n → Q (.int r) D') : wp (m__law_pick [.ref 1, .int n] D) Q E := by
  obtain ⟨cs, a, b, hl, rfl⟩ := h
  have fin : ∀ (i : Int) (cs : List Int) (a b : Int), cs.length ≤ 63 → Q (.int (i % n)) (dk cs a b) := fun i cs a b hl => by
    have h2 := Int.emod_nonneg i (Int.ne_of_gt h0)
    have := hQ (dk cs a b) (i % n).toNat ⟨cs, a, b, hl, rfl⟩ (by rw [Int.toNat_of_nonneg h2]; exact Int.emod_lt_of_pos i h0)
    rwa [Int.toNat_of_nonneg h2] at this
  have tail : ∀ (cs : List Int) (a b : Int) (o : Option W), cs.length ≤ 63 → wpS (sSeq (sIf (mTestF (m2 fGe (mVal (m2 fIx (mVar 0) (mC (.int 1)))) (mVal (m2 fPow (mC (.int 10)) (mC (.int 6)))))) (sSeq (sSet 4 (mVal (m2 fMod (mVal (mA fInt (mCons (mVal (m2 fIx (mVar 0) (mC (.int 1)))) (mNil)))) (mVar 1))))
    (sSeq (sAsg (mVal (m2 fDiv (mVal (m2 fIx (mVar 0) (mC (.int 1)))) (mVar 1))) (tSubL (mVar 0) (mC (.int 1))))
    (sRet (mVar 4)))) (sSkip))
    (sSeq (sAsg (mVal (m2 fMod (mVal (mA fInt (mCons (mVal (m2 fAdd (mVal (m2 fMul (mVal (m2 fIx (mVar 0) (mC (.int 2)))) (mC (.int 48271)))) (mC (.int 11)))) (mNil)))) (mC (.int 2147483647)))) (tSubL (mVar 0) (mC (.int 2))))
    (sRet (mVal (m2 fMod (mVal (mA fInt (mCons (mVal (m2 fDiv (mVal (m2 fIx (mVar 0) (mC (.int 2)))) (mC (.int 53)))) (mNil)))) (mVar 1))))) [some (.ref 1), some (.int n), some (.ref 0), o, none] (dk cs a b))
      ⟨fun _ S => Q .non S, Q, fun _ _ => False, fun _ _ => False, fun c _ S => E c S⟩ := fun cs a b o hl => by
    by_cases hc : 1000000 ≤ a
    · simp [dk_ix1, dk_ix2, pow6, fMul_r (k := 48271) rfl, dk_set1, dk_set2, h0, h1, hc, fin _ _ _ _ hl]
    · simp [dk_ix1, dk_ix2, pow6, fMul_r (k := 48271) rfl, dk_set1, dk_set2, h0, h1, hc, fin _ _ _ _ hl]
  show wp (outF (b__law_pick [some (.ref 1), some (.int n), none, none, none] (dk cs a b))) _ _
  refine wp_outF ?_
  unfold b__law_pick
  rw [wpS_seq]
  simp only [ev_sSet, ev_mNew, ev_m2, ev_mVar0, ev_mC, Out.bind_ok, dk_ix0, nK_val, bindS_ok, wpS_next, seq_nx, List.set_cons_succ, List.set_cons_zero]
  rw [wpS_seq]
  by_cases ha : a < 1000000
  · cases cs with
    | nil =>
      simp [-seq_nx, -wpS_seq, dk_ix1, pow6, ha, dk_ne]
      exact tail [] a b _ (by decide)
    | cons c cs =>
      have hl' : cs.length ≤ 63 := by simp at hl; omega
      by_cases hb : 1000000000000000000 ≤ c
      · simp [-seq_nx, -wpS_seq, dk_ix1, pow6, ha, dk_ne]
        rw [wpS_seq]
        simp [-seq_nx, -wpS_seq, dk_ty, dk_pop hl]
        show wpS (sIf _ _ _ _ _) _
        simp [-seq_nx, -wpS_seq, pow18, hb, dk_set1]
        exact tail cs c b _ hl'
      · simp [-seq_nx, -wpS_seq, dk_ix1, pow6, ha, dk_ne]
        rw [wpS_seq]
        simp [-seq_nx, -wpS_seq, dk_ty, dk_pop hl]
        show wpS (sIf _ _ _ _ _) _
        simp [-seq_nx, -wpS_seq, pow18, hb, dk_ix2, fMul_r (k := 69621) rfl, fMul_r (k := 40014) rfl, dk_set2]
        exact tail cs a _ _ hl'
  · simp [-seq_nx, -wpS_seq, dk_ix1, pow6, ha]
    exact tail cs a b _ hl
theorem refsLts_ints {k : Nat} : ∀ cs : List Int, refsLts k (cs.map W.int) = true
  | [] => rfl
  | c :: cs => by
    show (refsLt k (.int c) && refsLts k (cs.map W.int)) = true
    rw [refsLts_ints cs]; rfl
theorem Dk.len {D : Sto} (h : Dk D) : D.length = 2 := by obtain ⟨cs, a, b, _, rfl⟩ := h; rfl
theorem Dk.so {D : Sto} (h : Dk D) : D.all (soOk 2) = true := by
  obtain ⟨cs, a, b, _, rfl⟩ := h
  show (refsLts 2 (cs.map W.int) && (refsLts 2 [.ref 0, .int a, .int b] && true)) = true
  rw [refsLts_ints]; rfl
/-- a def of the deck, called: what it wants of the deck alone -/
theorem dk_call {f : MF} {ws : List W} {D R : Sto} (h : Dk D) (ha : ws.all (refsLt 2) = true)
    (hf : wp (f ws D) (fun w S' => ∃ D' J, S' = D' ++ J ∧ Dk D' ∧ refsLt 2 w = true ∧ Q w (D' ++ R)) fun _ _ => False) : wp (callK 2 f ws (D ++ R)) Q E :=
  callK_wp h.len h.so ha (wp_mono hf (fun w S' ⟨D', J, e, d, r, q⟩ => ⟨D', J, e, d.len, d.so, r, q⟩) fun _ _ z => z.elim)
theorem c_pick {D R : Sto} {n : Int} (h : Dk D) (h0 : 0 < n) (h1 : n < 1073741824) (hQ : ∀ (D' : Sto) (r : Nat), Dk D' → (r : Int) < n → Q (.int r) (D' ++ R)) : wp (callK 2 m__law_pick [.ref 1, .int n] (D ++ R)) Q E :=
  dk_call h rfl (w_pick h h0 h1 fun D' r d hr => ⟨D', [], by simp, d, rfl, hQ D' r d hr⟩)
theorem c_pick0 {D : Sto} {n : Int} (h : Dk D) (h0 : 0 < n) (h1 : n < 1073741824) (hQ : ∀ (D' : Sto) (r : Nat), Dk D' → (r : Int) < n → Q (.int r) D') : wp (callK 2 m__law_pick [.ref 1, .int n] D) Q E := by
  have := c_pick (R := []) (Q := Q) (E := E) h h0 h1 (by simpa using hQ)
  simpa using this
theorem e_deck (ns : List Int) (hl : ns.length ≤ 63) : ∃ cs : List Int, cs.length ≤ 63 ∧ m__law_deck [.fro (ns.map W.int)] [] = .ok (.ref 1) (dk cs 0 5563) := by
  refine ⟨ns.map (· % 10 ^ 60), by simpa using hl, ?_⟩
  have e0 : cutW (ns.map W.int) none (some 63) = ns.map W.int := by
    unfold cutW
    have h1 : HT.sIx (ns.map W.int).length 0 none = 0 := rfl
    have h2 : (ns.map W.int).length ≤ HT.sIx (ns.map W.int).length (ns.map W.int).length (some 63) := by
      rw [List.length_map]
      unfold HT.sIx
      simp
      omega
    rw [h1, List.drop_zero, Nat.sub_zero, List.take_of_length_le h2]
  have e1 : compL (tName 1) tYesM (mVal (m2 fMod (mVal (mA fInt (mCons (mVar 1) (mNil)))) (mVal (m2 fPow (mC (.int 10)) (mC (.int 60)))))) [some (.fro (ns.map W.int)), none] (ns.map W.int) [] = .ok ((ns.map (· % 10 ^ 60)).map W.int) [] := by
    refine (compL_map (f := fun w => match w with | .int i => .int (i % 10 ^ 60) | w => w) _ fun w hw => ?_).trans ?_
    · obtain ⟨c, hc, rfl⟩ := List.mem_map.mp hw
      simp [pow60]
    · rw [List.map_map, List.map_map]
      rfl
  show outF (b__law_deck [some (.fro (ns.map W.int)), none] []) = _
  unfold b__law_deck
  have e2 : fSl (.fro (ns.map W.int)) none (some 63) [] = .ok (.new (ns.map W.int)) [] := by
    show Out.ok (FW.new (cutW (ns.map W.int) none (some 63))) [] = _
    rw [e0]
  simp only [ev_sRet, ev_mNew, ev_mLst, ev_mCons, ev_mNil, ev_mC, ev_mComp, ev_iSeqM, ev_mVal, ev_mSl, ev_mVar0, ev_mNoPart, ev_mPart, Out.bind_ok, pK_int, e2, vK_new, anyIt_lst, wipeE, List.set_cons_succ, List.set_cons_zero, lockS_none]
  rw [e1]
  have hl2 : ((ns.map (· % 10 ^ 60)).map W.int).length ≤ LINE := by
    have : LINE = 16777216 := rfl
    simp; omega
  simp only [nox_ok, Out.bind_ok, cmK_ok hl2, unlockS_none, nK_new, lK3]
  rfl
end
end L2.Mi.Lb

set_option Elab.async false
set_option linter.all false
set_option maxRecDepth 100000
set_option maxHeartbeats 2000000
/-! # Mirrors that many laws share: reduced, words from the deck, same -/
namespace L2.Mi.Lb
open PySem PySem.Spec PyProof.Rows L2 L2.Mi L2.Mi.Wd
section
variable {S : Sto} {s t : List Nat} {c : Nat} {w x y z : W} {E : Str → Sto → Prop} {Q : W → Sto → Prop}
/-! ### word[::-1], each sign turned -/
theorem e_undone (h : Word s) (hl : s.length ≤ LINE) : m__law_undone [.str s] S = .ok (.str (invw s)) S := by
  have e1 : compL (tName 1) tYesM (mVal (m2 fIx (mC (.str [97, 98, 99, 100, 65, 66, 67, 68])) (mVal (mM tyStr fSIndex (mC (.str [65, 66, 67, 68, 97, 98, 99, 100])) (mCons (mVar 1) (mNil)))))) [some (.str s), none] (s.reverse.map fun c => W.str [c]) S = .ok ((invw s).map fun c => W.str [c]) S := by
    refine (compL_map (f := fun w => match w with | .str [c] => .str [iv c] | w => w) _ fun w hw => ?_).trans ?_
    · obtain ⟨c, hc, rfl⟩ := List.mem_map.mp hw
      have hc := h c (List.mem_reverse.mp hc)
      simp [SG] at hc
      rcases hc with rfl | rfl | rfl | rfl | rfl | rfl | rfl | rfl <;> rfl
    · rw [List.map_map]
      unfold invw
      rw [← List.map_reverse, List.map_map]
      rfl
  show outF (b__law_undone [some (.str s), none] S) = _
  unfold b__law_undone
  have e2 : fRevX (.str s) S = .ok (.val (.str s.reverse)) S := if_pos hl
  simp only [ev_sRet, ev_mVal, ev_mM, ev_mC, ev_mCons, ev_mNil, ev_mComp, ev_iSeqM, ev_m1, ev_mVar0, Out.bind_ok, e2, vK_val, anyIt_str, wipeE, List.set_cons_succ, List.set_cons_zero, lockS_none, tyStr_str, if_true]
  rw [e1]
  have hl2 : ((invw s).map fun c => W.str [c]).length ≤ LINE := by rw [List.length_map, invw_length]; exact hl
  simp only [nox_ok, Out.bind_ok, cmK_ok hl2, unlockS_none, vK_new]
  rw [fJoin_signs (l := invw s) rfl (by rw [invw_length]; exact hl)]
  rfl
/-! ### reduced -/
def skp (st : List Nat) : SO := .lst (st.reverse.map fun c => W.str [c])
theorem run_len : ∀ (u st : List Nat), (Wd.run u st).length ≤ u.length + st.length := fun u => by
  induction u with
  | nil => intro st; show st.length ≤ 0 + st.length; omega
  | cons a u ih =>
    intro st
    have e1 := ih (stp st a)
    have e2 : (stp st a).length ≤ st.length + 1 := by
      cases st with
      | nil => show 1 ≤ 1; omega
      | cons x r =>
        unfold stp
        simp only
        split
        · simp; omega
        · simp
    show (Wd.run u (stp st a)).length ≤ (u.length + 1) + st.length
    omega
theorem red_len (s : List Nat) : (red s).length ≤ s.length := by
  have := run_len s []
  unfold red
  simpa using this
theorem w_reduced_in (h : Word s) (hl : s.length ≤ LINE) (hQ : ∀ S', Q (.str (red s)) S') : wp (m_reduced_in [.str s] []) Q E := by
  show wp (outF (b_reduced_in [some (.str s), none, none] [])) _ _
  refine wp_outF ?_
  unfold b_reduced_in
  rw [wpS_seq]
  simp only [ev_sSet, ev_mNew, ev_mLst, ev_mNil, Out.bind_ok, lK0, nK_new, bindS_ok, wpS_next, seq_nx, List.set_cons_succ, List.set_cons_zero, List.length_nil, List.nil_append]
  rw [wpS_seq]
  refine for_inv (ws := s.map fun c => W.str [c]) (by simp) (fun i env S => i ≤ s.length ∧ ∃ o, env = [some (.str s), some (.ref 0), o] ∧ S = [skp (run (s.take i) [])]) ⟨Nat.zero_le _, none, rfl, rfl⟩ ?_ ?_
  · rintro i w env S hi ⟨hil, o, rfl, rfl⟩
    rw [List.getElem?_map, Option.map_eq_some_iff] at hi
    obtain ⟨c, hc, rfl⟩ := hi
    have hlt : i < s.length := (List.getElem?_eq_some_iff.mp hc).1
    have hcs : c ∈ SG := h c (List.mem_of_getElem? hc)
    have ht : s.take (i + 1) = s.take i ++ [c] := by
      rw [List.take_succ, hc]; rfl
    have hr : run (s.take (i + 1)) [] = stp (run (s.take i) []) c := by rw [ht, run_app]; rfl
    have hw : Word (run (s.take i) []) := run_word (h.take i) .nil
    have hlen' : (run (s.take i) []).length < LINE := by
      have := run_len (s.take i) []
      rw [List.length_take] at this
      simp at this
      omega
    rw [hr]
    generalize run (s.take i) [] = st at hw hlen'
    have hsn : snap [skp st] (.ref 0) = .lst (st.reverse.map fun c => W.str [c]) := rfl
    have hne : fNe (.ref 0) (.lst []) [skp st] = .ok (.val (.bl (!(st.reverse.map fun c => W.str [c]).isEmpty))) [skp st] := fNe_nil hsn (okDs_signs (Word.ok hw.rev))
    have happ : onLst fAppend (.ref 0) [.str [c]] [skp st] = .ok (.val .non) [skp (c :: st)] := by
      show (match (if (st.reverse.map fun c => W.str [c]).length < LINE then some ((st.reverse.map fun c => W.str [c]) ++ [W.str [c]], W.non) else none) with
        | some (ys, w) => Out.ok (FW.val w) [SO.lst ys]
        | none => .fail) = _
      rw [if_pos (by simpa using hlen')]
      unfold skp
      simp
    have hty : tyLst (.ref 0) [skp st] = true := rfl
    cases st with
    | nil =>
      simp [hne, happ, hty]
      exact ⟨hlt, rfl⟩
    | cons x r =>
      have hx : x ∈ SG := hw.head
      have hix : fIx (.ref 0) (.int (-1)) [skp (x :: r)] = .ok (.val (.str [x])) [skp (x :: r)] := by
        refine fIx_seq (fun s => by simp) (ws := ((x :: r).reverse.map fun c => W.str [c])) rfl ?_
        rw [List.reverse_cons, List.map_append]
        exact atI_last
      have hpop : onLst fPop (.ref 0) [] [skp (x :: r)] = .ok (.val (.str [x])) [skp r] := by
        show (match (match ((x :: r).reverse.map fun c => W.str [c])[((x :: r).reverse.map fun c => W.str [c]).length - 1]? with
            | some y => some (((x :: r).reverse.map fun c => W.str [c]).dropLast, y)
            | none => none) with
          | some (ys, w) => Out.ok (FW.val w) [SO.lst ys]
          | none => .fail) = _
        unfold skp
        simp
      have heq : fEq (.str [x]) (.str [iv c]) [skp (x :: r)] = .ok (.val (.bl ([x] == [iv c]))) [skp (x :: r)] := fEq_str (Word.ok (Word.cons hx .nil)) (Word.ok (Word.cons (iv_mem hcs) .nil))
      have hst : stp (x :: r) c = if x = iv c then r else c :: x :: r := rfl
      rw [hst]
      by_cases e : x = iv c
      · rw [if_pos e]
        subst e
        simp [hne, hix, c_inverse_sign hcs, heq, hpop, hty]
        exact hlt
      · rw [if_neg e]
        simp [hne, hix, c_inverse_sign hcs, heq, e, happ, hty]
        exact hlt
  · rintro env S ⟨hil, o, rfl, rfl⟩
    rw [List.length_map, List.take_length]
    simp
    have : fJoin (.str []) [.ref 0] [skp (run s [])] = .ok (.val (.str (red s))) [skp (run s [])] := fJoin_signs rfl (Nat.le_trans (red_len s) hl)
    rw [this]
    simpa using hQ _
theorem c_reduced_in (h : Word s) (hl : s.length ≤ LINE) : callK 0 m_reduced_in [.str s] S = .ok (.str (red s)) S := by
  obtain ⟨w, S', e, rfl⟩ := wp_eq (w_reduced_in (Q := fun w _ => w = .str (red s)) (E := fun _ _ => False) h hl fun _ => rfl)
  exact call0 rfl e rfl
theorem line60 {n : Nat} (h : n ≤ 60) : n ≤ LINE := by have : LINE = 16777216 := rfl; omega
theorem e_reduced (hs : isW s 60 = true) : m_reduced [.str s] S = .ok (.str (red s)) S := by
  obtain ⟨h1, h2⟩ := isW_iff (n := 60) |>.mp hs
  show outF (b_reduced [some (.str s)] S) = _
  unfold b_reduced
  simp only [sSeq, ev_sExpr, ev_mCall, ev_mCons, ev_mVar0, ev_mNil, Out.bind_ok, c_need_word (x := .str s) (by simpa [plainV] using line60 h1) rfl]
  rw [if_pos (show isWx (.str s) 60 = true from hs)]
  simp only [bindS_ok, ev_sRet, ev_mCall, ev_mCons, ev_mVar0, ev_mNil, Out.bind_ok, c_reduced_in h2 (line60 h1)]
  rfl
theorem e_reduced_bad (h : plainV x = true) (hr : refsLt 0 x = true) (hs : isWx x 60 = false) : m_reduced [x] S = .exc "BadWord" S := by
  show outF (b_reduced [some x] S) = _
  unfold b_reduced
  simp only [sSeq, ev_sExpr, ev_mCall, ev_mCons, ev_mVar0, ev_mNil, Out.bind_ok, c_need_word h hr]
  rw [hs]
  rfl
theorem e_is_reduced (hs : isW s 60 = true) : m_is_reduced [.str s] S = .ok (.bl (red s == s)) S := by
  obtain ⟨h1, h2⟩ := isW_iff (n := 60) |>.mp hs
  show outF (b_is_reduced [some (.str s)] S) = _
  unfold b_is_reduced
  simp only [sSeq, ev_sExpr, ev_mCall, ev_mCons, ev_mVar0, ev_mNil, Out.bind_ok, c_need_word (x := .str s) (by simpa [plainV] using line60 h1) rfl]
  rw [if_pos (show isWx (.str s) 60 = true from hs)]
  simp only [bindS_ok, ev_sRet, ev_mVal, ev_m2, ev_mCall, ev_mCons, ev_mVar0, ev_mNil, Out.bind_ok, c_reduced_in h2 (line60 h1), fEq_str (Word.ok (red_word h2)) (Word.ok h2)]
  rfl
theorem e_is_reduced_bad (h : plainV x = true) (hr : refsLt 0 x = true) (hs : isWx x 60 = false) : m_is_reduced [x] S = .exc "BadWord" S := by
  show outF (b_is_reduced [some x] S) = _
  unfold b_is_reduced
  simp only [sSeq, ev_sExpr, ev_mCall, ev_mCons, ev_mVar0, ev_mNil, Out.bind_ok, c_need_word h hr]
  rw [hs]
  rfl
theorem c_undone (h : Word s) (hl : s.length ≤ LINE) : callK 0 m__law_undone [.str s] S = .ok (.str (invw s)) S := call0 rfl (e_undone h hl) rfl
theorem c_inverse (hs : isW s 60 = true) : callK 0 m_inverse [.str s] S = .ok (.str (invw s)) S := call0 rfl (e_inverse hs) rfl
theorem c_reduced (hs : isW s 60 = true) : callK 0 m_reduced [.str s] S = .ok (.str (red s)) S := call0 rfl (e_reduced hs) rfl
theorem c_is_reduced (hs : isW s 60 = true) : callK 0 m_is_reduced [.str s] S = .ok (.bl (red s == s)) S := call0 rfl (e_is_reduced hs) rfl
theorem c_is_word (h : plainV x = true) (hr : refsLt 0 x = true) : callK 0 m_is_word [x] S = .ok (.bl (isWx x 60)) S := call0 (by simp [hr]) (e_is_word h hr) rfl
/-! ### a word from the deck -/
/-- the first letters and their inverses -/
def al (n : Nat) : List Nat := [97, 98, 99, 100].take n ++ [65, 66, 67, 68].take n
theorem al_sg {n c : Nat} (h : c ∈ al n) : c ∈ SG := by
  unfold al at h
  unfold SG
  rcases List.mem_append.mp h with h | h
  · have := List.mem_of_mem_take h
    simp at this ⊢; omega
  · have := List.mem_of_mem_take h
    simp at this ⊢; omega
theorem al_len {n : Nat} (h : n ≤ 4) : (al n).length = 2 * n := by
  unfold al
  simp
  omega
theorem cut_take {α : Type} (xs : List α) (n : Nat) : cutW xs none (some (n : Int)) = xs.take n := by
  unfold cutW
  rw [HT.sIx_none, HT.sIx_nat, List.drop_zero, Nat.sub_zero]
  by_cases h : n ≤ xs.length
  · rw [Nat.min_eq_left h]
  · rw [Nat.min_eq_right (by omega), List.take_of_length_le (Nat.le_refl _), List.take_of_length_le (by omega)]
theorem cut_drop {α : Type} (xs : List α) (n : Nat) : cutW xs (some (n : Int)) none = xs.drop n := by
  unfold cutW
  rw [HT.sIx_none, HT.sIx_nat]
  by_cases h : n ≤ xs.length
  · rw [Nat.min_eq_left h, List.take_of_length_le (by rw [List.length_drop]; exact Nat.le_refl _)]
  · rw [Nat.min_eq_right (by omega), List.drop_length, List.drop_of_length_le (by omega)]
    simp
theorem fSl_take {n : Nat} (hl : s.length ≤ LINE) : fSl (.str s) none (some (n : Int)) S = .ok (.val (.str (s.take n))) S := by
  show (if s.length ≤ LINE then Out.ok (FW.val (.str (cutW s none (some (n : Int))))) S else .fail) = _
  rw [if_pos hl, cut_take]
theorem fSl_drop {n : Nat} (hl : s.length ≤ LINE) : fSl (.str s) (some (n : Int)) none S = .ok (.val (.str (s.drop n))) S := by
  show (if s.length ≤ LINE then Out.ok (FW.val (.str (cutW s (some (n : Int)) none))) S else .fail) = _
  rw [if_pos hl, cut_drop]
theorem w_word {D : Sto} {L M : Nat} (h : Dk D) (hL : 1 ≤ L) (hL4 : L ≤ 4) (hM : M ≤ 1000) (hQ : ∀ (D' : Sto) (s : List Nat), Dk D' → s.length ≤ M → (∀ c ∈ s, c ∈ al L) → Q (.str s) D') : wp (m__law_word [.ref 1, .int L, .int M] D) Q E := by
  have hline : LINE = 16777216 := rfl
  show wp (outF (b__law_word [some (.ref 1), some (.int L), some (.int M), none, none] D)) _ _
  refine wp_outF ?_
  unfold b__law_word
  rw [wpS_seq]
  have l4 : [97, 98, 99, 100].length ≤ LINE := by rw [hline]; simp
  have l4' : [65, 66, 67, 68].length ≤ LINE := by rw [hline]; simp
  have hall : (al L).length = 2 * L := al_len hL4
  have hadd : fAdd (.str ([97, 98, 99, 100].take L)) (.str ([65, 66, 67, 68].take L)) D = .ok (.val (.str (al L))) D := fAdd_str (by simp; omega)
  simp only [ev_sSet, ev_mVal, ev_m2, ev_mSl, ev_mC, ev_mNoPart, ev_mPart, ev_mVarS, ev_mVar0, Out.bind_ok, pK_int, fSl_take (S := D) (n := L) (s := [97, 98, 99, 100]) l4, fSl_take (S := D) (n := L) (s := [65, 66, 67, 68]) l4', vK_val, hadd, bindS_ok, wpS_next, seq_nx, List.set_cons_succ, List.set_cons_zero]
  simp only [ev_sRet, ev_mVal, ev_mM, ev_mC, Out.bind_ok, tyStr_str, if_true, ev_mCons, ev_mNil, wpS_bindS, wp_bind]
  refine mComp_wp (fun k acc S => Dk S ∧ ∃ s : List Nat, acc = s.map (fun c => W.str [c]) ∧ s.length = k ∧ ∀ c ∈ s, c ∈ al L) ?_
  simp only [ev_iR1, ev_mCons, ev_mCall, ev_mNil, ev_mVar0, ev_mVarS, ev_mVal, ev_m2, ev_mC, Out.bind_ok, fAdd_ii, vK_val, wp_bind]
  refine c_pick0 h (by omega) (by omega) fun D' r hD' hr => ?_
  simp only [wp_ok]
  rw [r1K_nat (n := r) (by omega)]
  simp only [wp_ok, true_and]
  refine ⟨⟨hD', [], rfl, rfl, fun _ z => nomatch z⟩, ?_, ?_⟩
  · rintro w hw k acc S ⟨hS, s, rfl, hk, hs⟩
    obtain ⟨j, hj, rfl⟩ := List.mem_map.mp hw
    simp only [ev_tName, wp_ok, tYesM, if_true, wipeE, List.set_cons_succ, List.set_cons_zero, ev_mVal, ev_m2, ev_mVarS, ev_mVar0, Out.bind_ok, ev_mCall, ev_mCons, ev_mNil, ev_mA, fLen_str (S := S) (s := al L) (by omega), vK_val, wp_bind]
    refine c_pick0 hS (by omega) (by omega) fun D'' q hD'' hq => ?_
    have hq' : q < (al L).length := by omega
    have e : fIx (.str (al L)) (.int q) D'' = .ok (.val (.str [(al L)[q]])) D'' := fIx_str (by omega) (by rw [atI_nat hq']; simp [hq'])
    rw [e]
    simp only [wp_ok, vK_val]
    refine ⟨hD'', s ++ [(al L)[q]], by simp, by simp [hk], fun c hc => ?_⟩
    rcases List.mem_append.mp hc with hc | hc
    · exact hs c hc
    · rw [List.mem_singleton.mp hc]
      exact List.getElem_mem hq'
  · rintro ys S ⟨hS, s, rfl, hk, hs⟩
    have hlen : s.length = r := by simpa using hk
    refine ⟨by simp; omega, ?_⟩
    simp only [vK_new, wp_ok]
    rw [fJoin_signs (l := s) rfl (by omega)]
    simpa using hQ S s hS (by omega) hs
end
end L2.Mi.Lb

set_option Elab.async false
set_option linter.all false
set_option maxRecDepth 100000
set_option maxHeartbeats 2000000
/-! # Mirrors that many laws share: same -/
namespace L2.Mi.Lb
open PySem PySem.Spec PyProof.Rows L2 L2.Mi L2.Mi.Wd
mutual
theorem okD_mono : ∀ (x : W) {n m : Nat}, n ≤ m → okD n x = true → okD m x = true
  | .non, n, m, _, _ => okD_non
  | .bl _, n, m, _, _ => okD_bl
  | .int _, n, m, _, _ => okD_int
  | .str s, n, m, _, h => okD_str (by cases n <;> exact h)
  | .tup xs, n, m, hl, h => by
    cases n with
    | zero => cases h
    | succ n =>
      cases m with
      | zero => omega
      | succ m => exact (okDs_mono xs (n := n) (m := m) (by omega) h :)
  | .lst xs, n, m, hl, h => by
    cases n with
    | zero => cases h
    | succ n =>
      cases m with
      | zero => omega
      | succ m => exact (okDs_mono xs (n := n) (m := m) (by omega) h :)
  | .fro _, n, m, _, h => by cases n <;> cases h
  | .ref _, n, m, _, h => by cases n <;> cases h
theorem okDs_mono : ∀ (xs : List W) {n m : Nat}, n ≤ m → okDs n xs = true → okDs m xs = true
  | [], n, m, _, _ => by cases m <;> rfl
  | x :: xs, n, m, hl, h => by
    have h : (okD n x && okDs n xs) = true := by cases n <;> exact h
    rw [Bool.and_eq_true] at h
    have e1 := okD_mono x hl h.1
    have e2 := okDs_mono xs hl h.2
    have : okDs m (x :: xs) = (okD m x && okDs m xs) := by cases m <;> rfl
    rw [this, e1, e2]; rfl
end
mutual
def sz : W → Nat
  | .tup xs => szs xs + 1
  | .lst xs => szs xs + 1
  | _ => 1
def szs : List W → Nat
  | [] => 0
  | x :: xs => sz x + szs xs
end
mutual
/-- no list in it, no object -/
def noL : W → Bool
  | .tup xs => noLs xs
  | .lst _ => false
  | .fro _ => false
  | .ref _ => false
  | _ => true
def noLs : List W → Bool
  | [] => true
  | x :: xs => noL x && noLs xs
end
theorem szs_app : ∀ xs ys : List W, szs (xs ++ ys) = szs xs + szs ys
  | [], ys => by simp [szs]
  | x :: xs, ys => by
    show sz x + szs (xs ++ ys) = sz x + szs xs + szs ys
    rw [szs_app xs ys]; omega
theorem sz_pos (x : W) : 1 ≤ sz x := by cases x <;> simp [sz]
theorem len_szs : ∀ xs : List W, xs.length ≤ szs xs
  | [] => Nat.le_refl _
  | x :: xs => by
    have := len_szs xs
    have := sz_pos x
    show xs.length + 1 ≤ sz x + szs xs
    omega
theorem noLs_mem : ∀ {xs : List W} {a : W}, noLs xs = true → a ∈ xs → noL a = true
  | x :: xs, a, h, ha => by
    have h : (noL x && noLs xs) = true := h
    rw [Bool.and_eq_true] at h
    rcases List.mem_cons.mp ha with rfl | ha
    · exact h.1
    · exact noLs_mem h.2 ha
theorem okDs_mem {n : Nat} : ∀ {xs : List W} {a : W}, okDs n xs = true → a ∈ xs → okD n a = true
  | x :: xs, a, h, ha => by
    have h : (okD n x && okDs n xs) = true := by cases n <;> exact h
    rw [Bool.and_eq_true] at h
    rcases List.mem_cons.mp ha with rfl | ha
    · exact h.1
    · exact okDs_mem h.2 ha
theorem okDs_of {n : Nat} : ∀ {xs : List W}, (∀ a ∈ xs, okD n a = true) → okDs n xs = true
  | [], _ => by cases n <;> rfl
  | x :: xs, h => by
    have : okDs n (x :: xs) = (okD n x && okDs n xs) := by cases n <;> rfl
    rw [this, h x List.mem_cons_self, okDs_of fun a ha => h a (List.mem_cons_of_mem _ ha)]; rfl
def pr (a : W) : W := .tup [a, a]
theorem okD_pr {a : W} (h : okD 58 a = true) : okD 59 (pr a) = true := by
  show (okD 58 a && (okD 58 a && true)) = true
  rw [h]; rfl
mutual
theorem eqW_refl : ∀ (x : W), noL x = true → eqW x x = true
  | .non, _ => rfl
  | .bl b, _ => by show (b == b) = true; simp
  | .int b, _ => by show (b == b) = true; simp
  | .str b, _ => by show (b == b) = true; simp
  | .tup xs, h => (eqWs_refl xs h :)
theorem eqWs_refl : ∀ (xs : List W), noLs xs = true → eqWs xs xs = true
  | [], _ => rfl
  | x :: xs, h => by
    have h : (noL x && noLs xs) = true := h
    rw [Bool.and_eq_true] at h
    show (eqW x x && eqWs xs xs) = true
    rw [eqW_refl x h.1, eqWs_refl xs h.2]; rfl
end
section
variable {S : Sto} {s t : List Nat} {c : Nat} {w x y z : W} {E : Str → Sto → Prop} {Q : W → Sto → Prop}
theorem fNe_self (h : okD 60 x = true) (hn : noL x = true) : fNe x x S = .ok (.val (.bl false)) S := by
  have hs : snap S x = x := by cases x <;> first | rfl | cases hn
  unfold fNe
  rw [hs, if_pos ⟨h, h⟩, eqW_refl x hn]
  rfl
@[simp] theorem fIs_nn : fIs .non .non S = .ok (.val (.bl true)) S := rfl
@[simp] theorem fIs_bn {b : Bool} : fIs (.bl b) .non S = .ok (.val (.bl false)) S := rfl
@[simp] theorem fIs_in {b : Int} : fIs (.int b) .non S = .ok (.val (.bl false)) S := rfl
@[simp] theorem fIs_sn {b : List Nat} : fIs (.str b) .non S = .ok (.val (.bl false)) S := rfl
@[simp] theorem fIs_tn {b : List W} : fIs (.tup b) .non S = .ok (.val (.bl false)) S := rfl
@[simp] theorem fIs_bb {a b : Bool} : fIs (.bl a) (.bl b) S = .ok (.val (.bl (decide (a = b)))) S := rfl
@[simp] theorem fIsNot_nn : fIsNot .non .non S = .ok (.val (.bl false)) S := rfl
@[simp] theorem fIsNot_bn {b : Bool} : fIsNot (.bl b) .non S = .ok (.val (.bl true)) S := rfl
@[simp] theorem fIsNot_in {b : Int} : fIsNot (.int b) .non S = .ok (.val (.bl true)) S := rfl
@[simp] theorem fIsNot_sn {b : List Nat} : fIsNot (.str b) .non S = .ok (.val (.bl true)) S := rfl
@[simp] theorem fIsNot_tn {b : List W} : fIsNot (.tup b) .non S = .ok (.val (.bl true)) S := rfl
@[simp] theorem fIsNot_bb {a b : Bool} : fIsNot (.bl a) (.bl b) S = .ok (.val (.bl (!decide (a = b)))) S := rfl
theorem range_map {α β : Type} (xs : List α) (d : α) (g : α → β) : ((List.range xs.length).map fun k => g (xs.getD k d)) = xs.map g := by
  apply List.ext_getElem
  · simp
  · intro i h1 h2
    simp at h1 h2
    simp [h2]
theorem sub_self {T : Ty} : subTy T T = true := by cases T <;> rfl
theorem same_comp {xs : List W} : compL (tName 5) tYesM (mTup (mCons (mVal (m2 fIx (mVar 3) (mVar 5))) (mCons (mVal (m2 fIx (mVar 4) (mVar 5))) (mNil)))) [some x, some x, some (.ref 0), some (.tup xs), some (.tup xs), none] ((List.range xs.length).map fun i => W.int (i : Nat)) S = .ok (xs.map pr) S := by
  refine (compL_map (f := fun w => match w with | .int i => pr (xs.getD i.toNat .non) | w => w) _ fun w hw => ?_).trans ?_
  · obtain ⟨k, hk, rfl⟩ := List.mem_map.mp hw
    have hk := List.mem_range.mp hk
    have e : fIx (.tup xs) (.int (k : Nat)) S = .ok (.val xs[k]) S := fIx_seq (fun s => by simp) rfl (by rw [atI_nat hk]; simp [hk])
    simp only [ev_mTup, ev_mCons, ev_mVal, ev_m2, ev_mVarS, ev_mVar0, ev_mNil, List.set_cons_succ, List.set_cons_zero, Out.bind_ok, e, vK_val, tK2, pr, Int.toNat_natCast]
    simp [hk]
  · rw [List.map_map]
    exact congrArg (Out.ok · S) (range_map xs .non pr)
theorem same_mc {xs : List W} {o5 : Option W} (h : xs.length ≤ LINE) : mComp [5] (iR1 (mCons (mVal (mA fLen (mCons (mVar 4) (mNil)))) (mNil))) (tName 5) (tYesM) (mTup (mCons (mVal (m2 fIx (mVar 3) (mVar 5))) (mCons (mVal (m2 fIx (mVar 4) (mVar 5))) (mNil)))) [some x, some x, some (.ref 0), some (.tup xs), some (.tup xs), o5] S = .ok (.new (xs.map pr)) S := by
  have h1 : iR1 (mCons (mVal (mA fLen (mCons (mVar 4) (mNil)))) (mNil)) [some x, some x, some (.ref 0), some (.tup xs), some (.tup xs), o5] S = .ok ((List.range xs.length).map fun i => W.int (i : Nat), none) S := by
    have h2 : (mCons (mVal (mA fLen (mCons (mVar 4) (mNil)))) (mNil)) [some x, some x, some (.ref 0), some (.tup xs), some (.tup xs), o5] S = .ok [.int (xs.length : Nat)] S := by
      simp
    rw [ev_iR1, h2, Out.bind_ok, r1K_nat h]
  have h3 : wipeE [some x, some x, some (.ref 0), some (.tup xs), some (.tup xs), o5] [5] = [some x, some x, some (.ref 0), some (.tup xs), some (.tup xs), none] := rfl
  rw [ev_mComp, h1, h3, Out.bind_ok, lockS_none, same_comp, nox_ok, Out.bind_ok, cmK_ok (by rw [List.length_map]; exact h)]
  rfl
theorem same_ext {xs l : List W} (h : l.length + xs.length ≤ LINE) : onLst fExtend (.ref 0) [.lst (xs.map pr)] [.lst (l.map pr)] = .ok (.val .non) [.lst ((l ++ xs).map pr)] := by
  have e : fExtend [.lst (l.map pr)] (l.map pr) [.lst (xs.map pr)] = some (l.map pr ++ xs.map pr, .non) := by
    unfold fExtend
    simp only [lsxOf]
    rw [if_pos (by rw [List.length_map, List.length_map]; exact h)]
  unfold onLst
  simp only [List.getElem?_cons_zero]
  rw [e, List.map_append]
  rfl
theorem w_same (hn : noL x = true) (hd : okD 58 x = true) (hz : sz x ≤ 1000000) (hQ : ∀ S', Q (.bl true) S') : wp (m__law_same [x, x] []) Q E := by
  have hline : LINE = 16777216 := rfl
  show wp (outF (b__law_same [some x, some x, none, none, none, none] [])) _ _
  refine wp_outF ?_
  unfold b__law_same
  rw [wpS_seq]
  simp only [ev_sSet, ev_mNew, ev_mLst, ev_mCons, ev_mNil, ev_mTup, ev_mVar0, ev_mVarS, Out.bind_ok, tK2, lK1, nK_new, bindS_ok, wpS_next, seq_nx, List.set_cons_succ, List.set_cons_zero, List.length_nil, List.nil_append]
  rw [wpS_seq]
  refine while_inv (fun n env S => ∃ (l : List W) (o3 o4 o5 : Option W), (∀ a ∈ l, okD 58 a = true ∧ noL a = true) ∧ n = szs l ∧ szs l ≤ 1000000 ∧ env = [some x, some x, some (.ref 0), o3, o4, o5] ∧ S = [.lst (l.map pr)]) (sz x) (by have : FUEL = 1000000000000 := rfl; omega)
    ⟨[x], none, none, none, fun a ha => by rw [List.mem_singleton.mp ha]; exact ⟨hd, hn⟩, rfl, by show sz x + 0 ≤ 1000000; omega, rfl, rfl⟩ ?_
  rintro n env S ⟨l, o3, o4, o5, hl, rfl, hlz, rfl, rfl⟩
  have hne : fNe (.ref 0) (.lst []) [.lst (l.map pr)] = .ok (.val (.bl (!(l.map pr).isEmpty))) [.lst (l.map pr)] := fNe_nil rfl (okDs_map fun a ha => okD_pr (hl a ha).1)
  simp only [ev_mTestF, ev_m2, ev_mVarS, ev_mVar0, ev_mVal, ev_mLst, ev_mNil, Out.bind_ok, lK0, vK_new, hne, bKF_bl, wp_ok]
  rcases List.eq_nil_or_concat l with rfl | ⟨l, a, rfl⟩
  · simp [hQ]
  · have ha := hl a (by simp)
    have hl' : ∀ b ∈ l, okD 58 b = true ∧ noL b = true := fun b hb => hl b (by simp [hb])
    have hsz : szs (l.concat a) = szs l + sz a := by
      rw [List.concat_eq_append, szs_app]
      simp [szs]
    rw [if_pos (by simp)]
    rw [hsz] at hlz ⊢
    have hty : tyLst (.ref 0) [.lst ((l.concat a).map pr)] = true := rfl
    have hpop : onLst fPop (.ref 0) [] [.lst ((l.concat a).map pr)] = .ok (.val (pr a)) [.lst (l.map pr)] := by
      show (match (match ((l.concat a).map pr)[((l.concat a).map pr).length - 1]? with
          | some y => some (((l.concat a).map pr).dropLast, y)
          | none => none) with
        | some (ys, w) => Out.ok (FW.val w) [SO.lst ys]
        | none => .fail) = _
      simp
    rw [wpS_seq]
    simp only [ev_sAsg, ev_mVal, ev_mM0, ev_mVarS, ev_mVar0, Out.bind_ok, hty, if_true, hpop, vK_val, pr, ev_tTupT, List.length_cons, List.length_nil, ev_tsCons, ev_tName, ev_tsNil, bindS_ok, wpS_next, seq_nx, List.set_cons_succ, List.set_cons_zero]
    have fin : ∀ (o3 o4 o5 : Option W), ∃ m, m < szs l + sz a ∧ ∃ (l' : List W) (p3 p4 p5 : Option W), (∀ a ∈ l', okD 58 a = true ∧ noL a = true) ∧ m = szs l' ∧ szs l' ≤ 1000000 ∧ [some x, some x, some (.ref 0), o3, o4, o5] = [some x, some x, some (.ref 0), p3, p4, p5] ∧ ([.lst (l.map pr)] : Sto) = [.lst (l'.map pr)] := fun o3 o4 o5 =>
      ⟨szs l, by have := sz_pos a; omega, l, o3, o4, o5, hl', rfl, by omega, rfl, rfl⟩
    obtain ⟨hda, hna⟩ := ha
    have hself : ∀ S, fNe a a S = .ok (.val (.bl false)) S := fun S => fNe_self (okD_mono a (by omega) hda) hna
    cases a with
    | tup xs =>
      have hnx : noLs xs = true := hna
      have hdx : okDs 57 xs = true := hda
      have hxl : xs.length ≤ szs xs := len_szs xs
      have hsx : sz (.tup xs) = szs xs + 1 := rfl
      have hext := same_ext (xs := xs) (l := l) (by have := len_szs l; omega)
      have hcl : (xs.map pr).length ≤ LINE := by rw [List.length_map]; omega
      simp only [ev_sIf, ev_mTest, ev_mIsi, ev_mVarS, ev_mVar0, Out.bind_ok, iK_tup, sub_self, bK_bl, bindS_ok, if_true]
      rw [wpS_seq]
      have ht2 : tyLst (.ref 0) [.lst (l.map pr)] = true := rfl
      simp only [ev_sIf, ev_mOr, ev_mNot, ev_mTest, ev_mIsi, ev_mVarS, ev_mVar0, Out.bind_ok, iK_tup, sub_self, bK_bl, Bool.not_true, Bool.false_eq_true, if_false, ev_mTestF, ev_m2, ev_mVal, ev_mA, ev_mCons, ev_mNil, fLen_tup, vK_val, fNe_ii, BEq.rfl, bKF_bl, bindS_ok, ev_sSkip, wpS_next, seq_nx, ev_sExpr, ev_mM, ht2, if_true,
        same_mc (show xs.length ≤ LINE by omega), vK_new, hext]
      refine ⟨szs (l ++ xs), ?_, l ++ xs, _, _, _, fun b hb => ?_, rfl, ?_, rfl, by simp⟩
      · rw [szs_app, hsx]; omega
      · rcases List.mem_append.mp hb with hb | hb
        · exact hl' b hb
        · exact ⟨okD_mono b (by omega) (okDs_mem hdx hb), noLs_mem hnx hb⟩
      · rw [szs_app]; omega
    | lst xs => cases hna
    | fro xs => cases hna
    | ref xs => cases hna
    | non =>
      simp [subTy]
      simpa using fin none none none
    | bl b =>
      simp [subTy, hself]
      simpa using fin none none none
    | int b =>
      simp [subTy, hself]
      simpa using fin none none none
    | str b =>
      simp [subTy, hself]
      simpa using fin none none none
theorem c_same (hn : noL x = true) (hd : okD 58 x = true) (hz : sz x ≤ 1000000) : callK 0 m__law_same [x, x] S = .ok (.bl true) S := by
  obtain ⟨w, S', e, rfl⟩ := wp_eq (w_same (Q := fun w _ => w = .bl true) (E := fun _ _ => False) hn hd hz fun _ => rfl)
  refine call0 ?_ e rfl
  have key : ∀ x : W, noL x = true → refsLt 0 x = true := fun x => W.rec (motive_1 := fun x => noL x = true → refsLt 0 x = true) (motive_2 := fun xs => noLs xs = true → refsLts 0 xs = true) (fun _ => rfl) (fun _ _ => rfl) (fun _ _ => rfl) (fun _ _ => rfl) (fun xs ih h => ih h) (fun xs ih h => by cases h) (fun xs ih h => by cases h) (fun n h => by cases h) (fun _ => rfl)
    (fun x xs ih1 ih2 h => by
      have h : (noL x && noLs xs) = true := h
      rw [Bool.and_eq_true] at h
      show (refsLt 0 x && refsLts 0 xs) = true
      rw [ih1 h.1, ih2 h.2]; rfl) x
  simp [key x hn]
theorem c_same_str (h : okS s = true) : callK 0 m__law_same [.str s, .str s] S = .ok (.bl true) S := c_same rfl (okD_str h) (by show 1 ≤ 1000000; omega)
theorem c_same_bl {b : Bool} : callK 0 m__law_same [.bl b, .bl b] S = .ok (.bl true) S := c_same rfl okD_bl (by show 1 ≤ 1000000; omega)
theorem c_same_int {b : Int} : callK 0 m__law_same [.int b, .int b] S = .ok (.bl true) S := c_same rfl okD_int (by show 1 ≤ 1000000; omega)
end
end L2.Mi.Lb

set_option Elab.async false
set_option linter.all false
set_option maxRecDepth 100000
set_option maxHeartbeats 2000000
/-! # The engine, part U: more methods of lists -/
namespace L2.Mi
open PySem PySem.Spec PyProof.Rows
section
variable {X : Cx}
def rRemF : V → List V → Hp → VK → Prop := fun x vs H Q => ∃ (l : Addr) (xs : List V) (y : V) (j : Nat) (z : V), x = .ref l ∧ vs = [y] ∧ H l = some (.lst xs) ∧ flatV y = true ∧ xs.all flatV = true ∧ xs[j]? = some z ∧ eqV z y = true ∧
  (∀ (m : Nat) (z' : V), m < j → xs[m]? = some z' → eqV z' y = false) ∧ Q .non (upd H l (.lst (xs.eraseIdx j)))
theorem mt_removeF : MtR X "list.remove" rRemF := by
  intro pins s σ H x vs v us Q I rx rxs h
  obtain ⟨l, xs, y, j, z, rfl, rfl, hH, fy, fys, hz, hzj, hno, q⟩ := h
  cases rx
  cases rxs with
  | cons ry rt =>
    rename_i uy ut
    cases rt
    obtain ⟨zz, its, n, r, hl, e⟩ := I.lstM hH
    obtain ⟨u, hu, ru⟩ := r.get hz
    obtain ⟨hjl, hje⟩ := List.getElem?_eq_some_iff.mp hu
    have hvl := r.length
    have hj : j < its.toArray.size := by simpa using hjl
    refine call_meets PySem.F.slot_list_remove ⟨_, e, rfl⟩ PySem.F.entry_list_remove (PySem.F.args_list_remove_2 _ _)
      (SeqAt.list_removeAt l its.toArray n none #[] uy (eqU y) j hj ?_ ?_ (by rw [List.size_toArray]; omega)) ⟨e, fun u' hu' => mem_eqAt ry fy r fys u' (by simpa using hu'), ?_⟩
    · have e1 : its.toArray[j] = u := by simpa using hje
      rw [e1, eqU_of ru (flat_at fys hz)]
      exact hzj
    · intro m hm hmj
      have hml : m < its.length := by simpa using hm
      have hmy : m < xs.length := by omega
      have hy' : xs[m]? = some xs[m] := List.getElem?_eq_getElem hmy
      obtain ⟨u2, hu2, ru2⟩ := r.get hy'
      obtain ⟨_, hme⟩ := List.getElem?_eq_some_iff.mp hu2
      have e1 : its.toArray[m] = u2 := by simpa using hme
      rw [e1, eqU_of ru2 (flat_at fys hy')]
      exact hno m _ hmj hy'
    · have rr := r.eraseIdx j
      refine ⟨.non, _, I.lset (its' := its.eraseIdx j) (t' := s.toks) hH e ?_ rr ?_, rfl, q⟩
      · show its.toArray.eraseIdxIfInBounds j = (its.eraseIdx j).toArray
        rw [List.eraseIdxIfInBounds_toArray]
      · rw [List.length_eraseIdx]
        split <;> omega
def rCntF (K : PySem.W.Frag) : V → List V → Hp → VK → Prop := fun x vs H Q => ∃ (p : Addr) (xs : List V) (y : V), x = .ref p ∧ vs = [y] ∧ SqL K H p xs ∧ flatV y = true ∧ xs.all flatV = true ∧ Q (.int (xs.countP (fun z => eqV z y) : Nat)) H
theorem mt_countF : MtR X "list.count" (rCntF X.K) := by
  intro pins s σ H x vs v us Q I rx rxs h
  obtain ⟨p, xs, y, rfl, rfl, hs, fy, fys, q⟩ := h
  cases rx
  cases rxs with
  | cons ry rt =>
    rename_i uy ut
    cases rt
    obtain ⟨its, rv, ⟨⟨cls, dd, data, sl⟩, n, ho, hc, hdn, hd⟩, hlen⟩ := I.list hs
    simp only at hc hd
    subst hc hd
    refine call_meets PySem.F.slot_list_count ⟨_, ho, rfl⟩ PySem.F.entry_list_count (PySem.F.args_list_count_2 _ _)
      (SeqAt.list_countAt p its.toArray n dd sl uy (eqU y)) ⟨ho, fun u' hu' => mem_eqAt ry fy rv fys u' (by simpa using hu'), ?_⟩
    have ec : ∀ {xs : List V} {its : List Value}, Vals xs its → xs.all flatV = true → its.countP (eqU y) = xs.countP (fun z => eqV z y) := by
      intro xs its r f
      induction r with
      | nil => rfl
      | cons r1 rs ih =>
        rw [List.all_cons, Bool.and_eq_true] at f
        rw [List.countP_cons, List.countP_cons, ih f.2, eqU_of r1 f.1]
    refine ⟨.int (xs.countP (fun z => eqV z y) : Nat), H, I.tok _, ⟨s.toks, ?_⟩, q⟩
    show Value.int ((its.toArray.toList.countP (eqU y) : Nat) : Int) s.toks = Value.int ((xs.countP (fun z => eqV z y) : Nat) : Int) s.toks
    rw [List.toList_toArray, ec rv fys]
end
section
variable {K : PySem.W.Frag} {mg : Str → Option Value} {ρ : List Addr} {S : Sto} {B0 B : Ban} {H : Hp} {x : W} {v : V} {ws : List W} {vs : List V}
/-- the first place of an equal one -/
def fstI (y : W) (xs : List W) : Option Nat := if flatW y = true ∧ xs.all flatW = true ∧ xs.any (fun z => eqW z y) = true then some (xs.findIdx fun z => eqW z y) else none
theorem fst_rel {y : W} {u : V} {xs : List W} {us : List V} {j : Nat} (hy : Rel K ρ B H y u) (h : Rels K ρ B H xs us) (e : fstI y xs = some j) :
    flatV u = true ∧ us.all flatV = true ∧ (∃ z, us[j]? = some z ∧ eqV z u = true) ∧ ∀ (m : Nat) (z' : V), m < j → us[m]? = some z' → eqV z' u = false := by
  unfold fstI at e
  split at e
  · rename_i c
    cases e
    obtain ⟨c1, c2, c3⟩ := c
    have hlt : xs.findIdx (fun z => eqW z y) < xs.length := List.findIdx_lt_length.mpr (List.any_eq_true.mp c3)
    have hfl : ∀ (m : Nat) (z' : V), us[m]? = some z' → ∃ w, xs[m]? = some w ∧ eqV z' u = eqW w y := fun m z' hm => by
      have hml : m < xs.length := by rw [h.1]; exact (List.getElem?_eq_some_iff.mp hm).1
      refine ⟨xs[m], by simp [hml], ?_⟩
      exact eq_flat (h.2 m _ _ (by simp [hml]) hm) hy (List.all_eq_true.mp c2 _ (List.getElem_mem hml)) c1
    refine ⟨flat_rel hy c1, flat_rels h c2, ?_, fun m z' hm hz => ?_⟩
    · obtain ⟨z, hz, rz⟩ := h.get (i := xs.findIdx fun z => eqW z y) (w := xs[xs.findIdx fun z => eqW z y]) (by simp [hlt])
      refine ⟨z, hz, ?_⟩
      obtain ⟨w, hw, e⟩ := hfl _ _ hz
      rw [e]
      have : xs[xs.findIdx fun z => eqW z y]? = some xs[xs.findIdx fun z => eqW z y] := by simp [hlt]
      rw [this] at hw
      cases hw
      exact List.findIdx_getElem (p := fun z => eqW z y)
    · obtain ⟨w, hw, e⟩ := hfl _ _ hz
      rw [e]
      have hml : m < xs.length := (List.getElem?_eq_some_iff.mp hw).1
      have := List.not_of_lt_findIdx (p := fun z => eqW z y) hm
      have e3 : xs[m]? = some xs[m] := by simp [hml]
      rw [e3] at hw
      cases hw
      simpa using this
  · cases e
def fRemove : Sto → List W → List W → Option (List W × W) := fun _ xs as => match as with
  | [y] => match fstI y xs with
    | some j => some (xs.eraseIdx j, .non)
    | none => none
  | _ => none
theorem mf_remove : MtMi K mg (onLst fRemove) rRemF := fun {Xw B0 ρ S H x v as vs Q} r hx ha h => onLst_cases r hx h fun n a xs ys zs w h1 h2 h3 h4 h5 h6 h7 => by
  subst h1
  unfold fRemove at h6
  split at h6
  · rename_i y
    obtain ⟨u, rfl, hu⟩ := ha.one_inv
    split at h6
    · rename_i j ej
      cases h6
      obtain ⟨f1, f2, ⟨z, hz, hzj⟩, hno⟩ := fst_rel hu h5 ej
      exact ⟨a, ys, u, j, z, rfl, rfl, h4, f1, f2, hz, hzj, hno, gE_write r h2 h3 (h5.eraseIdx j) .non h7⟩
    · cases h6
  · cases h6
def fLIndex (x : W) (as : List W) (S : Sto) : Out FW := match as with
  | [y] => match lstOf S x with
    | some xs => match fstI y xs with
      | some j => .ok (.val (.int (j : Nat))) S
      | none => .fail
    | none => .fail
  | _ => .fail
theorem mf_lindex : MtMi K mg fLIndex (rIndex K) := fun {Xw B0 ρ S H x v as vs Q} r hx ha h => by
  unfold fLIndex at h
  split at h
  · rename_i y
    obtain ⟨u, rfl, hu⟩ := ha.one_inv
    cases e : lstOf S x with
    | none => rw [e] at h; exact h.elim
    | some xs =>
      rw [e] at h
      simp only at h
      cases ej : fstI y xs with
      | none => rw [ej] at h; exact h.elim
      | some j =>
        rw [ej] at h
        obtain ⟨a, us, rfl, k1, k2⟩ := r.lst hx e
        obtain ⟨f1, f2, ⟨z, hz, hzj⟩, hno⟩ := fst_rel hu k2 ej
        exact ⟨a, us, u, j, z, rfl, rfl, k1, f1, f2, hz, hzj, hno, gE_here r h (.int _)⟩
  · exact h.elim
def fLCount (x : W) (as : List W) (S : Sto) : Out FW := match as with
  | [y] => match lstOf S x with
    | some xs => if flatW y = true ∧ xs.all flatW = true then .ok (.val (.int (xs.countP (fun z => eqW z y) : Nat))) S else .fail
    | none => .fail
  | _ => .fail
theorem countP_flat {y : W} {u : V} (hy : Rel K ρ B H y u) (fy : flatW y = true) : ∀ {xs : List W} {us : List V}, Rels K ρ B H xs us → xs.all flatW = true → us.countP (fun z => eqV z u) = xs.countP (fun z => eqW z y)
  | [], us, h, _ => by rw [h.nil_inv]; rfl
  | x :: xs, us, h, f => by
    obtain ⟨v, vs, rfl, h1, h2⟩ := h.cons_inv
    rw [List.all_cons, Bool.and_eq_true] at f
    rw [List.countP_cons, List.countP_cons, countP_flat hy fy h2 f.2, eq_flat h1 hy f.1 fy]
theorem mf_lcount : MtMi K mg fLCount (rCntF K) := fun {Xw B0 ρ S H x v as vs Q} r hx ha h => by
  unfold fLCount at h
  split at h
  · rename_i y
    obtain ⟨u, rfl, hu⟩ := ha.one_inv
    cases e : lstOf S x with
    | none => rw [e] at h; exact h.elim
    | some xs =>
      rw [e] at h
      simp only at h
      split at h
      · rename_i c
        obtain ⟨a, us, rfl, k1, k2⟩ := r.lst hx e
        refine ⟨a, us, u, rfl, rfl, k1, flat_rel hu c.1, flat_rels k2 c.2, ?_⟩
        rw [countP_flat hu c.1 k2 c.2]
        exact gE_here r h (.int _)
      · exact h.elim
  · exact h.elim
/-! ### sum, max, min of a list of ints -/
def intsOf : List W → Option (List Int)
  | [] => some []
  | .int b :: ws => (intsOf ws).map (b :: ·)
  | _ => none
theorem ints_rel : ∀ {ws : List W} {vs : List V} {bs : List Int}, Rels K ρ B H ws vs → intsOf ws = some bs → vs = bs.map V.int
  | [], vs, bs, h, e => by cases e; rw [h.nil_inv]; rfl
  | .int b :: ws, vs, bs, h, e => by
    obtain ⟨v, us, rfl, h1, h2⟩ := h.cons_inv
    unfold intsOf at e
    cases q : intsOf ws with
    | none => rw [q] at e; cases e
    | some cs => rw [q] at e; cases e; rw [h1.int_inv, ints_rel h2 q]; rfl
  | .non :: _, _, _, _, e => by cases e
  | .bl _ :: _, _, _, _, e => by cases e
  | .str _ :: _, _, _, _, e => by cases e
  | .tup _ :: _, _, _, _, e => by cases e
  | .lst _ :: _, _, _, _, e => by cases e
  | .fro _ :: _, _, _, _, e => by cases e
  | .ref _ :: _, _, _, _, e => by cases e
def fSum (as : List W) (S : Sto) : Out FW := match as with
  | [x] => match lstOf S x with
    | some ws => match intsOf ws with
      | some ns => .ok (.val (.int ns.sum)) S
      | none => .fail
    | none => .fail
  | _ => .fail
theorem cf_sum : CaM K mg fSum (rSum K) := fun {Xw B0 ρ S H ws vs Q} r hx h => by
  unfold fSum at h
  split at h
  · rename_i x
    obtain ⟨v, rfl, hv⟩ := hx.one_inv
    cases e : lstOf S x with
    | none => rw [e] at h; exact h.elim
    | some ys =>
      rw [e] at h
      simp only at h
      cases e2 : intsOf ys with
      | none => rw [e2] at h; exact h.elim
      | some bs =>
        rw [e2] at h
        obtain ⟨a, us, rfl, h1, h2⟩ := r.lst hv e
        have := ints_rel h2 e2
        subst this
        exact ⟨a, bs, rfl, h1, gE_here r h (.int _)⟩
  · exact h.elim
def maxI : List Int → Option Int
  | [] => none
  | a :: r => some (r.foldl (fun m y => if y > m then y else m) a)
def minI : List Int → Option Int
  | [] => none
  | a :: r => some (r.foldl (fun m y => if y < m then y else m) a)
def fEnd (g : List Int → Option Int) (as : List W) (S : Sto) : Out FW := match as with
  | [x] => match lstOf S x with
    | some ws => match intsOf ws with
      | some ns => match g ns with
        | some m => .ok (.val (.int m)) S
        | none => .fail
      | none => .fail
    | none => .fail
  | _ => .fail
theorem maxI_is : ∀ {ns : List Int} {m M : Int}, m ∈ ns → (∀ y, y ∈ ns → y ≤ m) → maxI ns = some M → M = m
  | a :: r, m, M, hm, hmax, e => by
    cases e
    have key : ∀ (r : List Int) (a : Int), a ≤ r.foldl (fun m y => if y > m then y else m) a ∧ (∀ y ∈ r, y ≤ r.foldl (fun m y => if y > m then y else m) a) ∧ (r.foldl (fun m y => if y > m then y else m) a = a ∨ r.foldl (fun m y => if y > m then y else m) a ∈ r) := by
      intro r
      induction r with
      | nil => intro a; simp
      | cons b r ih =>
        intro a
        by_cases hb : b > a
        · obtain ⟨h1, h2, h3⟩ := ih b
          simp only [List.foldl_cons, if_pos hb]
          refine ⟨by omega, fun y hy => ?_, ?_⟩
          · rcases List.mem_cons.mp hy with rfl | hy
            · exact h1
            · exact h2 y hy
          · rcases h3 with h3 | h3
            · exact .inr (List.mem_cons.mpr (.inl h3))
            · exact .inr (List.mem_cons_of_mem _ h3)
        · obtain ⟨h1, h2, h3⟩ := ih a
          simp only [List.foldl_cons, if_neg hb]
          refine ⟨h1, fun y hy => ?_, ?_⟩
          · rcases List.mem_cons.mp hy with rfl | hy
            · omega
            · exact h2 y hy
          · rcases h3 with h3 | h3
            · exact .inl h3
            · exact .inr (List.mem_cons_of_mem _ h3)
    obtain ⟨h1, h2, h3⟩ := key r a
    have h4 : r.foldl (fun m y => if y > m then y else m) a ∈ a :: r := h3.elim (fun h => by rw [h]; exact List.mem_cons_self) (List.mem_cons_of_mem _)
    have h5 := hmax _ h4
    have h6 : m ≤ r.foldl (fun m y => if y > m then y else m) a := by
      rcases List.mem_cons.mp hm with rfl | hm
      · exact h1
      · exact h2 m hm
    omega
theorem minI_is : ∀ {ns : List Int} {m M : Int}, m ∈ ns → (∀ y, y ∈ ns → m ≤ y) → minI ns = some M → M = m
  | a :: r, m, M, hm, hmin, e => by
    cases e
    have key : ∀ (r : List Int) (a : Int), r.foldl (fun m y => if y < m then y else m) a ≤ a ∧ (∀ y ∈ r, r.foldl (fun m y => if y < m then y else m) a ≤ y) ∧ (r.foldl (fun m y => if y < m then y else m) a = a ∨ r.foldl (fun m y => if y < m then y else m) a ∈ r) := by
      intro r
      induction r with
      | nil => intro a; simp
      | cons b r ih =>
        intro a
        by_cases hb : b < a
        · obtain ⟨h1, h2, h3⟩ := ih b
          simp only [List.foldl_cons, if_pos hb]
          refine ⟨by omega, fun y hy => ?_, ?_⟩
          · rcases List.mem_cons.mp hy with rfl | hy
            · exact h1
            · exact h2 y hy
          · rcases h3 with h3 | h3
            · exact .inr (List.mem_cons.mpr (.inl h3))
            · exact .inr (List.mem_cons_of_mem _ h3)
        · obtain ⟨h1, h2, h3⟩ := ih a
          simp only [List.foldl_cons, if_neg hb]
          refine ⟨h1, fun y hy => ?_, ?_⟩
          · rcases List.mem_cons.mp hy with rfl | hy
            · omega
            · exact h2 y hy
          · rcases h3 with h3 | h3
            · exact .inl h3
            · exact .inr (List.mem_cons_of_mem _ h3)
    obtain ⟨h1, h2, h3⟩ := key r a
    have h4 : r.foldl (fun m y => if y < m then y else m) a ∈ a :: r := h3.elim (fun h => by rw [h]; exact List.mem_cons_self) (List.mem_cons_of_mem _)
    have h5 := hmin _ h4
    have h6 : r.foldl (fun m y => if y < m then y else m) a ≤ m := by
      rcases List.mem_cons.mp hm with rfl | hm
      · exact h1
      · exact h2 m hm
    omega
theorem cf_max : CaM K mg (fEnd maxI) (rMax K) := fun {Xw B0 ρ S H ws vs Q} r hx h => by
  unfold fEnd at h
  split at h
  · rename_i x
    obtain ⟨v, rfl, hv⟩ := hx.one_inv
    cases e : lstOf S x with
    | none => rw [e] at h; exact h.elim
    | some ys =>
      rw [e] at h
      simp only at h
      cases e2 : intsOf ys with
      | none => rw [e2] at h; exact h.elim
      | some bs =>
        rw [e2] at h
        simp only at h
        cases e3 : maxI bs with
        | none => rw [e3] at h; exact h.elim
        | some M =>
          rw [e3] at h
          obtain ⟨a, us, rfl, h1, h2⟩ := r.lst hv e
          have := ints_rel h2 e2
          subst this
          refine ⟨a, bs, rfl, h1, by cases bs with
            | nil => cases e3
            | cons _ _ => simp, fun m hm hmax => ?_⟩
          rw [← maxI_is hm hmax e3]
          exact gE_here r h (.int _)
  · exact h.elim
theorem cf_min : CaM K mg (fEnd minI) (rMin K) := fun {Xw B0 ρ S H ws vs Q} r hx h => by
  unfold fEnd at h
  split at h
  · rename_i x
    obtain ⟨v, rfl, hv⟩ := hx.one_inv
    cases e : lstOf S x with
    | none => rw [e] at h; exact h.elim
    | some ys =>
      rw [e] at h
      simp only at h
      cases e2 : intsOf ys with
      | none => rw [e2] at h; exact h.elim
      | some bs =>
        rw [e2] at h
        simp only at h
        cases e3 : minI bs with
        | none => rw [e3] at h; exact h.elim
        | some M =>
          rw [e3] at h
          obtain ⟨a, us, rfl, h1, h2⟩ := r.lst hv e
          have := ints_rel h2 e2
          subst this
          refine ⟨a, bs, rfl, h1, by cases bs with
            | nil => cases e3
            | cons _ _ => simp, fun m hm hmin => ?_⟩
          rw [← minI_is hm hmin e3]
          exact gE_here r h (.int _)
  · exact h.elim
end
end L2.Mi

set_option Elab.async false
set_option linter.all false
set_option maxRecDepth 100000
set_option maxHeartbeats 2000000
/-! # The engine, part V: several clauses, keywords in another order, list(range(..)), defs that call themselves -/
namespace L2.Mi
open PySem PySem.Spec PyProof.Rows
section
variable {X : Cx} {Wx : WX}
/-! ### list(range(..)), tuple(range(..)) -/
def rgW (a b : Int) : List W := (List.range (b - a).toNat).map fun i => W.int (a + (i : Nat))
def rgOk (a b : Int) : Bool := decide (-(2 ^ 62) ≤ a) && decide (a < 2 ^ 62) && decide (-(2 ^ 62) ≤ b) && decide (b < 2 ^ 62) && decide ((b - a).toNat ≤ 2 ^ 24)
theorem rgOk_is {a b : Int} (h : rgOk a b = true) : RgOk a b := by
  unfold rgOk at h
  simp only [Bool.and_eq_true, decide_eq_true_eq] at h
  exact ⟨h.1.1.1.1, h.1.1.1.2, h.1.1.2, h.1.2, h.2⟩
theorem rels_rg {K : PySem.W.Frag} {ρ : List Addr} {B : Ban} {H : Hp} {a b : Int} : Rels K ρ B H (rgW a b) (rgV a b) := by
  unfold rgW rgV
  generalize List.range (b - a).toNat = l
  induction l with
  | nil => exact .nil
  | cons i l ih => exact .cons (.int _) ih
def mListRg1 (m : Env → Sto → Out W) : Env → Sto → Out FW := fun env S => (m env S).bind fun x S1 => match x with
  | .int n => if rgOk 0 n = true then .ok (.new (rgW 0 n)) S1 else .fail
  | _ => .fail
def mListRg2 (ma mb : Env → Sto → Out W) : Env → Sto → Out FW := fun env S => (ma env S).bind fun x S1 => (mb env S1).bind fun y S2 => match x, y with
  | .int i, .int j => if rgOk i j = true then .ok (.new (rgW i j)) S2 else .fail
  | _, _ => .fail
def mTupRg1 (m : Env → Sto → Out W) : Env → Sto → Out W := fun env S => (m env S).bind fun x S1 => match x with
  | .int n => if rgOk 0 n = true then .ok (.tup (rgW 0 n)) S1 else .fail
  | _ => .fail
def mTupRg2 (ma mb : Env → Sto → Out W) : Env → Sto → Out W := fun env S => (ma env S).bind fun x S1 => (mb env S1).bind fun y S2 => match x, y with
  | .int i, .int j => if rgOk i j = true then .ok (.tup (rgW i j)) S2 else .fail
  | _, _ => .fail
variable {a b : Expr} {p p' pos pos' : Pos} {ma mb : Env → Sto → Out W}
theorem me_listRg1 (hc : X.calm = true) (hg : Gl X "list") (hm : X.mg "list" = none) (hg2 : Gl X "range") (hm2 : X.mg "range" = none) (ha : PE X a (TEm X.K X.mg Wx ma)) (h1 : starEach [a] X.env = (false, eval a X.env) :: starEach [] X.env := by rfl)
    (h2 : starEach [.Call (.Name "range" p') [a] [] pos'] X.env = (false, eval (.Call (.Name "range" p') [a] [] pos') X.env) :: starEach [] X.env := by rfl) : PE X (.Call (.Name "list" p) [.Call (.Name "range" p') [a] [] pos'] [] pos) (TFm X.K X.mg Wx (mListRg1 ma)) :=
  pe_imp (pe_listRg hc hg hm (prg_1 hg2 hm2 ha h1) h2) fun σ H Q ⟨B0, ρ, env, S, r, er, h⟩ => ⟨B0, ρ, env, S, r, er, h.bindE lat_gF fun x S1 ρ1 H1 v e1 r1 q1 h1 => by
    split at h1
    · rename_i n
      split at h1
      · rename_i c
        rw [q1.int_inv]
        exact ⟨n, rfl, rgOk_is c, fun q hq => gN_made r1 h1 hq rels_rg⟩
      · exact h1.elim
    · exact h1.elim⟩
theorem me_listRg2 (hc : X.calm = true) (hg : Gl X "list") (hm : X.mg "list" = none) (hg2 : Gl X "range") (hm2 : X.mg "range" = none) (ha : PE X a (TEm X.K X.mg Wx ma)) (hb : PE X b (TEm X.K X.mg Wx mb)) (h1 : starEach [a, b] X.env = (false, eval a X.env) :: starEach [b] X.env := by rfl) (h1' : starEach [b] X.env = (false, eval b X.env) :: starEach [] X.env := by rfl)
    (h1'' : (backTo pos' (starEach [b] X.env)).any (·.1) = false := by rfl)
    (h2 : starEach [.Call (.Name "range" p') [a, b] [] pos'] X.env = (false, eval (.Call (.Name "range" p') [a, b] [] pos') X.env) :: starEach [] X.env := by rfl) : PE X (.Call (.Name "list" p) [.Call (.Name "range" p') [a, b] [] pos'] [] pos) (TFm X.K X.mg Wx (mListRg2 ma mb)) :=
  pe_imp (pe_listRg hc hg hm (prg_2 hg2 hm2 ha hb h1 h1' h1'') h2) fun σ H Q ⟨B0, ρ, env, S, r, er, h⟩ => ⟨B0, ρ, env, S, r, er, h.bindE lat_gF fun x S1 ρ1 H1 v e1 r1 q1 h1 =>
    ⟨B0, ρ1, env, S1, r1, er.ext r e1, h1.bindE lat_gF fun y S2 ρ2 H2 u e2 r2 q2 h2 => by
      split at h2
      · rename_i i j
        split at h2
        · rename_i c
          rw [(q1.ext r1 e2).int_inv, q2.int_inv]
          exact ⟨i, j, rfl, rfl, rgOk_is c, fun q hq => gN_made r2 h2 hq rels_rg⟩
        · exact h2.elim
      · exact h2.elim⟩⟩
theorem me_tupRg1 (hc : X.calm = true) (hg : Gl X "tuple") (hm : X.mg "tuple" = none) (hg2 : Gl X "range") (hm2 : X.mg "range" = none) (ha : PE X a (TEm X.K X.mg Wx ma)) (h1 : starEach [a] X.env = (false, eval a X.env) :: starEach [] X.env := by rfl)
    (h2 : starEach [.Call (.Name "range" p') [a] [] pos'] X.env = (false, eval (.Call (.Name "range" p') [a] [] pos') X.env) :: starEach [] X.env := by rfl) : PE X (.Call (.Name "tuple" p) [.Call (.Name "range" p') [a] [] pos'] [] pos) (TEm X.K X.mg Wx (mTupRg1 ma)) :=
  pe_imp (pe_tupRg hc hg hm (prg_1 hg2 hm2 ha h1) h2) fun σ H Q ⟨B0, ρ, env, S, r, er, h⟩ => ⟨B0, ρ, env, S, r, er, h.bindE lat_gE fun x S1 ρ1 H1 v e1 r1 q1 h1 => by
    split at h1
    · rename_i n
      split at h1
      · rename_i c
        rw [q1.int_inv]
        exact ⟨n, rfl, rgOk_is c, fun q hq => gE_tup r1 h1 hq rels_rg⟩
      · exact h1.elim
    · exact h1.elim⟩
theorem me_tupRg2 (hc : X.calm = true) (hg : Gl X "tuple") (hm : X.mg "tuple" = none) (hg2 : Gl X "range") (hm2 : X.mg "range" = none) (ha : PE X a (TEm X.K X.mg Wx ma)) (hb : PE X b (TEm X.K X.mg Wx mb)) (h1 : starEach [a, b] X.env = (false, eval a X.env) :: starEach [b] X.env := by rfl) (h1' : starEach [b] X.env = (false, eval b X.env) :: starEach [] X.env := by rfl)
    (h1'' : (backTo pos' (starEach [b] X.env)).any (·.1) = false := by rfl)
    (h2 : starEach [.Call (.Name "range" p') [a, b] [] pos'] X.env = (false, eval (.Call (.Name "range" p') [a, b] [] pos') X.env) :: starEach [] X.env := by rfl) : PE X (.Call (.Name "tuple" p) [.Call (.Name "range" p') [a, b] [] pos'] [] pos) (TEm X.K X.mg Wx (mTupRg2 ma mb)) :=
  pe_imp (pe_tupRg hc hg hm (prg_2 hg2 hm2 ha hb h1 h1' h1'') h2) fun σ H Q ⟨B0, ρ, env, S, r, er, h⟩ => ⟨B0, ρ, env, S, r, er, h.bindE lat_gE fun x S1 ρ1 H1 v e1 r1 q1 h1 =>
    ⟨B0, ρ1, env, S1, r1, er.ext r e1, h1.bindE lat_gE fun y S2 ρ2 H2 u e2 r2 q2 h2 => by
      split at h2
      · rename_i i j
        split at h2
        · rename_i c
          rw [(q1.ext r1 e2).int_inv, q2.int_inv]
          exact ⟨i, j, rfl, rfl, rgOk_is c, fun q hq => gE_tup r2 h2 hq rels_rg⟩
        · exact h2.elim
      · exact h2.elim⟩⟩
/-! ### several clauses -/
inductive TkM (K : PySem.W.Frag) (mg : Str → Option Value) (c : Str) : List Str → Option Nat → Prop
  | nil : TkM K mg c [] none
  | here {y : Str} {ys : List Str} : XF K mg c y true → TkM K mg c (y :: ys) (some 0)
  | next {y : Str} {ys : List Str} {n : Nat} : XF K mg c y false → TkM K mg c ys (some n) → TkM K mg c (y :: ys) (some (n + 1))
  | off {y : Str} {ys : List Str} : XF K mg c y false → TkM K mg c ys none → TkM K mg c (y :: ys) none
inductive CP (mg : Str → Option Value) : List Value → List Str → Prop
  | nil : CP mg [] []
  | cons {C : Addr} {cs : List Value} {y : Str} {ys : List Str} : mg y = some (.ref C) → CP mg cs ys → CP mg (.ref C :: cs) (y :: ys)
theorem TkM.takes {K : PySem.W.Frag} {mg : Str → Option Value} {c : Str} {D : Addr} (hD : mg c = some (.ref D)) : ∀ {ys : List Str} {o : Option Nat} {cs : List Value}, TkM K mg c ys o → CP mg cs ys → Takes1 K (.ref D) cs o
  | _, _, _, .nil, .nil => .nil
  | _, _, _, .here h, .cons hC _ => by
    obtain ⟨C1, C2, e1, e2, e3⟩ := h
    rw [hD] at e1; cases e1
    rw [hC] at e2; cases e2
    exact .here e3
  | _, _, _, .next h t, .cons hC r => by
    obtain ⟨C1, C2, e1, e2, e3⟩ := h
    rw [hD] at e1; cases e1
    rw [hC] at e2; cases e2
    exact .next e3 (t.takes hD r)
  | _, _, _, .off h t, .cons hC r => by
    obtain ⟨C1, C2, e1, e2, e3⟩ := h
    rw [hD] at e1; cases e1
    rw [hC] at e2; cases e2
    exact .off e3 (t.takes hD r)
def TkMs (K : PySem.W.Frag) (mg : Str → Option Value) (ys : List Str) (l : List (Str × Option Nat)) : Prop := ∀ p ∈ l, TkM K mg p.1 ys p.2
theorem TkMs.nil {K : PySem.W.Frag} {mg : Str → Option Value} {ys : List Str} : TkMs K mg ys [] := fun _ h => nomatch h
theorem TkMs.cons {K : PySem.W.Frag} {mg : Str → Option Value} {ys : List Str} {c : Str} {o : Option Nat} {l : List (Str × Option Nat)} (h : TkM K mg c ys o) (t : TkMs K mg ys l) : TkMs K mg ys ((c, o) :: l) := fun p hp => by
  rcases List.mem_cons.mp hp with rfl | hp
  · exact h
  · exact t p hp
inductive HdM (X : Cx) : List ExceptHandler → List Str → List (Env → Sto → OutS) → Prop
  | nil : HdM X [] [] []
  | cons {y : Str} {sb : Env → Sto → OutS} {b₀ : Stmt} {suite : List Stmt} {np pos' : Pos} {hds : List ExceptHandler} {ys : List Str} {bs : List (Env → Sto → OutS)} (hg : Gl X y) (E : EF X.K X.mg y) (hdb : (y == ("__debug__" : Str)) = false)
      (hsu : ∀ (a : Addr) (pn : List (Addr × Obj)), PSs (X.suite a pn) (b₀ :: suite) (TSm X.K X.mg W0 sb)) (hx : ∀ e S c e' S', sb e S ≠ .exc c e' S') (r : HdM X hds ys bs) : HdM X (.ExceptHandler (some (.Name y np)) none (b₀ :: suite) pos' :: hds) (y :: ys) (sb :: bs)
theorem HdM.ok {X : Cx} : ∀ {hds : List ExceptHandler} {ys : List Str} {bs : List (Env → Sto → OutS)}, HdM X hds ys bs → ∃ cl : List (Value × (Env → Sto → OutS)), cl.map (·.2) = bs ∧ CP X.mg (cl.map (·.1)) ys ∧ HdsOk X hds (cl.map fun p => (p.1, fun _ _ _ => TSm X.K X.mg W0 p.2)) ∧
    ∀ p ∈ cl, ∀ e S c e' S', p.2 e S ≠ .exc c e' S'
  | _, _, _, .nil => ⟨[], rfl, .nil, .nil, fun _ h => nomatch h⟩
  | _, _, _, .cons (sb := sb) hg E hdb hsu hx r => by
    obtain ⟨cl, h1, h2, h3, h4⟩ := r.ok
    obtain ⟨C, hC, _⟩ := E
    refine ⟨(.ref C, sb) :: cl, by simp [h1], .cons hC h2, .cons ⟨hg, hdb, .inl hC⟩ (fun a oe cls d pn _ _ => hsu a ((a, oe) :: pn)) h3, fun p hp => ?_⟩
    rcases List.mem_cons.mp hp with rfl | hp
    · exact hx
    · exact h4 p hp
theorem ms_tryNE {body : List Stmt} {h₀ : ExceptHandler} {hds : List ExceptHandler} {pos : Pos} {sa : Env → Sto → OutS} {l : List (Str × Option Nat)} {ys : List Str} {bs : List (Env → Sto → OutS)} (hs : X.stack = X.env :: X.outer) (hf : X.env.frame = some X.env.locals) (tk : Takes X Wx)
    (hh : HdM X (h₀ :: hds) ys bs) (hl : TkMs X.K X.mg ys l)
    (hb : ∀ (W : WX) (pn : List (Addr × Obj)) (xe : Value → Shared → Prop), Takes (X.tr pn xe) W → PassesOwn (model X.prog X.w) X.A X.env xe → PSs (X.tr pn xe) body (TSm X.K X.mg W sa)) :
    PS X (.Try body (h₀ :: hds) [] [] pos) (TSm X.K X.mg Wx (sTryN sa l bs)) := by
  obtain ⟨cl, h1, h2, h3, h4⟩ := hh.ok
  subst h1
  exact ms_tryN hs hf tk (fun p hp D hD => (hl p hp).takes hD h2) hb h3 h4
/-! ### keywords in another order -/
def permL {α : Type} (ix : List Nat) (l : List α) : List α := ix.filterMap (l[·]?)
theorem vals_perm {zs : List V} {ws : List Value} (r : Vals zs ws) : ∀ ix : List Nat, Vals (permL ix zs) (permL ix ws)
  | [] => .nil
  | i :: ix => by
    have ih := vals_perm r ix
    unfold permL at ih ⊢
    rw [List.filterMap_cons, List.filterMap_cons]
    have hl := r.length
    cases hz : zs[i]? with
    | none =>
      have : ws[i]? = none := by
        rw [List.getElem?_eq_none_iff] at hz ⊢
        omega
      rw [this]
      exact ih
    | some z =>
      obtain ⟨u, hu, ru⟩ := r.get hz
      rw [hu]
      exact .cons ru ih
theorem rels_perm {K : PySem.W.Frag} {ρ : List Addr} {B : Ban} {H : Hp} {zs : List W} {ws : List V} (r : Rels K ρ B H zs ws) : ∀ ix : List Nat, Rels K ρ B H (permL ix zs) (permL ix ws)
  | [] => .nil
  | i :: ix => by
    have ih := rels_perm r ix
    unfold permL at ih ⊢
    rw [List.filterMap_cons, List.filterMap_cons]
    have hl := r.1
    cases hz : zs[i]? with
    | none =>
      have : ws[i]? = none := by
        rw [List.getElem?_eq_none_iff] at hz ⊢
        omega
      rw [this]
      exact ih
    | some z =>
      obtain ⟨u, hu, ru⟩ := r.get hz
      rw [hu]
      exact .cons ru ih
def tCallKwP (n m : Nat) (ix : List Nat) (sp : Sp) (E : L2.St → XK) (t tk : TA) : TE := fun σ H Q => t σ H fun vs H1 => tk σ H1 fun zs H2 => vs.length = n ∧ zs.length = m ∧ sp (vs ++ permL ix zs) H2 Q (E σ)
theorem run_kwP {k : Nat} {f : Addr} {fd : FuncData} {ps ks : List Str} {ix : List Nat} {sp : Sp} {CX : CXT} {E : L2.St → XK} {pins : List (Addr × Obj)} {σ : L2.St} {H : Hp} {s : Shared} {Q : VK} {us ws : List Value} {vs zs : List V} (F : FnOk X.prog X.w X.K X.mg X.base CX k f fd ps sp) (hr : Room k X.A)
    (hb : bindArgs fd ⟨us, ks.zip ws⟩ = pure (ps.zip (us ++ permL ix ws))) (hx : PassesAt CX X σ (E σ)) (I : Inv X pins σ H s) (r : Vals vs us) (rz : Vals zs ws) (h : sp (vs ++ permL ix zs) H Q (E σ)) : wpAny (model X.prog X.w) X.A (call (.ref f) us (ks.zip ws)) (EP X pins σ Q) X.xe s := by
  have r2 := r.append (vals_perm rz ix)
  refine wpAny_call (codeAny_mono (F.run X.A X.stack s H ⟨us, ks.zip ws⟩ (us ++ permL ix ws) (vs ++ permL ix zs) Q (E σ) hr I.env0 (.of_eq hb) r2 h) fun r s' hq => ?_)
  cases r with
  | error e => exact hx pins H s e s' I hq
  | ok fl =>
    cases fl with
    | ret u => exact I.after hq
    | next => exact False.elim hq
    | brk => exact False.elim hq
    | cont => exact False.elim hq
theorem pe_kwP {k n : Nat} {f : Addr} {fd : FuncData} {ps ks : List Str} {ix : List Nat} {sp : Sp} {CX : CXT} {E : L2.St → XK} {x : Str} {p pos : Pos} {e : Expr} {es : List Expr} {kws : List Keyword} {t tk : TA} (F : FnOk X.prog X.w X.K X.mg X.base CX k f fd ps sp) (hr : Room k X.A) (hg : Gl X x) (hm : X.mg x = some (.ref f)) (hk : PySem.W.keepIn X.K (.ref f) = true)
    (hb : ∀ us ws : List Value, us.length = n → ws.length = ks.length → bindArgs fd ⟨us, ks.zip ws⟩ = pure (ps.zip (us ++ permL ix ws))) (hx : ∀ σ, PassesAt CX X σ (E σ))
    (ha : PA X (e :: es) t) (hkw : PK X kws tk) (hall : (backToKw pos (keywordEach kws X.env)).all (·.1.isSome) = true) (hks : (backToKw pos (keywordEach kws X.env)).filterMap (·.1) = ks)
    (hdb : (x == ("__debug__" : Str)) = false) (he : starEach (e :: es) X.env = (false, eval e X.env) :: starEach es X.env)
    (hpl : ((backTo pos (starEach (e :: es) X.env)).any (·.1) || (backToKw pos (keywordEach kws X.env)).any (·.1.isNone)) = false) :
    PE X (.Call (.Name x p) (e :: es) kws pos) (tCallKwP n ks.length ix sp E t tk) := by
  refine ⟨fun pins s σ H Q I h => ?_⟩
  refine wpAny_Call_Name_kw (ld_glob I hg hm ?_ hdb)
  refine PySem.W.callWith_KW (h₀ := X.base) I.ok.mod.kin hk hall (thn (ha.run pos pins s σ H _ I h) fun us s1 ⟨vs, H1, I1, r, q⟩ => ?_) hpl he
  refine thn (hkw.run pos pins s1 σ H1 _ I1 q) fun ws s2 ⟨zs, H2, I2, rz, l1, l2, q2⟩ => ⟨I2.kIn, ?_⟩
  rw [hks]
  exact run_kwP F hr (hb us ws (by rw [← r.length]; exact l1) (by rw [← rz.length]; exact l2)) (hx σ) I2 r rz q2
theorem pe_kwP0 {k : Nat} {f : Addr} {fd : FuncData} {ps ks : List Str} {ix : List Nat} {sp : Sp} {CX : CXT} {E : L2.St → XK} {x : Str} {p pos : Pos} {kws : List Keyword} {tk : TA} (F : FnOk X.prog X.w X.K X.mg X.base CX k f fd ps sp) (hr : Room k X.A) (hg : Gl X x) (hm : X.mg x = some (.ref f)) (hk : PySem.W.keepIn X.K (.ref f) = true)
    (hb : ∀ us ws : List Value, us.length = 0 → ws.length = ks.length → bindArgs fd ⟨us, ks.zip ws⟩ = pure (ps.zip (us ++ permL ix ws))) (hx : ∀ σ, PassesAt CX X σ (E σ))
    (hkw : PK X kws tk) (hall : (backToKw pos (keywordEach kws X.env)).all (·.1.isSome) = true) (hks : (backToKw pos (keywordEach kws X.env)).filterMap (·.1) = ks)
    (hdb : (x == ("__debug__" : Str)) = false)
    (hpl : ((backTo pos (starEach [] X.env)).any (·.1) || (backToKw pos (keywordEach kws X.env)).any (·.1.isNone)) = false) :
    PE X (.Call (.Name x p) [] kws pos) (tCallKwP 0 ks.length ix sp E tNil tk) := by
  refine ⟨fun pins s σ H Q I h => ?_⟩
  refine wpAny_Call_Name_kw (ld_glob I hg hm ?_ hdb)
  refine PySem.W.callWith_KW0 (h₀ := X.base) I.ok.mod.kin hk hall (thn (hkw.run pos pins s σ H _ I h) fun ws s2 ⟨zs, H2, I2, rz, l1, l2, q2⟩ => ⟨I2.kIn, ?_⟩) hpl
  rw [hks]
  exact run_kwP (us := []) (vs := []) F hr (hb [] ws rfl (by rw [← rz.length]; exact l2)) (hx σ) I2 .nil rz q2
def mCallKwP (k n m : Nat) (ix : List Nat) (f : MF) (ms mk : Env → Sto → Out (List W)) : Env → Sto → Out W := fun env S => (ms env S).bind fun ws S1 => (mk env S1).bind fun zs S2 => if ws.length = n ∧ zs.length = m then callK k f (ws ++ permL ix zs) S2 else .fail
theorem kwP_imp {K : PySem.W.Frag} {mg : Str → Option Value} {k n m np : Nat} {ix : List Nat} {f : MF} {ms mk : Env → Sto → Out (List W)} (hlen : ∀ ws S, ws.length ≠ np → f ws S = .fail) {σ : L2.St} {H : Hp} {Q : VK} (h : TEm K mg Wx (mCallKwP k n m ix f ms mk) σ H Q) : tCallKwP n m ix (spM K mg np f) (WE Wx) (TAm K mg Wx ms) (TAm K mg Wx mk) σ H Q := by
  obtain ⟨B0, ρ, env, S, r, er, h⟩ := h
  exact ⟨B0, ρ, env, S, r, er, h.bindA lat_gE fun ws S1 ρ1 H1 vs e1 r1 q1 h1 => ⟨B0, ρ1, env, S1, r1, er.ext r e1, h1.bindA lat_gE fun zs S2 ρ2 H2 us e2 r2 q2 h2 => by
    split at h2
    · rename_i c
      exact ⟨by rw [← q1.1]; exact c.1, by rw [← q2.1]; exact c.2, callK_sp (fun _ _ z => z) hlen r2 ((q1.ext r1 e2).append (rels_perm q2 ix)) h2⟩
    · exact h2.elim⟩⟩
theorem me_callKwP {j n : Nat} {x : Str} {st : Stmt} {ps ks : List Str} {f : MF} {p pos : Pos} {e : Expr} {es : List Expr} {kws : List Keyword} {ms mk : Env → Sto → Out (List W)} (k : Nat) (ix : List Nat) (F : FnM X.prog X.w X.K X.mg X.base x st ps j f) (tk : Takes X Wx) (hr : Room j X.A) (hg : Gl X x)
    (hb : ∀ (kV doc pm : Value) (an : Option Addr) (cdv ct : Value) (us ws : List Value), us.length = n → ws.length = ks.length → bindArgs (PySem.W.fnOf x x (defArgs st) (defBody st) (defScope st) .none kV doc pm an cdv ct) ⟨us, ks.zip ws⟩ = pure (ps.zip (us ++ permL ix ws)))
    (ha : PA X (e :: es) (TAm X.K X.mg Wx ms)) (hkw : PK X kws (TAm X.K X.mg Wx mk)) (hall : (backToKw pos (keywordEach kws X.env)).all (·.1.isSome) = true := by rfl) (hks : (backToKw pos (keywordEach kws X.env)).filterMap (·.1) = ks := by rfl)
    (hdb : (x == ("__debug__" : Str)) = false := by decide) (he : starEach (e :: es) X.env = (false, eval e X.env) :: starEach es X.env := by rfl)
    (hpl : ((backTo pos (starEach (e :: es) X.env)).any (·.1) || (backToKw pos (keywordEach kws X.env)).any (·.1.isNone)) = false := by rfl) :
    PE X (.Call (.Name x p) (e :: es) kws pos) (TEm X.K X.mg Wx (mCallKwP k n ks.length ix f ms mk)) := by
  obtain ⟨⟨a, kV, doc, pm, an, cdv, ct, hm, hk, G⟩, hlen⟩ := F
  exact pe_imp (pe_kwP (E := WE Wx) G hr hg hm hk (hb kV doc pm an cdv ct) (fun σ => passAt tk σ) ha hkw hall hks hdb he hpl) fun _ _ _ => kwP_imp hlen
theorem me_callKwP0 {j : Nat} {x : Str} {st : Stmt} {ps ks : List Str} {f : MF} {p pos : Pos} {kws : List Keyword} {mk : Env → Sto → Out (List W)} (k : Nat) (ix : List Nat) (F : FnM X.prog X.w X.K X.mg X.base x st ps j f) (tk : Takes X Wx) (hr : Room j X.A) (hg : Gl X x)
    (hb : ∀ (kV doc pm : Value) (an : Option Addr) (cdv ct : Value) (us ws : List Value), us.length = 0 → ws.length = ks.length → bindArgs (PySem.W.fnOf x x (defArgs st) (defBody st) (defScope st) .none kV doc pm an cdv ct) ⟨us, ks.zip ws⟩ = pure (ps.zip (us ++ permL ix ws)))
    (hkw : PK X kws (TAm X.K X.mg Wx mk)) (hall : (backToKw pos (keywordEach kws X.env)).all (·.1.isSome) = true := by rfl) (hks : (backToKw pos (keywordEach kws X.env)).filterMap (·.1) = ks := by rfl)
    (hdb : (x == ("__debug__" : Str)) = false := by decide)
    (hpl : ((backTo pos (starEach [] X.env)).any (·.1) || (backToKw pos (keywordEach kws X.env)).any (·.1.isNone)) = false := by rfl) :
    PE X (.Call (.Name x p) [] kws pos) (TEm X.K X.mg Wx (mCallKwP k 0 ks.length ix f mNil mk)) := by
  obtain ⟨⟨a, kV, doc, pm, an, cdv, ct, hm, hk, G⟩, hlen⟩ := F
  exact pe_imp (pe_kwP0 (E := WE Wx) G hr hg hm hk (hb kV doc pm an cdv ct) (fun σ => passAt tk σ) hkw hall hks hdb hpl) fun σ H Q h => nil_ta (kwP_imp hlen h)
/-! ### a def that calls itself -/
def bFail : Env → Sto → OutS := fun _ _ => .fail
theorem mss_fail {sts : List Stmt} : PSs X sts (TSm X.K X.mg Wx bFail) := ⟨fun pins s σ H D I ⟨_, _, _, _, _, _, h⟩ => (show False from h).elim⟩
end
end L2.Mi

set_option Elab.async false
set_option linter.all false
set_option maxRecDepth 100000
set_option maxHeartbeats 4000000
/-! # Mirrors that many laws share: the source that draws (four numbers), loops -/
namespace L2.Mi.Lc
open PySem PySem.Spec PyProof.Rows L2 L2.Mi L2.Mi.Wd
open L2.Mi.Lb (b_inverse_in m_inverse_in)
open L2.Mi.Lb (b_inverse_sign m_inverse_sign)
open L2.Mi.Lb (b_is_word_of m_is_word_of)
def b__law_source : Env → Sto → OutS :=
  sRet (mNew (mLst (mCons (mNew (mComp [1] (iSeqM (mVal (mSl (mVar 0) (mNoPart) (mPart (mC (.int 63)))))) (tName 1) (tYesM) (mVal (m2 fMod (mVal (mA fInt (mCons (mVar 1) (mNil)))) (mVal (m2 fPow (mC (.int 10)) (mC (.int 60)))))))) (mCons (mC (.int 0)) (mCons (mC (.int 4111)) (mCons (mC (.int 0)) (mNil)))))))
def m__law_source : MF := mfun 1 2 b__law_source
def b__law_inverse : Env → Sto → OutS :=
  sRet (mVal (mM tyStr fJoin (mC (.str [])) (mCons (mVal (mComp [1] (iSeqM (mVal (m1 fRevX (mVar 0)))) (tName 1) (tYesM) (mVal (m2 fIx (mC (.str [65, 66, 67, 68, 97, 98, 99, 100])) (mVal (mM tyStr fSIndex (mC (.str [97, 98, 99, 100, 65, 66, 67, 68])) (mCons (mVar 1) (mNil)))))))) (mNil))))
def m__law_inverse : MF := mfun 1 2 b__law_inverse
def b__law_draw : Env → Sto → OutS :=
  sSeq (sSet 2 (mNew (m2 fIx (mVar 0) (mC (.int 0)))))
    (sSeq (sAsg (mVal (m2 fAdd (mVal (m2 fIx (mVar 0) (mC (.int 3)))) (mC (.int 1)))) (tSubL (mVar 0) (mC (.int 3))))
    (sSeq (sIf (mAnd (mTestF (m2 fLt (mVal (m2 fIx (mVar 0) (mC (.int 1)))) (mVal (m2 fPow (mC (.int 10)) (mC (.int 4)))))) (mTestF (m2 fNe (mVar 2) (mVal (mLst (mNil)))))) (sSeq (sSet 3 (mVal (mM tyLst (onLst fPopAt) (mVar 2) (mCons (mC (.int 0)) (mNil)))))
    (sSeq (sAsg (mIf (mTestF (m2 fGe (mVar 3) (mVal (m2 fPow (mC (.int 10)) (mC (.int 18)))))) (mVar 3) (mC (.int 0))) (tSubL (mVar 0) (mC (.int 1))))
    (sAsg (mVal (m2 fMod (mVal (mA fInt (mCons (mVal (m2 fAdd (mVal (m2 fAdd (mVal (m2 fMul (mVal (m2 fIx (mVar 0) (mC (.int 2)))) (mC (.int 62089911)))) (mVal (m2 fMul (mVar 3) (mC (.int 742938285)))))) (mVal (m2 fIx (mVar 0) (mC (.int 3)))))) (mNil)))) (mC (.int 2147483647)))) (tSubL (mVar 0) (mC (.int 2)))))) (sSkip))
    (sSeq (sIf (mTestF (m2 fGe (mVal (m2 fIx (mVar 0) (mC (.int 1)))) (mVal (m2 fPow (mC (.int 10)) (mC (.int 4)))))) (sSeq (sSet 4 (mVal (m2 fMod (mVal (mA fInt (mCons (mVal (m2 fIx (mVar 0) (mC (.int 1)))) (mNil)))) (mVar 1))))
    (sSeq (sAsg (mVal (m2 fDiv (mVal (m2 fIx (mVar 0) (mC (.int 1)))) (mVar 1))) (tSubL (mVar 0) (mC (.int 1))))
    (sRet (mVar 4)))) (sSkip))
    (sSeq (sAsg (mVal (m2 fMod (mVal (mA fInt (mCons (mVal (m2 fAdd (mVal (m2 fAdd (mVal (m2 fMul (mVal (m2 fIx (mVar 0) (mC (.int 2)))) (mC (.int 39373)))) (mVal (m2 fMul (mVal (m2 fIx (mVar 0) (mC (.int 3)))) (mC (.int 271)))))) (mC (.int 7)))) (mNil)))) (mC (.int 2147483647)))) (tSubL (mVar 0) (mC (.int 2))))
    (sRet (mVal (m2 fMod (mVal (mA fInt (mCons (mVal (m2 fDiv (mVal (m2 fIx (mVar 0) (mC (.int 2)))) (mC (.int 61)))) (mNil)))) (mVar 1))))))))
def m__law_draw : MF := mfun 2 5 b__law_draw
def b__law_same (m__law_same : MF) : Env → Sto → OutS :=
  sSeq (sIf (mTest (mIsi .tup (mVar 1))) (sSeq (sIf (mOr (mNot (mTest (mIsi .tup (mVar 0)))) (mTestF (m2 fNe (mVal (mA fLen (mCons (mVar 0) (mNil)))) (mVal (mA fLen (mCons (mVar 1) (mNil))))))) (sRet (mC (.bl false))) (sSkip))
    (sRet (mVal (mA fAll (mCons (mVal (mComp [2] (iR1 (mCons (mVal (mA fLen (mCons (mVar 1) (mNil)))) (mNil))) (tName 2) (tYesM) (mCall 0 m__law_same (mCons (mVal (m2 fIx (mVar 0) (mVar 2))) (mCons (mVal (m2 fIx (mVar 1) (mVar 2))) (mNil)))))) (mNil)))))) (sSkip))
    (sSeq (sIf (mTestF (m2 fIs (mVar 1) (mC .non))) (sRet (mVal (m2 fIs (mVar 0) (mC .non)))) (sSkip))
    (sSeq (sIf (mTest (mIsi .bl (mVar 1))) (sRet (mAndV (mIsi .bl (mVar 0)) (mVal (m2 fEq (mVar 0) (mVar 1))))) (sSkip))
    (sSeq (sIf (mTest (mIsi .str (mVar 1))) (sRet (mAndV (mIsi .str (mVar 0)) (mVal (m2 fEq (mVar 0) (mVar 1))))) (sSkip))
    (sRet (mAndV (mIsi .int (mVar 0)) (mAndV (mNotV (mIsi .bl (mVar 0))) (mVal (m2 fEq (mVar 0) (mVar 1)))))))))
def r__law_same : Nat → MF
  | 0 => mfun 2 3 bFail
  | n + 1 => mfun 2 3 (b__law_same (r__law_same n))
def m__law_same : MF := r__law_same 12
def b_sums_in : Env → Sto → OutS :=
  sRet (mVal (mA fTupOf (mCons (mVal (mComp [1] (iSeqM (mC (.str [97, 98, 99, 100]))) (tName 1) (tYesM) (mVal (m2 fSub (mVal (mM tyStr fSCount (mVar 0) (mCons (mVar 1) (mNil)))) (mVal (mM tyStr fSCount (mVar 0) (mCons (mCall 0 m_inverse_sign (mCons (mVar 1) (mNil))) (mNil)))))))) (mNil))))
def m_sums_in : MF := mfun 1 2 b_sums_in
def b_is_balanced_in : Env → Sto → OutS :=
  sRet (mVal (m2 fEq (mCall 0 m_sums_in (mCons (mVar 0) (mNil))) (mTup (mCons (mC (.int 0)) (mCons (mC (.int 0)) (mCons (mC (.int 0)) (mCons (mC (.int 0)) (mNil))))))))
def m_is_balanced_in : MF := mfun 1 1 b_is_balanced_in
def b_is_loop_of : Env → Sto → OutS :=
  sRet (mAndV (mCall 0 m_is_word_of (mCons (mVar 0) (mCons (mC (.int 400)) (mNil)))) (mCall 0 m_is_balanced_in (mCons (mVar 0) (mNil))))
def m_is_loop_of : MF := mfun 1 1 b_is_loop_of
def b_need_loop : Env → Sto → OutS :=
  sIf (mNot (mTest (mCall 0 m_is_loop_of (mCons (mVar 0) (mNil))))) (sRaise "BadWord") (sSkip)
def m_need_loop : MF := mfun 1 1 b_need_loop
def b_is_cancellation : Env → Sto → OutS :=
  sRet (mVal (m2 fEq (mVal (m2 fIx (mVar 0) (mVal (m2 fMod (mVal (m2 fAdd (mVar 1) (mC (.int 1)))) (mVal (mA fLen (mCons (mVar 0) (mNil)))))))) (mCall 0 m_inverse_in (mCons (mVal (m2 fIx (mVar 0) (mVar 1))) (mNil)))))
def m_is_cancellation : MF := mfun 2 2 b_is_cancellation
def b_cancellations : Env → Sto → OutS :=
  sSeq (sExpr (mCall 0 m_need_loop (mCons (mVar 0) (mNil))))
    (sRet (mVal (mA fTupOf (mCons (mVal (mComp [1] (iR1 (mCons (mVal (mA fLen (mCons (mVar 0) (mNil)))) (mNil))) (tName 1) (mTest (mCall 0 m_is_cancellation (mCons (mVar 0) (mCons (mVar 1) (mNil))))) (mVar 1))) (mNil)))))
def m_cancellations : MF := mfun 1 2 b_cancellations
open L2.Mi.Lb hiding b__law_same m__law_same b__law_deck m__law_deck b__law_pick m__law_pick w_same c_same c_same_str c_same_bl c_same_int
section
variable {S : Sto} {s t : List Nat} {c : Nat} {w x y z : W} {E : Str → Sto → Prop} {Q : W → Sto → Prop}
/-! ### the source -/
def sr (cs : List Int) (a b d : Int) : Sto := [.lst (cs.map W.int), .lst [.ref 0, .int a, .int b, .int d]]
def Sr (D : Sto) : Prop := ∃ cs a b d, cs.length ≤ 63 ∧ D = sr cs a b d
variable {cs : List Int} {a b d i : Int}
theorem sr_ix0 : fIx (.ref 1) (.int 0) (sr cs a b d) = .ok (.val (.ref 0)) (sr cs a b d) := rfl
theorem sr_ix1 : fIx (.ref 1) (.int 1) (sr cs a b d) = .ok (.val (.int a)) (sr cs a b d) := rfl
theorem sr_ix2 : fIx (.ref 1) (.int 2) (sr cs a b d) = .ok (.val (.int b)) (sr cs a b d) := rfl
theorem sr_ix3 : fIx (.ref 1) (.int 3) (sr cs a b d) = .ok (.val (.int d)) (sr cs a b d) := rfl
theorem sr_set1 : fSetL (.ref 1) (.int 1) (.int i) (sr cs a b d) = .ok () (sr cs i b d) := rfl
theorem sr_set2 : fSetL (.ref 1) (.int 2) (.int i) (sr cs a b d) = .ok () (sr cs a i d) := rfl
theorem sr_set3 : fSetL (.ref 1) (.int 3) (.int i) (sr cs a b d) = .ok () (sr cs a b i) := rfl
theorem sr_ne : fNe (.ref 0) (.lst []) (sr cs a b d) = .ok (.val (.bl (!cs.isEmpty))) (sr cs a b d) := by
  rw [fNe_nil (xs := cs.map W.int) rfl (okDs_ints cs)]
  cases cs <;> rfl
theorem sr_ty : tyLst (.ref 0) (sr cs a b d) = true := rfl
theorem sr_pop {c : Int} (hl : (c :: cs).length ≤ 63) : onLst fPopAt (.ref 0) [.int 0] (sr (c :: cs) a b d) = .ok (.val (.int c)) (sr cs a b d) := by
  have e : ixN (W.int c :: cs.map W.int).length 0 = some 0 := by
    unfold ixN
    simp
  have e2 : fPopAt (sr (c :: cs) a b d) (W.int c :: cs.map W.int) [.int 0] = some (cs.map W.int, .int c) := by
    show (if (W.int c :: cs.map W.int).length ≤ LINE then (match ixN (W.int c :: cs.map W.int).length 0 with
      | some k => (match (W.int c :: cs.map W.int)[k]? with
        | some y => some ((W.int c :: cs.map W.int).eraseIdx k, y)
        | none => none)
      | none => none) else none) = _
    rw [e, if_pos]
    · rfl
    · have : LINE = 16777216 := rfl
      simp at hl ⊢
      omega
  show (match fPopAt (sr (c :: cs) a b d) (W.int c :: cs.map W.int) [.int 0] with
    | some (ys, w) => Out.ok (FW.val w) ((sr (c :: cs) a b d).set 0 (.lst ys))
    | none => .fail) = _
  rw [e2]
  rfl
theorem w_draw {D : Sto} {n : Int} (h : Sr D) (h0 : 0 < n) (h1 : n < 1073741824) (hQ : ∀ (D' : Sto) (r : Nat), Sr D' → (r : Int) < n → Q (.int r) D') : wp (m__law_draw [.ref 1, .int n] D) Q E := by
  obtain ⟨cs, a, b, d, hl, rfl⟩ := h
  have fin : ∀ (i : Int) (cs : List Int) (a b d : Int), cs.length ≤ 63 → Q (.int (i % n)) (sr cs a b d) := fun i cs a b d hl => by
    have h2 := Int.emod_nonneg i (Int.ne_of_gt h0)
    have := hQ (sr cs a b d) (i % n).toNat ⟨cs, a, b, d, hl, rfl⟩ (by rw [Int.toNat_of_nonneg h2]; exact Int.emod_lt_of_pos i h0)
    rwa [Int.toNat_of_nonneg h2] at this
  have tail : ∀ (cs : List Int) (a b d : Int) (o : Option W), cs.length ≤ 63 → wpS (sSeq (sIf (mTestF (m2 fGe (mVal (m2 fIx (mVar 0) (mC (.int 1)))) (mVal (m2 fPow (mC (.int 10)) (mC (.int 4)))))) (sSeq (sSet 4 (mVal (m2 fMod (mVal (mA fInt (mCons (mVal (m2 fIx (mVar 0) (mC (.int 1)))) (mNil)))) (mVar 1))))
    (sSeq (sAsg (mVal (m2 fDiv (mVal (m2 fIx (mVar 0) (mC (.int 1)))) (mVar 1))) (tSubL (mVar 0) (mC (.int 1))))
    (sRet (mVar 4)))) (sSkip))
    (sSeq (sAsg (mVal (m2 fMod (mVal (mA fInt (mCons (mVal (m2 fAdd (mVal (m2 fAdd (mVal (m2 fMul (mVal (m2 fIx (mVar 0) (mC (.int 2)))) (mC (.int 39373)))) (mVal (m2 fMul (mVal (m2 fIx (mVar 0) (mC (.int 3)))) (mC (.int 271)))))) (mC (.int 7)))) (mNil)))) (mC (.int 2147483647)))) (tSubL (mVar 0) (mC (.int 2))))
    (sRet (mVal (m2 fMod (mVal (mA fInt (mCons (mVal (m2 fDiv (mVal (m2 fIx (mVar 0) (mC (.int 2)))) (mC (.int 61)))) (mNil)))) (mVar 1))))) [some (.ref 1), some (.int n), some (.ref 0), o, none] (sr cs a b d))
      ⟨fun _ S => Q .non S, Q, fun _ _ => False, fun _ _ => False, fun c _ S => E c S⟩ := fun cs a b d o hl => by
    by_cases hc : 10000 ≤ a
    · simp [sr_ix1, sr_ix2, sr_ix3, pow4, fMul_r (k := 39373) rfl, fMul_r (k := 271) rfl, sr_set1, sr_set2, h0, h1, hc, fin _ _ _ _ _ hl]
    · simp [sr_ix1, sr_ix2, sr_ix3, pow4, fMul_r (k := 39373) rfl, fMul_r (k := 271) rfl, sr_set1, sr_set2, h0, h1, hc, fin _ _ _ _ _ hl]
  show wp (outF (b__law_draw [some (.ref 1), some (.int n), none, none, none] (sr cs a b d))) _ _
  refine wp_outF ?_
  unfold b__law_draw
  rw [wpS_seq]
  simp only [ev_sSet, ev_mNew, ev_m2, ev_mVar0, ev_mC, Out.bind_ok, sr_ix0, nK_val, bindS_ok, wpS_next, seq_nx, List.set_cons_succ, List.set_cons_zero]
  rw [wpS_seq]
  simp only [ev_sAsg, ev_mVal, ev_m2, ev_mVar0, ev_mC, Out.bind_ok, sr_ix3, vK_val, fAdd_ii, ev_tSubL, sr_set3, bindS_ok, wpS_next, seq_nx]
  rw [wpS_seq]
  by_cases ha : a < 10000
  · cases cs with
    | nil =>
      simp [-seq_nx, -wpS_seq, sr_ix1, pow4, ha, sr_ne]
      exact tail [] a b _ _ (by decide)
    | cons c cs =>
      have hl' : cs.length ≤ 63 := by simp at hl; omega
      simp [-seq_nx, -wpS_seq, sr_ix1, pow4, ha, sr_ne]
      rw [wpS_seq]
      simp [-seq_nx, -wpS_seq, sr_ty, sr_pop hl]
      show wpS (sSeq _ _ _ _) _
      rw [wpS_seq]
      by_cases hb : 1000000000000000000 ≤ c
      · simp [-seq_nx, -wpS_seq, pow18, hb, sr_set1]
        show wpS (sAsg _ _ _ _) _
        simp [-seq_nx, -wpS_seq, sr_ix2, sr_ix3, fMul_r (k := 62089911) rfl, fMul_r (k := 742938285) rfl, sr_set2]
        exact tail cs _ _ _ _ hl'
      · simp [-seq_nx, -wpS_seq, pow18, hb, sr_set1]
        show wpS (sAsg _ _ _ _) _
        simp [-seq_nx, -wpS_seq, sr_ix2, sr_ix3, fMul_r (k := 62089911) rfl, fMul_r (k := 742938285) rfl, sr_set2]
        exact tail cs _ _ _ _ hl'
  · simp [-seq_nx, -wpS_seq, sr_ix1, pow4, ha]
    exact tail cs a b _ _ hl
theorem Sr.len {D : Sto} (h : Sr D) : D.length = 2 := by obtain ⟨cs, a, b, d, _, rfl⟩ := h; rfl
theorem Sr.so {D : Sto} (h : Sr D) : D.all (soOk 2) = true := by
  obtain ⟨cs, a, b, d, _, rfl⟩ := h
  show (refsLts 2 (cs.map W.int) && (refsLts 2 [.ref 0, .int a, .int b, .int d] && true)) = true
  rw [refsLts_ints]; rfl
theorem sr_call {f : MF} {ws : List W} {D R : Sto} (h : Sr D) (ha : ws.all (refsLt 2) = true)
    (hf : wp (f ws D) (fun w S' => ∃ D' J, S' = D' ++ J ∧ Sr D' ∧ refsLt 2 w = true ∧ Q w (D' ++ R)) fun _ _ => False) : wp (callK 2 f ws (D ++ R)) Q E :=
  callK_wp h.len h.so ha (wp_mono hf (fun w S' ⟨D', J, e, d, r, q⟩ => ⟨D', J, e, d.len, d.so, r, q⟩) fun _ _ z => z.elim)
theorem sr_call0 {f : MF} {ws : List W} {D : Sto} (h : Sr D) (ha : ws.all (refsLt 2) = true)
    (hf : wp (f ws D) (fun w S' => ∃ D' J, S' = D' ++ J ∧ Sr D' ∧ refsLt 2 w = true ∧ Q w D') fun _ _ => False) : wp (callK 2 f ws D) Q E := by
  have := sr_call (R := []) (Q := Q) (E := E) h ha (by simpa using hf)
  simpa using this
theorem c_draw {D R : Sto} {n : Int} (h : Sr D) (h0 : 0 < n) (h1 : n < 1073741824) (hQ : ∀ (D' : Sto) (r : Nat), Sr D' → (r : Int) < n → Q (.int r) (D' ++ R)) : wp (callK 2 m__law_draw [.ref 1, .int n] (D ++ R)) Q E :=
  sr_call h rfl (w_draw h h0 h1 fun D' r d hr => ⟨D', [], by simp, d, rfl, hQ D' r d hr⟩)
theorem c_draw0 {D : Sto} {n : Int} (h : Sr D) (h0 : 0 < n) (h1 : n < 1073741824) (hQ : ∀ (D' : Sto) (r : Nat), Sr D' → (r : Int) < n → Q (.int r) D') : wp (callK 2 m__law_draw [.ref 1, .int n] D) Q E :=
  sr_call0 h rfl (w_draw h h0 h1 fun D' r d hr => ⟨D', [], by simp, d, rfl, hQ D' r d hr⟩)
theorem e_source (ns : List Int) (hl : ns.length ≤ 63) : ∃ cs : List Int, cs.length ≤ 63 ∧ m__law_source [.fro (ns.map W.int)] [] = .ok (.ref 1) (sr cs 0 4111 0) := by
  refine ⟨ns.map (· % 10 ^ 60), by simpa using hl, ?_⟩
  have e0 : cutW (ns.map W.int) none (some 63) = ns.map W.int := by
    rw [show (some (63 : Int)) = some ((63 : Nat) : Int) from rfl, cut_take, List.take_of_length_le (by rw [List.length_map]; exact hl)]
  have e1 : compL (tName 1) tYesM (mVal (m2 fMod (mVal (mA fInt (mCons (mVar 1) (mNil)))) (mVal (m2 fPow (mC (.int 10)) (mC (.int 60)))))) [some (.fro (ns.map W.int)), none] (ns.map W.int) [] = .ok ((ns.map (· % 10 ^ 60)).map W.int) [] := by
    refine (compL_map (f := fun w => match w with | .int i => .int (i % 10 ^ 60) | w => w) _ fun w hw => ?_).trans ?_
    · obtain ⟨c, hc, rfl⟩ := List.mem_map.mp hw
      simp [pow60]
    · rw [List.map_map, List.map_map]
      rfl
  show outF (b__law_source [some (.fro (ns.map W.int)), none] []) = _
  unfold b__law_source
  have e2 : fSl (.fro (ns.map W.int)) none (some 63) [] = .ok (.new (ns.map W.int)) [] := by
    show Out.ok (FW.new (cutW (ns.map W.int) none (some 63))) [] = _
    rw [e0]
  simp only [ev_sRet, ev_mNew, ev_mLst, ev_mCons, ev_mNil, ev_mC, ev_mComp, ev_iSeqM, ev_mVal, ev_mSl, ev_mVar0, ev_mNoPart, ev_mPart, Out.bind_ok, pK_int, e2, vK_new, anyIt_lst, wipeE, List.set_cons_succ, List.set_cons_zero, lockS_none]
  rw [e1]
  have hl2 : ((ns.map (· % 10 ^ 60)).map W.int).length ≤ LINE := by
    have : LINE = 16777216 := rfl
    simp; omega
  have hl4 : ∀ (a b c d : W) (S : Sto), lK [a, b, c, d] S = .ok (.new [a, b, c, d]) S := fun a b c d S => lK_ok (by have : LINE = 16777216 := rfl; show 4 ≤ LINE; omega)
  simp only [nox_ok, Out.bind_ok, cmK_ok hl2, unlockS_none, nK_new, hl4]
  rfl
/-! ### word[::-1], each sign turned -/
theorem e_linv (h : Word s) (hl : s.length ≤ LINE) : m__law_inverse [.str s] S = .ok (.str (invw s)) S := by
  have e1 : compL (tName 1) tYesM (mVal (m2 fIx (mC (.str [65, 66, 67, 68, 97, 98, 99, 100])) (mVal (mM tyStr fSIndex (mC (.str [97, 98, 99, 100, 65, 66, 67, 68])) (mCons (mVar 1) (mNil)))))) [some (.str s), none] (s.reverse.map fun c => W.str [c]) S = .ok ((invw s).map fun c => W.str [c]) S := by
    refine (compL_map (f := fun w => match w with | .str [c] => .str [iv c] | w => w) _ fun w hw => ?_).trans ?_
    · obtain ⟨c, hc, rfl⟩ := List.mem_map.mp hw
      have hc := h c (List.mem_reverse.mp hc)
      simp [SG] at hc
      rcases hc with rfl | rfl | rfl | rfl | rfl | rfl | rfl | rfl <;> rfl
    · rw [List.map_map]
      unfold invw
      rw [← List.map_reverse, List.map_map]
      rfl
  show outF (b__law_inverse [some (.str s), none] S) = _
  unfold b__law_inverse
  have e2 : fRevX (.str s) S = .ok (.val (.str s.reverse)) S := if_pos hl
  simp only [ev_sRet, ev_mVal, ev_mM, ev_mC, ev_mCons, ev_mNil, ev_mComp, ev_iSeqM, ev_m1, ev_mVar0, Out.bind_ok, e2, vK_val, anyIt_str, wipeE, List.set_cons_succ, List.set_cons_zero, lockS_none, tyStr_str, if_true]
  rw [e1]
  have hl2 : ((invw s).map fun c => W.str [c]).length ≤ LINE := by rw [List.length_map, invw_length]; exact hl
  simp only [nox_ok, Out.bind_ok, cmK_ok hl2, unlockS_none, vK_new]
  rw [fJoin_signs (l := invw s) rfl (by rw [invw_length]; exact hl)]
  rfl
theorem c_linv (h : Word s) (hl : s.length ≤ LINE) : callK 0 m__law_inverse [.str s] S = .ok (.str (invw s)) S := call0 rfl (e_linv h hl) rfl
end
end L2.Mi.Lc

set_option Elab.async false
set_option linter.all false
set_option maxRecDepth 100000
set_option maxHeartbeats 4000000
/-! # Mirrors that many laws share: loops, same by recursion -/
namespace L2.Mi.Lc
open PySem PySem.Spec PyProof.Rows L2 L2.Mi L2.Mi.Wd
open L2.Mi.Lb hiding b__law_same m__law_same b__law_deck m__law_deck b__law_pick m__law_pick w_same c_same c_same_str c_same_bl c_same_int
section
variable {S : Sto} {s t : List Nat} {c : Nat} {w x y z : W} {E : Str → Sto → Prop} {Q : W → Sto → Prop}
theorem line_is : LINE = 16777216 := rfl
theorem iR1_nat {ms : Env → Sto → Out (List W)} {env : Env} {S' : Sto} {n : Nat} (h : ms env S = .ok [.int (n : Nat)] S') (hn : n ≤ LINE) : iR1 ms env S = .ok ((List.range n).map fun i => W.int (i : Nat), none) S' := by
  rw [ev_iR1, h, Out.bind_ok, r1K_nat hn]
/-! ### same -/
theorem same_mc2 {g : MF} {xs : List W} (hl : xs.length ≤ LINE) (hg : ∀ a ∈ xs, callK 0 g [a, a] S = .ok (.bl true) S) : mComp [2] (iR1 (mCons (mVal (mA fLen (mCons (mVar 1) (mNil)))) (mNil))) (tName 2) (tYesM) (mCall 0 g (mCons (mVal (m2 fIx (mVar 0) (mVar 2))) (mCons (mVal (m2 fIx (mVar 1) (mVar 2))) (mNil)))) [some (.tup xs), some (.tup xs), none] S = .ok (.new ((List.range xs.length).map fun i => W.bl ((fun _ => true) i))) S := by
  have hcomp : compL (tName 2) tYesM (mCall 0 g (mCons (mVal (m2 fIx (mVar 0) (mVar 2))) (mCons (mVal (m2 fIx (mVar 1) (mVar 2))) (mNil)))) [some (.tup xs), some (.tup xs), none] ((List.range xs.length).map fun i => W.int (i : Nat)) S = .ok ((List.range xs.length).map fun i => W.bl ((fun _ => true) i)) S := by
    refine (compL_map (f := fun _ => .bl true) _ fun w hw => ?_).trans ?_
    · obtain ⟨k, hk, rfl⟩ := List.mem_map.mp hw
      have hk := List.mem_range.mp hk
      have e : fIx (.tup xs) (.int (k : Nat)) S = .ok (.val xs[k]) S := fIx_seq (fun s => by simp) rfl (by rw [atI_nat hk]; simp [hk])
      simp only [ev_mCall, ev_mCons, ev_mVal, ev_m2, ev_mVarS, ev_mVar0, ev_mNil, List.set_cons_succ, List.set_cons_zero, Out.bind_ok, e, vK_val]
      exact hg _ (List.getElem_mem hk)
    · rw [List.map_map]
      rfl
  have h1 : iR1 (mCons (mVal (mA fLen (mCons (mVar 1) (mNil)))) (mNil)) [some (.tup xs), some (.tup xs), none] S = .ok ((List.range xs.length).map fun i => W.int (i : Nat), none) S := iR1_nat (by simp) hl
  have h3 : wipeE [some (.tup xs), some (.tup xs), none] [2] = [some (.tup xs), some (.tup xs), none] := rfl
  rw [ev_mComp, h1, h3, Out.bind_ok, lockS_none, hcomp, nox_ok, Out.bind_ok, cmK_ok (by rw [List.length_map, List.length_range]; omega)]
  rfl
theorem same_tup {g : MF} {xs : List W} (hl : xs.length ≤ LINE) (hg : ∀ a ∈ xs, ∀ S, callK 0 g [a, a] S = .ok (.bl true) S) : outF (b__law_same g [some (.tup xs), some (.tup xs), none] S) = .ok (.bl true) S := by
  unfold b__law_same
  have hmc := same_mc2 (S := S) hl fun a ha => hg a ha S
  have hall : fAll [.lst ((List.range xs.length).map fun i => W.bl ((fun _ => true) i))] S = .ok (.val (.bl ((List.range xs.length).all fun _ => true))) S := fAll_map (fun _ => true) (List.range xs.length) rfl
  have hret : (mVal (mA fAll (mCons (mVal (mComp [2] (iR1 (mCons (mVal (mA fLen (mCons (mVar 1) (mNil)))) (mNil))) (tName 2) (tYesM) (mCall 0 g (mCons (mVal (m2 fIx (mVar 0) (mVar 2))) (mCons (mVal (m2 fIx (mVar 1) (mVar 2))) (mNil)))))) (mNil)))) [some (.tup xs), some (.tup xs), none] S = .ok (.bl true) S := by
    rw [ev_mVal, ev_mA, ev_mCons, ev_mVal, hmc, Out.bind_ok, vK_new, Out.bind_ok, ev_mNil, Out.bind_ok, Out.bind_ok, hall, Out.bind_ok, vK_val]
    simp
  generalize (mVal (mA fAll (mCons (mVal (mComp [2] (iR1 (mCons (mVal (mA fLen (mCons (mVar 1) (mNil)))) (mNil))) (tName 2) (tYesM) (mCall 0 g (mCons (mVal (m2 fIx (mVar 0) (mVar 2))) (mCons (mVal (m2 fIx (mVar 1) (mVar 2))) (mNil)))))) (mNil)))) = m at hret
  suffices h : wp (outF (sSeq (sIf (mTest (mIsi .tup (mVar 1))) (sSeq (sIf (mOr (mNot (mTest (mIsi .tup (mVar 0)))) (mTestF (m2 fNe (mVal (mA fLen (mCons (mVar 0) (mNil)))) (mVal (mA fLen (mCons (mVar 1) (mNil))))))) (sRet (mC (.bl false))) (sSkip)) (sRet m)) (sSkip))
    (sSeq (sIf (mTestF (m2 fIs (mVar 1) (mC .non))) (sRet (mVal (m2 fIs (mVar 0) (mC .non)))) (sSkip))
    (sSeq (sIf (mTest (mIsi .bl (mVar 1))) (sRet (mAndV (mIsi .bl (mVar 0)) (mVal (m2 fEq (mVar 0) (mVar 1))))) (sSkip))
    (sSeq (sIf (mTest (mIsi .str (mVar 1))) (sRet (mAndV (mIsi .str (mVar 0)) (mVal (m2 fEq (mVar 0) (mVar 1))))) (sSkip))
    (sRet (mAndV (mIsi .int (mVar 0)) (mAndV (mNotV (mIsi .bl (mVar 0))) (mVal (m2 fEq (mVar 0) (mVar 1)))))))))
    [some (.tup xs), some (.tup xs), none] S)) (fun w S' => w = .bl true ∧ S' = S) (fun _ _ => False) by
    obtain ⟨w, S', e, rfl, rfl⟩ := wp_eq h
    exact e
  refine wp_outF ?_
  rw [wpS_seq]
  simp only [ev_sIf, ev_mTest, ev_mIsi, ev_mVarS, ev_mVar0, Out.bind_ok, iK_tup, sub_self, bK_bl, bindS_ok, if_true]
  rw [wpS_seq]
  simp only [ev_sIf, ev_mOr, ev_mNot, ev_mTest, ev_mIsi, ev_mVarS, ev_mVar0, Out.bind_ok, iK_tup, sub_self, bK_bl, Bool.not_true, Bool.false_eq_true, if_false, ev_mTestF, ev_m2, ev_mVal, ev_mA, ev_mCons, ev_mNil, fLen_tup, vK_val, fNe_ii, BEq.rfl, bKF_bl, bindS_ok, ev_sSkip, wpS_next, seq_nx, ev_sRet, hret, wpS_ret, seq_rt]
  exact ⟨trivial, trivial⟩
theorem e_same : ∀ (n : Nat) (x : W), okD n x = true → noL x = true → sz x ≤ 1000000 → ∀ S : Sto, r__law_same (n + 1) [x, x] S = .ok (.bl true) S := by
  intro n
  induction n with
  | zero =>
    intro x hd hn hz S
    have hself : ∀ S, fEq x x S = .ok (.val (.bl true)) S := fun S => by
      have hs : snap S x = x := by cases x <;> first | rfl | cases hn
      have h60 := okD_mono x (n := 0) (m := 60) (by omega) hd
      unfold fEq
      rw [hs, if_pos ⟨h60, h60⟩, eqW_refl x hn]
    show outF (b__law_same (r__law_same 0) [some x, some x, none] S) = _
    unfold b__law_same
    cases x with
    | tup xs => cases hd
    | lst xs => cases hn
    | fro xs => cases hn
    | ref xs => cases hn
    | non => simp [sSeq, subTy]
    | bl b => simp [sSeq, subTy, hself]
    | int b => simp [sSeq, subTy, hself]
    | str b => simp [sSeq, subTy, hself]
  | succ n ih =>
    intro x hd hn hz S
    have hself : ∀ S, (∀ xs, x ≠ .tup xs) → fEq x x S = .ok (.val (.bl true)) S := fun S hx => by
      have hs : snap S x = x := by cases x <;> first | rfl | cases hn
      have h60 : okD 60 x = true := by cases x <;> first | exact okD_mono _ (n := 0) (m := 60) (by omega) hd | (cases hn; done) | exact absurd rfl (hx _)
      unfold fEq
      rw [hs, if_pos ⟨h60, h60⟩, eqW_refl x hn]
    show outF (b__law_same (r__law_same (n + 1)) [some x, some x, none] S) = _
    cases x with
    | tup xs =>
      have hdx : okDs n xs = true := hd
      have hnx : noLs xs = true := hn
      have hsx : sz (.tup xs) = szs xs + 1 := rfl
      have hxl := len_szs xs
      have hline := line_is
      have szm : ∀ {xs : List W} {a : W}, a ∈ xs → sz a ≤ szs xs := by
        intro xs a ha
        induction xs with
        | nil => cases ha
        | cons b xs ih2 =>
          rcases List.mem_cons.mp ha with rfl | ha
          · show sz a ≤ sz a + szs xs; omega
          · have := ih2 ha; show sz a ≤ sz b + szs xs; omega
      have key : ∀ x : W, noL x = true → refsLt 0 x = true := fun x => W.rec (motive_1 := fun x => noL x = true → refsLt 0 x = true) (motive_2 := fun xs => noLs xs = true → refsLts 0 xs = true) (fun _ => rfl) (fun _ _ => rfl) (fun _ _ => rfl) (fun _ _ => rfl) (fun xs ih h => ih h) (fun xs ih h => by cases h) (fun xs ih h => by cases h) (fun n h => by cases h) (fun _ => rfl)
        (fun x xs ih1 ih2 h => by
          have h : (noL x && noLs xs) = true := h
          rw [Bool.and_eq_true] at h
          show (refsLt 0 x && refsLts 0 xs) = true
          rw [ih1 h.1, ih2 h.2]; rfl) x
      exact same_tup (by omega) fun a ha S => call0 (by simp [key _ (noLs_mem hnx ha)]) (ih a (okDs_mem hdx ha) (noLs_mem hnx ha) (by have := szm ha; omega) []) rfl
    | lst xs => cases hn
    | fro xs => cases hn
    | ref xs => cases hn
    | non => simp [b__law_same, sSeq, subTy]
    | bl b => simp [b__law_same, sSeq, subTy, hself _ (fun xs => by simp)]
    | int b => simp [b__law_same, sSeq, subTy, hself _ (fun xs => by simp)]
    | str b => simp [b__law_same, sSeq, subTy, hself _ (fun xs => by simp)]
theorem c_same (hd : okD 11 x = true) (hn : noL x = true) (hz : sz x ≤ 1000000) (hr : refsLt 0 x = true) : callK 0 m__law_same [x, x] S = .ok (.bl true) S :=
  call0 (by simp [hr]) (e_same 11 x hd hn hz []) rfl
/-! ### balance -/
def bal (s : List Nat) : Bool := [97, 98, 99, 100].all fun c => ((s.count c : Int) - (s.count (iv c) : Int)) == 0
theorem bal_iff : bal s = true ↔ ∀ c ∈ ([97, 98, 99, 100] : List Nat), s.count c = s.count (iv c) := by
  unfold bal
  rw [List.all_eq_true]
  constructor
  · intro h c hc
    have := h c hc
    simp at this
    omega
  · intro h c hc
    have := h c hc
    simp
    omega
theorem sg_lower {c : Nat} (h : c ∈ ([97, 98, 99, 100] : List Nat)) : c ∈ SG := by
  simp [SG] at h ⊢; omega
theorem e_sums : m_sums_in [.str s] S = .ok (.tup ([97, 98, 99, 100].map fun c => W.int ((s.count c : Int) - (s.count (iv c) : Int)))) S := by
  have e1 : compL (tName 1) tYesM (mVal (m2 fSub (mVal (mM tyStr fSCount (mVar 0) (mCons (mVar 1) (mNil)))) (mVal (mM tyStr fSCount (mVar 0) (mCons (mCall 0 m_inverse_sign (mCons (mVar 1) (mNil))) (mNil)))))) [some (.str s), none] (([97, 98, 99, 100] : List Nat).map fun c => W.str [c]) S = .ok ([97, 98, 99, 100].map fun c => W.int ((s.count c : Int) - (s.count (iv c) : Int))) S := by
    refine (compL_map (f := fun w => match w with | .str [c] => .int ((s.count c : Int) - (s.count (iv c) : Int)) | w => w) _ fun w hw => ?_).trans ?_
    · obtain ⟨c, hc, rfl⟩ := List.mem_map.mp hw
      have e2 : ∀ (d : Nat) (S : Sto), fSCount (.str s) [.str [d]] S = .ok (.val (.int (s.count d : Nat))) S := fun _ _ => rfl
      simp only [ev_mVal, ev_m2, ev_mM, ev_mVar0, ev_mVarS, ev_mCons, ev_mNil, ev_mCall, List.set_cons_succ, List.set_cons_zero, Out.bind_ok, tyStr_str, if_true, c_inverse_sign (sg_lower hc), e2, vK_val, fSub_ii]
    · rfl
  show outF (b_sums_in [some (.str s), none] S) = _
  unfold b_sums_in
  simp only [ev_sRet, ev_mVal, ev_mA, ev_mCons, ev_mNil, ev_mComp, ev_iSeqM, ev_mC, Out.bind_ok, anyIt_str, wipeE, List.set_cons_succ, List.set_cons_zero, lockS_none]
  rw [e1]
  have : (([97, 98, 99, 100] : List Nat).map fun c => W.int ((s.count c : Int) - (s.count (iv c) : Int))).length ≤ LINE := by rw [line_is]; simp
  simp only [nox_ok, Out.bind_ok, cmK_ok this, unlockS_none, vK_new]
  rfl
theorem e_balanced : m_is_balanced_in [.str s] S = .ok (.bl (bal s)) S := by
  show outF (b_is_balanced_in [some (.str s)] S) = _
  unfold b_is_balanced_in
  have hl4 : ∀ (a b c d : W) (S : Sto), tK [a, b, c, d] S = .ok (.tup [a, b, c, d]) S := fun a b c d S => tK_ok (by show 4 ≤ LINE; rw [line_is]; omega)
  simp only [ev_sRet, ev_mVal, ev_m2, ev_mCall, ev_mCons, ev_mVar0, ev_mNil, Out.bind_ok, call0 (S := S) (ws := [.str s]) (by rfl) (e_sums (S := [])) (by rfl), ev_mTup, ev_mC, hl4]
  have : fEq (.tup ([97, 98, 99, 100].map fun c => W.int ((s.count c : Int) - (s.count (iv c) : Int)))) (.tup [.int 0, .int 0, .int 0, .int 0]) S = .ok (.val (.bl (bal s))) S := by
    unfold fEq
    rw [if_pos ⟨rfl, rfl⟩]
    congr 1
  rw [this]
  rfl
def isL (s : List Nat) : Bool := isW s 400 && bal s
def isLx (x : W) : Bool := match x with
  | .str s => isL s
  | _ => false
theorem e_is_loop_of (h : plainV x = true) (hr : refsLt 0 x = true) : m_is_loop_of [x] S = .ok (.bl (isLx x)) S := by
  show outF (b_is_loop_of [some x] S) = _
  unfold b_is_loop_of
  simp only [ev_sRet, ev_mAndV, ev_mCall, ev_mCons, ev_mVar0, ev_mC, ev_mNil, Out.bind_ok]
  rw [call0 (by simp [hr, refsLt]) (e_is_word_of_any h) rfl]
  simp only [Out.bind_ok, bK_bl]
  by_cases hw : isWx x 400 = true
  · obtain ⟨s, rfl⟩ : ∃ s, x = .str s := by
      cases x with
      | str s => exact ⟨s, rfl⟩
      | _ => cases hw
    rw [hw, if_pos rfl, call0 (S := S) (ws := [.str s]) (by rfl) (e_balanced (S := [])) (by rfl)]
    have hw' : isW s 400 = true := hw
    show Out.ok (W.bl (bal s)) S = .ok (W.bl (isW s 400 && bal s)) S
    rw [hw']; rfl
  · have hw0 : isWx x 400 = false := by simpa using hw
    rw [hw0]
    have : isLx x = false := by
      cases x with
      | str s =>
        have : isW s 400 = false := hw0
        show (isW s 400 && bal s) = false
        rw [this]; rfl
      | _ => rfl
    rw [this]
    rfl
theorem c_need_loop (h : plainV x = true) (hr : refsLt 0 x = true) : callK 0 m_need_loop [x] S = if isLx x = true then .ok .non S else .exc "BadWord" S := by
  have e : m_need_loop [x] [] = if isLx x = true then .ok .non [] else .exc "BadWord" [] := by
    show outF (b_need_loop [some x] []) = _
    unfold b_need_loop
    simp only [ev_sIf, ev_mNot, ev_mTest, ev_mCall, ev_mCons, ev_mVar0, ev_mC, ev_mNil, Out.bind_ok]
    rw [call0 (by simp [hr]) (e_is_loop_of (S := []) h hr) rfl]
    cases isLx x <;> rfl
  by_cases c : isLx x = true
  · rw [if_pos c] at e ⊢
    exact call0 (by simp [hr]) e rfl
  · rw [if_neg c] at e ⊢
    exact call0_exc (by simp [hr]) e
/-! ### cancellations -/
def spt (s : List Nat) : List Nat := (List.range s.length).filter fun k => s.getD ((k + 1) % s.length) 0 == iv (s.getD k 0)
theorem ix_at {k : Nat} (hl : s.length ≤ LINE) (hk : k < s.length) : fIx (.str s) (.int (k : Nat)) S = .ok (.val (.str [s.getD k 0])) S := fIx_str hl (by rw [atI_nat hk]; simp [hk])
theorem ix_next {k : Nat} (hl : s.length ≤ LINE) (hk : k < s.length) : fIx (.str s) (.int (((k : Int) + 1) % (s.length : Int))) S = .ok (.val (.str [s.getD ((k + 1) % s.length) 0])) S := by
  have : ((k : Int) + 1) % (s.length : Int) = (((k + 1) % s.length : Nat) : Int) := by
    rw [Int.natCast_emod]; rfl
  rw [this]
  exact ix_at hl (Nat.mod_lt _ (by omega))
theorem getD_sg (hw : Word s) {k : Nat} (hk : k < s.length) : s.getD k 0 ∈ SG := by
  have : s.getD k 0 = s[k] := by simp [hk]
  rw [this]
  exact hw _ (List.getElem_mem hk)
theorem e_is_canc {k : Nat} (hw : Word s) (hl : s.length ≤ LINE) (hk : k < s.length) : m_is_cancellation [.str s, .int (k : Nat)] S = .ok (.bl (s.getD ((k + 1) % s.length) 0 == iv (s.getD k 0))) S := by
  show outF (b_is_cancellation [some (.str s), some (.int (k : Nat))] S) = _
  unfold b_is_cancellation
  have h1 := getD_sg hw hk
  have h2 := getD_sg hw (k := (k + 1) % s.length) (Nat.mod_lt _ (by omega))
  have e1 : callK 0 m_inverse_in [.str [s.getD k 0]] S = .ok (.str [iv (s.getD k 0)]) S := call0 rfl (e_inverse_in (Word.cons h1 .nil) (by rw [line_is]; show 1 ≤ 16777216; omega)) rfl
  simp only [ev_sRet, ev_mVal, ev_m2, ev_mVar0, ev_mVarS, ev_mC, Out.bind_ok, fAdd_ii, vK_val, ev_mA, ev_mCons, ev_mNil, fLen_str (S := S) (s := s) hl, fMod_ii, if_pos (show (0 : Int) < (s.length : Int) by omega), ix_next (S := S) hl hk, ev_mCall, ix_at (S := S) hl hk, e1, fEq_str (S := S) (Word.ok (Word.cons h2 .nil)) (Word.ok (Word.cons (iv_mem h1) .nil))]
  simp
theorem filt_ints (p : Nat → Bool) (l : List Nat) : (((l.map fun i => W.int (i : Nat)).filter (fun w => match w with | .int i => p i.toNat | _ => false)).map id) = (l.filter p).map fun i => W.int (i : Nat) := by
  rw [List.map_id, List.filter_map]
  rfl
theorem e_canc (h : isL s = true) : m_cancellations [.str s] S = .ok (.tup ((spt s).map fun i => W.int (i : Nat))) S := by
  have h' : isW s 400 = true ∧ bal s = true := by
    unfold isL at h
    rw [Bool.and_eq_true] at h
    exact h
  obtain ⟨h1, hw⟩ := (isW_iff (n := 400)).mp h'.1
  have hline := line_is
  have hl : s.length ≤ LINE := by omega
  have hpl : plainV (.str s) = true := by simpa [plainV] using hl
  have hc : compL (tName 1) (mTest (mCall 0 m_is_cancellation (mCons (mVar 0) (mCons (mVar 1) (mNil))))) (mVar 1) [some (.str s), none] ((List.range s.length).map fun i => W.int (i : Nat)) S = .ok ((spt s).map fun i => W.int (i : Nat)) S := by
    refine (compL_filter (p := fun w => match w with | .int i => (s.getD ((i.toNat + 1) % s.length) 0 == iv (s.getD i.toNat 0)) | _ => false) (f := id) _ (fun w hw' => ?_) fun w hw' _ => ?_).trans ?_
    · obtain ⟨k, hk, rfl⟩ := List.mem_map.mp hw'
      have hk := List.mem_range.mp hk
      simp only [ev_mTest, ev_mCall, ev_mCons, ev_mVar0, ev_mVarS, ev_mNil, List.set_cons_succ, List.set_cons_zero, Out.bind_ok, call0 (S := S) (ws := [.str s, .int (k : Nat)]) (by rfl) (e_is_canc (S := []) hw hl hk) (by rfl), bK_bl, Int.toNat_natCast]
    · rfl
    · exact congrArg (Out.ok · S) (filt_ints (fun k => s.getD ((k + 1) % s.length) 0 == iv (s.getD k 0)) (List.range s.length))
  have hsl : ((spt s).map fun i => W.int (i : Nat)).length ≤ LINE := by
    rw [List.length_map]
    have : (spt s).length ≤ (List.range s.length).length := List.length_filter_le _ _
    rw [List.length_range] at this
    omega
  have hi : iR1 (mCons (mVal (mA fLen (mCons (mVar 0) (mNil)))) (mNil)) [some (.str s), none] S = .ok ((List.range s.length).map fun i => W.int (i : Nat), none) S := iR1_nat (by simp [fLen_str (S := S) hl]) hl
  have hmc : mComp [1] (iR1 (mCons (mVal (mA fLen (mCons (mVar 0) (mNil)))) (mNil))) (tName 1) (mTest (mCall 0 m_is_cancellation (mCons (mVar 0) (mCons (mVar 1) (mNil))))) (mVar 1) [some (.str s), none] S = .ok (.new ((spt s).map fun i => W.int (i : Nat))) S := by
    have h3 : wipeE [some (.str s), none] [1] = [some (.str s), none] := rfl
    rw [ev_mComp, hi, h3, Out.bind_ok, lockS_none, hc, nox_ok, Out.bind_ok, cmK_ok hsl]
    rfl
  show outF (b_cancellations [some (.str s), none] S) = _
  unfold b_cancellations
  simp only [sSeq, ev_sExpr, ev_mCall, ev_mCons, ev_mVar0, ev_mNil, Out.bind_ok, c_need_loop (x := .str s) hpl rfl]
  rw [if_pos (show isLx (.str s) = true from h)]
  simp only [bindS_ok, ev_sRet, ev_mVal, ev_mA, ev_mCons, ev_mNil, hmc, Out.bind_ok, vK_new]
  rfl
theorem e_canc_bad (h : plainV x = true) (hr : refsLt 0 x = true) (hx : isLx x = false) : m_cancellations [x] S = .exc "BadWord" S := by
  show outF (b_cancellations [some x, none] S) = _
  unfold b_cancellations
  simp only [sSeq, ev_sExpr, ev_mCall, ev_mCons, ev_mVar0, ev_mNil, Out.bind_ok, c_need_loop h hr]
  rw [hx]
  rfl
theorem refsLts_nats {k : Nat} : ∀ l : List Nat, refsLts k (l.map fun i => W.int (i : Nat)) = true
  | [] => rfl
  | c :: cs => by
    show (refsLt k (.int c) && refsLts k (cs.map fun i => W.int (i : Nat))) = true
    rw [refsLts_nats cs]; rfl
theorem c_canc (h : isL s = true) : callK 0 m_cancellations [.str s] S = .ok (.tup ((spt s).map fun i => W.int (i : Nat))) S := call0 rfl (e_canc h) (refsLts_nats _)
theorem noLs_nats : ∀ l : List Nat, noLs (l.map fun i => W.int (i : Nat)) = true
  | [] => rfl
  | c :: cs => by
    show (noL (.int c) && noLs (cs.map fun i => W.int (i : Nat))) = true
    rw [noLs_nats cs]; rfl
theorem szs_nats : ∀ l : List Nat, szs (l.map fun i => W.int (i : Nat)) = l.length
  | [] => rfl
  | c :: cs => by
    show sz (.int c) + szs (cs.map fun i => W.int (i : Nat)) = cs.length + 1
    rw [szs_nats cs]
    show 1 + cs.length = _
    omega
theorem c_same_nats {l : List Nat} (h : l.length ≤ 1000) : callK 0 m__law_same [.tup (l.map fun i => W.int (i : Nat)), .tup (l.map fun i => W.int (i : Nat))] S = .ok (.bl true) S :=
  c_same (by show okDs 10 _ = true; exact okDs_map fun _ _ => okD_int) (noLs_nats l) (by show szs _ + 1 ≤ 1000000; rw [szs_nats]; omega) (refsLts_nats l)
end
end L2.Mi.Lc

set_option Elab.async false
set_option linter.all false
set_option maxRecDepth 100000
set_option maxHeartbeats 4000000
/-! # The engine, part Z: reckoning by simp alone -/
namespace L2.Mi
open PySem PySem.Spec PyProof.Rows L2.Mi.Wd
section
variable {α β : Type} {Q : α → Sto → Prop} {E : Str → Sto → Prop} {env : Env} {S S' : Sto} {i j k n : Nat} {w x y z : W} {ws ys xs : List W} {own : List Nat} {s t u : List Nat} {c : Nat}
/-! ### comprehensions -/
def cL {α : Type} (g : α → Sto → Out (Option W)) : List α → Sto → Out (List W)
  | [], S => .ok [] S
  | a :: l, S => (g a S).bind fun o S1 => (cL g l S1).bind fun ys S2 => .ok (o.toList ++ ys) S2
def uL (g : W → Sto → Out (Option W)) : List W → Sto → Out (List W)
  | [], S => .ok [] S
  | a :: l, S => (g a S).bind fun o S1 => (uL g l S1).bind fun ys S2 => .ok (o.toList ++ ys) S2
theorem uL_nil {g : W → Sto → Out (Option W)} : uL g [] S = .ok [] S := rfl
theorem uL_cons {g : W → Sto → Out (Option W)} : uL g (x :: xs) S = (g x S).bind fun o S1 => (uL g xs S1).bind fun ys S2 => .ok (o.toList ++ ys) S2 := rfl
theorem uL_cL {g : W → Sto → Out (Option W)} : ∀ (ws : List W) (S : Sto), uL g ws S = cL g ws S
  | [], S => rfl
  | a :: l, S => by
    show (g a S).bind _ = (g a S).bind _
    congr 1; funext o S1; rw [uL_cL l S1]
def stepC (mt : W → Env → Sto → Out Env) (tt : Env → Sto → Out Bool) (el : Env → Sto → Out W) (env : Env) : W → Sto → Out (Option W) := fun w S =>
  (mt w env S).nox.bind fun e S1 => (tt e S1).nox.bind fun b S2 => if b = true then (el e S2).nox.bind fun y S3 => .ok (some y) S3 else .ok none S2
theorem compL_eq {mt : W → Env → Sto → Out Env} {tt : Env → Sto → Out Bool} {el : Env → Sto → Out W} : ∀ (ws : List W) (S : Sto), compL mt tt el env ws S = cL (stepC mt tt el env) ws S
  | [], S => rfl
  | w :: ws, S => by
    have ih := fun S => compL_eq (mt := mt) (tt := tt) (el := el) ws S
    show (mt w env S).nox.bind _ = ((mt w env S).nox.bind _).bind _
    cases (mt w env S).nox with
    | fail => rfl
    | exc c S1 => rfl
    | ok e S1 =>
      simp only [Out.bind_ok]
      cases (tt e S1).nox with
      | fail => rfl
      | exc c S2 => rfl
      | ok b S2 =>
        simp only [Out.bind_ok]
        cases b with
        | false =>
          simp only [Bool.false_eq_true, if_false, Out.bind_ok, ih]
          show cL _ ws S2 = (cL _ ws S2).bind fun ys S3 => .ok ys S3
          cases cL (stepC mt tt el env) ws S2 <;> rfl
        | true =>
          simp only [if_true]
          cases (el e S2).nox with
          | fail => rfl
          | exc c S3 => rfl
          | ok y S3 => simp only [Out.bind_ok, ih]; rfl
theorem ev_tYesM : tYesM env S = .ok true S := rfl
def sqK (o : OutS) (b : Env → Sto → OutS) : OutS := match o with
  | .next e S => b e S
  | o => o
theorem ev_sSeq {a b : Env → Sto → OutS} : sSeq a b env S = sqK (a env S) b := rfl
theorem sqK_next {b : Env → Sto → OutS} : sqK (.next env S) b = b env S := rfl
theorem sqK_ret {b : Env → Sto → OutS} : sqK (.ret w S) b = .ret w S := rfl
theorem sqK_exc {b : Env → Sto → OutS} {c : Str} : sqK (.exc c env S) b = .exc c env S := rfl
theorem sqK_brk {b : Env → Sto → OutS} : sqK (.brk env S) b = .brk env S := rfl
theorem sqK_cont {b : Env → Sto → OutS} : sqK (.cont env S) b = .cont env S := rfl
theorem sqK_ite {P : Prop} [Decidable P] {o o' : OutS} {b : Env → Sto → OutS} : sqK (if P then o else o') b = if P then sqK o b else sqK o' b := by split <;> rfl
theorem outF_ite {P : Prop} [Decidable P] {o o' : OutS} : outF (if P then o else o') = if P then outF o else outF o' := by split <;> rfl
theorem bind_ite {P : Prop} [Decidable P] {o o' : Out α} {b : α → Sto → Out β} : (if P then o else o').bind b = if P then o.bind b else o'.bind b := by split <;> rfl
theorem bindS_ite {P : Prop} [Decidable P] {o o' : Out α} {b : α → Sto → OutS} : (if P then o else o').bindS env b = if P then o.bindS env b else o'.bindS env b := by split <;> rfl
theorem nox_ite {P : Prop} [Decidable P] {o o' : Out α} : (if P then o else o').nox = if P then o.nox else o'.nox := by split <;> rfl
def trK (o : OutS) (l : List (Str × Bool)) (b : Env → Sto → OutS) : OutS := match o with
  | .exc c e S => match l.lookup c with
    | some true => b e S
    | some false => .exc c e S
    | none => .fail
  | o => o
theorem ev_sTry {a b : Env → Sto → OutS} {l : List (Str × Bool)} : sTry a l b env S = trK (a env S) l b := by
  first
  | rfl
  | (unfold sTry trK
     cases a env S with
     | exc c e S1 =>
       first
       | rfl
       | (cases l.lookup c with
         | none => rfl
         | some b => cases b <;> rfl)
     | _ => rfl)
theorem trK_next {b : Env → Sto → OutS} {l : List (Str × Bool)} : trK (.next env S) l b = .next env S := rfl
theorem trK_ret {b : Env → Sto → OutS} {l : List (Str × Bool)} : trK (.ret w S) l b = .ret w S := rfl
theorem trK_ite {P : Prop} [Decidable P] {o o' : OutS} {b : Env → Sto → OutS} {l : List (Str × Bool)} : trK (if P then o else o') l b = if P then trK o l b else trK o' l b := by split <;> rfl
theorem trK_exc {b : Env → Sto → OutS} {c : Str} {l : List (Str × Bool)} (h : l.lookup c = some true) : trK (.exc c env S) l b = b env S := by unfold trK; simp only; rw [h]
theorem trK_exc_not {b : Env → Sto → OutS} {c : Str} {l : List (Str × Bool)} (h : l.lookup c = some false) : trK (.exc c env S) l b = .exc c env S := by unfold trK; simp only; rw [h]
def cm0 (ys : List W) (S : Sto) : Out FW := if ys.length ≤ 16777216 then .ok (.new ys) S else .fail
def cM (g : W → Sto → Out (Option W)) (o : List W × Option Nat) (S : Sto) : Out FW := (cL g o.1 (lockS o.2 o.1 S)).nox.bind (cmK o)
theorem ev_comp {mi : Env → Sto → Out (List W × Option Nat)} {mt : W → Env → Sto → Out Env} {tt : Env → Sto → Out Bool} {el : Env → Sto → Out W} :
    mComp own mi mt tt el env S = (mi env S).bind (cM fun w S => (mt w (wipeE env own) S).nox.bind fun e S1 => (tt e S1).nox.bind fun b S2 => if b = true then (el e S2).nox.bind fun y S3 => .ok (some y) S3 else .ok none S2) := by
  rw [ev_mComp]
  congr 1; funext o S1
  unfold cM
  rw [compL_eq]
  rfl
theorem cL_map {g : W → Sto → Out (Option W)} {f : α → W} : ∀ (l : List α) (S : Sto), cL g (l.map f) S = cL (fun a => g (f a)) l S
  | [], S => rfl
  | a :: l, S => by
    show (g (f a) S).bind _ = (g (f a) S).bind _
    congr 1; funext o S1
    rw [cL_map l S1]
theorem cM_map {g : W → Sto → Out (Option W)} {f : α → W} {l : List α} : cM g (l.map f, none) S = (cL (fun a => g (f a)) l S).nox.bind cm0 := by
  unfold cM
  rw [cL_map]
  rfl
theorem cM_nil {g : W → Sto → Out (Option W)} : cM g ([], none) S = .ok (.new []) S := rfl
theorem cM_cons {g : W → Sto → Out (Option W)} : cM g (x :: xs, none) S = (uL g (x :: xs) S).nox.bind cm0 := by rw [uL_cL]; rfl
theorem cM_var {g : W → Sto → Out (Option W)} : cM g (xs, none) S = (cL g xs S).nox.bind cm0 := rfl
theorem cM_lock {g : W → Sto → Out (Option W)} : cM g (xs, some n) S = (cL g xs (S.set n (.ro xs))).nox.bind fun ys S2 => if ys.length ≤ 16777216 then .ok (.new ys) (S2.set n (.lst xs)) else .fail := rfl
theorem cL_some {v : α → W} : ∀ {l : List α} {S : Sto}, cL (fun a S => .ok (some (v a)) S) l S = .ok (l.map v) S
  | [], S => rfl
  | a :: l, S => by
    show (cL _ l S).bind _ = _
    rw [cL_some (l := l)]
    rfl
theorem cL_if {P : α → Prop} [DecidablePred P] {v : α → W} : ∀ {l : List α} {S : Sto}, cL (fun a S => if P a then .ok (some (v a)) S else .ok none S) l S = .ok ((l.filter fun a => decide (P a)).map v) S
  | [], S => rfl
  | a :: l, S => by
    show Out.bind (if P a then _ else _) _ = _
    by_cases h : P a
    · rw [if_pos h]
      show (cL _ l S).bind _ = _
      rw [cL_if (l := l), List.filter_cons_of_pos (by simpa using h)]
      rfl
    · rw [if_neg h]
      show (cL _ l S).bind _ = _
      rw [cL_if (l := l), List.filter_cons_of_neg (by simpa using h)]
      rfl
/-- with a given state -/
theorem cL_at {g : α → Sto → Out (Option W)} {v : α → W} : ∀ {l : List α}, (∀ a ∈ l, g a S = .ok (some (v a)) S) → cL g l S = .ok (l.map v) S
  | [], _ => rfl
  | a :: l, h => by
    show (g a S).bind _ = _
    rw [h a List.mem_cons_self, Out.bind_ok, cL_at (l := l) fun b hb => h b (List.mem_cons_of_mem _ hb)]
    rfl
theorem cL_at_if {g : α → Sto → Out (Option W)} {p : α → Bool} {v : α → W} : ∀ {l : List α}, (∀ a ∈ l, g a S = if p a = true then .ok (some (v a)) S else .ok none S) → cL g l S = .ok ((l.filter p).map v) S
  | [], _ => rfl
  | a :: l, h => by
    show (g a S).bind _ = _
    rw [h a List.mem_cons_self]
    cases hp : p a with
    | true =>
      rw [if_pos rfl, Out.bind_ok, cL_at_if (l := l) fun b hb => h b (List.mem_cons_of_mem _ hb), List.filter_cons_of_pos hp]
      rfl
    | false =>
      rw [if_neg Bool.false_ne_true, Out.bind_ok, cL_at_if (l := l) fun b hb => h b (List.mem_cons_of_mem _ hb), List.filter_cons_of_neg (by simp [hp])]
      rfl
/-- with a state that moves on -/
theorem cL_wp {g : α → Sto → Out (Option W)} (P : Nat → List W → Sto → Prop) : ∀ (l : List α) (k : Nat) (acc : List W) (S : Sto),
    (∀ (i : Nat) (a : α) (acc : List W) (S : Sto), l[i]? = some a → P (k + i) acc S → wp (g a S) (fun o S1 => P (k + i + 1) (acc ++ o.toList) S1) fun _ _ => False) → P k acc S →
    wp (cL g l S) (fun ys S' => P (k + l.length) (acc ++ ys) S') fun _ _ => False
  | [], k, acc, S, _, h => by
    show wp (.ok [] S) _ _
    rw [wp_ok]
    show P (k + 0) (acc ++ []) S
    rw [List.append_nil]; exact h
  | a :: l, k, acc, S, hs, h => by
    have q := hs 0 a acc S rfl h
    show wp ((g a S).bind _) _ _
    rw [wp_bind]
    refine wp_mono q (fun o S1 q => ?_) fun _ _ z => z
    rw [wp_bind]
    refine wp_mono (cL_wp P l (k + 1) (acc ++ o.toList) S1 (fun i a acc S hi hp => ?_) q) (fun ys S2 q2 => ?_) fun _ _ z => z
    · have := hs (i + 1) a acc S (by simpa using hi) (by rw [show k + (i + 1) = k + 1 + i by omega]; exact hp)
      rw [show k + (i + 1) + 1 = k + 1 + i + 1 by omega] at this
      exact this
    · rw [wp_ok]
      show P (k + (a :: l).length) (acc ++ (o.toList ++ ys)) S2
      rw [← List.append_assoc, show k + (a :: l).length = k + 1 + l.length by rw [List.length_cons]; omega]
      exact q2
theorem wp_cL {g : α → Sto → Out (Option W)} {l : List α} {R : List W → Sto → Prop} (P : Nat → List W → Sto → Prop) (h0 : P 0 [] S)
    (hs : ∀ (i : Nat) (a : α) (acc : List W) (S : Sto), l[i]? = some a → P i acc S → wp (g a S) (fun o S1 => P (i + 1) (acc ++ o.toList) S1) fun _ _ => False)
    (hd : ∀ ys S', P l.length ys S' → R ys S') : wp (cL g l S) R E := by
  refine wp_mono (cL_wp P l 0 [] S (fun i a acc S hi hp => ?_) h0) (fun ys S' q => ?_) fun _ _ z => z.elim
  · rw [Nat.zero_add] at hp ⊢
    exact hs i a acc S hi hp
  · rw [Nat.zero_add, List.nil_append] at q
    exact hd ys S' q
theorem wp_nox' {o : Out α} (h : wp o Q fun _ _ => False) : wp o.nox Q E := wp_nox.mpr h
theorem cm0_ok (h : ys.length ≤ 16777216) : cm0 ys S = .ok (.new ys) S := if_pos h
theorem cm0_map {l : List α} {v : α → W} (h : l.length ≤ 16777216) : cm0 (l.map v) S = .ok (.new (l.map v)) S := if_pos (by rw [List.length_map]; exact h)
theorem cm0_filter {l : List α} {p : α → Bool} {v : α → W} (h : l.length ≤ 16777216) : cm0 ((l.filter p).map v) S = .ok (.new ((l.filter p).map v)) S := if_pos (by
  rw [List.length_map]
  exact Nat.le_trans (List.length_filter_le _ _) h)
/-! ### ranges -/
theorem r1K_n (h : n ≤ 16777216) : r1K [.int (n : Nat)] S = .ok ((List.range n).map fun i => W.int (i : Nat), none) S := r1K_nat h
theorem r1K_i {j : Int} (h : j ≤ 16777216) (h0 : -16777216 ≤ j) : r1K [.int j] S = .ok ((List.range j.toNat).map fun i => W.int (i : Nat), none) S := r1K_ok (by omega) (by omega)
def r2K (ws : List W) (S1 : Sto) : Out (List W × Option Nat) := match ws with
  | [.int lo, .int j] => if -(2 ^ 62) ≤ lo ∧ lo < 2 ^ 62 ∧ -(2 ^ 62) ≤ j ∧ j < 2 ^ 62 then .ok ((List.range (j - lo).toNat).map fun i => W.int (lo + (i : Nat)), none) S1 else .fail
  | _ => .fail
theorem rg_ok {i j : Int} (h1 : -16777216 ≤ i) (h2 : i ≤ 16777216) (h3 : -16777216 ≤ j) (h4 : j ≤ 16777216) (h5 : j - i ≤ 16777216) : rgOk i j = true := by
  unfold rgOk
  simp only [Bool.and_eq_true, decide_eq_true_eq]
  refine ⟨⟨⟨⟨?_, ?_⟩, ?_⟩, ?_⟩, ?_⟩ <;> omega
theorem rgW_0 {j : Int} : rgW 0 j = (List.range j.toNat).map fun i => W.int (i : Nat) := by
  unfold rgW
  rw [Int.sub_zero]
  congr 1
  funext i
  rw [Int.zero_add]
theorem ev_tupRg1 {m : Env → Sto → Out W} : mTupRg1 m env S = (m env S).bind fun x S1 => match x with
  | .int n => if rgOk 0 n = true then .ok (.tup (rgW 0 n)) S1 else .fail
  | _ => .fail := rfl
theorem tupRg1 {m : Env → Sto → Out W} {j : Int} (e : m env S = .ok (.int j) S') (h3 : -16777216 ≤ j) (h4 : j ≤ 16777216) : mTupRg1 m env S = .ok (.tup ((List.range j.toNat).map fun i => W.int (i : Nat))) S' := by
  rw [ev_tupRg1, e, Out.bind_ok]
  show (if rgOk 0 j = true then Out.ok (W.tup (rgW 0 j)) S' else .fail) = _
  rw [if_pos (rg_ok (by omega) (by omega) h3 h4 (by omega)), rgW_0]
theorem tupRg2 {ma mb : Env → Sto → Out W} {i j : Int} {S2 : Sto} (e : ma env S = .ok (.int i) S') (e2 : mb env S' = .ok (.int j) S2) (h1 : -16777216 ≤ i) (h2 : i ≤ 16777216) (h3 : -16777216 ≤ j) (h4 : j ≤ 16777216) (h5 : j - i ≤ 16777216) :
    mTupRg2 ma mb env S = .ok (.tup ((List.range (j - i).toNat).map fun k => W.int (i + (k : Nat)))) S2 := by
  show (ma env S).bind _ = _
  rw [e, Out.bind_ok, e2, Out.bind_ok]
  show (if rgOk i j = true then Out.ok (W.tup (rgW i j)) S2 else .fail) = _
  rw [if_pos (rg_ok h1 h2 h3 h4 h5)]
  rfl
theorem listRg1 {m : Env → Sto → Out W} {j : Int} (e : m env S = .ok (.int j) S') (h3 : -16777216 ≤ j) (h4 : j ≤ 16777216) : mListRg1 m env S = .ok (.new ((List.range j.toNat).map fun i => W.int (i : Nat))) S' := by
  show (m env S).bind _ = _
  rw [e, Out.bind_ok]
  show (if rgOk 0 j = true then Out.ok (FW.new (rgW 0 j)) S' else .fail) = _
  rw [if_pos (rg_ok (by omega) (by omega) h3 h4 (by omega)), rgW_0]
theorem listRg2 {ma mb : Env → Sto → Out W} {i j : Int} {S2 : Sto} (e : ma env S = .ok (.int i) S') (e2 : mb env S' = .ok (.int j) S2) (h1 : -16777216 ≤ i) (h2 : i ≤ 16777216) (h3 : -16777216 ≤ j) (h4 : j ≤ 16777216) (h5 : j - i ≤ 16777216) :
    mListRg2 ma mb env S = .ok (.new ((List.range (j - i).toNat).map fun k => W.int (i + (k : Nat)))) S2 := by
  show (ma env S).bind _ = _
  rw [e, Out.bind_ok, e2, Out.bind_ok]
  show (if rgOk i j = true then Out.ok (FW.new (rgW i j)) S2 else .fail) = _
  rw [if_pos (rg_ok h1 h2 h3 h4 h5)]
  rfl
theorem ev_iR2 {ms : Env → Sto → Out (List W)} : iR2 ms env S = (ms env S).bind r2K := rfl
theorem r2K_i {i j : Int} (h1 : -16777216 ≤ i) (h2 : i ≤ 16777216) (h3 : -16777216 ≤ j) (h4 : j ≤ 16777216) : r2K [.int i, .int j] S = .ok ((List.range (j - i).toNat).map fun k => W.int (i + (k : Nat)), none) S := by
  show (if -(2 ^ 62) ≤ i ∧ i < 2 ^ 62 ∧ -(2 ^ 62) ≤ j ∧ j < 2 ^ 62 then Out.ok ((List.range (j - i).toNat).map fun k => W.int (i + (k : Nat)), none) S else .fail) = _
  rw [if_pos (by refine ⟨?_, ?_, ?_, ?_⟩ <;> omega)]
/-! ### values -/
theorem in_str {a : Nat} : fIn (.str [a]) (.str s) S = .ok (.val (.bl (decide (a ∈ s)))) S := rfl
theorem notIn_str {a : Nat} : fNotIn (.str [a]) (.str s) S = .ok (.val (.bl (!decide (a ∈ s)))) S := rfl
theorem count_str {a : Nat} : fSCount (.str s) [.str [a]] S = .ok (.val (.int (s.count a : Nat))) S := rfl
theorem index_str {a : Nat} (h : a ∈ s) : fSIndex (.str s) [.str [a]] S = .ok (.val (.int (s.idxOf a : Nat))) S := if_pos h
theorem all_map' {p : α → Bool} {l : List α} : fAll [.lst (l.map fun c => W.bl (p c))] S = .ok (.val (.bl (l.all p))) S := Lb.fAll_map p l rfl
theorem any_map' {p : α → Bool} {l : List α} : fAny [.lst (l.map fun c => W.bl (p c))] S = .ok (.val (.bl (l.any p))) S := Lb.fAny_map p l rfl
theorem tupOf_lst : fTupOf [.lst xs] S = .ok (.val (.tup xs)) S := rfl
theorem tupOf_tup : fTupOf [.tup xs] S = .ok (.val (.tup xs)) S := rfl
theorem listOf_tup : fListOf [.tup xs] S = .ok (.new xs) S := rfl
theorem listOf_lst : fListOf [.lst xs] S = .ok (.new xs) S := rfl
theorem listOf_str (h : s.length ≤ 16777216) : fListOf [.str s] S = .ok (.new (s.map fun c => W.str [c])) S := if_pos h
theorem join_map {f : α → List Nat} {l : List α} (h : (l.map f).flatten.length ≤ 16777216) : fJoin (.str []) [.lst (l.map fun a => W.str (f a))] S = .ok (.val (.str (l.map f).flatten)) S := by
  have e : strsOf (l.map fun c => W.str (f c)) = some (l.map f) := Lb.strsOf_map f l
  show (match strsOf (l.map fun c => W.str (f c)) with
      | some ss => if (ss.map (fun q : List Nat => q.length)).sum + ss.length * 0 ≤ LINE then Out.ok (FW.val (.str (joinN [] ss))) S else .fail
      | none => .fail) = _
  rw [e]
  show (if ((l.map f).map (fun q : List Nat => q.length)).sum + (l.map f).length * 0 ≤ LINE then Out.ok (FW.val (.str (joinN [] (l.map f)))) S else .fail) = _
  rw [joinN_nil, if_pos]
  rw [Nat.mul_zero, Nat.add_zero]
  rw [List.length_flatten] at h
  exact h
theorem flat_one {f : α → Nat} {l : List α} : (l.map fun a => [f a]).flatten = l.map f := by
  induction l with
  | nil => rfl
  | cons a l ih => rw [List.map_cons, List.flatten_cons, ih]; rfl
theorem join_one {f : α → Nat} {l : List α} (h : l.length ≤ 16777216) : fJoin (.str []) [.lst (l.map fun a => W.str [f a])] S = .ok (.val (.str (l.map f))) S := by
  have := join_map (S := S) (f := fun a => [f a]) (l := l) (by rw [flat_one, List.length_map]; exact h)
  rw [flat_one] at this
  exact this
theorem join_tup {f : α → List Nat} {l : List α} (h : (l.map f).flatten.length ≤ 16777216) : fJoin (.str []) [.tup (l.map fun a => W.str (f a))] S = .ok (.val (.str (l.map f).flatten)) S := by
  have := join_map (S := S) h
  exact this
theorem join_tup' {l : List (List Nat)} (h : l.flatten.length ≤ 16777216) : fJoin (.str []) [.tup (l.map W.str)] S = .ok (.val (.str l.flatten)) S := by
  have := join_tup (S := S) (f := fun a : List Nat => a) (l := l) (by simpa using h)
  simpa using this
theorem join_lst' {l : List (List Nat)} (h : l.flatten.length ≤ 16777216) : fJoin (.str []) [.lst (l.map W.str)] S = .ok (.val (.str l.flatten)) S := by
  have := join_map (S := S) (f := fun a : List Nat => a) (l := l) (by simpa using h)
  simpa using this
theorem add_str (h : s.length + t.length ≤ 16777216) : fAdd (.str s) (.str t) S = .ok (.val (.str (s ++ t))) S := if_pos h
theorem add_tup (h : xs.length + ys.length ≤ 16777216) : fAdd (.tup xs) (.tup ys) S = .ok (.val (.tup (xs ++ ys))) S := if_pos h
theorem add_lst (h : xs.length + ys.length ≤ 16777216) : fAdd (.lst xs) (.lst ys) S = .ok (.new (xs ++ ys)) S := if_pos h
theorem len_str (h : s.length ≤ 16777216) : fLen [.str s] S = .ok (.val (.int s.length)) S := if_pos h
theorem ix_sn {k : Nat} (hl : s.length ≤ 16777216) (hk : k < s.length) : fIx (.str s) (.int (k : Nat)) S = .ok (.val (.str [s.getD k 0])) S := fIx_str hl (by rw [atI_nat hk]; simp [hk])
theorem ix_si {j : Int} (hl : s.length ≤ 16777216) (h0 : 0 ≤ j) (hk : j.toNat < s.length) : fIx (.str s) (.int j) S = .ok (.val (.str [s.getD j.toNat 0])) S := by
  obtain ⟨k, rfl⟩ : ∃ k : Nat, j = (k : Int) := ⟨j.toNat, by omega⟩
  rw [Int.toNat_natCast] at hk ⊢
  exact ix_sn hl hk
theorem ix_tn {k : Nat} (hk : k < xs.length) : fIx (.tup xs) (.int (k : Nat)) S = .ok (.val (xs.getD k .non)) S := fIx_seq (fun s => by simp) rfl (by rw [atI_nat hk]; simp [hk])
theorem ix_ln {k : Nat} (hk : k < xs.length) : fIx (.lst xs) (.int (k : Nat)) S = .ok (.val (xs.getD k .non)) S := fIx_seq (fun s => by simp) rfl (by rw [atI_nat hk]; simp [hk])
theorem ix_ti {j : Int} (h0 : 0 ≤ j) (hk : j.toNat < xs.length) : fIx (.tup xs) (.int j) S = .ok (.val (xs.getD j.toNat .non)) S := by
  obtain ⟨k, rfl⟩ : ∃ k : Nat, j = (k : Int) := ⟨j.toNat, by omega⟩
  rw [Int.toNat_natCast] at hk ⊢
  exact ix_tn hk
theorem ix_li {j : Int} (h0 : 0 ≤ j) (hk : j.toNat < xs.length) : fIx (.lst xs) (.int j) S = .ok (.val (xs.getD j.toNat .non)) S := by
  obtain ⟨k, rfl⟩ : ∃ k : Nat, j = (k : Int) := ⟨j.toNat, by omega⟩
  rw [Int.toNat_natCast] at hk ⊢
  exact ix_ln hk
theorem getD_map' {f : α → W} {d : α} {l : List α} (h : k < l.length) : (l.map f).getD k .non = f (l.getD k d) := by
  simp [List.getD, h]
theorem atI_neg1 {l : List α} (h : l ≠ []) : atI l (-1) = l.getLast? := by
  obtain ⟨m, a, rfl⟩ : ∃ m a, l = m ++ [a] := ⟨l.dropLast, l.getLast h, (List.dropLast_concat_getLast h).symm⟩
  rw [atI_last]
  simp
theorem ix_s1 (hl : s.length ≤ 16777216) (h : s ≠ []) : fIx (.str s) (.int (-1)) S = .ok (.val (.str [s.getLast h])) S := fIx_str hl (by rw [atI_neg1 h, List.getLast?_eq_some_getLast h])
theorem take_n {n : Nat} (hl : s.length ≤ 16777216) : fSl (.str s) none (some (n : Int)) S = .ok (.val (.str (s.take n))) S := Lb.fSl_take hl
theorem drop_n {n : Nat} (hl : s.length ≤ 16777216) : fSl (.str s) (some (n : Int)) none S = .ok (.val (.str (s.drop n))) S := Lb.fSl_drop hl
theorem mul_str {n : Nat} (h : n ≤ 16777216) (h2 : s.length * n ≤ 16777216) : fMul (.str s) (.int (n : Nat)) S = .ok (.val (.str (List.replicate n s).flatten)) S := by
  show (if (0 : Int) ≤ (n : Int) ∧ (n : Int) ≤ 16777216 ∧ s.length * ((n : Int)).toNat ≤ LINE then Out.ok (FW.val (.str (List.replicate ((n : Int)).toNat s).flatten)) S else .fail) = _
  rw [Int.toNat_natCast, if_pos ⟨by omega, by omega, h2⟩]
theorem mul_si {j : Int} (h0 : 0 ≤ j) (h : j ≤ 16777216) (h2 : s.length * j.toNat ≤ 16777216) : fMul (.str s) (.int j) S = .ok (.val (.str (List.replicate j.toNat s).flatten)) S := by
  obtain ⟨n, rfl⟩ : ∃ n : Nat, j = (n : Int) := ⟨j.toNat, by omega⟩
  rw [Int.toNat_natCast] at h2 ⊢
  exact mul_str (by omega) h2
theorem lK_n (h : ws.length ≤ 16777216) : lK ws S = .ok (.new ws) S := lK_ok h
theorem tK_n (h : ws.length ≤ 16777216) : tK ws S = .ok (.tup ws) S := tK_ok h
theorem getD_mem {l : List α} {d : α} (h : k < l.length) : l.getD k d ∈ l := by
  rw [List.getD_eq_getElem?_getD, List.getElem?_eq_getElem h]
  exact List.getElem_mem h
theorem rep_one {c : Nat} : (List.replicate k [c]).flatten = List.replicate k c := by
  induction k with
  | zero => rfl
  | succ k ih => rw [List.replicate_succ, List.flatten_cons, ih]; rfl
theorem len_rep : ∀ k, ((List.replicate k s).flatten).length = k * s.length
  | 0 => by simp
  | k + 1 => by
    rw [List.replicate_succ, List.flatten_cons, List.length_append, len_rep k, Nat.succ_mul]
    omega
theorem mul_ii {i j : Int} (h : -(2 ^ 64) < i ∧ i < 2 ^ 64 ∨ -(2 ^ 64) < j ∧ j < 2 ^ 64) : fMul (.int i) (.int j) S = .ok (.val (.int (i * j))) S := by
  rcases h with h | h
  · exact fMul_ii (cMul_l h.1 h.2)
  · exact fMul_ii (cMul_r h.1 h.2)
theorem min_ii {i j : Int} : fII gMin [.int i, .int j] S = .ok (.val (.int (min i j))) S := by
  rw [fII_ii]
  have : gMin i j = min i j := by unfold gMin; split <;> omega
  rw [this]
theorem max_ii {i j : Int} : fII gMax [.int i, .int j] S = .ok (.val (.int (max i j))) S := by
  rw [fII_ii]
  have : gMax i j = max i j := by unfold gMax; split <;> omega
  rw [this]
theorem div_ii {i j : Int} (h : 0 < j ∧ j < 1073741824) : fDiv (.int i) (.int j) S = .ok (.val (.int (i / j))) S := by rw [fDiv_ii, if_pos h]
theorem mod_ii {i j : Int} (h : 0 < j) : fMod (.int i) (.int j) S = .ok (.val (.int (i % j))) S := by rw [fMod_ii, if_pos h]
/-! ### statements -/
theorem seq_rt' {D : Post} {b : Env → Sto → OutS} : (D.seq b).rt = D.rt := rfl
theorem seq_bk' {D : Post} {b : Env → Sto → OutS} : (D.seq b).bk = D.bk := rfl
theorem seq_ct' {D : Post} {b : Env → Sto → OutS} : (D.seq b).ct = D.ct := rfl
theorem seq_xc' {D : Post} {b : Env → Sto → OutS} : (D.seq b).xc = D.xc := rfl
theorem wpS_for {D : Post} {mi : Env → Sto → Out (List W × Option Nat)} {mt : W → Env → Sto → Out Env} {body : Env → Sto → OutS} : wpS (sFor mi mt body env S) D ↔ wp (mi env S) (fun o S1 => wpS (unlockO o.2 o.1 (loopL mt body o.1 env (lockS o.2 o.1 S1))) D) (fun c S1 => D.xc c env S1) := by
  unfold sFor
  rw [wpS_bindS]
theorem unlockO_none {o : OutS} : unlockO none ws o = o := by cases o <;> rfl
/-- a loop over what is not locked: P by the number of turns -/
theorem loop_at {mt : W → Env → Sto → Out Env} {body : Env → Sto → OutS} {D : Post} (P : Nat → Env → Sto → Prop) (h0 : P 0 env S)
    (hs : ∀ i w env S, ws[i]? = some w → P i env S → wp (mt w env S) (fun e S1 => wpS (body e S1) ⟨P (i + 1), D.rt, D.nx, P (i + 1), D.xc⟩) (fun c S1 => D.xc c env S1))
    (hd : ∀ env S, P ws.length env S → D.nx env S) : wpS (loopL mt body ws env S) D := by
  have := loop_inv (mt := mt) (body := body) D P ws hs hd 0 env S (Nat.zero_le _) h0
  rw [List.drop_zero] at this
  exact this
theorem loop_range {m : Nat} {mt : W → Env → Sto → Out Env} {body : Env → Sto → OutS} {D : Post} {f : Nat → W} (P : Nat → Env → Sto → Prop) (h0 : P 0 env S)
    (hs : ∀ i env S, i < m → P i env S → wp (mt (f i) env S) (fun e S1 => wpS (body e S1) ⟨P (i + 1), D.rt, D.nx, P (i + 1), D.xc⟩) (fun c S1 => D.xc c env S1))
    (hd : ∀ env S, P m env S → D.nx env S) : wpS (loopL mt body ((List.range m).map f) env S) D := by
  refine loop_at P h0 (fun i w env S hi hp => ?_) fun env S hp => hd env S (by simpa using hp)
  rw [List.getElem?_map] at hi
  cases q : (List.range m)[i]? with
  | none => rw [q] at hi; cases hi
  | some a =>
    rw [q] at hi
    have hlt : i < m := by
      have := (List.getElem?_eq_some_iff.mp q).1
      simpa using this
    have : a = i := by
      have := (List.getElem?_eq_some_iff.mp q).2
      simpa using this.symm
    subst this
    have hi : f a = w := Option.some.inj hi
    subst hi
    exact hs a env S hlt hp
theorem loop_map {mt : W → Env → Sto → Out Env} {body : Env → Sto → OutS} {D : Post} {f : α → W} {l : List α} (P : Nat → Env → Sto → Prop) (h0 : P 0 env S)
    (hs : ∀ i a env S, l[i]? = some a → P i env S → wp (mt (f a) env S) (fun e S1 => wpS (body e S1) ⟨P (i + 1), D.rt, D.nx, P (i + 1), D.xc⟩) (fun c S1 => D.xc c env S1))
    (hd : ∀ env S, P l.length env S → D.nx env S) : wpS (loopL mt body (l.map f) env S) D := by
  refine loop_at P h0 (fun i w env S hi hp => ?_) fun env S hp => hd env S (by simpa using hp)
  rw [List.getElem?_map] at hi
  cases q : l[i]? with
  | none => rw [q] at hi; cases hi
  | some a =>
    rw [q] at hi
    have hi : f a = w := Option.some.inj hi
    subst hi
    exact hs i a env S q hp
/-- .. with a thing kept that says what is gone through -/
theorem loop_fold {mt : W → Env → Sto → Out Env} {body : Env → Sto → OutS} {D : Post} {f : α → W} {l : List α} {σ : Type} (stp : σ → α → σ) (s0 : σ) (P : σ → Env → Sto → Prop) (h0 : P s0 env S)
    (hs : ∀ pre a post env S, l = pre ++ a :: post → P (pre.foldl stp s0) env S → wp (mt (f a) env S) (fun e S1 => wpS (body e S1) ⟨P (stp (pre.foldl stp s0) a), D.rt, D.nx, P (stp (pre.foldl stp s0) a), D.xc⟩) (fun c S1 => D.xc c env S1))
    (hd : ∀ env S, P (l.foldl stp s0) env S → D.nx env S) : wpS (loopL mt body (l.map f) env S) D := by
  refine loop_map (fun i env S => P ((l.take i).foldl stp s0) env S) h0 (fun i a env S hi hp => ?_) fun env S hp => hd env S (by simpa using hp)
  have hi' := List.getElem?_eq_some_iff.mp hi
  obtain ⟨hlt, he⟩ := hi'
  have e1 : l = l.take i ++ a :: l.drop (i + 1) := by
    rw [← he, ← List.drop_eq_getElem_cons hlt, List.take_append_drop]
  have e2 : l.take (i + 1) = l.take i ++ [a] := by
    rw [List.take_succ, hi]
    rfl
  rw [e2, List.foldl_append]
  exact hs _ a _ env S e1 hp
theorem rev_map {s : List Nat} (h : s.length ≤ 16777216) : revIt (.str s) S = .ok (s.reverse.map fun c => W.str [c], none) S := by
  rw [revIt_str h, List.map_reverse]
theorem rev_tup {l : List α} {f : α → W} : revIt (.tup (l.map f)) S = .ok (l.reverse.map f, none) S := by
  show Out.ok ((l.map f).reverse, none) S = _
  rw [List.map_reverse]
theorem rev_lst {l : List α} {f : α → W} : revIt (.lst (l.map f)) S = .ok (l.reverse.map f, none) S := by
  show Out.ok ((l.map f).reverse, none) S = _
  rw [List.map_reverse]
theorem lkd {β : Type} {c : Str} {l : List (Str × β)} {r : Option β} (h : l.lookup c = r) : l.lookup c = r := h
theorem wipeE_nil : wipeE env [] = env := rfl
theorem wipeE_cons {v : Nat} {vs : List Nat} : wipeE env (v :: vs) = (wipeE env vs).set v none := rfl
theorem lockS_none' : lockS none ws S = S := rfl
theorem unlockS_none' : unlockS none ws S = S := rfl
theorem sub_same {T : Ty} : subTy T T = true := by cases T <;> rfl
/-- the answers of isinstance -/
theorem sub_diff : (subTy .str .tup = false ∧ subTy .str .int = false ∧ subTy .str .bl = false ∧ subTy .str .lst = false) ∧ (subTy .int .str = false ∧ subTy .int .tup = false ∧ subTy .int .bl = false ∧ subTy .int .lst = false) ∧
    (subTy .bl .str = false ∧ subTy .bl .tup = false ∧ subTy .bl .int = true ∧ subTy .bl .lst = false) ∧ (subTy .non .str = false ∧ subTy .non .tup = false ∧ subTy .non .int = false ∧ subTy .non .bl = false ∧ subTy .non .lst = false) ∧
    (subTy .tup .str = false ∧ subTy .tup .int = false ∧ subTy .tup .bl = false ∧ subTy .tup .lst = false) ∧ (subTy .lst .str = false ∧ subTy .lst .int = false ∧ subTy .lst .bl = false ∧ subTy .lst .tup = false) := by decide
/-! ### words -/
theorem wd_app : Word (s ++ t) ↔ Word s ∧ Word t := ⟨fun h => ⟨h.left, h.right⟩, fun h => h.1.app h.2⟩
theorem wd_cons : Word (c :: s) ↔ c ∈ SG ∧ Word s := ⟨fun h => ⟨h.head, h.tail⟩, fun h => .cons h.1 h.2⟩
theorem wd_nil : Word [] ↔ True := ⟨fun _ => trivial, fun _ => .nil⟩
/-! ### bundles -/
theorem EVB : type_of% (And.intro (And.intro (And.intro (And.intro (And.intro (And.intro (And.intro (@ev_sSet) (@ev_sIf)) (And.intro (@ev_sRet) (And.intro (@ev_sExpr) (@ev_sSkip)))) (And.intro (And.intro (@ev_sPar) (@parK_2)) (And.intro (@ev_sAsg) (And.intro (@ev_mVar0) (@ev_mVarS))))) (And.intro (And.intro (And.intro (@ev_mC) (@ev_mVal)) (And.intro (@ev_mNew) (And.intro (@ev_mNil) (@ev_mCons)))) (And.intro (And.intro (@ev_mLst) (And.intro (@ev_mTup) (@ev_m2))) (And.intro (@ev_m1) (And.intro (@ev_mA) (@ev_mM)))))) (And.intro (And.intro (And.intro (And.intro (@ev_mNoPart) (@ev_mPart)) (And.intro (@pK_int) (And.intro (@ev_mSl) (@ev_mTest)))) (And.intro (And.intro (@ev_mTestF) (And.intro (@ev_mAnd) (@ev_mOr))) (And.intro (@ev_mNot) (And.intro (@ev_mIf) (@ev_mCall))))) (And.intro (And.intro (And.intro (@ev_mCallKw) (@ev_iSeqM)) (And.intro (@anyIt_str) (And.intro (@anyIt_lst) (@anyIt_tup)))) (And.intro (And.intro (@Out.bind_ok) (And.intro (@Lb.bindS_ok) (@vK_val))) (And.intro (@vK_new) (And.intro (@nK_val) (@nK_new))))))) (And.intro (And.intro (And.intro (And.intro (And.intro (@lK0) (@lK1)) (And.intro (@lK2) (And.intro (@lK3) (@tK0)))) (And.intro (And.intro (@tK1) (And.intro (@tK2) (@tK3))) (And.intro (@lK_n) (And.intro (@tK_n) (@bK_bl))))) (And.intro (And.intro (And.intro (@bKF_bl) (@Lb.tyStr_str)) (And.intro (@fAdd_ii) (And.intro (@fSub_ii) (@fInt_i)))) (And.intro (And.intro (@fLt_ii) (And.intro (@fLe_ii) (@fGt_ii))) (And.intro (@fGe_ii) (And.intro (@Lb.fEq_ii) (@Lb.fNe_ii)))))) (And.intro (And.intro (And.intro (And.intro (@Lb.fEq_bb) (@Lb.fNe_bb)) (And.intro (@Lb.fIsNot_bb) (And.intro (@Lb.fIs_bb) (@Lb.fIs_nn)))) (And.intro (And.intro (@Lb.fIs_bn) (And.intro (@Lb.fIs_in) (@Lb.fIs_sn))) (And.intro (@Lb.fIs_tn) (And.intro (@Lb.fIsNot_nn) (@Lb.fIsNot_bn))))) (And.intro (And.intro (And.intro (@Lb.fIsNot_in) (@Lb.fIsNot_sn)) (And.intro (@Lb.fIsNot_tn) (And.intro (@ev_mAndV) (@ev_mOrV)))) (And.intro (And.intro (@ev_mNotV) (And.intro (@ev_mChain) (@ev_mIsi))) (And.intro (@Lb.iK_str) (And.intro (@Lb.iK_int) (@Lb.iK_bl)))))))) (And.intro (And.intro (And.intro (And.intro (And.intro (And.intro (@Lb.iK_non) (@Lb.iK_tup)) (And.intro (@Lb.iK_lst) (And.intro (@cK_val) (@ev_mM0)))) (And.intro (And.intro (@ev_iRevM) (@ev_iR1)) (And.intro (@ev_comp) (And.intro (@cM_map) (@cM_nil))))) (And.intro (And.intro (And.intro (@cM_cons) (@uL_cons)) (And.intro (@uL_nil) (And.intro (@nox_ok) (@cL_some)))) (And.intro (And.intro (@cL_if) (And.intro (@cL_at) (@cL_at_if))) (And.intro (@cm0_map) (And.intro (@cm0_filter) (@cm0_ok)))))) (And.intro (And.intro (And.intro (And.intro (@r1K_i) (@ev_iR2)) (And.intro (@r2K_i) (And.intro (@in_str) (@notIn_str)))) (And.intro (And.intro (@count_str) (And.intro (@index_str) (@lockS_none'))) (And.intro (@unlockS_none') (And.intro (@all_map') (@any_map'))))) (And.intro (And.intro (And.intro (@tupOf_lst) (@tupOf_tup)) (And.intro (@listOf_tup) (And.intro (@listOf_lst) (@listOf_str)))) (And.intro (And.intro (@join_one) (And.intro (@join_map) (@join_tup))) (And.intro (@join_tup') (And.intro (@join_lst') (@flat_one))))))) (And.intro (And.intro (And.intro (And.intro (And.intro (@add_str) (@add_tup)) (And.intro (@add_lst) (And.intro (@len_str) (@mul_si)))) (And.intro (And.intro (@ix_sn) (And.intro (@ix_si) (@ix_tn))) (And.intro (@ix_ln) (And.intro (@ix_ti) (@ix_li))))) (And.intro (And.intro (And.intro (@rep_one) (@fLen_lst)) (And.intro (@fLen_tup) (And.intro (@fLen_fro) (@min_ii)))) (And.intro (And.intro (@max_ii) (And.intro (@div_ii) (@mod_ii))) (And.intro (@fNeg_i) (And.intro (@ev_tName) (@ev_tTupT)))))) (And.intro (And.intro (And.intro (And.intro (@ev_tsCons) (@ev_tsNil)) (And.intro (@ev_sBrk) (And.intro (@ev_sCont) (@ev_sRaise)))) (And.intro (And.intro (@Out.bind_exc) (And.intro (@Lb.bindS_exc) (@ev_mCallG))) (And.intro (@ev_tYesM) (And.intro (@Lb.outF_ret) (@Lb.outF_next))))) (And.intro (And.intro (And.intro (@Lb.outF_exc) (@rev_map)) (And.intro (@rev_tup) (And.intro (@rev_lst) (@unlockO_none)))) (And.intro (And.intro (@wipeE_nil) (And.intro (@wipeE_cons) (@take_n))) (And.intro (@drop_n) (And.intro (@sub_same) (@sub_diff))))))))) := And.intro (And.intro (And.intro (And.intro (And.intro (And.intro (And.intro (@ev_sSet) (@ev_sIf)) (And.intro (@ev_sRet) (And.intro (@ev_sExpr) (@ev_sSkip)))) (And.intro (And.intro (@ev_sPar) (@parK_2)) (And.intro (@ev_sAsg) (And.intro (@ev_mVar0) (@ev_mVarS))))) (And.intro (And.intro (And.intro (@ev_mC) (@ev_mVal)) (And.intro (@ev_mNew) (And.intro (@ev_mNil) (@ev_mCons)))) (And.intro (And.intro (@ev_mLst) (And.intro (@ev_mTup) (@ev_m2))) (And.intro (@ev_m1) (And.intro (@ev_mA) (@ev_mM)))))) (And.intro (And.intro (And.intro (And.intro (@ev_mNoPart) (@ev_mPart)) (And.intro (@pK_int) (And.intro (@ev_mSl) (@ev_mTest)))) (And.intro (And.intro (@ev_mTestF) (And.intro (@ev_mAnd) (@ev_mOr))) (And.intro (@ev_mNot) (And.intro (@ev_mIf) (@ev_mCall))))) (And.intro (And.intro (And.intro (@ev_mCallKw) (@ev_iSeqM)) (And.intro (@anyIt_str) (And.intro (@anyIt_lst) (@anyIt_tup)))) (And.intro (And.intro (@Out.bind_ok) (And.intro (@Lb.bindS_ok) (@vK_val))) (And.intro (@vK_new) (And.intro (@nK_val) (@nK_new))))))) (And.intro (And.intro (And.intro (And.intro (And.intro (@lK0) (@lK1)) (And.intro (@lK2) (And.intro (@lK3) (@tK0)))) (And.intro (And.intro (@tK1) (And.intro (@tK2) (@tK3))) (And.intro (@lK_n) (And.intro (@tK_n) (@bK_bl))))) (And.intro (And.intro (And.intro (@bKF_bl) (@Lb.tyStr_str)) (And.intro (@fAdd_ii) (And.intro (@fSub_ii) (@fInt_i)))) (And.intro (And.intro (@fLt_ii) (And.intro (@fLe_ii) (@fGt_ii))) (And.intro (@fGe_ii) (And.intro (@Lb.fEq_ii) (@Lb.fNe_ii)))))) (And.intro (And.intro (And.intro (And.intro (@Lb.fEq_bb) (@Lb.fNe_bb)) (And.intro (@Lb.fIsNot_bb) (And.intro (@Lb.fIs_bb) (@Lb.fIs_nn)))) (And.intro (And.intro (@Lb.fIs_bn) (And.intro (@Lb.fIs_in) (@Lb.fIs_sn))) (And.intro (@Lb.fIs_tn) (And.intro (@Lb.fIsNot_nn) (@Lb.fIsNot_bn))))) (And.intro (And.intro (And.intro (@Lb.fIsNot_in) (@Lb.fIsNot_sn)) (And.intro (@Lb.fIsNot_tn) (And.intro (@ev_mAndV) (@ev_mOrV)))) (And.intro (And.intro (@ev_mNotV) (And.intro (@ev_mChain) (@ev_mIsi))) (And.intro (@Lb.iK_str) (And.intro (@Lb.iK_int) (@Lb.iK_bl)))))))) (And.intro (And.intro (And.intro (And.intro (And.intro (And.intro (@Lb.iK_non) (@Lb.iK_tup)) (And.intro (@Lb.iK_lst) (And.intro (@cK_val) (@ev_mM0)))) (And.intro (And.intro (@ev_iRevM) (@ev_iR1)) (And.intro (@ev_comp) (And.intro (@cM_map) (@cM_nil))))) (And.intro (And.intro (And.intro (@cM_cons) (@uL_cons)) (And.intro (@uL_nil) (And.intro (@nox_ok) (@cL_some)))) (And.intro (And.intro (@cL_if) (And.intro (@cL_at) (@cL_at_if))) (And.intro (@cm0_map) (And.intro (@cm0_filter) (@cm0_ok)))))) (And.intro (And.intro (And.intro (And.intro (@r1K_i) (@ev_iR2)) (And.intro (@r2K_i) (And.intro (@in_str) (@notIn_str)))) (And.intro (And.intro (@count_str) (And.intro (@index_str) (@lockS_none'))) (And.intro (@unlockS_none') (And.intro (@all_map') (@any_map'))))) (And.intro (And.intro (And.intro (@tupOf_lst) (@tupOf_tup)) (And.intro (@listOf_tup) (And.intro (@listOf_lst) (@listOf_str)))) (And.intro (And.intro (@join_one) (And.intro (@join_map) (@join_tup))) (And.intro (@join_tup') (And.intro (@join_lst') (@flat_one))))))) (And.intro (And.intro (And.intro (And.intro (And.intro (@add_str) (@add_tup)) (And.intro (@add_lst) (And.intro (@len_str) (@mul_si)))) (And.intro (And.intro (@ix_sn) (And.intro (@ix_si) (@ix_tn))) (And.intro (@ix_ln) (And.intro (@ix_ti) (@ix_li))))) (And.intro (And.intro (And.intro (@rep_one) (@fLen_lst)) (And.intro (@fLen_tup) (And.intro (@fLen_fro) (@min_ii)))) (And.intro (And.intro (@max_ii) (And.intro (@div_ii) (@mod_ii))) (And.intro (@fNeg_i) (And.intro (@ev_tName) (@ev_tTupT)))))) (And.intro (And.intro (And.intro (And.intro (@ev_tsCons) (@ev_tsNil)) (And.intro (@ev_sBrk) (And.intro (@ev_sCont) (@ev_sRaise)))) (And.intro (And.intro (@Out.bind_exc) (And.intro (@Lb.bindS_exc) (@ev_mCallG))) (And.intro (@ev_tYesM) (And.intro (@Lb.outF_ret) (@Lb.outF_next))))) (And.intro (And.intro (And.intro (@Lb.outF_exc) (@rev_map)) (And.intro (@rev_tup) (And.intro (@rev_lst) (@unlockO_none)))) (And.intro (And.intro (@wipeE_nil) (And.intro (@wipeE_cons) (@take_n))) (And.intro (@drop_n) (And.intro (@sub_same) (@sub_diff))))))))
theorem EVW : type_of% (And.intro (And.intro (And.intro (And.intro (@wpS_next) (@wpS_ret)) (And.intro (@wpS_bindS) (@wp_bind))) (And.intro (And.intro (@wp_ok) (@seq_nx)) (And.intro (@seq_rt') (@seq_bk')))) (And.intro (And.intro (And.intro (@seq_ct') (@seq_xc')) (And.intro (@wpS_seq) (@wpS_try))) (And.intro (And.intro (@wpS_brk) (@wpS_cont)) (And.intro (@wpS_exc) (And.intro (@wp_exc) (@wpS_for)))))) := And.intro (And.intro (And.intro (And.intro (@wpS_next) (@wpS_ret)) (And.intro (@wpS_bindS) (@wp_bind))) (And.intro (And.intro (@wp_ok) (@seq_nx)) (And.intro (@seq_rt') (@seq_bk')))) (And.intro (And.intro (And.intro (@seq_ct') (@seq_xc')) (And.intro (@wpS_seq) (@wpS_try))) (And.intro (And.intro (@wpS_brk) (@wpS_cont)) (And.intro (@wpS_exc) (And.intro (@wp_exc) (@wpS_for)))))
theorem EVS : type_of% (And.intro (And.intro (And.intro (@ev_sSeq) (@sqK_next)) (And.intro (@sqK_ret) (And.intro (@sqK_exc) (@sqK_brk)))) (And.intro (And.intro (@sqK_cont) (And.intro (@ev_sTry) (@trK_next))) (And.intro (@trK_ret) (And.intro (@trK_exc) (@trK_exc_not))))) := And.intro (And.intro (And.intro (@ev_sSeq) (@sqK_next)) (And.intro (@sqK_ret) (And.intro (@sqK_exc) (@sqK_brk)))) (And.intro (And.intro (@sqK_cont) (And.intro (@ev_sTry) (@trK_next))) (And.intro (@trK_ret) (And.intro (@trK_exc) (@trK_exc_not))))
theorem EVI : type_of% (And.intro (And.intro (@sqK_ite) (And.intro (@outF_ite) (@bind_ite))) (And.intro (@bindS_ite) (And.intro (@nox_ite) (@trK_ite)))) := And.intro (And.intro (@sqK_ite) (And.intro (@outF_ite) (@bind_ite))) (And.intro (@bindS_ite) (And.intro (@nox_ite) (@trK_ite)))
end
end L2.Mi

set_option Elab.async false
set_option linter.all false
set_option maxRecDepth 100000
set_option maxHeartbeats 2000000
/-! # The engine, part N: comprehensions with two clauses -/
namespace L2.Mi
open PySem PySem.Spec PyProof.Rows
section
variable {X : Cx} {Wx : WX} {tg iter tg1 iter1 : Expr}
def compL2 (mt : W → Env → Sto → Out Env) (tt : Env → Sto → Out Bool) (own1 : List Nat) (mi1 : Env → Sto → Out (List W)) (mt1 : W → Env → Sto → Out Env) (tt1 : Env → Sto → Out Bool) (el : Env → Sto → Out W) (env : Env) : List W → Sto → Out (List W)
  | [], S => .ok [] S
  | w :: ws, S => (mt w env S).nox.bind fun e S1 => (tt e S1).nox.bind fun b S2 => if b = true then (mi1 e S2).nox.bind fun us S3 => (compL mt1 tt1 el (wipeE e own1) us S3).bind fun ys S4 => (compL2 mt tt own1 mi1 mt1 tt1 el env ws S4).bind fun zs S5 => .ok (ys ++ zs) S5
    else compL2 mt tt own1 mi1 mt1 tt1 el env ws S2
def mComp2 (own : List Nat) (mi : Env → Sto → Out (List W × Option Nat)) (mt : W → Env → Sto → Out Env) (tt : Env → Sto → Out Bool) (own1 : List Nat) (mi1 : Env → Sto → Out (List W)) (mt1 : W → Env → Sto → Out Env) (tt1 : Env → Sto → Out Bool) (el : Env → Sto → Out W) : Env → Sto → Out FW := fun env S =>
  (mi env S).bind fun o S1 => (compL2 mt tt own1 mi1 mt1 tt1 el (wipeE env own) o.1 (lockS o.2 o.1 S1)).nox.bind fun ys S2 => if ys.length ≤ LINE then .ok (.new ys) (unlockS o.2 o.1 S2) else .fail
/-- an inner walk that rests on no object -/
def gJ (K : PySem.W.Frag) (mg : Str → Option Value) (R : It → Hp → Prop) : GP (List W) := fun B0 ρ S H ws S' =>
  ∀ ρ' H' J, Ext ρ S H ρ' S' H' → SR K mg ρ' S' B0 H' → (∀ B1 ρ2 S2 H2, ItOk K mg J B1 ρ2 S2 H2 ws) → R J H'
theorem lat_gJ {K : PySem.W.Frag} {mg : Str → Option Value} {R : It → Hp → Prop} : Lat (gJ K mg R) := ⟨fun _ _ _ _ _ _ _ _ _ e h ρ2 H2 J f r q => h ρ2 H2 J (e.trans f) r q⟩
abbrev TJm (K : PySem.W.Frag) (mg : Str → Option Value) (Wx : WX) (m : Env → Sto → Out (List W)) : TI := fun σ H R => Tg K mg Wx m σ H (gJ K mg R)
/-- range(n), a text -/
def jR1 (ms : Env → Sto → Out (List W)) : Env → Sto → Out (List W) := fun env S => (ms env S).bind fun ws S1 => match ws with
  | [.int j] => if -(2 ^ 62) ≤ j ∧ j < 2 ^ 62 then .ok ((List.range j.toNat).map fun i => W.int (0 + (i : Nat))) S1 else .fail
  | _ => .fail
def jStr (m : Env → Sto → Out W) : Env → Sto → Out (List W) := fun env S => (m env S).bind fun x S1 => match x with
  | .str s => .ok (s.map fun c => W.str [c]) S1
  | _ => .fail
theorem mj_range1 {it : Expr} {ms : Env → Sto → Out (List W)} (h : PI X tg it (iRng1 (TAm X.K X.mg Wx ms))) : PI X tg it (TJm X.K X.mg Wx (jR1 ms)) :=
  pi_imp h fun σ H R ⟨B0, ρ, env, S, r, er, h⟩ => ⟨B0, ρ, env, S, r, er, h.bindA lat_gJ fun ws S1 ρ1 H1 vs e1 r1 q1 h1 => by
    split at h1
    · rename_i j
      split at h1
      · rename_i c
        obtain ⟨v, vs', rfl, k1, k2⟩ := q1.cons_inv
        have := k2.nil_inv
        subst this
        rw [k1.int_inv]
        exact ⟨j, rfl, c.1, c.2, h1 ρ1 H1 _ .refl r1 fun _ _ _ _ => itok_range⟩
      · exact h1.elim
    · exact h1.elim⟩
theorem mj_str {e : Expr} {m : Env → Sto → Out W} (he : PE X e (TEm X.K X.mg Wx m)) : PI X tg e (TJm X.K X.mg Wx (jStr m)) :=
  pi_imp (pi_any he) fun σ H R ⟨B0, ρ, env, S, r, er, h⟩ => ⟨B0, ρ, env, S, r, er, h.bindE lat_gJ fun x S1 ρ1 H1 v e1 r1 q1 h1 => by
    cases x with
    | str s =>
      rw [q1.str_inv]
      exact .inr ⟨_, rfl, h1 ρ1 H1 _ .refl r1 fun _ _ _ _ => itok_str⟩
    | _ => exact h1.elim⟩
/-- what is left of an inner walk, then of the outer one -/
def inN (o : Out (List W)) (g : Sto → Out (List W)) : Out (List W) := o.bind fun ys S4 => (g S4).bind fun zs S5 => .ok (ys ++ zs) S5
theorem inN_cons (lk : Option Nat) (ws0 acc : List W) (y : W) (o : Out (List W)) (g : Sto → Out (List W)) : (inN (o.bind fun ys S4 => .ok (y :: ys) S4) g).nox.bind (kAcc lk ws0 acc) = (inN o g).nox.bind (kAcc lk ws0 (acc ++ [y])) := by
  cases o with
  | ok ys S4 =>
    show ((g S4).bind fun zs S5 => Out.ok (y :: ys ++ zs) S5).nox.bind (kAcc lk ws0 acc) = ((g S4).bind fun zs S5 => Out.ok (ys ++ zs) S5).nox.bind (kAcc lk ws0 (acc ++ [y]))
    cases g S4 with
    | ok zs S5 =>
      show kAcc lk ws0 acc (y :: ys ++ zs) S5 = kAcc lk ws0 (acc ++ [y]) (ys ++ zs) S5
      unfold kAcc
      rw [List.append_assoc, List.singleton_append, List.cons_append]
    | exc c S => rfl
    | fail => rfl
  | exc c S => rfl
  | fail => rfl
theorem inN_nil {S : Sto} (g : Sto → Out (List W)) : inN (.ok [] S) g = g S := by
  show (g S).bind (fun zs S5 => .ok zs S5) = g S
  cases g S <;> rfl
theorem inN_short {K : PySem.W.Frag} {mg : Str → Option Value} {Xw : Value → Hp → Prop} {Q : VK} {B0 : Ban} {ρ1 : List Addr} {S1 : Sto} {H1 : Hp} {lk : Option Nat} {ws acc : List W} {o : Out (List W)} {g : Sto → Out (List W)} {y : W}
    (h : End K mg Xw (gF K mg Q) B0 ρ1 S1 H1 ((inN o g).nox.bind (kAcc lk ws (acc ++ [y])))) : acc.length < LINE := by
  cases q : inN o g with
  | ok zs S =>
    rw [q] at h
    have h3 : End K mg Xw (gF K mg Q) B0 ρ1 S1 H1 (kAcc lk ws (acc ++ [y]) zs S) := h
    unfold kAcc at h3
    split at h3
    · rename_i hl
      rw [List.length_append, List.length_append, List.length_singleton] at hl
      omega
    · exact h3.elim
  | exc c S => rw [q] at h; exact h.elim
  | fail => rw [q] at h; exact h.elim
theorem comp2_imp {own own1 : List Nat} {mi : Env → Sto → Out (List W × Option Nat)} {mi1 : Env → Sto → Out (List W)} {mt mt1 : W → Env → Sto → Out Env} {tt tt1 : Env → Sto → Out Bool} {el : Env → Sto → Out W} : ∀ σ H Q, TFm X.K X.mg Wx (mComp2 own mi mt tt own1 mi1 mt1 tt1 el) σ H Q →
    tLc2 (TIm X.K X.mg Wx mi) (TGv X.K X.mg own mt) (TTm X.K X.mg W0 tt) (TJm X.K X.mg W0 mi1) (TGv X.K X.mg own1 mt1) (TTm X.K X.mg W0 tt1) (TEm X.K X.mg W0 el) own own1 σ H Q := by
  refine fun σ H Q ⟨B0, ρ, env, S, r, er, h⟩ => ⟨B0, ρ, env, S, r, er, h.bind fun o S1 h1 => ?_⟩
  obtain ⟨ws, lk⟩ := o
  intro ρ1 H1 J e1 r1 hk itok D hD
  have h1 := h1.later lat_gF e1
  have er1 := er.ext r e1
  have rl := r1.lock hk
  generalize own = vs at *
  have np1 := r1.not_in hD
  have nb1 : ¬ B0 D := fun b => r1.ban D b hD
  have hb : ∀ a, lockB lk ρ1 (fun a => B0 a ∨ a = D) a → H1 a ≠ none → lockB lk ρ1 B0 a := fun a b hn => by
    cases lk with
    | none =>
      rcases b with b | b
      · exact b
      · exact absurd (by rw [b]; exact hD) hn
    | some n =>
      rcases b with (b | b) | b
      · exact .inl b
      · exact absurd (by rw [b]; exact hD) hn
      · exact .inr b
  have hbD : lockB lk ρ1 (fun a => B0 a ∨ a = D) D := by
    cases lk with
    | none => exact .inr rfl
    | some n => exact .inl (.inr rfl)
  generalize hB : lockB lk ρ1 (fun a => B0 a ∨ a = D) = B at hb hbD
  -- what holds between turns
  let St : Sto → List W → List Addr → Hp → Prop := fun S2 acc ρ2 H2 => ∃ av, Ext ρ1 (lockS lk ws S1) H1 ρ2 S2 H2 ∧ SR X.K X.mg ρ2 S2 B H2 ∧ D ∉ ρ2 ∧ H2 D = some (.lst av) ∧ Rels X.K ρ2 (Bn B ρ2 S2) H2 acc av
  have nl : ∀ {ρ2 : List Addr} {S2 : Sto}, D ∉ ρ2 → ¬ Lv ρ2 S2 D := fun np l => by
    obtain ⟨n, o, l1, l2, l3⟩ := l
    exact np (List.mem_of_getElem? l3)
  -- a step in between
  have step : ∀ {S2 S3 : Sto} {acc : List W} {ρ2 ρ3 : List Addr} {H2 H3 : Hp}, St S2 acc ρ2 H2 → Ext ρ2 S2 H2 ρ3 S3 H3 → SR X.K X.mg ρ3 S3 B H3 → St S3 acc ρ3 H3 := fun {S2 S3 acc ρ2 ρ3 H2 H3} ⟨av, e2, r2, np, hD2, ra⟩ ex r3 =>
    ⟨av, e2.trans ex, r3, fun hm => (ex.nw D hm).elim np fun z => (by rw [hD2] at z; cases z), ex.keep _ _ hD2 (nl np), ra.ext r2 ex⟩
  have h1' : End X.K X.mg (fun c H' => Wx c none σ H') (gF X.K X.mg Q) B0 ρ1 S1 H1 ((compL2 mt tt own1 mi1 mt1 tt1 el (wipeE env vs) ws (lockS lk ws S1)).nox.bind (kAcc lk ws [])) := h1
  let EN : Out (List W) → List W → Prop := fun o acc => End X.K X.mg (fun c H' => Wx c none σ H') (gF X.K X.mg Q) B0 ρ1 S1 H1 (o.nox.bind (kAcc lk ws acc))
  refine ⟨fun i m H2 => m = ws.length - i ∧ i ≤ ws.length ∧ ∃ ρ2 S2 acc, St S2 acc ρ2 H2 ∧ EN (compL2 mt tt own1 mi1 mt1 tt1 el (wipeE env vs) (ws.drop i) S2) acc,
    ⟨ws.length, rfl, Nat.zero_le _, ρ1, lockS lk ws S1, [], ⟨[], .bump .refl hD, by rw [← hB]; exact (r1.made hD).lock hk, np1, upd_same, .nil⟩, h1'⟩, ?_⟩
  rintro i m H2 ⟨rfl, hi, ρ2, S2, acc, st2, h2⟩
  obtain ⟨av, e2, r2, np, hD2, ra⟩ := id st2
  obtain ⟨it1, it2⟩ := itok _ ρ2 S2 H2 hb e2 r2
  by_cases hlt : i < ws.length
  · have hw : ws[i]? = some ws[i] := by simp [hlt]
    obtain ⟨go, yl⟩ := it1 i _ hw
    have hd : ws.drop i = ws[i] :: ws.drop (i + 1) := List.drop_eq_getElem_cons hlt
    rw [hd] at h2
    refine .inr ⟨go, fun H' => ∃ ρ3 S3 acc, St S3 acc ρ3 H' ∧ EN (compL2 mt tt own1 mi1 mt1 tt1 el (wipeE env vs) (ws.drop (i + 1)) S3) acc,
      fun H' q => ⟨ws.length - (i + 1), by omega, rfl, hlt, q⟩, fun x H3 y => ?_⟩
    obtain ⟨e3, r3, q3⟩ := yl x H3 y
    have st3 := step st2 e3 r3
    have er3 : ER X.K ρ2 (Bn B ρ2 S2) H3 (wipeE env vs) (L2.wipe σ vs) := (ER.ext2 (er1.lock r1 hk) rl (e2.trans e3) hb).wipe vs
    refine ⟨B, ρ2, wipeE env vs, S2, ws[i], r3, er3, q3, ?_⟩
    unfold compL2 at h2
    cases qt : mt ws[i] (wipeE env vs) S2 with
    | exc c S4 => rw [qt] at h2; exact h2.elim
    | fail => rw [qt] at h2; exact h2.elim
    | ok e4 S4 =>
      rw [qt] at h2
      intro ρ4 H4 σ4 ex4 r4 er4 hw4
      refine ⟨by rw [hw4]; exact wipe_ext (wipe_length _ _) fun j hj => wipe_get hj, ?_⟩
      have st4 := step st3 ex4 r4
      refine ⟨B, ρ4, e4, S4, r4, er4, ?_⟩
      have h2 : EN ((tt e4 S4).nox.bind fun b S2 => if b = true then (mi1 e4 S2).nox.bind fun us S3 => inN (compL mt1 tt1 el (wipeE e4 own1) us S3) (compL2 mt tt own1 mi1 mt1 tt1 el (wipeE env vs) (ws.drop (i + 1)))
        else compL2 mt tt own1 mi1 mt1 tt1 el (wipeE env vs) (ws.drop (i + 1)) S2) acc := h2
      cases qb : tt e4 S4 with
      | exc c S5 => rw [qb] at h2; exact h2.elim
      | fail => rw [qb] at h2; exact h2.elim
      | ok b S5 =>
        rw [qb] at h2
        intro ρ5 H5 ex5 r5
        have st5 := step st4 ex5 r5
        have er5 := er4.ext r4 ex5
        cases b with
        | false =>
          rw [if_neg Bool.false_ne_true]
          exact ⟨ρ5, S5, acc, st5, h2⟩
        | true =>
          rw [if_pos rfl]
          refine ⟨B, ρ5, e4, S5, r5, er5, ?_⟩
          have h2 : EN ((mi1 e4 S5).nox.bind fun us S3 => inN (compL mt1 tt1 el (wipeE e4 own1) us S3) (compL2 mt tt own1 mi1 mt1 tt1 el (wipeE env vs) (ws.drop (i + 1)))) acc := h2
          cases qi : mi1 e4 S5 with
          | exc c S6 => rw [qi] at h2; exact h2.elim
          | fail => rw [qi] at h2; exact h2.elim
          | ok us S6 =>
            rw [qi] at h2
            have h2 : EN (inN (compL mt1 tt1 el (wipeE e4 own1) us S6) (compL2 mt tt own1 mi1 mt1 tt1 el (wipeE env vs) (ws.drop (i + 1)))) acc := h2
            intro ρ6 H6 J1 ex6 r6 itok1
            have st6 := step st5 ex6 r6
            have er6 := er5.ext r5 ex6
            refine ⟨fun j k H7 => k = us.length - j ∧ j ≤ us.length ∧ ∃ ρ7 S7 acc, St S7 acc ρ7 H7 ∧ ER X.K ρ7 (Bn B ρ7 S7) H7 e4 σ4 ∧ EN (inN (compL mt1 tt1 el (wipeE e4 own1) (us.drop j) S7) (compL2 mt tt own1 mi1 mt1 tt1 el (wipeE env vs) (ws.drop (i + 1)))) acc,
              ⟨us.length, rfl, Nat.zero_le _, ρ6, S6, acc, st6, er6, h2⟩, ?_⟩
            rintro j k H7 ⟨rfl, hj, ρ7, S7, acc7, st7, er7, h7⟩
            obtain ⟨av7, _, r7, np7, hD7, ra7⟩ := id st7
            obtain ⟨jt1, jt2⟩ := itok1 B ρ7 S7 H7 B ρ7 S7 H7 (fun a b _ => b) .refl r7
            by_cases hjl : j < us.length
            · have hu : us[j]? = some us[j] := by simp [hjl]
              obtain ⟨go1, yl1⟩ := jt1 j _ hu
              have hd1 : us.drop j = us[j] :: us.drop (j + 1) := List.drop_eq_getElem_cons hjl
              rw [hd1] at h7
              refine .inr ⟨go1, fun H' => ∃ ρ8 S8 acc, St S8 acc ρ8 H' ∧ ER X.K ρ8 (Bn B ρ8 S8) H' e4 σ4 ∧ EN (inN (compL mt1 tt1 el (wipeE e4 own1) (us.drop (j + 1)) S8) (compL2 mt tt own1 mi1 mt1 tt1 el (wipeE env vs) (ws.drop (i + 1)))) acc,
                fun H' q => ⟨us.length - (j + 1), by omega, rfl, hjl, q⟩, fun x8 H8 y8 => ?_⟩
              obtain ⟨e8, r8, q8⟩ := yl1 x8 H8 y8
              have st8 := step st7 e8 r8
              have er8' := er7.ext r7 e8
              have er8 : ER X.K ρ7 (Bn B ρ7 S7) H8 (wipeE e4 own1) (L2.wipe σ4 own1) := er8'.wipe own1
              refine ⟨B, ρ7, wipeE e4 own1, S7, us[j], r8, er8, q8, ?_⟩
              unfold compL at h7
              cases qt1 : mt1 us[j] (wipeE e4 own1) S7 with
              | exc c S9 => rw [qt1] at h7; exact h7.elim
              | fail => rw [qt1] at h7; exact h7.elim
              | ok e9 S9 =>
                rw [qt1] at h7
                intro ρ9 H9 σ9 ex9 r9 er9 hw9
                refine ⟨by rw [hw9]; exact wipe_ext (wipe_length _ _) fun j hj => wipe_get hj, ?_⟩
                have st9 := step st8 ex9 r9
                refine ⟨B, ρ9, e9, S9, r9, er9, ?_⟩
                have h7 : EN (inN ((tt1 e9 S9).nox.bind fun b S2 => if b = true then (el e9 S2).nox.bind fun y S3 => (compL mt1 tt1 el (wipeE e4 own1) (us.drop (j + 1)) S3).bind fun ys S4 => .ok (y :: ys) S4 else compL mt1 tt1 el (wipeE e4 own1) (us.drop (j + 1)) S2) (compL2 mt tt own1 mi1 mt1 tt1 el (wipeE env vs) (ws.drop (i + 1)))) acc7 := h7
                cases qb1 : tt1 e9 S9 with
                | exc c S10 => rw [qb1] at h7; exact h7.elim
                | fail => rw [qb1] at h7; exact h7.elim
                | ok b1 S10 =>
                  rw [qb1] at h7
                  intro ρ10 H10 ex10 r10
                  have st10 := step st9 ex10 r10
                  have er10 := (er8'.ext r8 ex9).ext r9 ex10
                  cases b1 with
                  | false =>
                    rw [if_neg Bool.false_ne_true]
                    exact ⟨ρ10, S10, acc7, st10, er10, h7⟩
                  | true =>
                    rw [if_pos rfl]
                    refine ⟨B, ρ10, e9, S10, r10, er9.ext r9 ex10, ?_⟩
                    have h7 : EN (inN ((el e9 S10).nox.bind fun y S3 => (compL mt1 tt1 el (wipeE e4 own1) (us.drop (j + 1)) S3).bind fun ys S4 => .ok (y :: ys) S4) (compL2 mt tt own1 mi1 mt1 tt1 el (wipeE env vs) (ws.drop (i + 1)))) acc7 := h7
                    cases qe : el e9 S10 with
                    | exc c S11 => rw [qe] at h7; exact h7.elim
                    | fail => rw [qe] at h7; exact h7.elim
                    | ok y11 S11 =>
                      rw [qe] at h7
                      have h7 : EN (inN ((compL mt1 tt1 el (wipeE e4 own1) (us.drop (j + 1)) S11).bind fun ys S4 => .ok (y11 :: ys) S4) (compL2 mt tt own1 mi1 mt1 tt1 el (wipeE env vs) (ws.drop (i + 1)))) acc7 := h7
                      have h7 : End X.K X.mg (fun c H' => Wx c none σ H') (gF X.K X.mg Q) B0 ρ1 S1 H1 ((inN (compL mt1 tt1 el (wipeE e4 own1) (us.drop (j + 1)) S11) (compL2 mt tt own1 mi1 mt1 tt1 el (wipeE env vs) (ws.drop (i + 1)))).nox.bind (kAcc lk ws (acc7 ++ [y11]))) := by
                        rw [← inN_cons]; exact h7
                      intro ρ11 H11 v11 ex11 r11 q11
                      obtain ⟨av11, e11, _, np11, hD11, ra11⟩ := step st10 ex11 r11
                      have hlen := inN_short h7
                      have hbn : Bn B ρ11 S11 D := .inl hbD
                      refine ⟨av11, hD11, by rw [← ra11.1, line_eq]; exact hlen, ρ11, S11, acc7 ++ [y11], ⟨av11 ++ [v11], .bump e11 hD, r11.bump hbD hD11 np11, np11, upd_same, (ra11.snoc q11).bump hbn hD11⟩, ?_, h7⟩
                      have er11 := er10.ext r10 ex11
                      exact ⟨er11.1, fun i w q => by obtain ⟨v, q1, q2⟩ := er11.2 i w q; exact ⟨v, q1, q2.bump hbn hD11⟩⟩
            · have e : j = us.length := by omega
              subst e
              rw [List.drop_length] at h7
              have h7 : EN (inN (.ok [] S7) (compL2 mt tt own1 mi1 mt1 tt1 el (wipeE env vs) (ws.drop (i + 1)))) acc7 := h7
              rw [inN_nil] at h7
              exact .inl ⟨jt2, ρ7, S7, acc7, st7, h7⟩
  · have e : i = ws.length := by omega
    subst e
    rw [List.drop_length] at h2
    have h3 : End X.K X.mg (fun c H' => Wx c none σ H') (gF X.K X.mg Q) B0 ρ1 S1 H1 (kAcc lk ws acc [] S2) := h2
    unfold kAcc at h3
    rw [List.append_nil] at h3
    split at h3
    · have u := unlock (r1.made (o := .lst av) hD) hk (e2.since hD hD2 (nl np) np) (by rw [hB]; exact r2)
      exact .inl ⟨it2, h3 ρ2 H2 av D ((Ext.upd hD).trans u.ext) u.sr hD hD2 np nb1 (ra.bans (by rw [← hB]; exact u.bn))⟩
    · exact h3.elim
theorem me_comp2 {elt : Expr} {ifs ifs1 : List Expr} {scope : Scope} {own : List (Str × Nat)} {own1 : List Nat} {pos : Pos} {iter : Expr} {mi : Env → Sto → Out (List W × Option Nat)} {mi1 : Env → Sto → Out (List W)} {mt mt1 : W → Env → Sto → Out Env} {tt tt1 : Env → Sto → Out Bool} {el : Env → Sto → Out W} (hc : X.calm = true) (hN : X.N.Nodup) (hi : PI X tg iter (TIm X.K X.mg Wx mi)) (ok : BlkOk X.N X.env.scope scope own) (hv : ∀ i ∈ own1, i ∈ own.map (·.2))
    (hg : ∀ (s : Shared) (H : Hp) (C : Addr) (cl : List (Str × Addr)) (fp : List Addr), PG (X.blk s H scope (compEnvC scope cl C X.env) fp) tg (TGv X.K X.mg (own.map (·.2)) mt)) (ht : ∀ (s : Shared) (H : Hp) (C : Addr) (cl : List (Str × Addr)) (fp : List Addr), PTs (X.blk s H scope (compEnvC scope cl C X.env) fp) ifs (TTm X.K X.mg W0 tt))
    (hi1 : ∀ (s : Shared) (H : Hp) (C : Addr) (cl : List (Str × Addr)) (fp : List Addr), PI (X.blk s H scope (compEnvC scope cl C X.env) fp) tg1 iter1 (TJm X.K X.mg W0 mi1))
    (hg1 : ∀ (s : Shared) (H : Hp) (C : Addr) (cl : List (Str × Addr)) (fp : List Addr), PG (X.blk s H scope (compEnvC scope cl C X.env) fp) tg1 (TGv X.K X.mg own1 mt1)) (ht1 : ∀ (s : Shared) (H : Hp) (C : Addr) (cl : List (Str × Addr)) (fp : List Addr), PTs (X.blk s H scope (compEnvC scope cl C X.env) fp) ifs1 (TTm X.K X.mg W0 tt1))
    (he : ∀ (s : Shared) (H : Hp) (C : Addr) (cl : List (Str × Addr)) (fp : List Addr), PE (X.blk s H scope (compEnvC scope cl C X.env) fp) elt (TEm X.K X.mg W0 el)) (hs : ∀ x, foldedSetIterable iter X.env x = pure x := by intro _; rfl) (hs1 : ∀ env x, foldedSetIterable iter1 env x = pure x := by intro _ _; rfl) :
    PE X (.ListComp elt [⟨tg, iter, ifs, 0⟩, ⟨tg1, iter1, ifs1, 0⟩] scope pos) (TFm X.K X.mg Wx (mComp2 (own.map (·.2)) mi mt tt own1 mi1 mt1 tt1 el)) :=
  pe_imp (pe_lc2 hc hN hi ok hv hg ht hi1 hg1 ht1 he hs hs1) comp2_imp
end
end L2.Mi

set_option Elab.async false
set_option linter.all false
set_option maxRecDepth 100000
set_option maxHeartbeats 2000000
/-! # The engine, part O: more statements and constants -/
namespace L2.Mi
open PySem PySem.Spec PyProof.Rows
section
variable {X : Cx} {Wx : WX} {pos : Pos}
/-- a, b, c = x, y, z -/
def sPar3 (i j l : Nat) (ms : Env → Sto → Out (List W)) : Env → Sto → OutS := fun env S => (ms env S).bindS env fun ws S1 => match ws with
  | [u, v, w] => .next (((env.set i (some u)).set j (some v)).set l (some w)) S1
  | _ => .fail
theorem ms_par3 {i j l : Nat} {x y z : Str} {a b c : Expr} {ms : Env → Sto → Out (List W)} {px py pz pt : Pos} {kt k2 pt2} (hc : X.calm = true) (hN : X.N.Nodup) (hi : X.N[i]? = some x) (hj : X.N[j]? = some y) (hl : X.N[l]? = some z) (hij : i ≠ j) (hil : i ≠ l) (hjl : j ≠ l)
    (hx : X.env.scope.names.lookup x = some .local) (hy : X.env.scope.names.lookup y = some .local) (hz : X.env.scope.names.lookup z = some .local) (ha : PA X [a, b, c] (TAm X.K X.mg Wx ms))
    (hw : swappedStores [.Tuple [.Name x px, .Name y py, .Name z pz] kt pt] (.Tuple [a, b, c] k2 pt2) X.env = pure (some [x, y, z]))
    (hs : swapsWithSole [.Tuple [.Name x px, .Name y py, .Name z pz] kt pt] (.Tuple [a, b, c] k2 pt2) pos.line X.env = pure false := by rfl) :
    PS X (.Assign [.Tuple [.Name x px, .Name y py, .Name z pz] kt pt] (.Tuple [a, b, c] k2 pt2) pos) (TSm X.K X.mg Wx (sPar3 i j l ms)) :=
  ps_imp (ps_par3 hc hN hi hj hl hij hil hjl hx hy hz ha hw hs) fun D σ H ⟨B0, ρ, env, S, r, er, h⟩ => ⟨B0, ρ, env, S, r, er, h.bindA r er fun ws S1 ρ1 H1 vs e1 r1 q1 h1 => by
    split at h1
    · rename_i u v w
      obtain ⟨u', vs', rfl, k1, k2⟩ := q1.cons_inv
      obtain ⟨v', vs'', rfl, k3, k4⟩ := k2.cons_inv
      obtain ⟨w', vs3, rfl, k5, k6⟩ := k4.cons_inv
      have := k6.nil_inv
      subst this
      exact ⟨u', v', w', rfl, h1 ρ1 H1 _ .refl r1 ((((er.ext r e1).set k1 i).set k3 j).set k5 l)⟩
    · exact h1.elim⟩
/-- n += k, n -= k of ints -/
abbrev fAugAdd := fI (fun _ _ => true) fun i j => .int (i + j)
theorem of_augAdd {K : PySem.W.Frag} {mg : Str → Option Value} : OpM K mg fAugAdd (ipI fun i j => i + j) := of_I0 (g := fun i j => .int (i + j)) fun _ _ _ _ _ _ => .int _
theorem of_augSub {K : PySem.W.Frag} {mg : Str → Option Value} : OpM K mg fSub (ipI fun i j => i - j) := of_I0 (g := fun i j => .int (i - j)) fun _ _ _ _ _ _ => .int _
/-- a dict of the module, never changed: texts to texts -/
def KTab (K : PySem.W.Frag) (w : World) (a : Addr) (tab : List (List Nat × List Nat)) : Prop :=
  ∃ es n, K.lookup a = some ⟨.type "dict", none, .dict es n, #[]⟩ ∧ PySem.W.KeysLit w.params es.toList ∧ ∀ k ∈ tab, ∃ t, PySem.W.nsIn K a ⟨k.1.toArray⟩ = some (some (.str ⟨k.2.toArray⟩ t))
def fTab (tab : List (List Nat × List Nat)) (x : W) (S : Sto) : Out FW := match x with
  | .str s => match tab.find? (fun k => k.1 == s) with
    | some k => .ok (.val (.str k.2)) S
    | none => .fail
  | _ => .fail
theorem me_tab {x : Str} {a : Addr} {e : Expr} {m : Env → Sto → Out W} {p : Pos} {tab : List (List Nat × List Nat)} (hg : Gl X x) (hm : X.mg x = some (.ref a)) (ht : KTab X.K X.w a tab) (he : PE X e (TEm X.K X.mg Wx m)) (hs : PlainIx e) (hd : (x == ("__debug__" : Str)) = false := by decide) :
    PE X (.Subscript (.Name x p) e pos) (TFm X.K X.mg Wx (m1 (fTab tab) m)) :=
  pe_imp (pe_ix ix_kdict (pe_glob (v := .ref a) hg hm rfl hd) he hs) fun σ H Q ⟨B0, ρ, env, S, r, er, h⟩ => by
    show TEm X.K X.mg Wx m σ H _
    refine ⟨B0, ρ, env, S, r, er, h.bindE lat_gF fun y S1 ρ1 H1 v e1 r1 q1 h1 => ?_⟩
    unfold fTab at h1
    split at h1
    · rename_i s
      split at h1
      · rename_i k hk
        obtain ⟨es, n, hl, hkl, hv⟩ := ht
        have hmem := List.mem_of_find?_eq_some hk
        have heq : k.1 = s := by simpa using List.find?_some hk
        obtain ⟨t, hn⟩ := hv k hmem
        rw [q1.str_inv]
        subst heq
        exact ⟨a, _, .str ⟨k.2.toArray⟩, rfl, rfl, ⟨es, n, _, hl, hkl, hn, ⟨t, rfl⟩⟩, gE_here r1 h1 (.str _)⟩
      · exact h1.elim
    · exact h1.elim
/-! ### reckoning with them -/
section
variable {α : Type} {env : Env} {S : Sto} {own own1 : List Nat} {w x : W} {ws xs : List W} {i j l : Nat}
def fL {α : Type} (g : α → Sto → Out (List W)) : List α → Sto → Out (List W)
  | [], S => .ok [] S
  | a :: l, S => (g a S).bind fun ys S1 => (fL g l S1).bind fun zs S2 => .ok (ys ++ zs) S2
def stepC2 (mt : W → Env → Sto → Out Env) (tt : Env → Sto → Out Bool) (own1 : List Nat) (mi1 : Env → Sto → Out (List W)) (mt1 : W → Env → Sto → Out Env) (tt1 : Env → Sto → Out Bool) (el : Env → Sto → Out W) (env : Env) : W → Sto → Out (List W) := fun w S =>
  (mt w env S).nox.bind fun e S1 => (tt e S1).nox.bind fun b S2 => if b = true then (mi1 e S2).nox.bind fun us S3 => cL (stepC mt1 tt1 el (wipeE e own1)) us S3 else .ok [] S2
theorem compL2_eq {mt mt1 : W → Env → Sto → Out Env} {tt tt1 : Env → Sto → Out Bool} {mi1 : Env → Sto → Out (List W)} {el : Env → Sto → Out W} : ∀ (ws : List W) (S : Sto), compL2 mt tt own1 mi1 mt1 tt1 el env ws S = fL (stepC2 mt tt own1 mi1 mt1 tt1 el env) ws S
  | [], S => rfl
  | w :: ws, S => by
    have ih := fun S => compL2_eq (mt := mt) (tt := tt) (mi1 := mi1) (mt1 := mt1) (tt1 := tt1) (el := el) ws S
    show (mt w env S).nox.bind _ = ((mt w env S).nox.bind _).bind _
    cases (mt w env S).nox with
    | fail => rfl
    | exc c S1 => rfl
    | ok e S1 =>
      simp only [Out.bind_ok]
      cases (tt e S1).nox with
      | fail => rfl
      | exc c S2 => rfl
      | ok b S2 =>
        simp only [Out.bind_ok]
        cases b with
        | false =>
          simp only [Bool.false_eq_true, if_false, Out.bind_ok, ih]
          show fL _ ws S2 = (fL _ ws S2).bind fun ys S3 => .ok ys S3
          cases fL (stepC2 mt tt own1 mi1 mt1 tt1 el env) ws S2 <;> rfl
        | true =>
          simp only [if_true]
          cases (mi1 e S2).nox with
          | fail => rfl
          | exc c S3 => rfl
          | ok us S3 =>
            simp only [Out.bind_ok, compL_eq, ih]
def fM (g : W → Sto → Out (List W)) (o : List W × Option Nat) (S : Sto) : Out FW := (fL g o.1 (lockS o.2 o.1 S)).nox.bind (cmK o)
theorem ev_comp2 {mi : Env → Sto → Out (List W × Option Nat)} {mt mt1 : W → Env → Sto → Out Env} {tt tt1 : Env → Sto → Out Bool} {mi1 : Env → Sto → Out (List W)} {el : Env → Sto → Out W} :
    mComp2 own mi mt tt own1 mi1 mt1 tt1 el env S = (mi env S).bind (fM fun w S => (mt w (wipeE env own) S).nox.bind fun e S1 => (tt e S1).nox.bind fun b S2 => if b = true then (mi1 e S2).nox.bind fun us S3 => cL (fun w S => (mt1 w (wipeE e own1) S).nox.bind fun e S1 => (tt1 e S1).nox.bind fun b S2 => if b = true then (el e S2).nox.bind fun y S3 => .ok (some y) S3 else .ok none S2) us S3 else .ok [] S2) := by
  unfold mComp2
  congr 1; funext o S1
  unfold fM
  rw [compL2_eq]
  rfl
theorem fL_map {g : W → Sto → Out (List W)} {f : α → W} : ∀ (l : List α) (S : Sto), fL g (l.map f) S = fL (fun a => g (f a)) l S
  | [], S => rfl
  | a :: l, S => by
    show (g (f a) S).bind _ = (g (f a) S).bind _
    congr 1; funext o S1
    rw [fL_map l S1]
theorem fM_map {g : W → Sto → Out (List W)} {f : α → W} {l : List α} : fM g (l.map f, none) S = (fL (fun a => g (f a)) l S).nox.bind cm0 := by
  unfold fM
  rw [fL_map]
  rfl
def vL (g : W → Sto → Out (List W)) : List W → Sto → Out (List W)
  | [], S => .ok [] S
  | a :: l, S => (g a S).bind fun ys S1 => (vL g l S1).bind fun zs S2 => .ok (ys ++ zs) S2
theorem vL_nil {g : W → Sto → Out (List W)} : vL g [] S = .ok [] S := rfl
theorem vL_cons {g : W → Sto → Out (List W)} : vL g (x :: xs) S = (g x S).bind fun ys S1 => (vL g xs S1).bind fun zs S2 => .ok (ys ++ zs) S2 := rfl
theorem vL_fL {g : W → Sto → Out (List W)} : ∀ (ws : List W) (S : Sto), vL g ws S = fL g ws S
  | [], S => rfl
  | a :: l, S => by
    show (g a S).bind _ = (g a S).bind _
    congr 1; funext o S1; rw [vL_fL l S1]
theorem fM_nil {g : W → Sto → Out (List W)} : fM g ([], none) S = .ok (.new []) S := rfl
theorem fM_cons {g : W → Sto → Out (List W)} : fM g (x :: xs, none) S = (vL g (x :: xs) S).nox.bind cm0 := by rw [vL_fL]; rfl
theorem fL_at {g : α → Sto → Out (List W)} {v : α → List W} : ∀ {l : List α}, (∀ a, a ∈ l → g a S = .ok (v a) S) → fL g l S = .ok (l.map v).flatten S
  | [], _ => rfl
  | a :: l, h => by
    show (g a S).bind _ = _
    rw [h a List.mem_cons_self, Out.bind_ok, fL_at (l := l) fun b hb => h b (List.mem_cons_of_mem _ hb)]
    rfl
def jSK : W → Sto → Out (List W)
  | .str s, S => .ok (s.map fun c => W.str [c]) S
  | _, _ => .fail
theorem ev_jStr {m : Env → Sto → Out W} : jStr m env S = (m env S).bind jSK := by unfold jStr; congr 1; funext w S1; cases w <;> rfl
theorem jSK_str {s : List Nat} : jSK (.str s) S = .ok (s.map fun c => W.str [c]) S := rfl
def jRK (ws : List W) (S1 : Sto) : Out (List W) := match ws with
  | [.int j] => if -(2 ^ 62) ≤ j ∧ j < 2 ^ 62 then .ok ((List.range j.toNat).map fun i => W.int (0 + (i : Nat))) S1 else .fail
  | _ => .fail
theorem ev_jR1 {ms : Env → Sto → Out (List W)} : jR1 ms env S = (ms env S).bind jRK := rfl
theorem jRK_i {j : Int} (h : j ≤ 16777216) (h0 : -16777216 ≤ j) : jRK [.int j] S = .ok ((List.range j.toNat).map fun i => W.int (i : Nat)) S := by
  show (if -(2 ^ 62) ≤ j ∧ j < 2 ^ 62 then Out.ok ((List.range j.toNat).map fun i => W.int (0 + (i : Nat))) S else .fail) = _
  rw [if_pos ⟨by omega, by omega⟩]
  simp
theorem cL_map' {g : W → Sto → Out (Option W)} {f : α → W} {l : List α} : cL g (l.map f) S = cL (fun a => g (f a)) l S := cL_map l S
def par3K (env : Env) (i j l : Nat) (ws : List W) (S : Sto) : OutS := match ws with
  | [u, v, w] => .next (((env.set i (some u)).set j (some v)).set l (some w)) S
  | _ => .fail
theorem ev_sPar3 {ms : Env → Sto → Out (List W)} : sPar3 i j l ms env S = (ms env S).bindS env (par3K env i j l) := rfl
theorem par3K_3 {u v w : W} : par3K env i j l [u, v, w] S = .next (((env.set i (some u)).set j (some v)).set l (some w)) S := rfl
theorem ev_aug0 {m : Env → Sto → Out W} {f : W → W → Sto → Out FW} {e : Env} : sAug 0 f m (some x :: e) S = (m (some x :: e) S).bindS (some x :: e) fun y S1 => (f x y S1).bindS (some x :: e) fun z S2 => match z with
    | .val z => .next (some z :: e) S2
    | _ => .fail := rfl
def augK (env : Env) (i : Nat) (z : FW) (S : Sto) : OutS := match z with
  | .val z => .next (env.set i (some z)) S
  | _ => .fail
theorem ev_sAug {m : Env → Sto → Out W} {f : W → W → Sto → Out FW} (h : mVar i env S = .ok x S) : sAug i f m env S = (m env S).bindS env fun y S1 => (f x y S1).bindS env (augK env i) := by
  have h2 : env[i]? = some (some x) := by
    unfold mVar at h
    cases q : env[i]? with
    | none => rw [q] at h; cases h
    | some o =>
      cases o with
      | none => rw [q] at h; cases h
      | some y => rw [q] at h; cases h; rfl
  unfold sAug
  rw [h2]
  rfl
theorem augK_val {z : W} : augK env i (.val z) S = .next (env.set i (some z)) S := rfl
theorem augAdd_ii {a b : Int} : fAugAdd (.int a) (.int b) S = .ok (.val (.int (a + b))) S := rfl
def trN (o : OutS) (l : List (Str × Option Nat)) (bs : List (Env → Sto → OutS)) : OutS := match o with
  | .exc c e S1 => match l.lookup c with
    | some (some i) => match bs[i]? with
      | some b => b e S1
      | none => .fail
    | some none => .exc c e S1
    | none => .fail
  | o => o
theorem ev_sTryN {a : Env → Sto → OutS} {l : List (Str × Option Nat)} {bs : List (Env → Sto → OutS)} : sTryN a l bs env S = trN (a env S) l bs := rfl
theorem trN_next {l : List (Str × Option Nat)} {bs : List (Env → Sto → OutS)} : trN (.next env S) l bs = .next env S := rfl
theorem trN_ret {l : List (Str × Option Nat)} {bs : List (Env → Sto → OutS)} : trN (.ret w S) l bs = .ret w S := rfl
theorem trN_exc {l : List (Str × Option Nat)} {bs : List (Env → Sto → OutS)} {c : Str} {i : Nat} {b : Env → Sto → OutS} (h : l.lookup c = some (some i)) (hb : bs[i]? = some b) : trN (.exc c env S) l bs = b env S := by
  unfold trN
  simp only
  rw [h]
  simp only
  rw [hb]
theorem trN_exc0 {l : List (Str × Option Nat)} {bs : List (Env → Sto → OutS)} {c : Str} {b0 : Env → Sto → OutS} (h : l.lookup c = some (some 0)) : trN (.exc c env S) l (b0 :: bs) = b0 env S := trN_exc h rfl
theorem trN_exc1 {l : List (Str × Option Nat)} {bs : List (Env → Sto → OutS)} {c : Str} {b0 b1 : Env → Sto → OutS} (h : l.lookup c = some (some 1)) : trN (.exc c env S) l (b0 :: b1 :: bs) = b1 env S := trN_exc h rfl
theorem trN_exc2 {l : List (Str × Option Nat)} {bs : List (Env → Sto → OutS)} {c : Str} {b0 b1 b2 : Env → Sto → OutS} (h : l.lookup c = some (some 2)) : trN (.exc c env S) l (b0 :: b1 :: b2 :: bs) = b2 env S := trN_exc h rfl
theorem trN_exc3 {l : List (Str × Option Nat)} {bs : List (Env → Sto → OutS)} {c : Str} {b0 b1 b2 b3 : Env → Sto → OutS} (h : l.lookup c = some (some 3)) : trN (.exc c env S) l (b0 :: b1 :: b2 :: b3 :: bs) = b3 env S := trN_exc h rfl
theorem trN_exc4 {l : List (Str × Option Nat)} {bs : List (Env → Sto → OutS)} {c : Str} {b0 b1 b2 b3 b4 : Env → Sto → OutS} (h : l.lookup c = some (some 4)) : trN (.exc c env S) l (b0 :: b1 :: b2 :: b3 :: b4 :: bs) = b4 env S := trN_exc h rfl
theorem trN_exc5 {l : List (Str × Option Nat)} {bs : List (Env → Sto → OutS)} {c : Str} {b0 b1 b2 b3 b4 b5 : Env → Sto → OutS} (h : l.lookup c = some (some 5)) : trN (.exc c env S) l (b0 :: b1 :: b2 :: b3 :: b4 :: b5 :: bs) = b5 env S := trN_exc h rfl
theorem mul_lst {n : Int} (h : -16777216 ≤ n) (h1 : n ≤ 16777216) (h2 : xs.length * n.toNat ≤ 16777216) : fMul (.lst xs) (.int n) S = .ok (.new (List.replicate n.toNat xs).flatten) S := by
  show (if -(2 ^ 63) ≤ n ∧ n < 2 ^ 63 ∧ xs.length * n.toNat ≤ LINE then Out.ok (FW.new (List.replicate n.toNat xs).flatten) S else .fail) = _
  rw [if_pos ⟨by omega, by omega, h2⟩]
theorem rep_oneW : ∀ {k : Nat} {x : W}, (List.replicate k [x]).flatten = List.replicate k x
  | 0, _ => rfl
  | k + 1, x => by rw [List.replicate_succ, List.flatten_cons, rep_oneW (k := k)]; rfl
theorem EVC : type_of% (And.intro (And.intro (And.intro (And.intro (@ev_comp2) (And.intro (@fM_map) (@fM_nil))) (And.intro (@fM_cons) (And.intro (@vL_nil) (@vL_cons)))) (And.intro (And.intro (@fL_at) (And.intro (@ev_jStr) (@jSK_str))) (And.intro (And.intro (@ev_jR1) (@jRK_i)) (And.intro (@cL_map') (@ev_sPar3))))) (And.intro (And.intro (And.intro (@par3K_3) (And.intro (@augK_val) (@augAdd_ii))) (And.intro (And.intro (@ev_sTryN) (@trN_next)) (And.intro (@trN_ret) (@trN_exc0)))) (And.intro (And.intro (@trN_exc1) (And.intro (@trN_exc2) (@trN_exc3))) (And.intro (And.intro (@trN_exc4) (@trN_exc5)) (And.intro (@mul_lst) (@rep_oneW)))))) := And.intro (And.intro (And.intro (And.intro (@ev_comp2) (And.intro (@fM_map) (@fM_nil))) (And.intro (@fM_cons) (And.intro (@vL_nil) (@vL_cons)))) (And.intro (And.intro (@fL_at) (And.intro (@ev_jStr) (@jSK_str))) (And.intro (And.intro (@ev_jR1) (@jRK_i)) (And.intro (@cL_map') (@ev_sPar3))))) (And.intro (And.intro (And.intro (@par3K_3) (And.intro (@augK_val) (@augAdd_ii))) (And.intro (And.intro (@ev_sTryN) (@trN_next)) (And.intro (@trN_ret) (@trN_exc0)))) (And.intro (And.intro (@trN_exc1) (And.intro (@trN_exc2) (@trN_exc3))) (And.intro (And.intro (@trN_exc4) (@trN_exc5)) (And.intro (@mul_lst) (@rep_oneW)))))
end
end
end L2.Mi

set_option Elab.async false
set_option linter.all false
set_option maxRecDepth 100000
set_option maxHeartbeats 4000000
/-! # Mirrors that many laws share: rows, numbers, chains, mixed words -/
namespace L2.Mi.Lw
open PySem PySem.Spec PyProof.Rows L2 L2.Mi L2.Mi.Wd L2.Mi.Lb
def b__law_mixed : Env → Sto → OutS :=
  sSeq (sSet 2 (mNew (mLst (mNil))))
    (sSeq (sFor (iR1 (mCons (mVal (mA fLen (mCons (mVar 1) (mNil)))) (mNil))) (tName 3) (sFor (iSeqM (mVal (m2 fAdd (mVal (m2 fMul (mVal (m2 fIx (mC (.str [97, 98, 99, 100])) (mVar 3))) (mVal (m2 fIx (mVar 1) (mVar 3))))) (mVal (m2 fMul (mVal (m2 fIx (mC (.str [65, 66, 67, 68])) (mVar 3))) (mVal (m2 fIx (mVar 1) (mVar 3)))))))) (tName 4) (sExpr (mVal (mM tyLst (onLst fInsert) (mVar 2) (mCons (mCall 2 m__law_pick (mCons (mVar 0) (mCons (mVal (m2 fAdd (mVal (mA fLen (mCons (mVar 2) (mNil)))) (mC (.int 1)))) (mNil)))) (mCons (mVar 4) (mNil))))))))
    (sRet (mVal (mM tyStr fJoin (mC (.str [])) (mCons (mVar 2) (mNil))))))
def m__law_mixed : MF := mfun 2 5 b__law_mixed
def b_need_two : Env → Sto → OutS :=
  sSeq (sExpr (mCall 0 m_need_word (mCons (mVar 0) (mNil))))
    (sIf (mNot (mTest (mCall 0 m_is_word_of (mCons (mVar 1) (mCons (mC (.int 60)) (mNil)))))) (sRaise "BadOther") (sSkip))
def m_need_two : MF := mfun 2 2 b_need_two
def b_is_row : Env → Sto → OutS :=
  sRet (mAndV (mIsi .tup (mVar 0)) (mChain fLe fLe (mVar 1) (mVal (mA fLen (mCons (mVar 0) (mNil)))) (mVar 2)))
def m_is_row : MF := mfun 3 3 b_is_row
def b_is_chain_of : Env → Sto → OutS :=
  sSeq (sIf (mNot (mTest (mCall 0 m_is_row (mCons (mVar 0) (mCons (mC (.int 1)) (mCons (mC (.int 4)) (mNil))))))) (sRet (mC (.bl false))) (sSkip))
    (sSeq (sIf (mNot (mTest (mVal (mA fAll (mCons (mVal (mComp [2] (iSeqM (mVar 0)) (tName 2) (tYesM) (mAndV (mCall 0 m_is_word_of (mCons (mVar 2) (mCons (mC (.int 28)) (mNil)))) (mVal (m2 fNe (mVar 2) (mC (.str []))))))) (mNil)))))) (sRet (mC (.bl false))) (sSkip))
    (sSeq (sSet 1 (mVal (mM tyStr fJoin (mC (.str [])) (mCons (mVar 0) (mNil)))))
    (sRet (mAndV (mVal (m2 fLe (mVal (mA fLen (mCons (mVar 1) (mNil)))) (mC (.int 28)))) (mVal (mA fAll (mCons (mVal (mComp [3] (iSeqM (mC (.str [97, 98, 99, 100]))) (tName 3) (tYesM) (mVal (m2 fEq (mVal (mM tyStr fSCount (mVar 1) (mCons (mVar 3) (mNil)))) (mVal (mM tyStr fSCount (mVar 1) (mCons (mCall 0 m_inverse_sign (mCons (mVar 3) (mNil))) (mNil)))))))) (mNil))))))))
def m_is_chain_of : MF := mfun 1 4 b_is_chain_of
def b_need_chain : Env → Sto → OutS :=
  sIf (mNot (mTest (mCall 0 m_is_chain_of (mCons (mVar 0) (mNil))))) (sRaise "BadChain") (sSkip)
def m_need_chain : MF := mfun 1 1 b_need_chain
def b_is_int : Env → Sto → OutS :=
  sRet (mAndV (mIsi .int (mVar 0)) (mNotV (mIsi .bl (mVar 0))))
def m_is_int : MF := mfun 1 1 b_is_int
def b_within : Env → Sto → OutS :=
  sRet (mAndV (mCall 0 m_is_int (mCons (mVar 0) (mNil))) (mChain fLe fLe (mVar 1) (mVar 0) (mVar 2)))
def m_within : MF := mfun 3 3 b_within

section
variable {S D D' R : Sto} {s t u v : List Nat} {c n m r : Nat} {w x y z : W} {xs ys : List W} {o o' : SO} {i j k : Int} {E : Str → Sto → Prop} {Q : W → Sto → Prop} {ss : List (List Nat)}
/-! ### any thing -/
def intX : W → Bool
  | .int _ => true
  | _ => false
def inX (x : W) (i j : Int) : Bool := match x with
  | .int k => decide (i ≤ k) && decide (k ≤ j)
  | _ => false
def rowX (x : W) (i j : Int) : Bool := match x with
  | .tup xs => decide (i ≤ (xs.length : Int)) && decide ((xs.length : Int) ≤ j)
  | _ => false
/-- no live object, no script -/
def plainN : W → Bool
  | .ref _ => false
  | .fro _ => false
  | _ => true
theorem and_if {a b : Bool} {S : Sto} : (if a = true then Out.ok (W.bl b) S else .ok (.bl false) S) = .ok (.bl (a && b)) S := by cases a <;> rfl
theorem e_is_int (h : plainN x = true) : m_is_int [x] S = .ok (.bl (intX x)) S := by
  show outF (b_is_int [some x] S) = _
  unfold b_is_int
  cases x with
  | ref n => cases h
  | fro n => cases h
  | _ => try simp (disch := (first | assumption | omega | (refine lkd ?_; decide) | (simp only [LINE, Nat.reduceMul, Nat.reduceLeDiff, Int.reduceToNat, Int.toNat_natCast, List.length_append, List.length_cons, List.length_nil, List.length_map, List.length_range, List.length_take, List.length_drop, List.length_reverse, List.length_replicate, invw_length, List.length_set] <;> omega) | (simp only [wd_app, wd_cons, wd_nil, and_true, true_and]; first | done | (refine ⟨?_, ?_⟩ <;> assumption) | assumption) | (intro ca ch; simp (disch := (first | assumption | omega | (refine lkd ?_; decide) | (simp only [LINE, Nat.reduceMul, Nat.reduceLeDiff, Int.reduceToNat, Int.toNat_natCast, List.length_append, List.length_cons, List.length_nil, List.length_map, List.length_range, List.length_take, List.length_drop, List.length_reverse, List.length_replicate, invw_length, List.length_set] <;> omega) | (simp only [wd_app, wd_cons, wd_nil, and_true, true_and]; first | done | (refine ⟨?_, ?_⟩ <;> assumption) | assumption))) only [EVB, EVC, EVS, EVI, List.set_cons_succ, List.set_cons_zero, List.length_nil, List.length_cons, List.nil_append, List.cons_append, true_and, and_self, Option.toList_some, Option.toList_none, List.append_nil, Bool.decide_eq_true, decide_true, decide_false, List.length_map, List.length_range, BEq.rfl, beq_self_eq_true, Int.toNat_natCast, bne_self_eq_false, Bool.not_eq_true, Bool.not_true, Bool.not_false, Int.natCast_zero, Int.natCast_one, Int.cast_ofNat_Int, if_true, if_false, Bool.false_eq_true, reduceIte, Int.reduceBEq, Int.reduceAdd, Int.reduceSub, Int.reduceMul, Int.reduceLT, Int.reduceLE, Int.reduceNeg, Int.reduceToNat, Int.reduceDiv, Int.reduceMod, Nat.reduceAdd, Nat.reduceSub, Nat.reduceLeDiff, Nat.reduceBEq, Nat.reduceEqDiff, sub_same]; rfl))) only [EVB, EVC, EVS, EVI, List.set_cons_succ, List.set_cons_zero, List.length_nil, List.length_cons, List.nil_append, List.cons_append, true_and, and_self, Option.toList_some, Option.toList_none, List.append_nil, Bool.decide_eq_true, decide_true, decide_false, List.length_map, List.length_range, BEq.rfl, beq_self_eq_true, Int.toNat_natCast, bne_self_eq_false, Bool.not_eq_true, Bool.not_true, Bool.not_false, Int.natCast_zero, Int.natCast_one, Int.cast_ofNat_Int, if_true, if_false, Bool.false_eq_true, reduceIte, Int.reduceBEq, Int.reduceAdd, Int.reduceSub, Int.reduceMul, Int.reduceLT, Int.reduceLE, Int.reduceNeg, Int.reduceToNat, Int.reduceDiv, Int.reduceMod, Nat.reduceAdd, Nat.reduceSub, Nat.reduceLeDiff, Nat.reduceBEq, Nat.reduceEqDiff, sub_same]; try rfl
theorem c_is_int (h : plainN x = true) (hr : refsLt 0 x = true) : callK 0 m_is_int [x] S = .ok (.bl (intX x)) S := call0 (by simp [hr]) (e_is_int h) rfl
theorem e_within (h : plainN x = true) (hr : refsLt 0 x = true) : m_within [x, .int i, .int j] S = .ok (.bl (inX x i j)) S := by
  show outF (b_within [some x, some (.int i), some (.int j)] S) = _
  unfold b_within
  cases x with
  | int n =>
    try simp (disch := (first | assumption | omega | (refine lkd ?_; decide) | (simp only [LINE, Nat.reduceMul, Nat.reduceLeDiff, Int.reduceToNat, Int.toNat_natCast, List.length_append, List.length_cons, List.length_nil, List.length_map, List.length_range, List.length_take, List.length_drop, List.length_reverse, List.length_replicate, invw_length, List.length_set] <;> omega) | (simp only [wd_app, wd_cons, wd_nil, and_true, true_and]; first | done | (refine ⟨?_, ?_⟩ <;> assumption) | assumption) | (intro ca ch; simp (disch := (first | assumption | omega | (refine lkd ?_; decide) | (simp only [LINE, Nat.reduceMul, Nat.reduceLeDiff, Int.reduceToNat, Int.toNat_natCast, List.length_append, List.length_cons, List.length_nil, List.length_map, List.length_range, List.length_take, List.length_drop, List.length_reverse, List.length_replicate, invw_length, List.length_set] <;> omega) | (simp only [wd_app, wd_cons, wd_nil, and_true, true_and]; first | done | (refine ⟨?_, ?_⟩ <;> assumption) | assumption))) only [EVB, EVC, EVS, EVI, List.set_cons_succ, List.set_cons_zero, List.length_nil, List.length_cons, List.nil_append, List.cons_append, true_and, and_self, Option.toList_some, Option.toList_none, List.append_nil, Bool.decide_eq_true, decide_true, decide_false, List.length_map, List.length_range, BEq.rfl, beq_self_eq_true, Int.toNat_natCast, bne_self_eq_false, Bool.not_eq_true, Bool.not_true, Bool.not_false, Int.natCast_zero, Int.natCast_one, Int.cast_ofNat_Int, if_true, if_false, Bool.false_eq_true, reduceIte, Int.reduceBEq, Int.reduceAdd, Int.reduceSub, Int.reduceMul, Int.reduceLT, Int.reduceLE, Int.reduceNeg, Int.reduceToNat, Int.reduceDiv, Int.reduceMod, Nat.reduceAdd, Nat.reduceSub, Nat.reduceLeDiff, Nat.reduceBEq, Nat.reduceEqDiff, c_is_int (x := .int n) rfl rfl, intX]; rfl))) only [EVB, EVC, EVS, EVI, List.set_cons_succ, List.set_cons_zero, List.length_nil, List.length_cons, List.nil_append, List.cons_append, true_and, and_self, Option.toList_some, Option.toList_none, List.append_nil, Bool.decide_eq_true, decide_true, decide_false, List.length_map, List.length_range, BEq.rfl, beq_self_eq_true, Int.toNat_natCast, bne_self_eq_false, Bool.not_eq_true, Bool.not_true, Bool.not_false, Int.natCast_zero, Int.natCast_one, Int.cast_ofNat_Int, if_true, if_false, Bool.false_eq_true, reduceIte, Int.reduceBEq, Int.reduceAdd, Int.reduceSub, Int.reduceMul, Int.reduceLT, Int.reduceLE, Int.reduceNeg, Int.reduceToNat, Int.reduceDiv, Int.reduceMod, Nat.reduceAdd, Nat.reduceSub, Nat.reduceLeDiff, Nat.reduceBEq, Nat.reduceEqDiff, c_is_int (x := .int n) rfl rfl, intX]
    exact and_if
  | _ => try simp (disch := (first | assumption | omega | (refine lkd ?_; decide) | (simp only [LINE, Nat.reduceMul, Nat.reduceLeDiff, Int.reduceToNat, Int.toNat_natCast, List.length_append, List.length_cons, List.length_nil, List.length_map, List.length_range, List.length_take, List.length_drop, List.length_reverse, List.length_replicate, invw_length, List.length_set] <;> omega) | (simp only [wd_app, wd_cons, wd_nil, and_true, true_and]; first | done | (refine ⟨?_, ?_⟩ <;> assumption) | assumption) | (intro ca ch; simp (disch := (first | assumption | omega | (refine lkd ?_; decide) | (simp only [LINE, Nat.reduceMul, Nat.reduceLeDiff, Int.reduceToNat, Int.toNat_natCast, List.length_append, List.length_cons, List.length_nil, List.length_map, List.length_range, List.length_take, List.length_drop, List.length_reverse, List.length_replicate, invw_length, List.length_set] <;> omega) | (simp only [wd_app, wd_cons, wd_nil, and_true, true_and]; first | done | (refine ⟨?_, ?_⟩ <;> assumption) | assumption))) only [EVB, EVC, EVS, EVI, List.set_cons_succ, List.set_cons_zero, List.length_nil, List.length_cons, List.nil_append, List.cons_append, true_and, and_self, Option.toList_some, Option.toList_none, List.append_nil, Bool.decide_eq_true, decide_true, decide_false, List.length_map, List.length_range, BEq.rfl, beq_self_eq_true, Int.toNat_natCast, bne_self_eq_false, Bool.not_eq_true, Bool.not_true, Bool.not_false, Int.natCast_zero, Int.natCast_one, Int.cast_ofNat_Int, if_true, if_false, Bool.false_eq_true, reduceIte, Int.reduceBEq, Int.reduceAdd, Int.reduceSub, Int.reduceMul, Int.reduceLT, Int.reduceLE, Int.reduceNeg, Int.reduceToNat, Int.reduceDiv, Int.reduceMod, Nat.reduceAdd, Nat.reduceSub, Nat.reduceLeDiff, Nat.reduceBEq, Nat.reduceEqDiff, c_is_int h hr, intX]; rfl))) only [EVB, EVC, EVS, EVI, List.set_cons_succ, List.set_cons_zero, List.length_nil, List.length_cons, List.nil_append, List.cons_append, true_and, and_self, Option.toList_some, Option.toList_none, List.append_nil, Bool.decide_eq_true, decide_true, decide_false, List.length_map, List.length_range, BEq.rfl, beq_self_eq_true, Int.toNat_natCast, bne_self_eq_false, Bool.not_eq_true, Bool.not_true, Bool.not_false, Int.natCast_zero, Int.natCast_one, Int.cast_ofNat_Int, if_true, if_false, Bool.false_eq_true, reduceIte, Int.reduceBEq, Int.reduceAdd, Int.reduceSub, Int.reduceMul, Int.reduceLT, Int.reduceLE, Int.reduceNeg, Int.reduceToNat, Int.reduceDiv, Int.reduceMod, Nat.reduceAdd, Nat.reduceSub, Nat.reduceLeDiff, Nat.reduceBEq, Nat.reduceEqDiff, c_is_int h hr, intX]; try rfl
theorem c_within (h : plainN x = true) (hr : refsLt 0 x = true) : callK 0 m_within [x, .int i, .int j] S = .ok (.bl (inX x i j)) S := call0 (by simp [hr, refsLt]) (e_within h hr) rfl
theorem e_is_row (h : plainN x = true) : m_is_row [x, .int i, .int j] S = .ok (.bl (rowX x i j)) S := by
  show outF (b_is_row [some x, some (.int i), some (.int j)] S) = _
  unfold b_is_row
  cases x with
  | ref n => cases h
  | fro n => cases h
  | tup xs =>
    try simp (disch := (first | assumption | omega | (refine lkd ?_; decide) | (simp only [LINE, Nat.reduceMul, Nat.reduceLeDiff, Int.reduceToNat, Int.toNat_natCast, List.length_append, List.length_cons, List.length_nil, List.length_map, List.length_range, List.length_take, List.length_drop, List.length_reverse, List.length_replicate, invw_length, List.length_set] <;> omega) | (simp only [wd_app, wd_cons, wd_nil, and_true, true_and]; first | done | (refine ⟨?_, ?_⟩ <;> assumption) | assumption) | (intro ca ch; simp (disch := (first | assumption | omega | (refine lkd ?_; decide) | (simp only [LINE, Nat.reduceMul, Nat.reduceLeDiff, Int.reduceToNat, Int.toNat_natCast, List.length_append, List.length_cons, List.length_nil, List.length_map, List.length_range, List.length_take, List.length_drop, List.length_reverse, List.length_replicate, invw_length, List.length_set] <;> omega) | (simp only [wd_app, wd_cons, wd_nil, and_true, true_and]; first | done | (refine ⟨?_, ?_⟩ <;> assumption) | assumption))) only [EVB, EVC, EVS, EVI, List.set_cons_succ, List.set_cons_zero, List.length_nil, List.length_cons, List.nil_append, List.cons_append, true_and, and_self, Option.toList_some, Option.toList_none, List.append_nil, Bool.decide_eq_true, decide_true, decide_false, List.length_map, List.length_range, BEq.rfl, beq_self_eq_true, Int.toNat_natCast, bne_self_eq_false, Bool.not_eq_true, Bool.not_true, Bool.not_false, Int.natCast_zero, Int.natCast_one, Int.cast_ofNat_Int, if_true, if_false, Bool.false_eq_true, reduceIte, Int.reduceBEq, Int.reduceAdd, Int.reduceSub, Int.reduceMul, Int.reduceLT, Int.reduceLE, Int.reduceNeg, Int.reduceToNat, Int.reduceDiv, Int.reduceMod, Nat.reduceAdd, Nat.reduceSub, Nat.reduceLeDiff, Nat.reduceBEq, Nat.reduceEqDiff]; rfl))) only [EVB, EVC, EVS, EVI, List.set_cons_succ, List.set_cons_zero, List.length_nil, List.length_cons, List.nil_append, List.cons_append, true_and, and_self, Option.toList_some, Option.toList_none, List.append_nil, Bool.decide_eq_true, decide_true, decide_false, List.length_map, List.length_range, BEq.rfl, beq_self_eq_true, Int.toNat_natCast, bne_self_eq_false, Bool.not_eq_true, Bool.not_true, Bool.not_false, Int.natCast_zero, Int.natCast_one, Int.cast_ofNat_Int, if_true, if_false, Bool.false_eq_true, reduceIte, Int.reduceBEq, Int.reduceAdd, Int.reduceSub, Int.reduceMul, Int.reduceLT, Int.reduceLE, Int.reduceNeg, Int.reduceToNat, Int.reduceDiv, Int.reduceMod, Nat.reduceAdd, Nat.reduceSub, Nat.reduceLeDiff, Nat.reduceBEq, Nat.reduceEqDiff]
    exact and_if
  | _ => try simp (disch := (first | assumption | omega | (refine lkd ?_; decide) | (simp only [LINE, Nat.reduceMul, Nat.reduceLeDiff, Int.reduceToNat, Int.toNat_natCast, List.length_append, List.length_cons, List.length_nil, List.length_map, List.length_range, List.length_take, List.length_drop, List.length_reverse, List.length_replicate, invw_length, List.length_set] <;> omega) | (simp only [wd_app, wd_cons, wd_nil, and_true, true_and]; first | done | (refine ⟨?_, ?_⟩ <;> assumption) | assumption) | (intro ca ch; simp (disch := (first | assumption | omega | (refine lkd ?_; decide) | (simp only [LINE, Nat.reduceMul, Nat.reduceLeDiff, Int.reduceToNat, Int.toNat_natCast, List.length_append, List.length_cons, List.length_nil, List.length_map, List.length_range, List.length_take, List.length_drop, List.length_reverse, List.length_replicate, invw_length, List.length_set] <;> omega) | (simp only [wd_app, wd_cons, wd_nil, and_true, true_and]; first | done | (refine ⟨?_, ?_⟩ <;> assumption) | assumption))) only [EVB, EVC, EVS, EVI, List.set_cons_succ, List.set_cons_zero, List.length_nil, List.length_cons, List.nil_append, List.cons_append, true_and, and_self, Option.toList_some, Option.toList_none, List.append_nil, Bool.decide_eq_true, decide_true, decide_false, List.length_map, List.length_range, BEq.rfl, beq_self_eq_true, Int.toNat_natCast, bne_self_eq_false, Bool.not_eq_true, Bool.not_true, Bool.not_false, Int.natCast_zero, Int.natCast_one, Int.cast_ofNat_Int, if_true, if_false, Bool.false_eq_true, reduceIte, Int.reduceBEq, Int.reduceAdd, Int.reduceSub, Int.reduceMul, Int.reduceLT, Int.reduceLE, Int.reduceNeg, Int.reduceToNat, Int.reduceDiv, Int.reduceMod, Nat.reduceAdd, Nat.reduceSub, Nat.reduceLeDiff, Nat.reduceBEq, Nat.reduceEqDiff, sub_same]; rfl))) only [EVB, EVC, EVS, EVI, List.set_cons_succ, List.set_cons_zero, List.length_nil, List.length_cons, List.nil_append, List.cons_append, true_and, and_self, Option.toList_some, Option.toList_none, List.append_nil, Bool.decide_eq_true, decide_true, decide_false, List.length_map, List.length_range, BEq.rfl, beq_self_eq_true, Int.toNat_natCast, bne_self_eq_false, Bool.not_eq_true, Bool.not_true, Bool.not_false, Int.natCast_zero, Int.natCast_one, Int.cast_ofNat_Int, if_true, if_false, Bool.false_eq_true, reduceIte, Int.reduceBEq, Int.reduceAdd, Int.reduceSub, Int.reduceMul, Int.reduceLT, Int.reduceLE, Int.reduceNeg, Int.reduceToNat, Int.reduceDiv, Int.reduceMod, Nat.reduceAdd, Nat.reduceSub, Nat.reduceLeDiff, Nat.reduceBEq, Nat.reduceEqDiff, sub_same]; try rfl
theorem c_is_row (h : plainN x = true) (hr : refsLt 0 x = true) : callK 0 m_is_row [x, .int i, .int j] S = .ok (.bl (rowX x i j)) S := call0 (by simp [hr, refsLt]) (e_is_row h) rfl
theorem plainN_of (h : plainV x = true) (hr : refsLt 0 x = true) (hf : ∀ l, x ≠ .fro l) : plainN x = true := by
  cases x with
  | ref n => cases h
  | fro l => exact absurd rfl (hf l)
  | _ => rfl
theorem c_is_word_of (h : plainV x = true) (hr : refsLt 0 x = true) : callK 0 m_is_word_of [x, .int i] S = .ok (.bl (isWx x i)) S := call0 (by simp [hr, refsLt]) (e_is_word_of_any h) rfl
/-! ### need_two -/
theorem e_need_two (hx : plainV x = true) (hrx : refsLt 0 x = true) (hy : plainV y = true) (hry : refsLt 0 y = true) :
    m_need_two [x, y] S = if isWx x 60 = true then (if isWx y 60 = true then .ok .non S else .exc "BadOther" S) else .exc "BadWord" S := by
  show outF (b_need_two [some x, some y] S) = _
  unfold b_need_two
  have h1 : ∀ S, callK 0 m_need_word [x] S = if isWx x 60 = true then .ok .non S else .exc "BadWord" S := fun S => c_need_word hx hrx
  have h2 : ∀ S, callK 0 m_is_word_of [y, .int 60] S = .ok (.bl (isWx y 60)) S := fun S => c_is_word_of hy hry
  cases q1 : isWx x 60 with
  | false =>
    rw [q1] at h1
    try simp (disch := (first | assumption | omega | (refine lkd ?_; decide) | (simp only [LINE, Nat.reduceMul, Nat.reduceLeDiff, Int.reduceToNat, Int.toNat_natCast, List.length_append, List.length_cons, List.length_nil, List.length_map, List.length_range, List.length_take, List.length_drop, List.length_reverse, List.length_replicate, invw_length, List.length_set] <;> omega) | (simp only [wd_app, wd_cons, wd_nil, and_true, true_and]; first | done | (refine ⟨?_, ?_⟩ <;> assumption) | assumption) | (intro ca ch; simp (disch := (first | assumption | omega | (refine lkd ?_; decide) | (simp only [LINE, Nat.reduceMul, Nat.reduceLeDiff, Int.reduceToNat, Int.toNat_natCast, List.length_append, List.length_cons, List.length_nil, List.length_map, List.length_range, List.length_take, List.length_drop, List.length_reverse, List.length_replicate, invw_length, List.length_set] <;> omega) | (simp only [wd_app, wd_cons, wd_nil, and_true, true_and]; first | done | (refine ⟨?_, ?_⟩ <;> assumption) | assumption))) only [EVB, EVC, EVS, EVI, List.set_cons_succ, List.set_cons_zero, List.length_nil, List.length_cons, List.nil_append, List.cons_append, true_and, and_self, Option.toList_some, Option.toList_none, List.append_nil, Bool.decide_eq_true, decide_true, decide_false, List.length_map, List.length_range, BEq.rfl, beq_self_eq_true, Int.toNat_natCast, bne_self_eq_false, Bool.not_eq_true, Bool.not_true, Bool.not_false, Int.natCast_zero, Int.natCast_one, Int.cast_ofNat_Int, if_true, if_false, Bool.false_eq_true, reduceIte, Int.reduceBEq, Int.reduceAdd, Int.reduceSub, Int.reduceMul, Int.reduceLT, Int.reduceLE, Int.reduceNeg, Int.reduceToNat, Int.reduceDiv, Int.reduceMod, Nat.reduceAdd, Nat.reduceSub, Nat.reduceLeDiff, Nat.reduceBEq, Nat.reduceEqDiff, h1]; rfl))) only [EVB, EVC, EVS, EVI, List.set_cons_succ, List.set_cons_zero, List.length_nil, List.length_cons, List.nil_append, List.cons_append, true_and, and_self, Option.toList_some, Option.toList_none, List.append_nil, Bool.decide_eq_true, decide_true, decide_false, List.length_map, List.length_range, BEq.rfl, beq_self_eq_true, Int.toNat_natCast, bne_self_eq_false, Bool.not_eq_true, Bool.not_true, Bool.not_false, Int.natCast_zero, Int.natCast_one, Int.cast_ofNat_Int, if_true, if_false, Bool.false_eq_true, reduceIte, Int.reduceBEq, Int.reduceAdd, Int.reduceSub, Int.reduceMul, Int.reduceLT, Int.reduceLE, Int.reduceNeg, Int.reduceToNat, Int.reduceDiv, Int.reduceMod, Nat.reduceAdd, Nat.reduceSub, Nat.reduceLeDiff, Nat.reduceBEq, Nat.reduceEqDiff, h1]
  | true =>
    rw [q1] at h1
    cases q2 : isWx y 60 with
    | false => rw [q2] at h2; try simp (disch := (first | assumption | omega | (refine lkd ?_; decide) | (simp only [LINE, Nat.reduceMul, Nat.reduceLeDiff, Int.reduceToNat, Int.toNat_natCast, List.length_append, List.length_cons, List.length_nil, List.length_map, List.length_range, List.length_take, List.length_drop, List.length_reverse, List.length_replicate, invw_length, List.length_set] <;> omega) | (simp only [wd_app, wd_cons, wd_nil, and_true, true_and]; first | done | (refine ⟨?_, ?_⟩ <;> assumption) | assumption) | (intro ca ch; simp (disch := (first | assumption | omega | (refine lkd ?_; decide) | (simp only [LINE, Nat.reduceMul, Nat.reduceLeDiff, Int.reduceToNat, Int.toNat_natCast, List.length_append, List.length_cons, List.length_nil, List.length_map, List.length_range, List.length_take, List.length_drop, List.length_reverse, List.length_replicate, invw_length, List.length_set] <;> omega) | (simp only [wd_app, wd_cons, wd_nil, and_true, true_and]; first | done | (refine ⟨?_, ?_⟩ <;> assumption) | assumption))) only [EVB, EVC, EVS, EVI, List.set_cons_succ, List.set_cons_zero, List.length_nil, List.length_cons, List.nil_append, List.cons_append, true_and, and_self, Option.toList_some, Option.toList_none, List.append_nil, Bool.decide_eq_true, decide_true, decide_false, List.length_map, List.length_range, BEq.rfl, beq_self_eq_true, Int.toNat_natCast, bne_self_eq_false, Bool.not_eq_true, Bool.not_true, Bool.not_false, Int.natCast_zero, Int.natCast_one, Int.cast_ofNat_Int, if_true, if_false, Bool.false_eq_true, reduceIte, Int.reduceBEq, Int.reduceAdd, Int.reduceSub, Int.reduceMul, Int.reduceLT, Int.reduceLE, Int.reduceNeg, Int.reduceToNat, Int.reduceDiv, Int.reduceMod, Nat.reduceAdd, Nat.reduceSub, Nat.reduceLeDiff, Nat.reduceBEq, Nat.reduceEqDiff, h1, h2]; rfl))) only [EVB, EVC, EVS, EVI, List.set_cons_succ, List.set_cons_zero, List.length_nil, List.length_cons, List.nil_append, List.cons_append, true_and, and_self, Option.toList_some, Option.toList_none, List.append_nil, Bool.decide_eq_true, decide_true, decide_false, List.length_map, List.length_range, BEq.rfl, beq_self_eq_true, Int.toNat_natCast, bne_self_eq_false, Bool.not_eq_true, Bool.not_true, Bool.not_false, Int.natCast_zero, Int.natCast_one, Int.cast_ofNat_Int, if_true, if_false, Bool.false_eq_true, reduceIte, Int.reduceBEq, Int.reduceAdd, Int.reduceSub, Int.reduceMul, Int.reduceLT, Int.reduceLE, Int.reduceNeg, Int.reduceToNat, Int.reduceDiv, Int.reduceMod, Nat.reduceAdd, Nat.reduceSub, Nat.reduceLeDiff, Nat.reduceBEq, Nat.reduceEqDiff, h1, h2]
    | true => rw [q2] at h2; try simp (disch := (first | assumption | omega | (refine lkd ?_; decide) | (simp only [LINE, Nat.reduceMul, Nat.reduceLeDiff, Int.reduceToNat, Int.toNat_natCast, List.length_append, List.length_cons, List.length_nil, List.length_map, List.length_range, List.length_take, List.length_drop, List.length_reverse, List.length_replicate, invw_length, List.length_set] <;> omega) | (simp only [wd_app, wd_cons, wd_nil, and_true, true_and]; first | done | (refine ⟨?_, ?_⟩ <;> assumption) | assumption) | (intro ca ch; simp (disch := (first | assumption | omega | (refine lkd ?_; decide) | (simp only [LINE, Nat.reduceMul, Nat.reduceLeDiff, Int.reduceToNat, Int.toNat_natCast, List.length_append, List.length_cons, List.length_nil, List.length_map, List.length_range, List.length_take, List.length_drop, List.length_reverse, List.length_replicate, invw_length, List.length_set] <;> omega) | (simp only [wd_app, wd_cons, wd_nil, and_true, true_and]; first | done | (refine ⟨?_, ?_⟩ <;> assumption) | assumption))) only [EVB, EVC, EVS, EVI, List.set_cons_succ, List.set_cons_zero, List.length_nil, List.length_cons, List.nil_append, List.cons_append, true_and, and_self, Option.toList_some, Option.toList_none, List.append_nil, Bool.decide_eq_true, decide_true, decide_false, List.length_map, List.length_range, BEq.rfl, beq_self_eq_true, Int.toNat_natCast, bne_self_eq_false, Bool.not_eq_true, Bool.not_true, Bool.not_false, Int.natCast_zero, Int.natCast_one, Int.cast_ofNat_Int, if_true, if_false, Bool.false_eq_true, reduceIte, Int.reduceBEq, Int.reduceAdd, Int.reduceSub, Int.reduceMul, Int.reduceLT, Int.reduceLE, Int.reduceNeg, Int.reduceToNat, Int.reduceDiv, Int.reduceMod, Nat.reduceAdd, Nat.reduceSub, Nat.reduceLeDiff, Nat.reduceBEq, Nat.reduceEqDiff, h1, h2]; rfl))) only [EVB, EVC, EVS, EVI, List.set_cons_succ, List.set_cons_zero, List.length_nil, List.length_cons, List.nil_append, List.cons_append, true_and, and_self, Option.toList_some, Option.toList_none, List.append_nil, Bool.decide_eq_true, decide_true, decide_false, List.length_map, List.length_range, BEq.rfl, beq_self_eq_true, Int.toNat_natCast, bne_self_eq_false, Bool.not_eq_true, Bool.not_true, Bool.not_false, Int.natCast_zero, Int.natCast_one, Int.cast_ofNat_Int, if_true, if_false, Bool.false_eq_true, reduceIte, Int.reduceBEq, Int.reduceAdd, Int.reduceSub, Int.reduceMul, Int.reduceLT, Int.reduceLE, Int.reduceNeg, Int.reduceToNat, Int.reduceDiv, Int.reduceMod, Nat.reduceAdd, Nat.reduceSub, Nat.reduceLeDiff, Nat.reduceBEq, Nat.reduceEqDiff, h1, h2]
theorem c_need_two (hx : plainV x = true) (hrx : refsLt 0 x = true) (hy : plainV y = true) (hry : refsLt 0 y = true) :
    callK 0 m_need_two [x, y] S = if isWx x 60 = true then (if isWx y 60 = true then .ok .non S else .exc "BadOther" S) else .exc "BadWord" S := by
  have e := e_need_two (S := []) hx hrx hy hry
  cases q1 : isWx x 60 with
  | false =>
    rw [q1] at e
    exact call0_exc (by simp [hrx, hry]) e
  | true =>
    rw [q1] at e
    cases q2 : isWx y 60 with
    | false => rw [q2] at e; exact call0_exc (by simp [hrx, hry]) e
    | true => rw [q2] at e; exact call0 (by simp [hrx, hry]) e rfl
/-! ### chains -/
def balC (s : List Nat) : Bool := [97, 98, 99, 100].all fun c => ((s.count c : Nat) : Int) == ((s.count (iv c) : Nat) : Int)
def isCh (ss : List (List Nat)) : Bool := (decide (1 ≤ (ss.length : Int)) && decide ((ss.length : Int) ≤ 4)) && (ss.all fun s => isW s 28 && !(s == [])) && (decide ((ss.flatten.length : Int) ≤ 28) && balC ss.flatten)
def chX : W → Bool
  | .tup xs => match strsOf xs with
    | some ss => isCh ss
    | none => false
  | _ => false
theorem chX_none {xs : List W} (q : strsOf xs = none) : chX (.tup xs) = false := by
  show (match strsOf xs with
    | some ss => isCh ss
    | none => false) = false
  rw [q]
theorem chX_some {xs : List W} (q : strsOf xs = some ss) : chX (.tup xs) = isCh ss := by
  show (match strsOf xs with
    | some ss => isCh ss
    | none => false) = isCh ss
  rw [q]
theorem chX_strs : chX (.tup (ss.map W.str)) = isCh ss := chX_some (by
  have := strsOf_map (fun s : List Nat => s) ss
  simpa using this)
theorem lower_sg : ∀ c, c ∈ ([97, 98, 99, 100] : List Nat) → c ∈ SG := by decide
theorem strsOf_none : ∀ {xs : List W}, strsOf xs = none → ∃ a, a ∈ xs ∧ ∀ s, a ≠ .str s
  | [], h => by cases h
  | .str s :: xs, h => by
    have h : (strsOf xs).map (s :: ·) = none := h
    have h2 : strsOf xs = none := by simpa using h
    obtain ⟨a, ha, hn⟩ := strsOf_none h2
    exact ⟨a, List.mem_cons_of_mem _ ha, hn⟩
  | .non :: xs, h => ⟨_, List.mem_cons_self, fun s z => by cases z⟩
  | .bl b :: xs, h => ⟨_, List.mem_cons_self, fun s z => by cases z⟩
  | .int b :: xs, h => ⟨_, List.mem_cons_self, fun s z => by cases z⟩
  | .tup b :: xs, h => ⟨_, List.mem_cons_self, fun s z => by cases z⟩
  | .lst b :: xs, h => ⟨_, List.mem_cons_self, fun s z => by cases z⟩
  | .fro b :: xs, h => ⟨_, List.mem_cons_self, fun s z => by cases z⟩
  | .ref b :: xs, h => ⟨_, List.mem_cons_self, fun s z => by cases z⟩
theorem strsOf_some : ∀ {xs : List W} {ss : List (List Nat)}, strsOf xs = some ss → xs = ss.map W.str
  | [], ss, h => by cases h; rfl
  | .str s :: xs, ss, h => by
    have h : (strsOf xs).map (s :: ·) = some ss := h
    cases q : strsOf xs with
    | none => rw [q] at h; cases h
    | some ts =>
      rw [q] at h
      cases h
      rw [strsOf_some q]
      rfl
  | .non :: xs, ss, h => by cases h
  | .bl b :: xs, ss, h => by cases h
  | .int b :: xs, ss, h => by cases h
  | .tup b :: xs, ss, h => by cases h
  | .lst b :: xs, ss, h => by cases h
  | .fro b :: xs, ss, h => by cases h
  | .ref b :: xs, ss, h => by cases h
/-- what a judged tuple may hold -/
def okEl (a : W) : Prop := plainV a = true ∧ refsLt 0 a = true ∧ okD 59 a = true
theorem isW_len {n : Nat} (h : isW s n = true) : s.length ≤ n := by
  unfold isW at h
  rw [Bool.and_eq_true, decide_eq_true_eq] at h
  omega
theorem isW_word {n : Int} (h : isW s n = true) : Word s := by
  unfold isW at h
  rw [Bool.and_eq_true, List.all_eq_true] at h
  exact fun c hc => by simpa using h.2 c hc
theorem fNe_emp (h : okD 59 x = true) (hs : snap S x = x) : fNe x (.str []) S = .ok (.val (.bl (!eqW x (.str [])))) S := by
  unfold fNe
  rw [hs]
  have h1 : okD 60 x = true := okD_mono x (by omega) h
  have h2 : okD 60 (snap S (.str [])) = true := rfl
  rw [if_pos ⟨h1, h2⟩]
  rfl
theorem snap_okEl (h : okEl x) : snap S x = x := by
  obtain ⟨h1, h2, h3⟩ := h
  cases x with
  | ref n => cases h1
  | fro xs => cases h3
  | _ => rfl
def elX (a : W) : Bool := isWx a 28 && !eqW a (.str [])
theorem elX_str : elX (.str s) = (isW s 28 && !(s == [])) := rfl
theorem e_is_chain_of (hp : plainN x = true) (hr : refsLt 0 x = true) (hx : ∀ xs, x = .tup xs → ∀ a, a ∈ xs → okEl a) (hs : ∀ ss : List (List Nat), x = .tup (ss.map W.str) → ss.flatten.length ≤ 16777216) : m_is_chain_of [x] S = .ok (.bl (chX x)) S := by
  show outF (b_is_chain_of [some x, none, none, none] S) = _
  unfold b_is_chain_of
  have h0 : ∀ S, callK 0 m_is_row [x, .int 1, .int 4] S = .ok (.bl (rowX x 1 4)) S := fun S => c_is_row hp hr
  cases x with
  | ref n => cases hp
  | fro n => cases hp
  | tup xs =>
    have hx := hx xs rfl
    cases hrow : rowX (.tup xs) 1 4 with
    | false =>
      rw [hrow] at h0
      try simp (disch := (first | assumption | omega | (refine lkd ?_; decide) | (simp only [LINE, Nat.reduceMul, Nat.reduceLeDiff, Int.reduceToNat, Int.toNat_natCast, List.length_append, List.length_cons, List.length_nil, List.length_map, List.length_range, List.length_take, List.length_drop, List.length_reverse, List.length_replicate, invw_length, List.length_set] <;> omega) | (simp only [wd_app, wd_cons, wd_nil, and_true, true_and]; first | done | (refine ⟨?_, ?_⟩ <;> assumption) | assumption) | (intro ca ch; simp (disch := (first | assumption | omega | (refine lkd ?_; decide) | (simp only [LINE, Nat.reduceMul, Nat.reduceLeDiff, Int.reduceToNat, Int.toNat_natCast, List.length_append, List.length_cons, List.length_nil, List.length_map, List.length_range, List.length_take, List.length_drop, List.length_reverse, List.length_replicate, invw_length, List.length_set] <;> omega) | (simp only [wd_app, wd_cons, wd_nil, and_true, true_and]; first | done | (refine ⟨?_, ?_⟩ <;> assumption) | assumption))) only [EVB, EVC, EVS, EVI, List.set_cons_succ, List.set_cons_zero, List.length_nil, List.length_cons, List.nil_append, List.cons_append, true_and, and_self, Option.toList_some, Option.toList_none, List.append_nil, Bool.decide_eq_true, decide_true, decide_false, List.length_map, List.length_range, BEq.rfl, beq_self_eq_true, Int.toNat_natCast, bne_self_eq_false, Bool.not_eq_true, Bool.not_true, Bool.not_false, Int.natCast_zero, Int.natCast_one, Int.cast_ofNat_Int, if_true, if_false, Bool.false_eq_true, reduceIte, Int.reduceBEq, Int.reduceAdd, Int.reduceSub, Int.reduceMul, Int.reduceLT, Int.reduceLE, Int.reduceNeg, Int.reduceToNat, Int.reduceDiv, Int.reduceMod, Nat.reduceAdd, Nat.reduceSub, Nat.reduceLeDiff, Nat.reduceBEq, Nat.reduceEqDiff, h0]; rfl))) only [EVB, EVC, EVS, EVI, List.set_cons_succ, List.set_cons_zero, List.length_nil, List.length_cons, List.nil_append, List.cons_append, true_and, and_self, Option.toList_some, Option.toList_none, List.append_nil, Bool.decide_eq_true, decide_true, decide_false, List.length_map, List.length_range, BEq.rfl, beq_self_eq_true, Int.toNat_natCast, bne_self_eq_false, Bool.not_eq_true, Bool.not_true, Bool.not_false, Int.natCast_zero, Int.natCast_one, Int.cast_ofNat_Int, if_true, if_false, Bool.false_eq_true, reduceIte, Int.reduceBEq, Int.reduceAdd, Int.reduceSub, Int.reduceMul, Int.reduceLT, Int.reduceLE, Int.reduceNeg, Int.reduceToNat, Int.reduceDiv, Int.reduceMod, Nat.reduceAdd, Nat.reduceSub, Nat.reduceLeDiff, Nat.reduceBEq, Nat.reduceEqDiff, h0]
      have : chX (.tup xs) = false := by
        cases q : strsOf xs with
        | none => exact chX_none q
        | some ss =>
          have : (decide (1 ≤ (ss.length : Int)) && decide ((ss.length : Int) ≤ 4)) = false := by
            rw [← hrow, strsOf_some q]
            simp [rowX]
          rw [chX_some q]
          unfold isCh
          rw [this]
          rfl
      rw [this]
    | true =>
      rw [hrow] at h0
      have hlen : xs.length ≤ 4 := by
        have hrow : (decide ((1 : Int) ≤ (xs.length : Int)) && decide ((xs.length : Int) ≤ 4)) = true := hrow
        simp at hrow
        omega
      have k1 : ∀ a, a ∈ xs → ∀ S, callK 0 m_is_word_of [a, .int 28] S = .ok (.bl (isWx a 28)) S := fun a ha S => c_is_word_of (hx a ha).1 (hx a ha).2.1
      have k2 : ∀ a, a ∈ xs → ∀ S, fNe a (.str []) S = .ok (.val (.bl (!eqW a (.str [])))) S := fun a ha S => fNe_emp (hx a ha).2.2 (snap_okEl (hx a ha))
      have k3 : ∀ S, cM (fun w S => ((callK 0 m_is_word_of [w, .int 28] S).bind fun w_1 S1 => (bK w_1 S1).bind fun c S1 => if c = true then (fNe w (.str []) S1).bind vK else .ok (.bl false) S1).nox.bind fun y S3 => .ok (some y) S3) (xs, none) S = .ok (.new (xs.map fun a => .bl (elX a))) S := fun S => by
        rw [cM_var, cL_at (v := fun a => .bl (elX a))]
        · rw [nox_ok, Out.bind_ok, cm0_ok (by rw [List.length_map]; omega)]
        · intro a ha
          try simp (disch := (first | assumption | omega | (refine lkd ?_; decide) | (simp only [LINE, Nat.reduceMul, Nat.reduceLeDiff, Int.reduceToNat, Int.toNat_natCast, List.length_append, List.length_cons, List.length_nil, List.length_map, List.length_range, List.length_take, List.length_drop, List.length_reverse, List.length_replicate, invw_length, List.length_set] <;> omega) | (simp only [wd_app, wd_cons, wd_nil, and_true, true_and]; first | done | (refine ⟨?_, ?_⟩ <;> assumption) | assumption) | (intro ca ch; simp (disch := (first | assumption | omega | (refine lkd ?_; decide) | (simp only [LINE, Nat.reduceMul, Nat.reduceLeDiff, Int.reduceToNat, Int.toNat_natCast, List.length_append, List.length_cons, List.length_nil, List.length_map, List.length_range, List.length_take, List.length_drop, List.length_reverse, List.length_replicate, invw_length, List.length_set] <;> omega) | (simp only [wd_app, wd_cons, wd_nil, and_true, true_and]; first | done | (refine ⟨?_, ?_⟩ <;> assumption) | assumption))) only [EVB, EVC, EVS, EVI, List.set_cons_succ, List.set_cons_zero, List.length_nil, List.length_cons, List.nil_append, List.cons_append, true_and, and_self, Option.toList_some, Option.toList_none, List.append_nil, Bool.decide_eq_true, decide_true, decide_false, List.length_map, List.length_range, BEq.rfl, beq_self_eq_true, Int.toNat_natCast, bne_self_eq_false, Bool.not_eq_true, Bool.not_true, Bool.not_false, Int.natCast_zero, Int.natCast_one, Int.cast_ofNat_Int, if_true, if_false, Bool.false_eq_true, reduceIte, Int.reduceBEq, Int.reduceAdd, Int.reduceSub, Int.reduceMul, Int.reduceLT, Int.reduceLE, Int.reduceNeg, Int.reduceToNat, Int.reduceDiv, Int.reduceMod, Nat.reduceAdd, Nat.reduceSub, Nat.reduceLeDiff, Nat.reduceBEq, Nat.reduceEqDiff, k1 a ha, k2 a ha, and_if]; rfl))) only [EVB, EVC, EVS, EVI, List.set_cons_succ, List.set_cons_zero, List.length_nil, List.length_cons, List.nil_append, List.cons_append, true_and, and_self, Option.toList_some, Option.toList_none, List.append_nil, Bool.decide_eq_true, decide_true, decide_false, List.length_map, List.length_range, BEq.rfl, beq_self_eq_true, Int.toNat_natCast, bne_self_eq_false, Bool.not_eq_true, Bool.not_true, Bool.not_false, Int.natCast_zero, Int.natCast_one, Int.cast_ofNat_Int, if_true, if_false, Bool.false_eq_true, reduceIte, Int.reduceBEq, Int.reduceAdd, Int.reduceSub, Int.reduceMul, Int.reduceLT, Int.reduceLE, Int.reduceNeg, Int.reduceToNat, Int.reduceDiv, Int.reduceMod, Nat.reduceAdd, Nat.reduceSub, Nat.reduceLeDiff, Nat.reduceBEq, Nat.reduceEqDiff, k1 a ha, k2 a ha, and_if]
          rfl
      try simp (disch := (first | assumption | omega | (refine lkd ?_; decide) | (simp only [LINE, Nat.reduceMul, Nat.reduceLeDiff, Int.reduceToNat, Int.toNat_natCast, List.length_append, List.length_cons, List.length_nil, List.length_map, List.length_range, List.length_take, List.length_drop, List.length_reverse, List.length_replicate, invw_length, List.length_set] <;> omega) | (simp only [wd_app, wd_cons, wd_nil, and_true, true_and]; first | done | (refine ⟨?_, ?_⟩ <;> assumption) | assumption) | (intro ca ch; simp (disch := (first | assumption | omega | (refine lkd ?_; decide) | (simp only [LINE, Nat.reduceMul, Nat.reduceLeDiff, Int.reduceToNat, Int.toNat_natCast, List.length_append, List.length_cons, List.length_nil, List.length_map, List.length_range, List.length_take, List.length_drop, List.length_reverse, List.length_replicate, invw_length, List.length_set] <;> omega) | (simp only [wd_app, wd_cons, wd_nil, and_true, true_and]; first | done | (refine ⟨?_, ?_⟩ <;> assumption) | assumption))) only [EVB, EVC, EVS, EVI, List.set_cons_succ, List.set_cons_zero, List.length_nil, List.length_cons, List.nil_append, List.cons_append, true_and, and_self, Option.toList_some, Option.toList_none, List.append_nil, Bool.decide_eq_true, decide_true, decide_false, List.length_map, List.length_range, BEq.rfl, beq_self_eq_true, Int.toNat_natCast, bne_self_eq_false, Bool.not_eq_true, Bool.not_true, Bool.not_false, Int.natCast_zero, Int.natCast_one, Int.cast_ofNat_Int, if_true, if_false, Bool.false_eq_true, reduceIte, Int.reduceBEq, Int.reduceAdd, Int.reduceSub, Int.reduceMul, Int.reduceLT, Int.reduceLE, Int.reduceNeg, Int.reduceToNat, Int.reduceDiv, Int.reduceMod, Nat.reduceAdd, Nat.reduceSub, Nat.reduceLeDiff, Nat.reduceBEq, Nat.reduceEqDiff, h0, k3]; rfl))) only [EVB, EVC, EVS, EVI, List.set_cons_succ, List.set_cons_zero, List.length_nil, List.length_cons, List.nil_append, List.cons_append, true_and, and_self, Option.toList_some, Option.toList_none, List.append_nil, Bool.decide_eq_true, decide_true, decide_false, List.length_map, List.length_range, BEq.rfl, beq_self_eq_true, Int.toNat_natCast, bne_self_eq_false, Bool.not_eq_true, Bool.not_true, Bool.not_false, Int.natCast_zero, Int.natCast_one, Int.cast_ofNat_Int, if_true, if_false, Bool.false_eq_true, reduceIte, Int.reduceBEq, Int.reduceAdd, Int.reduceSub, Int.reduceMul, Int.reduceLT, Int.reduceLE, Int.reduceNeg, Int.reduceToNat, Int.reduceDiv, Int.reduceMod, Nat.reduceAdd, Nat.reduceSub, Nat.reduceLeDiff, Nat.reduceBEq, Nat.reduceEqDiff, h0, k3]
      cases q : strsOf xs with
      | none =>
        obtain ⟨a, ha, hn⟩ := strsOf_none q
        have : xs.all elX = false := by
          rw [List.all_eq_false]
          refine ⟨a, ha, ?_⟩
          unfold elX
          cases a with
          | str s => exact absurd rfl (hn s)
          | _ => simp [isWx]
        have hc : chX (.tup xs) = false := chX_none q
        rw [this, hc]
        try simp (disch := (first | assumption | omega | (refine lkd ?_; decide) | (simp only [LINE, Nat.reduceMul, Nat.reduceLeDiff, Int.reduceToNat, Int.toNat_natCast, List.length_append, List.length_cons, List.length_nil, List.length_map, List.length_range, List.length_take, List.length_drop, List.length_reverse, List.length_replicate, invw_length, List.length_set] <;> omega) | (simp only [wd_app, wd_cons, wd_nil, and_true, true_and]; first | done | (refine ⟨?_, ?_⟩ <;> assumption) | assumption) | (intro ca ch; simp (disch := (first | assumption | omega | (refine lkd ?_; decide) | (simp only [LINE, Nat.reduceMul, Nat.reduceLeDiff, Int.reduceToNat, Int.toNat_natCast, List.length_append, List.length_cons, List.length_nil, List.length_map, List.length_range, List.length_take, List.length_drop, List.length_reverse, List.length_replicate, invw_length, List.length_set] <;> omega) | (simp only [wd_app, wd_cons, wd_nil, and_true, true_and]; first | done | (refine ⟨?_, ?_⟩ <;> assumption) | assumption))) only [EVB, EVC, EVS, EVI, List.set_cons_succ, List.set_cons_zero, List.length_nil, List.length_cons, List.nil_append, List.cons_append, true_and, and_self, Option.toList_some, Option.toList_none, List.append_nil, Bool.decide_eq_true, decide_true, decide_false, List.length_map, List.length_range, BEq.rfl, beq_self_eq_true, Int.toNat_natCast, bne_self_eq_false, Bool.not_eq_true, Bool.not_true, Bool.not_false, Int.natCast_zero, Int.natCast_one, Int.cast_ofNat_Int, if_true, if_false, Bool.false_eq_true, reduceIte, Int.reduceBEq, Int.reduceAdd, Int.reduceSub, Int.reduceMul, Int.reduceLT, Int.reduceLE, Int.reduceNeg, Int.reduceToNat, Int.reduceDiv, Int.reduceMod, Nat.reduceAdd, Nat.reduceSub, Nat.reduceLeDiff, Nat.reduceBEq, Nat.reduceEqDiff]; rfl))) only [EVB, EVC, EVS, EVI, List.set_cons_succ, List.set_cons_zero, List.length_nil, List.length_cons, List.nil_append, List.cons_append, true_and, and_self, Option.toList_some, Option.toList_none, List.append_nil, Bool.decide_eq_true, decide_true, decide_false, List.length_map, List.length_range, BEq.rfl, beq_self_eq_true, Int.toNat_natCast, bne_self_eq_false, Bool.not_eq_true, Bool.not_true, Bool.not_false, Int.natCast_zero, Int.natCast_one, Int.cast_ofNat_Int, if_true, if_false, Bool.false_eq_true, reduceIte, Int.reduceBEq, Int.reduceAdd, Int.reduceSub, Int.reduceMul, Int.reduceLT, Int.reduceLE, Int.reduceNeg, Int.reduceToNat, Int.reduceDiv, Int.reduceMod, Nat.reduceAdd, Nat.reduceSub, Nat.reduceLeDiff, Nat.reduceBEq, Nat.reduceEqDiff]
      | some ss =>
        have e := strsOf_some q
        have hf := hs ss (by rw [e])
        have hc : chX (.tup xs) = isCh ss := chX_some q
        rw [hc]
        subst e
        have e2 : (ss.map W.str).all elX = ss.all fun s => isW s 28 && !(s == []) := by
          rw [List.all_map]
          rfl
        have e3 : (decide (1 ≤ (ss.length : Int)) && decide ((ss.length : Int) ≤ 4)) = true := by
          rw [← hrow]
          simp [rowX]
        rw [e2]
        unfold isCh
        rw [e3]
        cases ss.all (fun s => isW s 28 && !(s == [])) with
        | false => try simp (disch := (first | assumption | omega | (refine lkd ?_; decide) | (simp only [LINE, Nat.reduceMul, Nat.reduceLeDiff, Int.reduceToNat, Int.toNat_natCast, List.length_append, List.length_cons, List.length_nil, List.length_map, List.length_range, List.length_take, List.length_drop, List.length_reverse, List.length_replicate, invw_length, List.length_set] <;> omega) | (simp only [wd_app, wd_cons, wd_nil, and_true, true_and]; first | done | (refine ⟨?_, ?_⟩ <;> assumption) | assumption) | (intro ca ch; simp (disch := (first | assumption | omega | (refine lkd ?_; decide) | (simp only [LINE, Nat.reduceMul, Nat.reduceLeDiff, Int.reduceToNat, Int.toNat_natCast, List.length_append, List.length_cons, List.length_nil, List.length_map, List.length_range, List.length_take, List.length_drop, List.length_reverse, List.length_replicate, invw_length, List.length_set] <;> omega) | (simp only [wd_app, wd_cons, wd_nil, and_true, true_and]; first | done | (refine ⟨?_, ?_⟩ <;> assumption) | assumption))) only [EVB, EVC, EVS, EVI, List.set_cons_succ, List.set_cons_zero, List.length_nil, List.length_cons, List.nil_append, List.cons_append, true_and, and_self, Option.toList_some, Option.toList_none, List.append_nil, Bool.decide_eq_true, decide_true, decide_false, List.length_map, List.length_range, BEq.rfl, beq_self_eq_true, Int.toNat_natCast, bne_self_eq_false, Bool.not_eq_true, Bool.not_true, Bool.not_false, Int.natCast_zero, Int.natCast_one, Int.cast_ofNat_Int, if_true, if_false, Bool.false_eq_true, reduceIte, Int.reduceBEq, Int.reduceAdd, Int.reduceSub, Int.reduceMul, Int.reduceLT, Int.reduceLE, Int.reduceNeg, Int.reduceToNat, Int.reduceDiv, Int.reduceMod, Nat.reduceAdd, Nat.reduceSub, Nat.reduceLeDiff, Nat.reduceBEq, Nat.reduceEqDiff]; rfl))) only [EVB, EVC, EVS, EVI, List.set_cons_succ, List.set_cons_zero, List.length_nil, List.length_cons, List.nil_append, List.cons_append, true_and, and_self, Option.toList_some, Option.toList_none, List.append_nil, Bool.decide_eq_true, decide_true, decide_false, List.length_map, List.length_range, BEq.rfl, beq_self_eq_true, Int.toNat_natCast, bne_self_eq_false, Bool.not_eq_true, Bool.not_true, Bool.not_false, Int.natCast_zero, Int.natCast_one, Int.cast_ofNat_Int, if_true, if_false, Bool.false_eq_true, reduceIte, Int.reduceBEq, Int.reduceAdd, Int.reduceSub, Int.reduceMul, Int.reduceLT, Int.reduceLE, Int.reduceNeg, Int.reduceToNat, Int.reduceDiv, Int.reduceMod, Nat.reduceAdd, Nat.reduceSub, Nat.reduceLeDiff, Nat.reduceBEq, Nat.reduceEqDiff]; rfl
        | true =>
          have key : ∀ c, c ∈ ([97, 98, 99, 100] : List Nat) → ∀ S, callK 0 m_inverse_sign [.str [c]] S = .ok (.str [iv c]) S := fun c hc S => c_inverse_sign (lower_sg c hc)
          try simp (disch := (first | assumption | omega | (refine lkd ?_; decide) | (simp only [LINE, Nat.reduceMul, Nat.reduceLeDiff, Int.reduceToNat, Int.toNat_natCast, List.length_append, List.length_cons, List.length_nil, List.length_map, List.length_range, List.length_take, List.length_drop, List.length_reverse, List.length_replicate, invw_length, List.length_set] <;> omega) | (simp only [wd_app, wd_cons, wd_nil, and_true, true_and]; first | done | (refine ⟨?_, ?_⟩ <;> assumption) | assumption) | (intro ca ch; simp (disch := (first | assumption | omega | (refine lkd ?_; decide) | (simp only [LINE, Nat.reduceMul, Nat.reduceLeDiff, Int.reduceToNat, Int.toNat_natCast, List.length_append, List.length_cons, List.length_nil, List.length_map, List.length_range, List.length_take, List.length_drop, List.length_reverse, List.length_replicate, invw_length, List.length_set] <;> omega) | (simp only [wd_app, wd_cons, wd_nil, and_true, true_and]; first | done | (refine ⟨?_, ?_⟩ <;> assumption) | assumption))) only [EVB, EVC, EVS, EVI, List.set_cons_succ, List.set_cons_zero, List.length_nil, List.length_cons, List.nil_append, List.cons_append, true_and, and_self, Option.toList_some, Option.toList_none, List.append_nil, Bool.decide_eq_true, decide_true, decide_false, List.length_map, List.length_range, BEq.rfl, beq_self_eq_true, Int.toNat_natCast, bne_self_eq_false, Bool.not_eq_true, Bool.not_true, Bool.not_false, Int.natCast_zero, Int.natCast_one, Int.cast_ofNat_Int, if_true, if_false, Bool.false_eq_true, reduceIte, Int.reduceBEq, Int.reduceAdd, Int.reduceSub, Int.reduceMul, Int.reduceLT, Int.reduceLE, Int.reduceNeg, Int.reduceToNat, Int.reduceDiv, Int.reduceMod, Nat.reduceAdd, Nat.reduceSub, Nat.reduceLeDiff, Nat.reduceBEq, Nat.reduceEqDiff, key, and_if]; rfl))) only [EVB, EVC, EVS, EVI, List.set_cons_succ, List.set_cons_zero, List.length_nil, List.length_cons, List.nil_append, List.cons_append, true_and, and_self, Option.toList_some, Option.toList_none, List.append_nil, Bool.decide_eq_true, decide_true, decide_false, List.length_map, List.length_range, BEq.rfl, beq_self_eq_true, Int.toNat_natCast, bne_self_eq_false, Bool.not_eq_true, Bool.not_true, Bool.not_false, Int.natCast_zero, Int.natCast_one, Int.cast_ofNat_Int, if_true, if_false, Bool.false_eq_true, reduceIte, Int.reduceBEq, Int.reduceAdd, Int.reduceSub, Int.reduceMul, Int.reduceLT, Int.reduceLE, Int.reduceNeg, Int.reduceToNat, Int.reduceDiv, Int.reduceMod, Nat.reduceAdd, Nat.reduceSub, Nat.reduceLeDiff, Nat.reduceBEq, Nat.reduceEqDiff, key, and_if]
          rfl
  | _ => try simp (disch := (first | assumption | omega | (refine lkd ?_; decide) | (simp only [LINE, Nat.reduceMul, Nat.reduceLeDiff, Int.reduceToNat, Int.toNat_natCast, List.length_append, List.length_cons, List.length_nil, List.length_map, List.length_range, List.length_take, List.length_drop, List.length_reverse, List.length_replicate, invw_length, List.length_set] <;> omega) | (simp only [wd_app, wd_cons, wd_nil, and_true, true_and]; first | done | (refine ⟨?_, ?_⟩ <;> assumption) | assumption) | (intro ca ch; simp (disch := (first | assumption | omega | (refine lkd ?_; decide) | (simp only [LINE, Nat.reduceMul, Nat.reduceLeDiff, Int.reduceToNat, Int.toNat_natCast, List.length_append, List.length_cons, List.length_nil, List.length_map, List.length_range, List.length_take, List.length_drop, List.length_reverse, List.length_replicate, invw_length, List.length_set] <;> omega) | (simp only [wd_app, wd_cons, wd_nil, and_true, true_and]; first | done | (refine ⟨?_, ?_⟩ <;> assumption) | assumption))) only [EVB, EVC, EVS, EVI, List.set_cons_succ, List.set_cons_zero, List.length_nil, List.length_cons, List.nil_append, List.cons_append, true_and, and_self, Option.toList_some, Option.toList_none, List.append_nil, Bool.decide_eq_true, decide_true, decide_false, List.length_map, List.length_range, BEq.rfl, beq_self_eq_true, Int.toNat_natCast, bne_self_eq_false, Bool.not_eq_true, Bool.not_true, Bool.not_false, Int.natCast_zero, Int.natCast_one, Int.cast_ofNat_Int, if_true, if_false, Bool.false_eq_true, reduceIte, Int.reduceBEq, Int.reduceAdd, Int.reduceSub, Int.reduceMul, Int.reduceLT, Int.reduceLE, Int.reduceNeg, Int.reduceToNat, Int.reduceDiv, Int.reduceMod, Nat.reduceAdd, Nat.reduceSub, Nat.reduceLeDiff, Nat.reduceBEq, Nat.reduceEqDiff, h0, rowX]; rfl))) only [EVB, EVC, EVS, EVI, List.set_cons_succ, List.set_cons_zero, List.length_nil, List.length_cons, List.nil_append, List.cons_append, true_and, and_self, Option.toList_some, Option.toList_none, List.append_nil, Bool.decide_eq_true, decide_true, decide_false, List.length_map, List.length_range, BEq.rfl, beq_self_eq_true, Int.toNat_natCast, bne_self_eq_false, Bool.not_eq_true, Bool.not_true, Bool.not_false, Int.natCast_zero, Int.natCast_one, Int.cast_ofNat_Int, if_true, if_false, Bool.false_eq_true, reduceIte, Int.reduceBEq, Int.reduceAdd, Int.reduceSub, Int.reduceMul, Int.reduceLT, Int.reduceLE, Int.reduceNeg, Int.reduceToNat, Int.reduceDiv, Int.reduceMod, Nat.reduceAdd, Nat.reduceSub, Nat.reduceLeDiff, Nat.reduceBEq, Nat.reduceEqDiff, h0, rowX]; try rfl
theorem c_is_chain_of (hp : plainN x = true) (hr : refsLt 0 x = true) (hx : ∀ xs, x = .tup xs → ∀ a, a ∈ xs → okEl a) (hs : ∀ ss : List (List Nat), x = .tup (ss.map W.str) → ss.flatten.length ≤ 16777216) : callK 0 m_is_chain_of [x] S = .ok (.bl (chX x)) S :=
  call0 (by simp [hr]) (e_is_chain_of hp hr hx hs) rfl
theorem e_need_chain (hp : plainN x = true) (hr : refsLt 0 x = true) (hx : ∀ xs, x = .tup xs → ∀ a, a ∈ xs → okEl a) (hs : ∀ ss : List (List Nat), x = .tup (ss.map W.str) → ss.flatten.length ≤ 16777216) :
    m_need_chain [x] S = if chX x = true then .ok .non S else .exc "BadChain" S := by
  show outF (b_need_chain [some x] S) = _
  unfold b_need_chain
  have h := c_is_chain_of (S := S) hp hr hx hs
  cases q : chX x with
  | true => rw [q] at h; try simp (disch := (first | assumption | omega | (refine lkd ?_; decide) | (simp only [LINE, Nat.reduceMul, Nat.reduceLeDiff, Int.reduceToNat, Int.toNat_natCast, List.length_append, List.length_cons, List.length_nil, List.length_map, List.length_range, List.length_take, List.length_drop, List.length_reverse, List.length_replicate, invw_length, List.length_set] <;> omega) | (simp only [wd_app, wd_cons, wd_nil, and_true, true_and]; first | done | (refine ⟨?_, ?_⟩ <;> assumption) | assumption) | (intro ca ch; simp (disch := (first | assumption | omega | (refine lkd ?_; decide) | (simp only [LINE, Nat.reduceMul, Nat.reduceLeDiff, Int.reduceToNat, Int.toNat_natCast, List.length_append, List.length_cons, List.length_nil, List.length_map, List.length_range, List.length_take, List.length_drop, List.length_reverse, List.length_replicate, invw_length, List.length_set] <;> omega) | (simp only [wd_app, wd_cons, wd_nil, and_true, true_and]; first | done | (refine ⟨?_, ?_⟩ <;> assumption) | assumption))) only [EVB, EVC, EVS, List.set_cons_succ, List.set_cons_zero, List.length_nil, List.length_cons, List.nil_append, List.cons_append, true_and, and_self, Option.toList_some, Option.toList_none, List.append_nil, Bool.decide_eq_true, decide_true, decide_false, List.length_map, List.length_range, BEq.rfl, beq_self_eq_true, Int.toNat_natCast, bne_self_eq_false, Bool.not_eq_true, Bool.not_true, Bool.not_false, Int.natCast_zero, Int.natCast_one, Int.cast_ofNat_Int, if_true, if_false, Bool.false_eq_true, reduceIte, Int.reduceBEq, Int.reduceAdd, Int.reduceSub, Int.reduceMul, Int.reduceLT, Int.reduceLE, Int.reduceNeg, Int.reduceToNat, Int.reduceDiv, Int.reduceMod, Nat.reduceAdd, Nat.reduceSub, Nat.reduceLeDiff, Nat.reduceBEq, Nat.reduceEqDiff, h]; rfl))) only [EVB, EVC, EVS, List.set_cons_succ, List.set_cons_zero, List.length_nil, List.length_cons, List.nil_append, List.cons_append, true_and, and_self, Option.toList_some, Option.toList_none, List.append_nil, Bool.decide_eq_true, decide_true, decide_false, List.length_map, List.length_range, BEq.rfl, beq_self_eq_true, Int.toNat_natCast, bne_self_eq_false, Bool.not_eq_true, Bool.not_true, Bool.not_false, Int.natCast_zero, Int.natCast_one, Int.cast_ofNat_Int, if_true, if_false, Bool.false_eq_true, reduceIte, Int.reduceBEq, Int.reduceAdd, Int.reduceSub, Int.reduceMul, Int.reduceLT, Int.reduceLE, Int.reduceNeg, Int.reduceToNat, Int.reduceDiv, Int.reduceMod, Nat.reduceAdd, Nat.reduceSub, Nat.reduceLeDiff, Nat.reduceBEq, Nat.reduceEqDiff, h]
  | false => rw [q] at h; try simp (disch := (first | assumption | omega | (refine lkd ?_; decide) | (simp only [LINE, Nat.reduceMul, Nat.reduceLeDiff, Int.reduceToNat, Int.toNat_natCast, List.length_append, List.length_cons, List.length_nil, List.length_map, List.length_range, List.length_take, List.length_drop, List.length_reverse, List.length_replicate, invw_length, List.length_set] <;> omega) | (simp only [wd_app, wd_cons, wd_nil, and_true, true_and]; first | done | (refine ⟨?_, ?_⟩ <;> assumption) | assumption) | (intro ca ch; simp (disch := (first | assumption | omega | (refine lkd ?_; decide) | (simp only [LINE, Nat.reduceMul, Nat.reduceLeDiff, Int.reduceToNat, Int.toNat_natCast, List.length_append, List.length_cons, List.length_nil, List.length_map, List.length_range, List.length_take, List.length_drop, List.length_reverse, List.length_replicate, invw_length, List.length_set] <;> omega) | (simp only [wd_app, wd_cons, wd_nil, and_true, true_and]; first | done | (refine ⟨?_, ?_⟩ <;> assumption) | assumption))) only [EVB, EVC, EVS, List.set_cons_succ, List.set_cons_zero, List.length_nil, List.length_cons, List.nil_append, List.cons_append, true_and, and_self, Option.toList_some, Option.toList_none, List.append_nil, Bool.decide_eq_true, decide_true, decide_false, List.length_map, List.length_range, BEq.rfl, beq_self_eq_true, Int.toNat_natCast, bne_self_eq_false, Bool.not_eq_true, Bool.not_true, Bool.not_false, Int.natCast_zero, Int.natCast_one, Int.cast_ofNat_Int, if_true, if_false, Bool.false_eq_true, reduceIte, Int.reduceBEq, Int.reduceAdd, Int.reduceSub, Int.reduceMul, Int.reduceLT, Int.reduceLE, Int.reduceNeg, Int.reduceToNat, Int.reduceDiv, Int.reduceMod, Nat.reduceAdd, Nat.reduceSub, Nat.reduceLeDiff, Nat.reduceBEq, Nat.reduceEqDiff, h]; rfl))) only [EVB, EVC, EVS, List.set_cons_succ, List.set_cons_zero, List.length_nil, List.length_cons, List.nil_append, List.cons_append, true_and, and_self, Option.toList_some, Option.toList_none, List.append_nil, Bool.decide_eq_true, decide_true, decide_false, List.length_map, List.length_range, BEq.rfl, beq_self_eq_true, Int.toNat_natCast, bne_self_eq_false, Bool.not_eq_true, Bool.not_true, Bool.not_false, Int.natCast_zero, Int.natCast_one, Int.cast_ofNat_Int, if_true, if_false, Bool.false_eq_true, reduceIte, Int.reduceBEq, Int.reduceAdd, Int.reduceSub, Int.reduceMul, Int.reduceLT, Int.reduceLE, Int.reduceNeg, Int.reduceToNat, Int.reduceDiv, Int.reduceMod, Nat.reduceAdd, Nat.reduceSub, Nat.reduceLeDiff, Nat.reduceBEq, Nat.reduceEqDiff, h]
theorem c_need_chain (hp : plainN x = true) (hr : refsLt 0 x = true) (hx : ∀ xs, x = .tup xs → ∀ a, a ∈ xs → okEl a) (hs : ∀ ss : List (List Nat), x = .tup (ss.map W.str) → ss.flatten.length ≤ 16777216) :
    callK 0 m_need_chain [x] S = if chX x = true then .ok .non S else .exc "BadChain" S := by
  have e := e_need_chain (S := []) hp hr hx hs
  cases q : chX x with
  | true => rw [q] at e; exact call0 (by simp [hr]) e rfl
  | false => rw [q] at e; exact call0_exc (by simp [hr]) e
/-! ### drawing -/
theorem dk_call0 {f : MF} {ws : List W} {D : Sto} (h : Dk D) (ha : ws.all (refsLt 2) = true)
    (hf : wp (f ws D) (fun w S' => ∃ D' J, S' = D' ++ J ∧ Dk D' ∧ refsLt 2 w = true ∧ Q w D') fun _ _ => False) : wp (callK 2 f ws D) Q E := by
  have := dk_call (R := []) (Q := Q) (E := E) h ha (by simpa using hf)
  simpa using this
theorem c_word {L M : Nat} (h : Dk D) (hL : 1 ≤ L) (hL4 : L ≤ 4) (hM : M ≤ 1000) (hQ : ∀ (D' : Sto) (s : List Nat), Dk D' → s.length ≤ M → (∀ c ∈ s, c ∈ al L) → Q (.str s) D') : wp (callK 2 m__law_word [.ref 1, .int L, .int M] D) Q E :=
  dk_call0 h (by simp [refsLt]) (w_word h hL hL4 hM fun D' s hD' h1 h2 => ⟨D', [], by simp, hD', rfl, hQ D' s hD' h1 h2⟩)
theorem dk_ob2 (h : Dk D) : (D ++ [o])[2]? = some o := by obtain ⟨cs, a, b, _, rfl⟩ := h; rfl
theorem dk_st2 (h : Dk D) : (D ++ [o]).set 2 o' = D ++ [o'] := by obtain ⟨cs, a, b, _, rfl⟩ := h; rfl
theorem dk_ty2 (h : Dk D) : tyLst (.ref 2) (D ++ [SO.lst xs]) = true := by obtain ⟨cs, a, b, _, rfl⟩ := h; rfl
theorem dk_lst2 (h : Dk D) : lstOf (D ++ [SO.lst xs]) (.ref 2) = some xs := by obtain ⟨cs, a, b, _, rfl⟩ := h; rfl
theorem dk_lsx2 (h : Dk D) : lsxOf (D ++ [SO.lst xs]) (.ref 2) = some xs := by obtain ⟨cs, a, b, _, rfl⟩ := h; rfl
theorem dk_len2 (h : Dk D) : fLen [.ref 2] (D ++ [SO.lst xs]) = .ok (.val (.int xs.length)) (D ++ [SO.lst xs]) := fLen_seq (fun s => by simp) (dk_lst2 h)
theorem onLst_at {S : Sto} {xs ys as : List W} {n : Nat} {w : W} {f : Sto → List W → List W → Option (List W × W)} (h : S[n]? = some (.lst xs)) (e : f S xs as = some (ys, w)) : onLst f (.ref n) as S = .ok (.val w) (S.set n (.lst ys)) := by
  unfold onLst
  simp only
  rw [h]
  simp only
  rw [e]
theorem ins_at {i : Int} (h0 : 0 ≤ i) (hb : i ≤ 16777216) (hl : xs.length < 16777216) : fInsert S xs [.int i, w] = some (xs.take i.toNat ++ [w] ++ xs.drop i.toNat, .non) := by
  show (if 0 ≤ i ∧ i < 2 ^ 63 ∧ xs.length < LINE then some (xs.take i.toNat ++ [w] ++ xs.drop i.toNat, W.non) else none) = _
  rw [if_pos ⟨h0, by omega, hl⟩]
theorem dk_ins2 (h : Dk D) (hr : r ≤ xs.length) (hl : xs.length < 16777216) : onLst fInsert (.ref 2) [.int (r : Nat), w] (D ++ [SO.lst xs]) = .ok (.val .non) (D ++ [SO.lst (xs.take r ++ w :: xs.drop r)]) := by
  have e := ins_at (S := D ++ [SO.lst xs]) (xs := xs) (w := w) (i := (r : Nat)) (by omega) (by omega) hl
  rw [Int.toNat_natCast] at e
  have e2 : xs.take r ++ [w] ++ xs.drop r = xs.take r ++ w :: xs.drop r := by simp
  rw [e2] at e
  rw [onLst_at (dk_ob2 h) e, dk_st2 h]
theorem ins_count {l : List Nat} {a : Nat} : (l.take r ++ c :: l.drop r).count a = l.count a + (if c = a then 1 else 0) := by
  have h := congrArg (List.count a) (List.take_append_drop r l)
  rw [List.count_append] at h
  rw [List.count_append, List.count_cons]
  by_cases q : c = a
  · subst q; simp; omega
  · simp [q]; omega
theorem map_ins {l : List Nat} : (l.map fun c => W.str [c]).take r ++ W.str [c] :: (l.map fun c => W.str [c]).drop r = (l.take r ++ c :: l.drop r).map fun c => W.str [c] := by simp [List.map_take, List.map_drop]
theorem take_snoc {α : Type} {l : List α} {i : Nat} {a : α} (h : l[i]? = some a) : l.take (i + 1) = l.take i ++ [a] := by
  rw [List.take_succ, h]
  rfl
def AB (k : Nat) : Nat := ([97, 98, 99, 100] : List Nat).getD k 0
theorem ab_iv : ∀ k, k < 4 → ([65, 66, 67, 68] : List Nat).getD k 0 = iv (AB k) ∧ AB k ∈ SG ∧ AB k ∈ ([97, 98, 99, 100] : List Nat) := by decide
/-- as many of each letter as of its inverse -/
def Bal (s : List Nat) : Prop := ∀ a ∈ ([97, 98, 99, 100] : List Nat), s.count a = s.count (iv a)
theorem bal_add {l u : List Nat} {c n : Nat} (hc : c ∈ ([97, 98, 99, 100] : List Nat)) (hb : Bal l) (h : ∀ a, u.count a = l.count a + (List.replicate n c ++ List.replicate n (iv c)).count a) : Bal u := by
  intro a ha
  rw [h, h, hb a ha, List.count_append, List.count_append, List.count_replicate, List.count_replicate, List.count_replicate, List.count_replicate]
  simp at hc ha
  rcases hc with rfl | rfl | rfl | rfl <;> rcases ha with rfl | rfl | rfl | rfl <;> simp [iv]
theorem w_mixed {cs : List Nat} (h : Dk D) (hl : cs.length ≤ 4) (hs : ∀ n ∈ cs, n ≤ 100) (hQ : ∀ (D' J : Sto) (s : List Nat), Dk D' → Word s → Bal s → s.length = 2 * cs.sum → Q (.str s) (D' ++ J)) : wp (m__law_mixed [.ref 1, .lst (cs.map fun (n : Nat) => W.int n)] D) Q E := by
  show wp (outF (b__law_mixed [some (.ref 1), some (.lst (cs.map fun (n : Nat) => W.int n)), none, none, none] D)) _ _
  refine wp_outF ?_
  unfold b__law_mixed
  try simp (disch := (first | assumption | omega | (refine lkd ?_; decide) | (simp only [LINE, Nat.reduceMul, Nat.reduceLeDiff, Int.reduceToNat, Int.toNat_natCast, List.length_append, List.length_cons, List.length_nil, List.length_map, List.length_range, List.length_take, List.length_drop, List.length_reverse, List.length_replicate, invw_length, List.length_set] <;> omega) | (simp only [wd_app, wd_cons, wd_nil, and_true, true_and]; first | done | (refine ⟨?_, ?_⟩ <;> assumption) | assumption) | (intro ca ch; simp (disch := (first | assumption | omega | (refine lkd ?_; decide) | (simp only [LINE, Nat.reduceMul, Nat.reduceLeDiff, Int.reduceToNat, Int.toNat_natCast, List.length_append, List.length_cons, List.length_nil, List.length_map, List.length_range, List.length_take, List.length_drop, List.length_reverse, List.length_replicate, invw_length, List.length_set] <;> omega) | (simp only [wd_app, wd_cons, wd_nil, and_true, true_and]; first | done | (refine ⟨?_, ?_⟩ <;> assumption) | assumption))) only [EVB, EVC, EVW, List.set_cons_succ, List.set_cons_zero, List.length_nil, List.length_cons, List.nil_append, List.cons_append, true_and, and_self, Option.toList_some, Option.toList_none, List.append_nil, Bool.decide_eq_true, decide_true, decide_false, List.length_map, List.length_range, BEq.rfl, beq_self_eq_true, Int.toNat_natCast, bne_self_eq_false, Bool.not_eq_true, Bool.not_true, Bool.not_false, Int.natCast_zero, Int.natCast_one, Int.cast_ofNat_Int, if_true, if_false, Bool.false_eq_true, reduceIte, Int.reduceBEq, Int.reduceAdd, Int.reduceSub, Int.reduceMul, Int.reduceLT, Int.reduceLE, Int.reduceNeg, Int.reduceToNat, Int.reduceDiv, Int.reduceMod, Nat.reduceAdd, Nat.reduceSub, Nat.reduceLeDiff, Nat.reduceBEq, Nat.reduceEqDiff]; rfl))) only [EVB, EVC, EVW, List.set_cons_succ, List.set_cons_zero, List.length_nil, List.length_cons, List.nil_append, List.cons_append, true_and, and_self, Option.toList_some, Option.toList_none, List.append_nil, Bool.decide_eq_true, decide_true, decide_false, List.length_map, List.length_range, BEq.rfl, beq_self_eq_true, Int.toNat_natCast, bne_self_eq_false, Bool.not_eq_true, Bool.not_true, Bool.not_false, Int.natCast_zero, Int.natCast_one, Int.cast_ofNat_Int, if_true, if_false, Bool.false_eq_true, reduceIte, Int.reduceBEq, Int.reduceAdd, Int.reduceSub, Int.reduceMul, Int.reduceLT, Int.reduceLE, Int.reduceNeg, Int.reduceToNat, Int.reduceDiv, Int.reduceMod, Nat.reduceAdd, Nat.reduceSub, Nat.reduceLeDiff, Nat.reduceBEq, Nat.reduceEqDiff]
  rw [h.len]
  have hcs : ∀ i, (cs.take i).sum ≤ 400 := fun i => by
    have : ∀ (l : List Nat), (∀ n ∈ l, n ≤ 100) → l.sum ≤ 100 * l.length := fun l => by
      induction l with
      | nil => intro _; simp
      | cons a l ih =>
        intro q
        have q1 := q a List.mem_cons_self
        have q2 := ih fun n hn => q n (List.mem_cons_of_mem _ hn)
        simp only [List.sum_cons, List.length_cons]
        omega
    have q := this (cs.take i) fun n hn => hs n (List.mem_of_mem_take hn)
    rw [List.length_take] at q
    omega
  refine loop_range (fun i env S => ∃ (D' : Sto) (l : List Nat) (o3 o4 : Option W), env = [some (.ref 1), some (.lst (cs.map fun (n : Nat) => W.int n)), some (.ref 2), o3, o4] ∧ S = D' ++ [SO.lst (l.map fun c => W.str [c])] ∧ Dk D' ∧ Word l ∧ Bal l ∧ l.length = 2 * (cs.take i).sum) ⟨D, [], none, none, rfl, rfl, h, .nil, fun _ _ => rfl, rfl⟩ ?_ ?_
  · rintro i env S hi ⟨D1, l, o3, o4, rfl, rfl, hD, hw, hb, hlen⟩
    obtain ⟨p1, p2, p3⟩ := ab_iv i (by omega)
    have hget : cs[i]? = some cs[i] := by simp [hi]
    have hn := hs _ (List.getElem_mem hi)
    have hsum := take_snoc hget
    generalize hcn : cs[i] = n at hget hn hsum
    have e1 : (cs.map fun (n : Nat) => W.int n).getD i .non = .int (n : Nat) := by
      rw [getD_map' (d := 0) hi]
      simp [hi, hcn]
    have l4 : ([97, 98, 99, 100] : List Nat).getD i 0 = AB i := rfl
    have h400 := hcs i
    try simp (disch := (first | assumption | omega | (refine lkd ?_; decide) | (simp only [LINE, Nat.reduceMul, Nat.reduceLeDiff, Int.reduceToNat, Int.toNat_natCast, List.length_append, List.length_cons, List.length_nil, List.length_map, List.length_range, List.length_take, List.length_drop, List.length_reverse, List.length_replicate, invw_length, List.length_set] <;> omega) | (simp only [wd_app, wd_cons, wd_nil, and_true, true_and]; first | done | (refine ⟨?_, ?_⟩ <;> assumption) | assumption) | (intro ca ch; simp (disch := (first | assumption | omega | (refine lkd ?_; decide) | (simp only [LINE, Nat.reduceMul, Nat.reduceLeDiff, Int.reduceToNat, Int.toNat_natCast, List.length_append, List.length_cons, List.length_nil, List.length_map, List.length_range, List.length_take, List.length_drop, List.length_reverse, List.length_replicate, invw_length, List.length_set] <;> omega) | (simp only [wd_app, wd_cons, wd_nil, and_true, true_and]; first | done | (refine ⟨?_, ?_⟩ <;> assumption) | assumption))) only [EVB, EVC, EVW, List.set_cons_succ, List.set_cons_zero, List.length_nil, List.length_cons, List.nil_append, List.cons_append, true_and, and_self, Option.toList_some, Option.toList_none, List.append_nil, Bool.decide_eq_true, decide_true, decide_false, List.length_map, List.length_range, BEq.rfl, beq_self_eq_true, Int.toNat_natCast, bne_self_eq_false, Bool.not_eq_true, Bool.not_true, Bool.not_false, Int.natCast_zero, Int.natCast_one, Int.cast_ofNat_Int, if_true, if_false, Bool.false_eq_true, reduceIte, Int.reduceBEq, Int.reduceAdd, Int.reduceSub, Int.reduceMul, Int.reduceLT, Int.reduceLE, Int.reduceNeg, Int.reduceToNat, Int.reduceDiv, Int.reduceMod, Nat.reduceAdd, Nat.reduceSub, Nat.reduceLeDiff, Nat.reduceBEq, Nat.reduceEqDiff, e1, p1, l4]; rfl))) only [EVB, EVC, EVW, List.set_cons_succ, List.set_cons_zero, List.length_nil, List.length_cons, List.nil_append, List.cons_append, true_and, and_self, Option.toList_some, Option.toList_none, List.append_nil, Bool.decide_eq_true, decide_true, decide_false, List.length_map, List.length_range, BEq.rfl, beq_self_eq_true, Int.toNat_natCast, bne_self_eq_false, Bool.not_eq_true, Bool.not_true, Bool.not_false, Int.natCast_zero, Int.natCast_one, Int.cast_ofNat_Int, if_true, if_false, Bool.false_eq_true, reduceIte, Int.reduceBEq, Int.reduceAdd, Int.reduceSub, Int.reduceMul, Int.reduceLT, Int.reduceLE, Int.reduceNeg, Int.reduceToNat, Int.reduceDiv, Int.reduceMod, Nat.reduceAdd, Nat.reduceSub, Nat.reduceLeDiff, Nat.reduceBEq, Nat.reduceEqDiff, e1, p1, l4]
    generalize AB i = c at p1 p2 p3 ⊢
    generalize ht : List.replicate n c ++ List.replicate n (iv c) = t
    have htl : t.length = 2 * n := by rw [← ht]; simp; omega
    have htw : Word t := by rw [← ht]; exact fun d hd => (List.mem_append.mp hd).elim (fun q => by rw [List.eq_of_mem_replicate q]; exact p2) fun q => by rw [List.eq_of_mem_replicate q]; exact iv_mem p2
    refine loop_map (fun j env S => ∃ (D' : Sto) (u : List Nat) (o4 : Option W), env = [some (.ref 1), some (.lst (cs.map fun (n : Nat) => W.int n)), some (.ref 2), some (.int (i : Nat)), o4] ∧ S = D' ++ [SO.lst (u.map fun c => W.str [c])] ∧ Dk D' ∧ Word u ∧ (∀ a, u.count a = l.count a + (t.take j).count a) ∧ u.length = l.length + j ∧ j ≤ t.length) ⟨D1, l, o4, rfl, rfl, hD, hw, fun a => by simp, rfl, Nat.zero_le _⟩ ?_ ?_
    · rintro j d env S hj ⟨D2, u, o4, rfl, rfl, hD2, hu, hcount, hul, hjl⟩
      have hjt := (List.getElem?_eq_some_iff.mp hj).1
      have hds : d ∈ SG := htw d (List.mem_of_getElem? hj)
      try simp (disch := (first | assumption | omega | (refine lkd ?_; decide) | (simp only [LINE, Nat.reduceMul, Nat.reduceLeDiff, Int.reduceToNat, Int.toNat_natCast, List.length_append, List.length_cons, List.length_nil, List.length_map, List.length_range, List.length_take, List.length_drop, List.length_reverse, List.length_replicate, invw_length, List.length_set] <;> omega) | (simp only [wd_app, wd_cons, wd_nil, and_true, true_and]; first | done | (refine ⟨?_, ?_⟩ <;> assumption) | assumption) | (intro ca ch; simp (disch := (first | assumption | omega | (refine lkd ?_; decide) | (simp only [LINE, Nat.reduceMul, Nat.reduceLeDiff, Int.reduceToNat, Int.toNat_natCast, List.length_append, List.length_cons, List.length_nil, List.length_map, List.length_range, List.length_take, List.length_drop, List.length_reverse, List.length_replicate, invw_length, List.length_set] <;> omega) | (simp only [wd_app, wd_cons, wd_nil, and_true, true_and]; first | done | (refine ⟨?_, ?_⟩ <;> assumption) | assumption))) only [EVB, EVC, EVW, List.set_cons_succ, List.set_cons_zero, List.length_nil, List.length_cons, List.nil_append, List.cons_append, true_and, and_self, Option.toList_some, Option.toList_none, List.append_nil, Bool.decide_eq_true, decide_true, decide_false, List.length_map, List.length_range, BEq.rfl, beq_self_eq_true, Int.toNat_natCast, bne_self_eq_false, Bool.not_eq_true, Bool.not_true, Bool.not_false, Int.natCast_zero, Int.natCast_one, Int.cast_ofNat_Int, if_true, if_false, Bool.false_eq_true, reduceIte, Int.reduceBEq, Int.reduceAdd, Int.reduceSub, Int.reduceMul, Int.reduceLT, Int.reduceLE, Int.reduceNeg, Int.reduceToNat, Int.reduceDiv, Int.reduceMod, Nat.reduceAdd, Nat.reduceSub, Nat.reduceLeDiff, Nat.reduceBEq, Nat.reduceEqDiff, dk_ty2 hD2, dk_len2 hD2]; rfl))) only [EVB, EVC, EVW, List.set_cons_succ, List.set_cons_zero, List.length_nil, List.length_cons, List.nil_append, List.cons_append, true_and, and_self, Option.toList_some, Option.toList_none, List.append_nil, Bool.decide_eq_true, decide_true, decide_false, List.length_map, List.length_range, BEq.rfl, beq_self_eq_true, Int.toNat_natCast, bne_self_eq_false, Bool.not_eq_true, Bool.not_true, Bool.not_false, Int.natCast_zero, Int.natCast_one, Int.cast_ofNat_Int, if_true, if_false, Bool.false_eq_true, reduceIte, Int.reduceBEq, Int.reduceAdd, Int.reduceSub, Int.reduceMul, Int.reduceLT, Int.reduceLE, Int.reduceNeg, Int.reduceToNat, Int.reduceDiv, Int.reduceMod, Nat.reduceAdd, Nat.reduceSub, Nat.reduceLeDiff, Nat.reduceBEq, Nat.reduceEqDiff, dk_ty2 hD2, dk_len2 hD2]
      refine c_pick hD2 (by omega) (by omega) fun D3 r hD3 hr => ?_
      have e2 := dk_ins2 (r := r) (w := .str [d]) (xs := u.map fun c => W.str [c]) hD3 (by rw [List.length_map]; omega) (by rw [List.length_map]; omega)
      rw [map_ins] at e2
      try simp (disch := (first | assumption | omega | (refine lkd ?_; decide) | (simp only [LINE, Nat.reduceMul, Nat.reduceLeDiff, Int.reduceToNat, Int.toNat_natCast, List.length_append, List.length_cons, List.length_nil, List.length_map, List.length_range, List.length_take, List.length_drop, List.length_reverse, List.length_replicate, invw_length, List.length_set] <;> omega) | (simp only [wd_app, wd_cons, wd_nil, and_true, true_and]; first | done | (refine ⟨?_, ?_⟩ <;> assumption) | assumption) | (intro ca ch; simp (disch := (first | assumption | omega | (refine lkd ?_; decide) | (simp only [LINE, Nat.reduceMul, Nat.reduceLeDiff, Int.reduceToNat, Int.toNat_natCast, List.length_append, List.length_cons, List.length_nil, List.length_map, List.length_range, List.length_take, List.length_drop, List.length_reverse, List.length_replicate, invw_length, List.length_set] <;> omega) | (simp only [wd_app, wd_cons, wd_nil, and_true, true_and]; first | done | (refine ⟨?_, ?_⟩ <;> assumption) | assumption))) only [EVB, EVC, EVW, List.set_cons_succ, List.set_cons_zero, List.length_nil, List.length_cons, List.nil_append, List.cons_append, true_and, and_self, Option.toList_some, Option.toList_none, List.append_nil, Bool.decide_eq_true, decide_true, decide_false, List.length_map, List.length_range, BEq.rfl, beq_self_eq_true, Int.toNat_natCast, bne_self_eq_false, Bool.not_eq_true, Bool.not_true, Bool.not_false, Int.natCast_zero, Int.natCast_one, Int.cast_ofNat_Int, if_true, if_false, Bool.false_eq_true, reduceIte, Int.reduceBEq, Int.reduceAdd, Int.reduceSub, Int.reduceMul, Int.reduceLT, Int.reduceLE, Int.reduceNeg, Int.reduceToNat, Int.reduceDiv, Int.reduceMod, Nat.reduceAdd, Nat.reduceSub, Nat.reduceLeDiff, Nat.reduceBEq, Nat.reduceEqDiff, e2]; rfl))) only [EVB, EVC, EVW, List.set_cons_succ, List.set_cons_zero, List.length_nil, List.length_cons, List.nil_append, List.cons_append, true_and, and_self, Option.toList_some, Option.toList_none, List.append_nil, Bool.decide_eq_true, decide_true, decide_false, List.length_map, List.length_range, BEq.rfl, beq_self_eq_true, Int.toNat_natCast, bne_self_eq_false, Bool.not_eq_true, Bool.not_true, Bool.not_false, Int.natCast_zero, Int.natCast_one, Int.cast_ofNat_Int, if_true, if_false, Bool.false_eq_true, reduceIte, Int.reduceBEq, Int.reduceAdd, Int.reduceSub, Int.reduceMul, Int.reduceLT, Int.reduceLE, Int.reduceNeg, Int.reduceToNat, Int.reduceDiv, Int.reduceMod, Nat.reduceAdd, Nat.reduceSub, Nat.reduceLeDiff, Nat.reduceBEq, Nat.reduceEqDiff, e2]
      refine ⟨D3, _, _, rfl, rfl, hD3, (hu.take _).app (.cons hds (hu.drop _)), fun a => ?_, by simp; omega, hjt⟩
      rw [ins_count, hcount, take_snoc hj, List.count_append, List.count_cons, List.count_nil]
      simp only [beq_iff_eq]
      omega
    · rintro env S ⟨D2, u, o4, rfl, rfl, hD2, hu, hcount, hul, hjl⟩
      rw [List.take_length] at hcount
      refine ⟨D2, u, _, _, rfl, rfl, hD2, hu, ?_, ?_⟩
      · rw [← ht] at hcount
        exact bal_add p3 hb hcount
      · rw [hsum, List.sum_append, hul, hlen, htl]
        simp
        omega
  · rintro env S ⟨D1, l, o3, o4, rfl, rfl, hD, hw, hb, hlen⟩
    rw [List.take_length] at hlen
    have := hcs cs.length
    rw [List.take_length] at this
    have e : fJoin (.str []) [.ref 2] (D1 ++ [SO.lst (l.map fun c => W.str [c])]) = .ok (.val (.str l)) (D1 ++ [SO.lst (l.map fun c => W.str [c])]) := fJoin_signs (l := l) (by show lstOf _ (.ref 2) = _; exact dk_lst2 hD) (by show l.length ≤ 16777216; omega)
    try simp (disch := (first | assumption | omega | (refine lkd ?_; decide) | (simp only [LINE, Nat.reduceMul, Nat.reduceLeDiff, Int.reduceToNat, Int.toNat_natCast, List.length_append, List.length_cons, List.length_nil, List.length_map, List.length_range, List.length_take, List.length_drop, List.length_reverse, List.length_replicate, invw_length, List.length_set] <;> omega) | (simp only [wd_app, wd_cons, wd_nil, and_true, true_and]; first | done | (refine ⟨?_, ?_⟩ <;> assumption) | assumption) | (intro ca ch; simp (disch := (first | assumption | omega | (refine lkd ?_; decide) | (simp only [LINE, Nat.reduceMul, Nat.reduceLeDiff, Int.reduceToNat, Int.toNat_natCast, List.length_append, List.length_cons, List.length_nil, List.length_map, List.length_range, List.length_take, List.length_drop, List.length_reverse, List.length_replicate, invw_length, List.length_set] <;> omega) | (simp only [wd_app, wd_cons, wd_nil, and_true, true_and]; first | done | (refine ⟨?_, ?_⟩ <;> assumption) | assumption))) only [EVB, EVC, EVW, List.set_cons_succ, List.set_cons_zero, List.length_nil, List.length_cons, List.nil_append, List.cons_append, true_and, and_self, Option.toList_some, Option.toList_none, List.append_nil, Bool.decide_eq_true, decide_true, decide_false, List.length_map, List.length_range, BEq.rfl, beq_self_eq_true, Int.toNat_natCast, bne_self_eq_false, Bool.not_eq_true, Bool.not_true, Bool.not_false, Int.natCast_zero, Int.natCast_one, Int.cast_ofNat_Int, if_true, if_false, Bool.false_eq_true, reduceIte, Int.reduceBEq, Int.reduceAdd, Int.reduceSub, Int.reduceMul, Int.reduceLT, Int.reduceLE, Int.reduceNeg, Int.reduceToNat, Int.reduceDiv, Int.reduceMod, Nat.reduceAdd, Nat.reduceSub, Nat.reduceLeDiff, Nat.reduceBEq, Nat.reduceEqDiff, e]; rfl))) only [EVB, EVC, EVW, List.set_cons_succ, List.set_cons_zero, List.length_nil, List.length_cons, List.nil_append, List.cons_append, true_and, and_self, Option.toList_some, Option.toList_none, List.append_nil, Bool.decide_eq_true, decide_true, decide_false, List.length_map, List.length_range, BEq.rfl, beq_self_eq_true, Int.toNat_natCast, bne_self_eq_false, Bool.not_eq_true, Bool.not_true, Bool.not_false, Int.natCast_zero, Int.natCast_one, Int.cast_ofNat_Int, if_true, if_false, Bool.false_eq_true, reduceIte, Int.reduceBEq, Int.reduceAdd, Int.reduceSub, Int.reduceMul, Int.reduceLT, Int.reduceLE, Int.reduceNeg, Int.reduceToNat, Int.reduceDiv, Int.reduceMod, Nat.reduceAdd, Nat.reduceSub, Nat.reduceLeDiff, Nat.reduceBEq, Nat.reduceEqDiff, e]
    exact hQ D1 _ l hD hw hb hlen
theorem c_mixed {cs : List Nat} (h : Dk D) (hl : cs.length ≤ 4) (hs : ∀ n ∈ cs, n ≤ 100) (hQ : ∀ (D' : Sto) (s : List Nat), Dk D' → Word s → Bal s → s.length = 2 * cs.sum → Q (.str s) D') : wp (callK 2 m__law_mixed [.ref 1, .lst (cs.map fun (n : Nat) => W.int n)] D) Q E := by
  have hr : ∀ l : List Nat, refsLts 2 (l.map fun (n : Nat) => W.int n) = true := fun l => by
    induction l with
    | nil => rfl
    | cons a l ih => show (refsLt 2 (.int a) && refsLts 2 _) = true; rw [ih]; rfl
  refine dk_call0 h (by simp [refsLt, hr]) ?_
  exact w_mixed h hl hs fun D' J s h1 h2 h3 h4 => ⟨D', J, rfl, h1, rfl, hQ D' s h1 h2 h3 h4⟩
end
end L2.Mi.Lw

set_option Elab.async false
set_option linter.all false
set_option maxRecDepth 100000
set_option maxHeartbeats 4000000
/-! # Plain: the tables of four numbers, and that they tell words apart -/
namespace L2.Mi.Fr
open L2.Mi.Wd
structure Mt where
  a : Int
  b : Int
  c : Int
  d : Int
deriving DecidableEq
theorem Mt.ext' {m n : Mt} (h1 : m.a = n.a) (h2 : m.b = n.b) (h3 : m.c = n.c) (h4 : m.d = n.d) : m = n := by
  cases m; cases n; simp_all
def mul (m n : Mt) : Mt := ⟨m.a * n.a + m.b * n.c, m.a * n.b + m.b * n.d, m.c * n.a + m.d * n.c, m.c * n.b + m.d * n.d⟩
def one : Mt := ⟨1, 0, 0, 1⟩
theorem mul_assoc (m n k : Mt) : mul (mul m n) k = mul m (mul n k) := by
  apply Mt.ext' <;> simp only [mul] <;> grind
theorem one_mul (m : Mt) : mul one m = m := by apply Mt.ext' <;> simp [mul, one]
theorem mul_one (m : Mt) : mul m one = m := by apply Mt.ext' <;> simp [mul, one]
/-- the shift of a sign, twice over; its direction -/
def sh (c : Nat) : Int := if c < 97 then 2 * ((c : Int) - 65) else 2 * ((c : Int) - 97)
def di (c : Nat) : Int := if c < 97 then -2 else 2
def LM (c : Nat) : Mt := mul (mul ⟨1, sh c, 0, 1⟩ ⟨1, 0, di c, 1⟩) ⟨1, -sh c, 0, 1⟩
theorem sg_sh : ∀ c ∈ SG, sh (iv c) = sh c ∧ di (iv c) = - di c := by decide
theorem LM_iv {c : Nat} (h : c ∈ SG) : mul (LM c) (LM (iv c)) = one := by
  obtain ⟨h1, h2⟩ := sg_sh c h
  unfold LM
  rw [h1, h2]
  apply Mt.ext' <;> simp only [mul, one] <;> grind
def M (s : List Nat) : Mt := s.foldl (fun m c => mul m (LM c)) one
theorem fold_mul (s : List Nat) : ∀ m, s.foldl (fun m c => mul m (LM c)) m = mul m (M s) := by
  induction s with
  | nil => intro m; exact (mul_one m).symm
  | cons c s ih =>
    intro m
    show s.foldl _ (mul m (LM c)) = mul m (s.foldl _ (mul one (LM c)))
    rw [ih, ih (mul one (LM c)), one_mul, mul_assoc]
theorem M_nil : M [] = one := rfl
theorem M_cons (c : Nat) (s : List Nat) : M (c :: s) = mul (LM c) (M s) := by
  show s.foldl _ (mul one (LM c)) = _
  rw [fold_mul, one_mul]
theorem M_app (s t : List Nat) : M (s ++ t) = mul (M s) (M t) := by
  unfold M
  rw [List.foldl_append, fold_mul t]
  rfl
theorem M_snoc (s : List Nat) (c : Nat) : M (s ++ [c]) = mul (M s) (LM c) := by rw [M_app, M_cons, M_nil, mul_one]
theorem M_run : ∀ {s st : List Nat}, Word s → Word st → M (run s st).reverse = mul (M st.reverse) (M s)
  | [], st, _, _ => (mul_one _).symm
  | c :: s, st, hs, hst => by
    show M (run s (stp st c)).reverse = _
    rw [M_run hs.tail (stp_word hst hs.head), M_cons, ← mul_assoc]
    congr 1
    cases st with
    | nil => show M [c] = mul (M []) (LM c); rw [M_nil, one_mul, M_cons, M_nil, mul_one]
    | cons x st =>
      show M (if x = iv c then st else c :: x :: st).reverse = _
      by_cases e : x = iv c
      · rw [if_pos e, List.reverse_cons, M_snoc, mul_assoc]
        have hc := hs.head
        have : mul (LM x) (LM c) = one := by
          have h2 := LM_iv (iv_mem hc)
          rw [iv_iv hc] at h2
          rw [e]; exact h2
        rw [this, mul_one]
      · rw [if_neg e, List.reverse_cons, M_snoc]
theorem M_red {s : List Nat} (h : Word s) : M (red s) = M s := by
  unfold red
  rw [M_run h .nil]
  exact one_mul _
theorem M_inv {s : List Nat} (h : Word s) : mul (M s) (M (invw s)) = one := by
  rw [← M_app, ← M_red (h.app h.inv), red_mul_inv h, M_nil]
theorem M_inv' {s : List Nat} (h : Word s) : mul (M (invw s)) (M s) = one := by
  rw [← M_app, ← M_red (h.inv.app h), red_inv_mul h, M_nil]
/-! ### a reduced word moves (1, 0) -/
def ap (m : Mt) (v : Int × Int) : Int × Int := (m.a * v.1 + m.b * v.2, m.c * v.1 + m.d * v.2)
theorem ap_mul (m n : Mt) (v : Int × Int) : ap (mul m n) v = ap m (ap n v) := by
  simp only [ap, mul, Prod.mk.injEq]
  constructor <;> grind
/-- where a sign leads to -/
def At (c : Nat) (v : Int × Int) : Prop := (v.1 - sh c * v.2).natAbs < v.2.natAbs ∧ 0 < di c * (v.1 - sh c * v.2) * v.2
theorem ap_LM (c : Nat) (v : Int × Int) : ap (LM c) v = ((v.1 - sh c * v.2) + sh c * (v.2 + di c * (v.1 - sh c * v.2)), v.2 + di c * (v.1 - sh c * v.2)) := by
  simp only [ap, LM, mul, Prod.mk.injEq]
  constructor <;> grind
theorem di_is (c : Nat) : di c = 2 ∨ di c = -2 := by unfold di; split <;> simp
theorem at_out {c : Nat} {v : Int × Int} (h : v.2.natAbs < (v.1 - sh c * v.2).natAbs) : At c (ap (LM c) v) := by
  rw [ap_LM]
  unfold At
  have e : (v.1 - sh c * v.2) + sh c * (v.2 + di c * (v.1 - sh c * v.2)) - sh c * (v.2 + di c * (v.1 - sh c * v.2)) = v.1 - sh c * v.2 := by omega
  simp only [e]
  generalize v.1 - sh c * v.2 = x at h ⊢
  generalize v.2 = y at h ⊢
  rcases di_is c with q | q <;> rw [q]
  · refine ⟨by omega, ?_⟩
    by_cases hx : 0 < x
    · have : 0 < y + 2 * x := by omega
      exact Int.mul_pos (by omega) this
    · have h1 : y + 2 * x < 0 := by omega
      exact Int.mul_pos_of_neg_of_neg (by omega) h1
  · refine ⟨by omega, ?_⟩
    by_cases hx : 0 < x
    · have h1 : y + -2 * x < 0 := by omega
      exact Int.mul_pos_of_neg_of_neg (by omega) h1
    · have h1 : 0 < y + -2 * x := by omega
      exact Int.mul_pos (by omega) h1
theorem at_same {c : Nat} {v : Int × Int} (h : At c v) : At c (ap (LM c) v) := by
  rw [ap_LM]
  unfold At at h ⊢
  have e : (v.1 - sh c * v.2) + sh c * (v.2 + di c * (v.1 - sh c * v.2)) - sh c * (v.2 + di c * (v.1 - sh c * v.2)) = v.1 - sh c * v.2 := by omega
  simp only [e]
  generalize v.1 - sh c * v.2 = x at h ⊢
  generalize v.2 = y at h ⊢
  obtain ⟨h1, h2⟩ := h
  rcases di_is c with q | q <;> rw [q] at h2 ⊢
  · by_cases hx : 0 < x
    · have hy : 0 < y := by
        by_cases hy : 0 < y
        · exact hy
        · have : 2 * x * y ≤ 0 := Int.mul_nonpos_of_nonneg_of_nonpos (by omega) (by omega)
          omega
      exact ⟨by omega, Int.mul_pos (by omega) (by omega)⟩
    · have hy : y < 0 := by
        by_cases hy : y < 0
        · exact hy
        · have : 2 * x * y ≤ 0 := Int.mul_nonpos_of_nonpos_of_nonneg (by omega) (by omega)
          omega
      have hx0 : x ≠ 0 := fun z => by subst z; simp at h2
      exact ⟨by omega, Int.mul_pos_of_neg_of_neg (by omega) (by omega)⟩
  · by_cases hx : 0 < x
    · have hy : y < 0 := by
        by_cases hy : y < 0
        · exact hy
        · have : -2 * x * y ≤ 0 := Int.mul_nonpos_of_nonpos_of_nonneg (by omega) (by omega)
          omega
      exact ⟨by omega, Int.mul_pos_of_neg_of_neg (by omega) (by omega)⟩
    · have hy : 0 < y := by
        by_cases hy : 0 < y
        · exact hy
        · have : -2 * x * y ≤ 0 := Int.mul_nonpos_of_nonneg_of_nonpos (by omega) (by omega)
          omega
      have hx0 : x ≠ 0 := fun z => by subst z; simp at h2
      exact ⟨by omega, Int.mul_pos (by omega) (by omega)⟩
theorem sh_far : ∀ c ∈ SG, ∀ d ∈ SG, sh c = sh d ∧ (c = d ∨ c = iv d) ∨ (sh c - sh d).natAbs ≥ 2 := by decide
theorem at_other {c d : Nat} (hc : c ∈ SG) (hd : d ∈ SG) (hn : c ≠ iv d) {v : Int × Int} (h : At d v) : At c (ap (LM c) v) := by
  rcases sh_far c hc d hd with ⟨h1, h2⟩ | h2
  · rcases h2 with h2 | h2
    · subst h2; exact at_same h
    · exact absurd h2 hn
  · apply at_out
    have h1 := h.1
    have e : v.1 - sh c * v.2 = (v.1 - sh d * v.2) - (sh c - sh d) * v.2 := by grind
    rw [e]
    generalize v.1 - sh d * v.2 = x at h1 ⊢
    generalize v.2 = y at h1 ⊢
    have h3 : ((sh c - sh d) * y).natAbs ≥ 2 * y.natAbs := by
      rw [Int.natAbs_mul]
      exact Nat.mul_le_mul_right _ h2
    generalize (sh c - sh d) * y = z at h3 ⊢
    omega
theorem moved : ∀ {s : List Nat} {c : Nat}, Word (c :: s) → NP (c :: s) → At c (ap (M (c :: s)) (1, 0))
  | [], c, hw, hn => by
    rw [M_cons, M_nil, mul_one]
    apply at_out
    simp
  | d :: s, c, hw, hn => by
    rw [M_cons, ap_mul]
    have ih := moved hw.tail hn.tail
    refine at_other hw.head hw.tail.head ?_ ih
    intro z
    exact hn.fst (by rw [z, iv_iv hw.tail.head])
theorem free {s : List Nat} (hw : Word s) (h : M s = one) : red s = [] := by
  have h1 : M (red s) = one := by rw [M_red hw, h]
  have hr := red_word hw
  have hn := red_np hw
  cases q : red s with
  | nil => rfl
  | cons c t =>
    rw [q] at h1 hr hn
    have := moved hr hn
    rw [h1] at this
    have h2 := this.1
    simp [ap, one] at h2
theorem M_nil_iff {s : List Nat} (hw : Word s) : red s = [] ↔ M s = one := ⟨fun h => by rw [← M_red hw, h, M_nil], free hw⟩
/-- two words commute just if their tables do -/
theorem comm_iff {s t : List Nat} (hs : Word s) (ht : Word t) : red (s ++ t ++ invw s ++ invw t) = [] ↔ M (s ++ t) = M (t ++ s) := by
  rw [M_nil_iff (((hs.app ht).app hs.inv).app ht.inv)]
  rw [M_app, M_app (s ++ t)]
  constructor
  · intro h
    have h2 := congrArg (fun m => mul (mul m (M t)) (M s)) h
    simp only [one_mul] at h2
    rw [mul_assoc (mul (M (s ++ t)) (M (invw s))), M_inv' ht, mul_one, mul_assoc (M (s ++ t)), M_inv' hs, mul_one] at h2
    rw [h2, M_app]
  · intro h
    rw [h, M_app, mul_assoc (M t), M_inv hs, mul_one, M_inv ht]
end L2.Mi.Fr

set_option Elab.async false
set_option linter.all false
set_option maxRecDepth 100000
set_option maxHeartbeats 4000000
/-! # Mirrors that many laws share: reduced words, tables, products -/
namespace L2.Mi.Lx
open PySem PySem.Spec PyProof.Rows L2 L2.Mi L2.Mi.Wd L2.Mi.Lb L2.Mi.Lw
open L2.Mi.Lc (b_sums_in m_sums_in)
def b__law_times : Env → Sto → OutS :=
  sSeq (sAsg (mVar 0) (tTupT (tsCons (tName 2) (tsCons (tName 3) (tsCons (tName 4) (tsCons (tName 5) (tsNil))))) 4))
    (sSeq (sAsg (mVar 1) (tTupT (tsCons (tName 6) (tsCons (tName 7) (tsCons (tName 8) (tsCons (tName 9) (tsNil))))) 4))
    (sRet (mTup (mCons (mVal (m2 fAdd (mVal (m2 fMul (mVar 2) (mVar 6))) (mVal (m2 fMul (mVar 3) (mVar 8))))) (mCons (mVal (m2 fAdd (mVal (m2 fMul (mVar 2) (mVar 7))) (mVal (m2 fMul (mVar 3) (mVar 9))))) (mCons (mVal (m2 fAdd (mVal (m2 fMul (mVar 4) (mVar 6))) (mVal (m2 fMul (mVar 5) (mVar 8))))) (mCons (mVal (m2 fAdd (mVal (m2 fMul (mVar 4) (mVar 7))) (mVal (m2 fMul (mVar 5) (mVar 9))))) (mNil))))))))
def m__law_times : MF := mfun 2 10 b__law_times
def b__law_table : Env → Sto → OutS :=
  sSeq (sSet 1 (mTup (mCons (mC (.int 1)) (mCons (mC (.int 0)) (mCons (mC (.int 0)) (mCons (mC (.int 1)) (mNil)))))))
    (sSeq (sFor (iSeqM (mVar 0)) (tName 2) (sSeq (sSet 3 (mVal (mM tyStr fSIndex (mC (.str [97, 98, 99, 100, 65, 66, 67, 68])) (mCons (mVar 2) (mNil)))))
    (sSeq (sSet 4 (mIf (mTestF (m2 fLt (mVar 3) (mC (.int 4)))) (mVal (m2 fMul (mC (.int 2)) (mVar 3))) (mVal (m2 fSub (mVal (m2 fMul (mC (.int 2)) (mVar 3))) (mC (.int 8))))))
    (sSet 1 (mCall 0 m__law_times (mCons (mCall 0 m__law_times (mCons (mCall 0 m__law_times (mCons (mVar 1) (mCons (mTup (mCons (mC (.int 1)) (mCons (mVar 4) (mCons (mC (.int 0)) (mCons (mC (.int 1)) (mNil)))))) (mNil)))) (mCons (mTup (mCons (mC (.int 1)) (mCons (mC (.int 0)) (mCons (mIf (mTestF (m2 fLt (mVar 3) (mC (.int 4)))) (mC (.int 2)) (mVal (m1 fNeg (mC (.int 2))))) (mCons (mC (.int 1)) (mNil)))))) (mNil)))) (mCons (mTup (mCons (mC (.int 1)) (mCons (mVal (m1 fNeg (mVar 4))) (mCons (mC (.int 0)) (mCons (mC (.int 1)) (mNil)))))) (mNil))))))))
    (sRet (mVar 1)))
def m__law_table : MF := mfun 1 5 b__law_table
def b__law_plain : Env → Sto → OutS :=
  sSeq (sSet 1 (mNew (mLst (mNil))))
    (sSeq (sFor (iSeqM (mVar 0)) (tName 2) (sIf (mAnd (mTestF (m2 fNe (mVar 1) (mVal (mLst (mNil))))) (mTestF (m2 fEq (mVal (m2 fIx (mVar 1) (mVal (m1 fNeg (mC (.int 1)))))) (mCall 0 m__law_undone (mCons (mVar 2) (mNil)))))) (sExpr (mVal (mM0 tyLst (onLst fPop) (mVar 1)))) (sExpr (mVal (mM tyLst (onLst fAppend) (mVar 1) (mCons (mVar 2) (mNil)))))))
    (sRet (mVal (mM tyStr fJoin (mC (.str [])) (mCons (mVar 1) (mNil))))))
def m__law_plain : MF := mfun 1 3 b__law_plain
def b_commutator_in : Env → Sto → OutS :=
  sRet (mVal (m2 fAdd (mVal (m2 fAdd (mVal (m2 fAdd (mVar 0) (mVar 1))) (mCall 0 m_inverse_in (mCons (mVar 0) (mNil))))) (mCall 0 m_inverse_in (mCons (mVar 1) (mNil)))))
def m_commutator_in : MF := mfun 2 2 b_commutator_in
def b_commutator : Env → Sto → OutS :=
  sSeq (sExpr (mCall 0 m_need_two (mCons (mVar 0) (mCons (mVar 1) (mNil)))))
    (sRet (mCall 0 m_reduced_in (mCons (mCall 0 m_commutator_in (mCons (mVar 0) (mCons (mVar 1) (mNil)))) (mNil))))
def m_commutator : MF := mfun 2 2 b_commutator
def b_conjugate : Env → Sto → OutS :=
  sSeq (sExpr (mCall 0 m_need_two (mCons (mVar 0) (mCons (mVar 1) (mNil)))))
    (sRet (mCall 0 m_reduced_in (mCons (mVal (m2 fAdd (mVal (m2 fAdd (mVar 1) (mVar 0))) (mCall 0 m_inverse_in (mCons (mVar 1) (mNil))))) (mNil))))
def m_conjugate : MF := mfun 2 2 b_conjugate
def b_product : Env → Sto → OutS :=
  sSeq (sExpr (mCall 0 m_need_two (mCons (mVar 0) (mCons (mVar 1) (mNil)))))
    (sRet (mCall 0 m_reduced_in (mCons (mVal (m2 fAdd (mVar 0) (mVar 1))) (mNil))))
def m_product : MF := mfun 2 2 b_product
def b_sums : Env → Sto → OutS :=
  sSeq (sExpr (mCall 0 m_need_word (mCons (mVar 0) (mNil))))
    (sRet (mCall 0 m_sums_in (mCons (mVar 0) (mNil))))
def m_sums : MF := mfun 1 1 b_sums

section
variable {S D D' R : Sto} {s t u v st : List Nat} {c n m r : Nat} {w x y z : W} {xs ys : List W} {o o' : SO} {i j k : Int} {E : Str → Sto → Prop} {Q : W → Sto → Prop} {ss : List (List Nat)}
/-! ### the stack of signs -/
theorem skp_ne (hw : Word st) : fNe (.ref 0) (.lst []) [skp st] = .ok (.val (.bl (!(st.reverse.map fun c => W.str [c]).isEmpty))) [skp st] := fNe_nil (show snap [skp st] (.ref 0) = .lst (st.reverse.map fun c => W.str [c]) from rfl) (okDs_signs (Word.ok hw.rev))
theorem skp_app (hl : st.length < 16777216) : onLst fAppend (.ref 0) [.str [c]] [skp st] = .ok (.val .non) [skp (c :: st)] := by
  show (match (if (st.reverse.map fun c => W.str [c]).length < LINE then some ((st.reverse.map fun c => W.str [c]) ++ [W.str [c]], W.non) else none) with
    | some (ys, w) => Out.ok (FW.val w) [SO.lst ys]
    | none => .fail) = _
  rw [if_pos (by rw [List.length_map, List.length_reverse]; exact hl)]
  unfold skp
  simp
theorem skp_ty : tyLst (.ref 0) [skp st] = true := rfl
theorem skp_ix {x : Nat} : fIx (.ref 0) (.int (-1)) [skp (x :: st)] = .ok (.val (.str [x])) [skp (x :: st)] := by
  refine fIx_seq (fun s => by simp) (ws := ((x :: st).reverse.map fun c => W.str [c])) rfl ?_
  rw [List.reverse_cons, List.map_append]
  exact atI_last
theorem skp_pop {x : Nat} : onLst fPop (.ref 0) [] [skp (x :: st)] = .ok (.val (.str [x])) [skp st] := by
  show (match (match ((x :: st).reverse.map fun c => W.str [c])[((x :: st).reverse.map fun c => W.str [c]).length - 1]? with
      | some y => some (((x :: st).reverse.map fun c => W.str [c]).dropLast, y)
      | none => none) with
    | some (ys, w) => Out.ok (FW.val w) [SO.lst ys]
    | none => .fail) = _
  unfold skp
  simp
theorem run_len' (s : List Nat) : (run s []).length ≤ s.length := by
  have := run_len s []
  simpa using this
theorem w_plain (h : Word s) (hl : s.length ≤ 16777216) : wp (m__law_plain [.str s] []) (fun w _ => w = .str (red s)) E := by
  show wp (outF (b__law_plain [some (.str s), none, none] [])) _ _
  refine wp_outF ?_
  unfold b__law_plain
  try simp (config := {maxSteps := 2000000}) (disch := (first | assumption | omega | (refine lkd ?_; decide) | (simp only [LINE, Nat.reduceMul, Nat.reduceLeDiff, Int.reduceToNat, Int.toNat_natCast, List.length_append, List.length_cons, List.length_nil, List.length_map, List.length_range, List.length_take, List.length_drop, List.length_reverse, List.length_replicate, invw_length, List.length_set] <;> omega) | (simp only [wd_app, wd_cons, wd_nil, and_true, true_and]; first | done | (refine ⟨?_, ?_⟩ <;> assumption) | assumption) | (intro ca ch; simp (config := {maxSteps := 2000000}) (disch := (first | assumption | omega | (refine lkd ?_; decide) | (simp only [LINE, Nat.reduceMul, Nat.reduceLeDiff, Int.reduceToNat, Int.toNat_natCast, List.length_append, List.length_cons, List.length_nil, List.length_map, List.length_range, List.length_take, List.length_drop, List.length_reverse, List.length_replicate, invw_length, List.length_set] <;> omega) | (simp only [wd_app, wd_cons, wd_nil, and_true, true_and]; first | done | (refine ⟨?_, ?_⟩ <;> assumption) | assumption))) only [EVB, EVC, EVW, List.set_cons_succ, List.set_cons_zero, List.length_nil, List.length_cons, List.nil_append, List.cons_append, true_and, and_self, Option.toList_some, Option.toList_none, List.append_nil, Bool.decide_eq_true, decide_true, decide_false, List.length_map, List.length_range, BEq.rfl, beq_self_eq_true, Int.toNat_natCast, bne_self_eq_false, Bool.not_eq_true, Bool.not_true, Bool.not_false, Int.natCast_zero, Int.natCast_one, Int.cast_ofNat_Int, if_true, if_false, Bool.false_eq_true, reduceIte, Int.reduceBEq, Int.reduceAdd, Int.reduceSub, Int.reduceMul, Int.reduceLT, Int.reduceLE, Int.reduceNeg, Int.reduceToNat, Int.reduceDiv, Int.reduceMod, Nat.reduceAdd, Nat.reduceSub, Nat.reduceLeDiff, Nat.reduceBEq, Nat.reduceEqDiff]; rfl))) only [EVB, EVC, EVW, List.set_cons_succ, List.set_cons_zero, List.length_nil, List.length_cons, List.nil_append, List.cons_append, true_and, and_self, Option.toList_some, Option.toList_none, List.append_nil, Bool.decide_eq_true, decide_true, decide_false, List.length_map, List.length_range, BEq.rfl, beq_self_eq_true, Int.toNat_natCast, bne_self_eq_false, Bool.not_eq_true, Bool.not_true, Bool.not_false, Int.natCast_zero, Int.natCast_one, Int.cast_ofNat_Int, if_true, if_false, Bool.false_eq_true, reduceIte, Int.reduceBEq, Int.reduceAdd, Int.reduceSub, Int.reduceMul, Int.reduceLT, Int.reduceLE, Int.reduceNeg, Int.reduceToNat, Int.reduceDiv, Int.reduceMod, Nat.reduceAdd, Nat.reduceSub, Nat.reduceLeDiff, Nat.reduceBEq, Nat.reduceEqDiff]
  have e0 : ([] : Sto) ++ [SO.lst []] = [skp []] := rfl
  refine loop_map (fun i env S => ∃ o, env = [some (.str s), some (.ref 0), o] ∧ S = [skp (run (s.take i) [])]) ⟨none, rfl, rfl⟩ ?_ ?_
  · rintro i c env S hi ⟨o, rfl, rfl⟩
    have hlt := (List.getElem?_eq_some_iff.mp hi).1
    have hcs : c ∈ SG := h c (List.mem_of_getElem? hi)
    have hr : run (s.take (i + 1)) [] = stp (run (s.take i) []) c := by rw [take_snoc hi, run_app]; rfl
    have hw : Word (run (s.take i) []) := run_word (h.take i) .nil
    have hlen : (run (s.take i) []).length < 16777216 := by
      have := run_len' (s.take i)
      rw [List.length_take] at this
      omega
    rw [hr]
    generalize run (s.take i) [] = st at hw hlen
    have hu : ∀ S, callK 0 m__law_undone [.str [c]] S = .ok (.str [iv c]) S := fun S => c_undone (Word.cons hcs .nil) (by show 1 ≤ 16777216; omega)
    cases st with
    | nil =>
      have e1 : (([] : List Nat).reverse.map fun c => W.str [c]).isEmpty = true := rfl
      try simp (config := {maxSteps := 2000000}) (disch := (first | assumption | omega | (refine lkd ?_; decide) | (simp only [LINE, Nat.reduceMul, Nat.reduceLeDiff, Int.reduceToNat, Int.toNat_natCast, List.length_append, List.length_cons, List.length_nil, List.length_map, List.length_range, List.length_take, List.length_drop, List.length_reverse, List.length_replicate, invw_length, List.length_set] <;> omega) | (simp only [wd_app, wd_cons, wd_nil, and_true, true_and]; first | done | (refine ⟨?_, ?_⟩ <;> assumption) | assumption) | (intro ca ch; simp (config := {maxSteps := 2000000}) (disch := (first | assumption | omega | (refine lkd ?_; decide) | (simp only [LINE, Nat.reduceMul, Nat.reduceLeDiff, Int.reduceToNat, Int.toNat_natCast, List.length_append, List.length_cons, List.length_nil, List.length_map, List.length_range, List.length_take, List.length_drop, List.length_reverse, List.length_replicate, invw_length, List.length_set] <;> omega) | (simp only [wd_app, wd_cons, wd_nil, and_true, true_and]; first | done | (refine ⟨?_, ?_⟩ <;> assumption) | assumption))) only [EVB, EVC, EVW, List.set_cons_succ, List.set_cons_zero, List.length_nil, List.length_cons, List.nil_append, List.cons_append, true_and, and_self, Option.toList_some, Option.toList_none, List.append_nil, Bool.decide_eq_true, decide_true, decide_false, List.length_map, List.length_range, BEq.rfl, beq_self_eq_true, Int.toNat_natCast, bne_self_eq_false, Bool.not_eq_true, Bool.not_true, Bool.not_false, Int.natCast_zero, Int.natCast_one, Int.cast_ofNat_Int, if_true, if_false, Bool.false_eq_true, reduceIte, Int.reduceBEq, Int.reduceAdd, Int.reduceSub, Int.reduceMul, Int.reduceLT, Int.reduceLE, Int.reduceNeg, Int.reduceToNat, Int.reduceDiv, Int.reduceMod, Nat.reduceAdd, Nat.reduceSub, Nat.reduceLeDiff, Nat.reduceBEq, Nat.reduceEqDiff, skp_ne hw, skp_app hlen, skp_ty, hu, e1]; rfl))) only [EVB, EVC, EVW, List.set_cons_succ, List.set_cons_zero, List.length_nil, List.length_cons, List.nil_append, List.cons_append, true_and, and_self, Option.toList_some, Option.toList_none, List.append_nil, Bool.decide_eq_true, decide_true, decide_false, List.length_map, List.length_range, BEq.rfl, beq_self_eq_true, Int.toNat_natCast, bne_self_eq_false, Bool.not_eq_true, Bool.not_true, Bool.not_false, Int.natCast_zero, Int.natCast_one, Int.cast_ofNat_Int, if_true, if_false, Bool.false_eq_true, reduceIte, Int.reduceBEq, Int.reduceAdd, Int.reduceSub, Int.reduceMul, Int.reduceLT, Int.reduceLE, Int.reduceNeg, Int.reduceToNat, Int.reduceDiv, Int.reduceMod, Nat.reduceAdd, Nat.reduceSub, Nat.reduceLeDiff, Nat.reduceBEq, Nat.reduceEqDiff, skp_ne hw, skp_app hlen, skp_ty, hu, e1]
      exact ⟨_, rfl, rfl⟩
    | cons x r =>
      have hx : x ∈ SG := hw.head
      have heq : ∀ S, fEq (.str [x]) (.str [iv c]) S = .ok (.val (.bl ([x] == [iv c]))) S := fun S => fEq_str (Word.ok (Word.cons hx .nil)) (Word.ok (Word.cons (iv_mem hcs) .nil))
      have e1 : ((x :: r).reverse.map fun c => W.str [c]).isEmpty = false := by simp
      have hst : stp (x :: r) c = if x = iv c then r else c :: x :: r := rfl
      rw [hst]
      by_cases e : x = iv c
      · subst e
        try simp (config := {maxSteps := 2000000}) (disch := (first | assumption | omega | (refine lkd ?_; decide) | (simp only [LINE, Nat.reduceMul, Nat.reduceLeDiff, Int.reduceToNat, Int.toNat_natCast, List.length_append, List.length_cons, List.length_nil, List.length_map, List.length_range, List.length_take, List.length_drop, List.length_reverse, List.length_replicate, invw_length, List.length_set] <;> omega) | (simp only [wd_app, wd_cons, wd_nil, and_true, true_and]; first | done | (refine ⟨?_, ?_⟩ <;> assumption) | assumption) | (intro ca ch; simp (config := {maxSteps := 2000000}) (disch := (first | assumption | omega | (refine lkd ?_; decide) | (simp only [LINE, Nat.reduceMul, Nat.reduceLeDiff, Int.reduceToNat, Int.toNat_natCast, List.length_append, List.length_cons, List.length_nil, List.length_map, List.length_range, List.length_take, List.length_drop, List.length_reverse, List.length_replicate, invw_length, List.length_set] <;> omega) | (simp only [wd_app, wd_cons, wd_nil, and_true, true_and]; first | done | (refine ⟨?_, ?_⟩ <;> assumption) | assumption))) only [EVB, EVC, EVW, List.set_cons_succ, List.set_cons_zero, List.length_nil, List.length_cons, List.nil_append, List.cons_append, true_and, and_self, Option.toList_some, Option.toList_none, List.append_nil, Bool.decide_eq_true, decide_true, decide_false, List.length_map, List.length_range, BEq.rfl, beq_self_eq_true, Int.toNat_natCast, bne_self_eq_false, Bool.not_eq_true, Bool.not_true, Bool.not_false, Int.natCast_zero, Int.natCast_one, Int.cast_ofNat_Int, if_true, if_false, Bool.false_eq_true, reduceIte, Int.reduceBEq, Int.reduceAdd, Int.reduceSub, Int.reduceMul, Int.reduceLT, Int.reduceLE, Int.reduceNeg, Int.reduceToNat, Int.reduceDiv, Int.reduceMod, Nat.reduceAdd, Nat.reduceSub, Nat.reduceLeDiff, Nat.reduceBEq, Nat.reduceEqDiff, skp_ne hw, skp_ix, skp_pop, skp_ty, hu, heq, e1]; rfl))) only [EVB, EVC, EVW, List.set_cons_succ, List.set_cons_zero, List.length_nil, List.length_cons, List.nil_append, List.cons_append, true_and, and_self, Option.toList_some, Option.toList_none, List.append_nil, Bool.decide_eq_true, decide_true, decide_false, List.length_map, List.length_range, BEq.rfl, beq_self_eq_true, Int.toNat_natCast, bne_self_eq_false, Bool.not_eq_true, Bool.not_true, Bool.not_false, Int.natCast_zero, Int.natCast_one, Int.cast_ofNat_Int, if_true, if_false, Bool.false_eq_true, reduceIte, Int.reduceBEq, Int.reduceAdd, Int.reduceSub, Int.reduceMul, Int.reduceLT, Int.reduceLE, Int.reduceNeg, Int.reduceToNat, Int.reduceDiv, Int.reduceMod, Nat.reduceAdd, Nat.reduceSub, Nat.reduceLeDiff, Nat.reduceBEq, Nat.reduceEqDiff, skp_ne hw, skp_ix, skp_pop, skp_ty, hu, heq, e1]
        first | exact ⟨_, rfl, rfl⟩ | exact ⟨_, rfl, trivial⟩
      · have e2 : ([x] == [iv c]) = false := by simp [e]
        rw [if_neg e]
        try simp (config := {maxSteps := 2000000}) (disch := (first | assumption | omega | (refine lkd ?_; decide) | (simp only [LINE, Nat.reduceMul, Nat.reduceLeDiff, Int.reduceToNat, Int.toNat_natCast, List.length_append, List.length_cons, List.length_nil, List.length_map, List.length_range, List.length_take, List.length_drop, List.length_reverse, List.length_replicate, invw_length, List.length_set] <;> omega) | (simp only [wd_app, wd_cons, wd_nil, and_true, true_and]; first | done | (refine ⟨?_, ?_⟩ <;> assumption) | assumption) | (intro ca ch; simp (config := {maxSteps := 2000000}) (disch := (first | assumption | omega | (refine lkd ?_; decide) | (simp only [LINE, Nat.reduceMul, Nat.reduceLeDiff, Int.reduceToNat, Int.toNat_natCast, List.length_append, List.length_cons, List.length_nil, List.length_map, List.length_range, List.length_take, List.length_drop, List.length_reverse, List.length_replicate, invw_length, List.length_set] <;> omega) | (simp only [wd_app, wd_cons, wd_nil, and_true, true_and]; first | done | (refine ⟨?_, ?_⟩ <;> assumption) | assumption))) only [EVB, EVC, EVW, List.set_cons_succ, List.set_cons_zero, List.length_nil, List.length_cons, List.nil_append, List.cons_append, true_and, and_self, Option.toList_some, Option.toList_none, List.append_nil, Bool.decide_eq_true, decide_true, decide_false, List.length_map, List.length_range, BEq.rfl, beq_self_eq_true, Int.toNat_natCast, bne_self_eq_false, Bool.not_eq_true, Bool.not_true, Bool.not_false, Int.natCast_zero, Int.natCast_one, Int.cast_ofNat_Int, if_true, if_false, Bool.false_eq_true, reduceIte, Int.reduceBEq, Int.reduceAdd, Int.reduceSub, Int.reduceMul, Int.reduceLT, Int.reduceLE, Int.reduceNeg, Int.reduceToNat, Int.reduceDiv, Int.reduceMod, Nat.reduceAdd, Nat.reduceSub, Nat.reduceLeDiff, Nat.reduceBEq, Nat.reduceEqDiff, skp_ne hw, skp_ix, skp_app hlen, skp_ty, hu, heq, e1, e2]; rfl))) only [EVB, EVC, EVW, List.set_cons_succ, List.set_cons_zero, List.length_nil, List.length_cons, List.nil_append, List.cons_append, true_and, and_self, Option.toList_some, Option.toList_none, List.append_nil, Bool.decide_eq_true, decide_true, decide_false, List.length_map, List.length_range, BEq.rfl, beq_self_eq_true, Int.toNat_natCast, bne_self_eq_false, Bool.not_eq_true, Bool.not_true, Bool.not_false, Int.natCast_zero, Int.natCast_one, Int.cast_ofNat_Int, if_true, if_false, Bool.false_eq_true, reduceIte, Int.reduceBEq, Int.reduceAdd, Int.reduceSub, Int.reduceMul, Int.reduceLT, Int.reduceLE, Int.reduceNeg, Int.reduceToNat, Int.reduceDiv, Int.reduceMod, Nat.reduceAdd, Nat.reduceSub, Nat.reduceLeDiff, Nat.reduceBEq, Nat.reduceEqDiff, skp_ne hw, skp_ix, skp_app hlen, skp_ty, hu, heq, e1, e2]
        first | exact ⟨_, rfl, rfl⟩ | exact ⟨_, rfl, trivial⟩
  · rintro env S ⟨o, rfl, rfl⟩
    rw [List.take_length]
    have : fJoin (.str []) [.ref 0] [skp (run s [])] = .ok (.val (.str (red s))) [skp (run s [])] := fJoin_signs rfl (by have := run_len' s; unfold red at *; show (run s []).reverse.length ≤ 16777216; rw [List.length_reverse]; omega)
    try simp (config := {maxSteps := 2000000}) (disch := (first | assumption | omega | (refine lkd ?_; decide) | (simp only [LINE, Nat.reduceMul, Nat.reduceLeDiff, Int.reduceToNat, Int.toNat_natCast, List.length_append, List.length_cons, List.length_nil, List.length_map, List.length_range, List.length_take, List.length_drop, List.length_reverse, List.length_replicate, invw_length, List.length_set] <;> omega) | (simp only [wd_app, wd_cons, wd_nil, and_true, true_and]; first | done | (refine ⟨?_, ?_⟩ <;> assumption) | assumption) | (intro ca ch; simp (config := {maxSteps := 2000000}) (disch := (first | assumption | omega | (refine lkd ?_; decide) | (simp only [LINE, Nat.reduceMul, Nat.reduceLeDiff, Int.reduceToNat, Int.toNat_natCast, List.length_append, List.length_cons, List.length_nil, List.length_map, List.length_range, List.length_take, List.length_drop, List.length_reverse, List.length_replicate, invw_length, List.length_set] <;> omega) | (simp only [wd_app, wd_cons, wd_nil, and_true, true_and]; first | done | (refine ⟨?_, ?_⟩ <;> assumption) | assumption))) only [EVB, EVC, EVW, List.set_cons_succ, List.set_cons_zero, List.length_nil, List.length_cons, List.nil_append, List.cons_append, true_and, and_self, Option.toList_some, Option.toList_none, List.append_nil, Bool.decide_eq_true, decide_true, decide_false, List.length_map, List.length_range, BEq.rfl, beq_self_eq_true, Int.toNat_natCast, bne_self_eq_false, Bool.not_eq_true, Bool.not_true, Bool.not_false, Int.natCast_zero, Int.natCast_one, Int.cast_ofNat_Int, if_true, if_false, Bool.false_eq_true, reduceIte, Int.reduceBEq, Int.reduceAdd, Int.reduceSub, Int.reduceMul, Int.reduceLT, Int.reduceLE, Int.reduceNeg, Int.reduceToNat, Int.reduceDiv, Int.reduceMod, Nat.reduceAdd, Nat.reduceSub, Nat.reduceLeDiff, Nat.reduceBEq, Nat.reduceEqDiff, this]; rfl))) only [EVB, EVC, EVW, List.set_cons_succ, List.set_cons_zero, List.length_nil, List.length_cons, List.nil_append, List.cons_append, true_and, and_self, Option.toList_some, Option.toList_none, List.append_nil, Bool.decide_eq_true, decide_true, decide_false, List.length_map, List.length_range, BEq.rfl, beq_self_eq_true, Int.toNat_natCast, bne_self_eq_false, Bool.not_eq_true, Bool.not_true, Bool.not_false, Int.natCast_zero, Int.natCast_one, Int.cast_ofNat_Int, if_true, if_false, Bool.false_eq_true, reduceIte, Int.reduceBEq, Int.reduceAdd, Int.reduceSub, Int.reduceMul, Int.reduceLT, Int.reduceLE, Int.reduceNeg, Int.reduceToNat, Int.reduceDiv, Int.reduceMod, Nat.reduceAdd, Nat.reduceSub, Nat.reduceLeDiff, Nat.reduceBEq, Nat.reduceEqDiff, this]
theorem c_plain (h : Word s) (hl : s.length ≤ 16777216) : callK 0 m__law_plain [.str s] S = .ok (.str (red s)) S := by
  obtain ⟨w, S', e, rfl⟩ := wp_eq (w_plain h hl)
  exact call0 rfl e rfl
theorem c_inverse_in (h : Word s) (hl : s.length ≤ 16777216) : callK 0 m_inverse_in [.str s] S = .ok (.str (invw s)) S := call0 rfl (e_inverse_in h hl) rfl
/-! ### products -/
theorem c_commutator_in (hs : Word s) (ht : Word t) (hl : s.length ≤ 1000000) (hl2 : t.length ≤ 1000000) : callK 0 m_commutator_in [.str s, .str t] S = .ok (.str (s ++ t ++ invw s ++ invw t)) S := by
  refine call0 (S' := []) rfl ?_ rfl
  show outF (b_commutator_in [some (.str s), some (.str t)] []) = _
  unfold b_commutator_in
  try simp (config := {maxSteps := 2000000}) (disch := (first | assumption | omega | (refine lkd ?_; decide) | (simp only [LINE, Nat.reduceMul, Nat.reduceLeDiff, Int.reduceToNat, Int.toNat_natCast, List.length_append, List.length_cons, List.length_nil, List.length_map, List.length_range, List.length_take, List.length_drop, List.length_reverse, List.length_replicate, invw_length, List.length_set] <;> omega) | (simp only [wd_app, wd_cons, wd_nil, and_true, true_and]; first | done | (refine ⟨?_, ?_⟩ <;> assumption) | assumption) | (intro ca ch; simp (config := {maxSteps := 2000000}) (disch := (first | assumption | omega | (refine lkd ?_; decide) | (simp only [LINE, Nat.reduceMul, Nat.reduceLeDiff, Int.reduceToNat, Int.toNat_natCast, List.length_append, List.length_cons, List.length_nil, List.length_map, List.length_range, List.length_take, List.length_drop, List.length_reverse, List.length_replicate, invw_length, List.length_set] <;> omega) | (simp only [wd_app, wd_cons, wd_nil, and_true, true_and]; first | done | (refine ⟨?_, ?_⟩ <;> assumption) | assumption))) only [EVB, EVC, EVS, List.set_cons_succ, List.set_cons_zero, List.length_nil, List.length_cons, List.nil_append, List.cons_append, true_and, and_self, Option.toList_some, Option.toList_none, List.append_nil, Bool.decide_eq_true, decide_true, decide_false, List.length_map, List.length_range, BEq.rfl, beq_self_eq_true, Int.toNat_natCast, bne_self_eq_false, Bool.not_eq_true, Bool.not_true, Bool.not_false, Int.natCast_zero, Int.natCast_one, Int.cast_ofNat_Int, if_true, if_false, Bool.false_eq_true, reduceIte, Int.reduceBEq, Int.reduceAdd, Int.reduceSub, Int.reduceMul, Int.reduceLT, Int.reduceLE, Int.reduceNeg, Int.reduceToNat, Int.reduceDiv, Int.reduceMod, Nat.reduceAdd, Nat.reduceSub, Nat.reduceLeDiff, Nat.reduceBEq, Nat.reduceEqDiff, c_inverse_in]; rfl))) only [EVB, EVC, EVS, List.set_cons_succ, List.set_cons_zero, List.length_nil, List.length_cons, List.nil_append, List.cons_append, true_and, and_self, Option.toList_some, Option.toList_none, List.append_nil, Bool.decide_eq_true, decide_true, decide_false, List.length_map, List.length_range, BEq.rfl, beq_self_eq_true, Int.toNat_natCast, bne_self_eq_false, Bool.not_eq_true, Bool.not_true, Bool.not_false, Int.natCast_zero, Int.natCast_one, Int.cast_ofNat_Int, if_true, if_false, Bool.false_eq_true, reduceIte, Int.reduceBEq, Int.reduceAdd, Int.reduceSub, Int.reduceMul, Int.reduceLT, Int.reduceLE, Int.reduceNeg, Int.reduceToNat, Int.reduceDiv, Int.reduceMod, Nat.reduceAdd, Nat.reduceSub, Nat.reduceLeDiff, Nat.reduceBEq, Nat.reduceEqDiff, c_inverse_in]
theorem isWx_str {n : Int} : isWx (.str s) n = isW s n := rfl
theorem plain_s (h : isW s 60 = true) : plainV (.str s) = true := by
  have := isW_len (n := 60) h
  have : s.length ≤ 16777216 := by omega
  simpa [plainV] using this
theorem nw (h : isW s 60 = true) : callK 0 m_need_word [.str s] S = .ok .non S := by rw [c_need_word (plain_s h) rfl, isWx_str, h]; rfl
theorem nw_bad (hp : plainV x = true) (hr : refsLt 0 x = true) (h : isWx x 60 = false) : callK 0 m_need_word [x] S = .exc "BadWord" S := by rw [c_need_word hp hr, h]; rfl
theorem nt (h : isW s 60 = true) (h2 : isW t 60 = true) : callK 0 m_need_two [.str s, .str t] S = .ok .non S := by rw [c_need_two (plain_s h) rfl (plain_s h2) rfl, isWx_str, isWx_str, h, h2]; rfl
theorem nt_other (h : isW s 60 = true) (hp : plainV x = true) (hr : refsLt 0 x = true) (h2 : isWx x 60 = false) : callK 0 m_need_two [.str s, x] S = .exc "BadOther" S := by rw [c_need_two (plain_s h) rfl hp hr, isWx_str, h, h2]; rfl
theorem nt_word (hp : plainV x = true) (hr : refsLt 0 x = true) (h2 : isWx x 60 = false) (hp' : plainV y = true) (hr' : refsLt 0 y = true) : callK 0 m_need_two [x, y] S = .exc "BadWord" S := by rw [c_need_two hp hr hp' hr', h2]; rfl
theorem product_ok (h : isW s 60 = true) (h2 : isW t 60 = true) : callK 0 m_product [.str s, .str t] S = .ok (.str (red (s ++ t))) S := by
  have hl := isW_len (n := 60) h
  have hl2 := isW_len (n := 60) h2
  have hw := isW_word h
  have hw2 := isW_word h2
  have hi := hw.inv
  have hi2 := hw2.inv
  have hk : ∀ S, callK 0 m_reduced_in [.str (s ++ t)] S = .ok (.str (red (s ++ t))) S := fun S => c_reduced_in (by simp only [wd_app]; repeat (first | assumption | constructor)) (by simp only [LINE, Nat.reduceMul, Nat.reduceLeDiff, Int.reduceToNat, Int.toNat_natCast, List.length_append, List.length_cons, List.length_nil, List.length_map, List.length_range, List.length_take, List.length_drop, List.length_reverse, List.length_replicate, invw_length, List.length_set]; omega)
  refine call0 (S' := []) rfl ?_ rfl
  show outF (b_product [some (.str s), some (.str t)] []) = _
  unfold b_product
  try simp (config := {maxSteps := 2000000}) (disch := (first | assumption | omega | (refine lkd ?_; decide) | (simp only [LINE, Nat.reduceMul, Nat.reduceLeDiff, Int.reduceToNat, Int.toNat_natCast, List.length_append, List.length_cons, List.length_nil, List.length_map, List.length_range, List.length_take, List.length_drop, List.length_reverse, List.length_replicate, invw_length, List.length_set] <;> omega) | (simp only [wd_app, wd_cons, wd_nil, and_true, true_and]; first | done | (refine ⟨?_, ?_⟩ <;> assumption) | assumption) | (intro ca ch; simp (config := {maxSteps := 2000000}) (disch := (first | assumption | omega | (refine lkd ?_; decide) | (simp only [LINE, Nat.reduceMul, Nat.reduceLeDiff, Int.reduceToNat, Int.toNat_natCast, List.length_append, List.length_cons, List.length_nil, List.length_map, List.length_range, List.length_take, List.length_drop, List.length_reverse, List.length_replicate, invw_length, List.length_set] <;> omega) | (simp only [wd_app, wd_cons, wd_nil, and_true, true_and]; first | done | (refine ⟨?_, ?_⟩ <;> assumption) | assumption))) only [EVB, EVC, EVS, List.set_cons_succ, List.set_cons_zero, List.length_nil, List.length_cons, List.nil_append, List.cons_append, true_and, and_self, Option.toList_some, Option.toList_none, List.append_nil, Bool.decide_eq_true, decide_true, decide_false, List.length_map, List.length_range, BEq.rfl, beq_self_eq_true, Int.toNat_natCast, bne_self_eq_false, Bool.not_eq_true, Bool.not_true, Bool.not_false, Int.natCast_zero, Int.natCast_one, Int.cast_ofNat_Int, if_true, if_false, Bool.false_eq_true, reduceIte, Int.reduceBEq, Int.reduceAdd, Int.reduceSub, Int.reduceMul, Int.reduceLT, Int.reduceLE, Int.reduceNeg, Int.reduceToNat, Int.reduceDiv, Int.reduceMod, Nat.reduceAdd, Nat.reduceSub, Nat.reduceLeDiff, Nat.reduceBEq, Nat.reduceEqDiff, nt h h2, hk, c_inverse_in, c_commutator_in]; rfl))) only [EVB, EVC, EVS, List.set_cons_succ, List.set_cons_zero, List.length_nil, List.length_cons, List.nil_append, List.cons_append, true_and, and_self, Option.toList_some, Option.toList_none, List.append_nil, Bool.decide_eq_true, decide_true, decide_false, List.length_map, List.length_range, BEq.rfl, beq_self_eq_true, Int.toNat_natCast, bne_self_eq_false, Bool.not_eq_true, Bool.not_true, Bool.not_false, Int.natCast_zero, Int.natCast_one, Int.cast_ofNat_Int, if_true, if_false, Bool.false_eq_true, reduceIte, Int.reduceBEq, Int.reduceAdd, Int.reduceSub, Int.reduceMul, Int.reduceLT, Int.reduceLE, Int.reduceNeg, Int.reduceToNat, Int.reduceDiv, Int.reduceMod, Nat.reduceAdd, Nat.reduceSub, Nat.reduceLeDiff, Nat.reduceBEq, Nat.reduceEqDiff, nt h h2, hk, c_inverse_in, c_commutator_in]
theorem product_other (h : isW s 60 = true) (hp : plainV x = true) (hr : refsLt 0 x = true) (h2 : isWx x 60 = false) : callK 0 m_product [.str s, x] S = .exc "BadOther" S := by
  refine call0_exc (S' := []) (by simp [hr, refsLt]) ?_
  show outF (b_product [some (.str s), some x] []) = _
  unfold b_product
  try simp (config := {maxSteps := 2000000}) (disch := (first | assumption | omega | (refine lkd ?_; decide) | (simp only [LINE, Nat.reduceMul, Nat.reduceLeDiff, Int.reduceToNat, Int.toNat_natCast, List.length_append, List.length_cons, List.length_nil, List.length_map, List.length_range, List.length_take, List.length_drop, List.length_reverse, List.length_replicate, invw_length, List.length_set] <;> omega) | (simp only [wd_app, wd_cons, wd_nil, and_true, true_and]; first | done | (refine ⟨?_, ?_⟩ <;> assumption) | assumption) | (intro ca ch; simp (config := {maxSteps := 2000000}) (disch := (first | assumption | omega | (refine lkd ?_; decide) | (simp only [LINE, Nat.reduceMul, Nat.reduceLeDiff, Int.reduceToNat, Int.toNat_natCast, List.length_append, List.length_cons, List.length_nil, List.length_map, List.length_range, List.length_take, List.length_drop, List.length_reverse, List.length_replicate, invw_length, List.length_set] <;> omega) | (simp only [wd_app, wd_cons, wd_nil, and_true, true_and]; first | done | (refine ⟨?_, ?_⟩ <;> assumption) | assumption))) only [EVB, EVC, EVS, List.set_cons_succ, List.set_cons_zero, List.length_nil, List.length_cons, List.nil_append, List.cons_append, true_and, and_self, Option.toList_some, Option.toList_none, List.append_nil, Bool.decide_eq_true, decide_true, decide_false, List.length_map, List.length_range, BEq.rfl, beq_self_eq_true, Int.toNat_natCast, bne_self_eq_false, Bool.not_eq_true, Bool.not_true, Bool.not_false, Int.natCast_zero, Int.natCast_one, Int.cast_ofNat_Int, if_true, if_false, Bool.false_eq_true, reduceIte, Int.reduceBEq, Int.reduceAdd, Int.reduceSub, Int.reduceMul, Int.reduceLT, Int.reduceLE, Int.reduceNeg, Int.reduceToNat, Int.reduceDiv, Int.reduceMod, Nat.reduceAdd, Nat.reduceSub, Nat.reduceLeDiff, Nat.reduceBEq, Nat.reduceEqDiff, nt_other h hp hr h2]; rfl))) only [EVB, EVC, EVS, List.set_cons_succ, List.set_cons_zero, List.length_nil, List.length_cons, List.nil_append, List.cons_append, true_and, and_self, Option.toList_some, Option.toList_none, List.append_nil, Bool.decide_eq_true, decide_true, decide_false, List.length_map, List.length_range, BEq.rfl, beq_self_eq_true, Int.toNat_natCast, bne_self_eq_false, Bool.not_eq_true, Bool.not_true, Bool.not_false, Int.natCast_zero, Int.natCast_one, Int.cast_ofNat_Int, if_true, if_false, Bool.false_eq_true, reduceIte, Int.reduceBEq, Int.reduceAdd, Int.reduceSub, Int.reduceMul, Int.reduceLT, Int.reduceLE, Int.reduceNeg, Int.reduceToNat, Int.reduceDiv, Int.reduceMod, Nat.reduceAdd, Nat.reduceSub, Nat.reduceLeDiff, Nat.reduceBEq, Nat.reduceEqDiff, nt_other h hp hr h2]
theorem product_word (hp : plainV x = true) (hr : refsLt 0 x = true) (h2 : isWx x 60 = false) (hp' : plainV y = true) (hr' : refsLt 0 y = true) : callK 0 m_product [x, y] S = .exc "BadWord" S := by
  refine call0_exc (S' := []) (by simp [hr, hr']) ?_
  show outF (b_product [some x, some y] []) = _
  unfold b_product
  try simp (config := {maxSteps := 2000000}) (disch := (first | assumption | omega | (refine lkd ?_; decide) | (simp only [LINE, Nat.reduceMul, Nat.reduceLeDiff, Int.reduceToNat, Int.toNat_natCast, List.length_append, List.length_cons, List.length_nil, List.length_map, List.length_range, List.length_take, List.length_drop, List.length_reverse, List.length_replicate, invw_length, List.length_set] <;> omega) | (simp only [wd_app, wd_cons, wd_nil, and_true, true_and]; first | done | (refine ⟨?_, ?_⟩ <;> assumption) | assumption) | (intro ca ch; simp (config := {maxSteps := 2000000}) (disch := (first | assumption | omega | (refine lkd ?_; decide) | (simp only [LINE, Nat.reduceMul, Nat.reduceLeDiff, Int.reduceToNat, Int.toNat_natCast, List.length_append, List.length_cons, List.length_nil, List.length_map, List.length_range, List.length_take, List.length_drop, List.length_reverse, List.length_replicate, invw_length, List.length_set] <;> omega) | (simp only [wd_app, wd_cons, wd_nil, and_true, true_and]; first | done | (refine ⟨?_, ?_⟩ <;> assumption) | assumption))) only [EVB, EVC, EVS, List.set_cons_succ, List.set_cons_zero, List.length_nil, List.length_cons, List.nil_append, List.cons_append, true_and, and_self, Option.toList_some, Option.toList_none, List.append_nil, Bool.decide_eq_true, decide_true, decide_false, List.length_map, List.length_range, BEq.rfl, beq_self_eq_true, Int.toNat_natCast, bne_self_eq_false, Bool.not_eq_true, Bool.not_true, Bool.not_false, Int.natCast_zero, Int.natCast_one, Int.cast_ofNat_Int, if_true, if_false, Bool.false_eq_true, reduceIte, Int.reduceBEq, Int.reduceAdd, Int.reduceSub, Int.reduceMul, Int.reduceLT, Int.reduceLE, Int.reduceNeg, Int.reduceToNat, Int.reduceDiv, Int.reduceMod, Nat.reduceAdd, Nat.reduceSub, Nat.reduceLeDiff, Nat.reduceBEq, Nat.reduceEqDiff, nt_word hp hr h2 hp' hr']; rfl))) only [EVB, EVC, EVS, List.set_cons_succ, List.set_cons_zero, List.length_nil, List.length_cons, List.nil_append, List.cons_append, true_and, and_self, Option.toList_some, Option.toList_none, List.append_nil, Bool.decide_eq_true, decide_true, decide_false, List.length_map, List.length_range, BEq.rfl, beq_self_eq_true, Int.toNat_natCast, bne_self_eq_false, Bool.not_eq_true, Bool.not_true, Bool.not_false, Int.natCast_zero, Int.natCast_one, Int.cast_ofNat_Int, if_true, if_false, Bool.false_eq_true, reduceIte, Int.reduceBEq, Int.reduceAdd, Int.reduceSub, Int.reduceMul, Int.reduceLT, Int.reduceLE, Int.reduceNeg, Int.reduceToNat, Int.reduceDiv, Int.reduceMod, Nat.reduceAdd, Nat.reduceSub, Nat.reduceLeDiff, Nat.reduceBEq, Nat.reduceEqDiff, nt_word hp hr h2 hp' hr']
theorem commutator_ok (h : isW s 60 = true) (h2 : isW t 60 = true) : callK 0 m_commutator [.str s, .str t] S = .ok (.str (red (s ++ t ++ invw s ++ invw t))) S := by
  have hl := isW_len (n := 60) h
  have hl2 := isW_len (n := 60) h2
  have hw := isW_word h
  have hw2 := isW_word h2
  have hi := hw.inv
  have hi2 := hw2.inv
  have hk : ∀ S, callK 0 m_reduced_in [.str (s ++ t ++ invw s ++ invw t)] S = .ok (.str (red (s ++ t ++ invw s ++ invw t))) S := fun S => c_reduced_in (by simp only [wd_app]; repeat (first | assumption | constructor)) (by simp only [LINE, Nat.reduceMul, Nat.reduceLeDiff, Int.reduceToNat, Int.toNat_natCast, List.length_append, List.length_cons, List.length_nil, List.length_map, List.length_range, List.length_take, List.length_drop, List.length_reverse, List.length_replicate, invw_length, List.length_set]; omega)
  refine call0 (S' := []) rfl ?_ rfl
  show outF (b_commutator [some (.str s), some (.str t)] []) = _
  unfold b_commutator
  try simp (config := {maxSteps := 2000000}) (disch := (first | assumption | omega | (refine lkd ?_; decide) | (simp only [LINE, Nat.reduceMul, Nat.reduceLeDiff, Int.reduceToNat, Int.toNat_natCast, List.length_append, List.length_cons, List.length_nil, List.length_map, List.length_range, List.length_take, List.length_drop, List.length_reverse, List.length_replicate, invw_length, List.length_set] <;> omega) | (simp only [wd_app, wd_cons, wd_nil, and_true, true_and]; first | done | (refine ⟨?_, ?_⟩ <;> assumption) | assumption) | (intro ca ch; simp (config := {maxSteps := 2000000}) (disch := (first | assumption | omega | (refine lkd ?_; decide) | (simp only [LINE, Nat.reduceMul, Nat.reduceLeDiff, Int.reduceToNat, Int.toNat_natCast, List.length_append, List.length_cons, List.length_nil, List.length_map, List.length_range, List.length_take, List.length_drop, List.length_reverse, List.length_replicate, invw_length, List.length_set] <;> omega) | (simp only [wd_app, wd_cons, wd_nil, and_true, true_and]; first | done | (refine ⟨?_, ?_⟩ <;> assumption) | assumption))) only [EVB, EVC, EVS, List.set_cons_succ, List.set_cons_zero, List.length_nil, List.length_cons, List.nil_append, List.cons_append, true_and, and_self, Option.toList_some, Option.toList_none, List.append_nil, Bool.decide_eq_true, decide_true, decide_false, List.length_map, List.length_range, BEq.rfl, beq_self_eq_true, Int.toNat_natCast, bne_self_eq_false, Bool.not_eq_true, Bool.not_true, Bool.not_false, Int.natCast_zero, Int.natCast_one, Int.cast_ofNat_Int, if_true, if_false, Bool.false_eq_true, reduceIte, Int.reduceBEq, Int.reduceAdd, Int.reduceSub, Int.reduceMul, Int.reduceLT, Int.reduceLE, Int.reduceNeg, Int.reduceToNat, Int.reduceDiv, Int.reduceMod, Nat.reduceAdd, Nat.reduceSub, Nat.reduceLeDiff, Nat.reduceBEq, Nat.reduceEqDiff, nt h h2, hk, c_inverse_in, c_commutator_in]; rfl))) only [EVB, EVC, EVS, List.set_cons_succ, List.set_cons_zero, List.length_nil, List.length_cons, List.nil_append, List.cons_append, true_and, and_self, Option.toList_some, Option.toList_none, List.append_nil, Bool.decide_eq_true, decide_true, decide_false, List.length_map, List.length_range, BEq.rfl, beq_self_eq_true, Int.toNat_natCast, bne_self_eq_false, Bool.not_eq_true, Bool.not_true, Bool.not_false, Int.natCast_zero, Int.natCast_one, Int.cast_ofNat_Int, if_true, if_false, Bool.false_eq_true, reduceIte, Int.reduceBEq, Int.reduceAdd, Int.reduceSub, Int.reduceMul, Int.reduceLT, Int.reduceLE, Int.reduceNeg, Int.reduceToNat, Int.reduceDiv, Int.reduceMod, Nat.reduceAdd, Nat.reduceSub, Nat.reduceLeDiff, Nat.reduceBEq, Nat.reduceEqDiff, nt h h2, hk, c_inverse_in, c_commutator_in]
theorem commutator_other (h : isW s 60 = true) (hp : plainV x = true) (hr : refsLt 0 x = true) (h2 : isWx x 60 = false) : callK 0 m_commutator [.str s, x] S = .exc "BadOther" S := by
  refine call0_exc (S' := []) (by simp [hr, refsLt]) ?_
  show outF (b_commutator [some (.str s), some x] []) = _
  unfold b_commutator
  try simp (config := {maxSteps := 2000000}) (disch := (first | assumption | omega | (refine lkd ?_; decide) | (simp only [LINE, Nat.reduceMul, Nat.reduceLeDiff, Int.reduceToNat, Int.toNat_natCast, List.length_append, List.length_cons, List.length_nil, List.length_map, List.length_range, List.length_take, List.length_drop, List.length_reverse, List.length_replicate, invw_length, List.length_set] <;> omega) | (simp only [wd_app, wd_cons, wd_nil, and_true, true_and]; first | done | (refine ⟨?_, ?_⟩ <;> assumption) | assumption) | (intro ca ch; simp (config := {maxSteps := 2000000}) (disch := (first | assumption | omega | (refine lkd ?_; decide) | (simp only [LINE, Nat.reduceMul, Nat.reduceLeDiff, Int.reduceToNat, Int.toNat_natCast, List.length_append, List.length_cons, List.length_nil, List.length_map, List.length_range, List.length_take, List.length_drop, List.length_reverse, List.length_replicate, invw_length, List.length_set] <;> omega) | (simp only [wd_app, wd_cons, wd_nil, and_true, true_and]; first | done | (refine ⟨?_, ?_⟩ <;> assumption) | assumption))) only [EVB, EVC, EVS, List.set_cons_succ, List.set_cons_zero, List.length_nil, List.length_cons, List.nil_append, List.cons_append, true_and, and_self, Option.toList_some, Option.toList_none, List.append_nil, Bool.decide_eq_true, decide_true, decide_false, List.length_map, List.length_range, BEq.rfl, beq_self_eq_true, Int.toNat_natCast, bne_self_eq_false, Bool.not_eq_true, Bool.not_true, Bool.not_false, Int.natCast_zero, Int.natCast_one, Int.cast_ofNat_Int, if_true, if_false, Bool.false_eq_true, reduceIte, Int.reduceBEq, Int.reduceAdd, Int.reduceSub, Int.reduceMul, Int.reduceLT, Int.reduceLE, Int.reduceNeg, Int.reduceToNat, Int.reduceDiv, Int.reduceMod, Nat.reduceAdd, Nat.reduceSub, Nat.reduceLeDiff, Nat.reduceBEq, Nat.reduceEqDiff, nt_other h hp hr h2]; rfl))) only [EVB, EVC, EVS, List.set_cons_succ, List.set_cons_zero, List.length_nil, List.length_cons, List.nil_append, List.cons_append, true_and, and_self, Option.toList_some, Option.toList_none, List.append_nil, Bool.decide_eq_true, decide_true, decide_false, List.length_map, List.length_range, BEq.rfl, beq_self_eq_true, Int.toNat_natCast, bne_self_eq_false, Bool.not_eq_true, Bool.not_true, Bool.not_false, Int.natCast_zero, Int.natCast_one, Int.cast_ofNat_Int, if_true, if_false, Bool.false_eq_true, reduceIte, Int.reduceBEq, Int.reduceAdd, Int.reduceSub, Int.reduceMul, Int.reduceLT, Int.reduceLE, Int.reduceNeg, Int.reduceToNat, Int.reduceDiv, Int.reduceMod, Nat.reduceAdd, Nat.reduceSub, Nat.reduceLeDiff, Nat.reduceBEq, Nat.reduceEqDiff, nt_other h hp hr h2]
theorem commutator_word (hp : plainV x = true) (hr : refsLt 0 x = true) (h2 : isWx x 60 = false) (hp' : plainV y = true) (hr' : refsLt 0 y = true) : callK 0 m_commutator [x, y] S = .exc "BadWord" S := by
  refine call0_exc (S' := []) (by simp [hr, hr']) ?_
  show outF (b_commutator [some x, some y] []) = _
  unfold b_commutator
  try simp (config := {maxSteps := 2000000}) (disch := (first | assumption | omega | (refine lkd ?_; decide) | (simp only [LINE, Nat.reduceMul, Nat.reduceLeDiff, Int.reduceToNat, Int.toNat_natCast, List.length_append, List.length_cons, List.length_nil, List.length_map, List.length_range, List.length_take, List.length_drop, List.length_reverse, List.length_replicate, invw_length, List.length_set] <;> omega) | (simp only [wd_app, wd_cons, wd_nil, and_true, true_and]; first | done | (refine ⟨?_, ?_⟩ <;> assumption) | assumption) | (intro ca ch; simp (config := {maxSteps := 2000000}) (disch := (first | assumption | omega | (refine lkd ?_; decide) | (simp only [LINE, Nat.reduceMul, Nat.reduceLeDiff, Int.reduceToNat, Int.toNat_natCast, List.length_append, List.length_cons, List.length_nil, List.length_map, List.length_range, List.length_take, List.length_drop, List.length_reverse, List.length_replicate, invw_length, List.length_set] <;> omega) | (simp only [wd_app, wd_cons, wd_nil, and_true, true_and]; first | done | (refine ⟨?_, ?_⟩ <;> assumption) | assumption))) only [EVB, EVC, EVS, List.set_cons_succ, List.set_cons_zero, List.length_nil, List.length_cons, List.nil_append, List.cons_append, true_and, and_self, Option.toList_some, Option.toList_none, List.append_nil, Bool.decide_eq_true, decide_true, decide_false, List.length_map, List.length_range, BEq.rfl, beq_self_eq_true, Int.toNat_natCast, bne_self_eq_false, Bool.not_eq_true, Bool.not_true, Bool.not_false, Int.natCast_zero, Int.natCast_one, Int.cast_ofNat_Int, if_true, if_false, Bool.false_eq_true, reduceIte, Int.reduceBEq, Int.reduceAdd, Int.reduceSub, Int.reduceMul, Int.reduceLT, Int.reduceLE, Int.reduceNeg, Int.reduceToNat, Int.reduceDiv, Int.reduceMod, Nat.reduceAdd, Nat.reduceSub, Nat.reduceLeDiff, Nat.reduceBEq, Nat.reduceEqDiff, nt_word hp hr h2 hp' hr']; rfl))) only [EVB, EVC, EVS, List.set_cons_succ, List.set_cons_zero, List.length_nil, List.length_cons, List.nil_append, List.cons_append, true_and, and_self, Option.toList_some, Option.toList_none, List.append_nil, Bool.decide_eq_true, decide_true, decide_false, List.length_map, List.length_range, BEq.rfl, beq_self_eq_true, Int.toNat_natCast, bne_self_eq_false, Bool.not_eq_true, Bool.not_true, Bool.not_false, Int.natCast_zero, Int.natCast_one, Int.cast_ofNat_Int, if_true, if_false, Bool.false_eq_true, reduceIte, Int.reduceBEq, Int.reduceAdd, Int.reduceSub, Int.reduceMul, Int.reduceLT, Int.reduceLE, Int.reduceNeg, Int.reduceToNat, Int.reduceDiv, Int.reduceMod, Nat.reduceAdd, Nat.reduceSub, Nat.reduceLeDiff, Nat.reduceBEq, Nat.reduceEqDiff, nt_word hp hr h2 hp' hr']
theorem conjugate_ok (h : isW s 60 = true) (h2 : isW t 60 = true) : callK 0 m_conjugate [.str s, .str t] S = .ok (.str (red (t ++ s ++ invw t))) S := by
  have hl := isW_len (n := 60) h
  have hl2 := isW_len (n := 60) h2
  have hw := isW_word h
  have hw2 := isW_word h2
  have hi := hw.inv
  have hi2 := hw2.inv
  have hk : ∀ S, callK 0 m_reduced_in [.str (t ++ s ++ invw t)] S = .ok (.str (red (t ++ s ++ invw t))) S := fun S => c_reduced_in (by simp only [wd_app]; repeat (first | assumption | constructor)) (by simp only [LINE, Nat.reduceMul, Nat.reduceLeDiff, Int.reduceToNat, Int.toNat_natCast, List.length_append, List.length_cons, List.length_nil, List.length_map, List.length_range, List.length_take, List.length_drop, List.length_reverse, List.length_replicate, invw_length, List.length_set]; omega)
  refine call0 (S' := []) rfl ?_ rfl
  show outF (b_conjugate [some (.str s), some (.str t)] []) = _
  unfold b_conjugate
  try simp (config := {maxSteps := 2000000}) (disch := (first | assumption | omega | (refine lkd ?_; decide) | (simp only [LINE, Nat.reduceMul, Nat.reduceLeDiff, Int.reduceToNat, Int.toNat_natCast, List.length_append, List.length_cons, List.length_nil, List.length_map, List.length_range, List.length_take, List.length_drop, List.length_reverse, List.length_replicate, invw_length, List.length_set] <;> omega) | (simp only [wd_app, wd_cons, wd_nil, and_true, true_and]; first | done | (refine ⟨?_, ?_⟩ <;> assumption) | assumption) | (intro ca ch; simp (config := {maxSteps := 2000000}) (disch := (first | assumption | omega | (refine lkd ?_; decide) | (simp only [LINE, Nat.reduceMul, Nat.reduceLeDiff, Int.reduceToNat, Int.toNat_natCast, List.length_append, List.length_cons, List.length_nil, List.length_map, List.length_range, List.length_take, List.length_drop, List.length_reverse, List.length_replicate, invw_length, List.length_set] <;> omega) | (simp only [wd_app, wd_cons, wd_nil, and_true, true_and]; first | done | (refine ⟨?_, ?_⟩ <;> assumption) | assumption))) only [EVB, EVC, EVS, List.set_cons_succ, List.set_cons_zero, List.length_nil, List.length_cons, List.nil_append, List.cons_append, true_and, and_self, Option.toList_some, Option.toList_none, List.append_nil, Bool.decide_eq_true, decide_true, decide_false, List.length_map, List.length_range, BEq.rfl, beq_self_eq_true, Int.toNat_natCast, bne_self_eq_false, Bool.not_eq_true, Bool.not_true, Bool.not_false, Int.natCast_zero, Int.natCast_one, Int.cast_ofNat_Int, if_true, if_false, Bool.false_eq_true, reduceIte, Int.reduceBEq, Int.reduceAdd, Int.reduceSub, Int.reduceMul, Int.reduceLT, Int.reduceLE, Int.reduceNeg, Int.reduceToNat, Int.reduceDiv, Int.reduceMod, Nat.reduceAdd, Nat.reduceSub, Nat.reduceLeDiff, Nat.reduceBEq, Nat.reduceEqDiff, nt h h2, hk, c_inverse_in, c_commutator_in]; rfl))) only [EVB, EVC, EVS, List.set_cons_succ, List.set_cons_zero, List.length_nil, List.length_cons, List.nil_append, List.cons_append, true_and, and_self, Option.toList_some, Option.toList_none, List.append_nil, Bool.decide_eq_true, decide_true, decide_false, List.length_map, List.length_range, BEq.rfl, beq_self_eq_true, Int.toNat_natCast, bne_self_eq_false, Bool.not_eq_true, Bool.not_true, Bool.not_false, Int.natCast_zero, Int.natCast_one, Int.cast_ofNat_Int, if_true, if_false, Bool.false_eq_true, reduceIte, Int.reduceBEq, Int.reduceAdd, Int.reduceSub, Int.reduceMul, Int.reduceLT, Int.reduceLE, Int.reduceNeg, Int.reduceToNat, Int.reduceDiv, Int.reduceMod, Nat.reduceAdd, Nat.reduceSub, Nat.reduceLeDiff, Nat.reduceBEq, Nat.reduceEqDiff, nt h h2, hk, c_inverse_in, c_commutator_in]
theorem conjugate_other (h : isW s 60 = true) (hp : plainV x = true) (hr : refsLt 0 x = true) (h2 : isWx x 60 = false) : callK 0 m_conjugate [.str s, x] S = .exc "BadOther" S := by
  refine call0_exc (S' := []) (by simp [hr, refsLt]) ?_
  show outF (b_conjugate [some (.str s), some x] []) = _
  unfold b_conjugate
  try simp (config := {maxSteps := 2000000}) (disch := (first | assumption | omega | (refine lkd ?_; decide) | (simp only [LINE, Nat.reduceMul, Nat.reduceLeDiff, Int.reduceToNat, Int.toNat_natCast, List.length_append, List.length_cons, List.length_nil, List.length_map, List.length_range, List.length_take, List.length_drop, List.length_reverse, List.length_replicate, invw_length, List.length_set] <;> omega) | (simp only [wd_app, wd_cons, wd_nil, and_true, true_and]; first | done | (refine ⟨?_, ?_⟩ <;> assumption) | assumption) | (intro ca ch; simp (config := {maxSteps := 2000000}) (disch := (first | assumption | omega | (refine lkd ?_; decide) | (simp only [LINE, Nat.reduceMul, Nat.reduceLeDiff, Int.reduceToNat, Int.toNat_natCast, List.length_append, List.length_cons, List.length_nil, List.length_map, List.length_range, List.length_take, List.length_drop, List.length_reverse, List.length_replicate, invw_length, List.length_set] <;> omega) | (simp only [wd_app, wd_cons, wd_nil, and_true, true_and]; first | done | (refine ⟨?_, ?_⟩ <;> assumption) | assumption))) only [EVB, EVC, EVS, List.set_cons_succ, List.set_cons_zero, List.length_nil, List.length_cons, List.nil_append, List.cons_append, true_and, and_self, Option.toList_some, Option.toList_none, List.append_nil, Bool.decide_eq_true, decide_true, decide_false, List.length_map, List.length_range, BEq.rfl, beq_self_eq_true, Int.toNat_natCast, bne_self_eq_false, Bool.not_eq_true, Bool.not_true, Bool.not_false, Int.natCast_zero, Int.natCast_one, Int.cast_ofNat_Int, if_true, if_false, Bool.false_eq_true, reduceIte, Int.reduceBEq, Int.reduceAdd, Int.reduceSub, Int.reduceMul, Int.reduceLT, Int.reduceLE, Int.reduceNeg, Int.reduceToNat, Int.reduceDiv, Int.reduceMod, Nat.reduceAdd, Nat.reduceSub, Nat.reduceLeDiff, Nat.reduceBEq, Nat.reduceEqDiff, nt_other h hp hr h2]; rfl))) only [EVB, EVC, EVS, List.set_cons_succ, List.set_cons_zero, List.length_nil, List.length_cons, List.nil_append, List.cons_append, true_and, and_self, Option.toList_some, Option.toList_none, List.append_nil, Bool.decide_eq_true, decide_true, decide_false, List.length_map, List.length_range, BEq.rfl, beq_self_eq_true, Int.toNat_natCast, bne_self_eq_false, Bool.not_eq_true, Bool.not_true, Bool.not_false, Int.natCast_zero, Int.natCast_one, Int.cast_ofNat_Int, if_true, if_false, Bool.false_eq_true, reduceIte, Int.reduceBEq, Int.reduceAdd, Int.reduceSub, Int.reduceMul, Int.reduceLT, Int.reduceLE, Int.reduceNeg, Int.reduceToNat, Int.reduceDiv, Int.reduceMod, Nat.reduceAdd, Nat.reduceSub, Nat.reduceLeDiff, Nat.reduceBEq, Nat.reduceEqDiff, nt_other h hp hr h2]
theorem conjugate_word (hp : plainV x = true) (hr : refsLt 0 x = true) (h2 : isWx x 60 = false) (hp' : plainV y = true) (hr' : refsLt 0 y = true) : callK 0 m_conjugate [x, y] S = .exc "BadWord" S := by
  refine call0_exc (S' := []) (by simp [hr, hr']) ?_
  show outF (b_conjugate [some x, some y] []) = _
  unfold b_conjugate
  try simp (config := {maxSteps := 2000000}) (disch := (first | assumption | omega | (refine lkd ?_; decide) | (simp only [LINE, Nat.reduceMul, Nat.reduceLeDiff, Int.reduceToNat, Int.toNat_natCast, List.length_append, List.length_cons, List.length_nil, List.length_map, List.length_range, List.length_take, List.length_drop, List.length_reverse, List.length_replicate, invw_length, List.length_set] <;> omega) | (simp only [wd_app, wd_cons, wd_nil, and_true, true_and]; first | done | (refine ⟨?_, ?_⟩ <;> assumption) | assumption) | (intro ca ch; simp (config := {maxSteps := 2000000}) (disch := (first | assumption | omega | (refine lkd ?_; decide) | (simp only [LINE, Nat.reduceMul, Nat.reduceLeDiff, Int.reduceToNat, Int.toNat_natCast, List.length_append, List.length_cons, List.length_nil, List.length_map, List.length_range, List.length_take, List.length_drop, List.length_reverse, List.length_replicate, invw_length, List.length_set] <;> omega) | (simp only [wd_app, wd_cons, wd_nil, and_true, true_and]; first | done | (refine ⟨?_, ?_⟩ <;> assumption) | assumption))) only [EVB, EVC, EVS, List.set_cons_succ, List.set_cons_zero, List.length_nil, List.length_cons, List.nil_append, List.cons_append, true_and, and_self, Option.toList_some, Option.toList_none, List.append_nil, Bool.decide_eq_true, decide_true, decide_false, List.length_map, List.length_range, BEq.rfl, beq_self_eq_true, Int.toNat_natCast, bne_self_eq_false, Bool.not_eq_true, Bool.not_true, Bool.not_false, Int.natCast_zero, Int.natCast_one, Int.cast_ofNat_Int, if_true, if_false, Bool.false_eq_true, reduceIte, Int.reduceBEq, Int.reduceAdd, Int.reduceSub, Int.reduceMul, Int.reduceLT, Int.reduceLE, Int.reduceNeg, Int.reduceToNat, Int.reduceDiv, Int.reduceMod, Nat.reduceAdd, Nat.reduceSub, Nat.reduceLeDiff, Nat.reduceBEq, Nat.reduceEqDiff, nt_word hp hr h2 hp' hr']; rfl))) only [EVB, EVC, EVS, List.set_cons_succ, List.set_cons_zero, List.length_nil, List.length_cons, List.nil_append, List.cons_append, true_and, and_self, Option.toList_some, Option.toList_none, List.append_nil, Bool.decide_eq_true, decide_true, decide_false, List.length_map, List.length_range, BEq.rfl, beq_self_eq_true, Int.toNat_natCast, bne_self_eq_false, Bool.not_eq_true, Bool.not_true, Bool.not_false, Int.natCast_zero, Int.natCast_one, Int.cast_ofNat_Int, if_true, if_false, Bool.false_eq_true, reduceIte, Int.reduceBEq, Int.reduceAdd, Int.reduceSub, Int.reduceMul, Int.reduceLT, Int.reduceLE, Int.reduceNeg, Int.reduceToNat, Int.reduceDiv, Int.reduceMod, Nat.reduceAdd, Nat.reduceSub, Nat.reduceLeDiff, Nat.reduceBEq, Nat.reduceEqDiff, nt_word hp hr h2 hp' hr']
def sumsW (s : List Nat) : W := .tup ([97, 98, 99, 100].map fun c => W.int ((s.count c : Int) - (s.count (iv c) : Int)))
theorem sums_ok (h : isW s 60 = true) : callK 0 m_sums [.str s] S = .ok (sumsW s) S := by
  have hk : ∀ S, callK 0 m_sums_in [.str s] S = .ok (sumsW s) S := fun S => call0 (S' := []) rfl Lc.e_sums rfl
  refine call0 (S' := []) rfl ?_ rfl
  show outF (b_sums [some (.str s)] []) = _
  unfold b_sums
  try simp (config := {maxSteps := 2000000}) (disch := (first | assumption | omega | (refine lkd ?_; decide) | (simp only [LINE, Nat.reduceMul, Nat.reduceLeDiff, Int.reduceToNat, Int.toNat_natCast, List.length_append, List.length_cons, List.length_nil, List.length_map, List.length_range, List.length_take, List.length_drop, List.length_reverse, List.length_replicate, invw_length, List.length_set] <;> omega) | (simp only [wd_app, wd_cons, wd_nil, and_true, true_and]; first | done | (refine ⟨?_, ?_⟩ <;> assumption) | assumption) | (intro ca ch; simp (config := {maxSteps := 2000000}) (disch := (first | assumption | omega | (refine lkd ?_; decide) | (simp only [LINE, Nat.reduceMul, Nat.reduceLeDiff, Int.reduceToNat, Int.toNat_natCast, List.length_append, List.length_cons, List.length_nil, List.length_map, List.length_range, List.length_take, List.length_drop, List.length_reverse, List.length_replicate, invw_length, List.length_set] <;> omega) | (simp only [wd_app, wd_cons, wd_nil, and_true, true_and]; first | done | (refine ⟨?_, ?_⟩ <;> assumption) | assumption))) only [EVB, EVC, EVS, List.set_cons_succ, List.set_cons_zero, List.length_nil, List.length_cons, List.nil_append, List.cons_append, true_and, and_self, Option.toList_some, Option.toList_none, List.append_nil, Bool.decide_eq_true, decide_true, decide_false, List.length_map, List.length_range, BEq.rfl, beq_self_eq_true, Int.toNat_natCast, bne_self_eq_false, Bool.not_eq_true, Bool.not_true, Bool.not_false, Int.natCast_zero, Int.natCast_one, Int.cast_ofNat_Int, if_true, if_false, Bool.false_eq_true, reduceIte, Int.reduceBEq, Int.reduceAdd, Int.reduceSub, Int.reduceMul, Int.reduceLT, Int.reduceLE, Int.reduceNeg, Int.reduceToNat, Int.reduceDiv, Int.reduceMod, Nat.reduceAdd, Nat.reduceSub, Nat.reduceLeDiff, Nat.reduceBEq, Nat.reduceEqDiff, nw h, hk]; rfl))) only [EVB, EVC, EVS, List.set_cons_succ, List.set_cons_zero, List.length_nil, List.length_cons, List.nil_append, List.cons_append, true_and, and_self, Option.toList_some, Option.toList_none, List.append_nil, Bool.decide_eq_true, decide_true, decide_false, List.length_map, List.length_range, BEq.rfl, beq_self_eq_true, Int.toNat_natCast, bne_self_eq_false, Bool.not_eq_true, Bool.not_true, Bool.not_false, Int.natCast_zero, Int.natCast_one, Int.cast_ofNat_Int, if_true, if_false, Bool.false_eq_true, reduceIte, Int.reduceBEq, Int.reduceAdd, Int.reduceSub, Int.reduceMul, Int.reduceLT, Int.reduceLE, Int.reduceNeg, Int.reduceToNat, Int.reduceDiv, Int.reduceMod, Nat.reduceAdd, Nat.reduceSub, Nat.reduceLeDiff, Nat.reduceBEq, Nat.reduceEqDiff, nw h, hk]
theorem sums_word (hp : plainV x = true) (hr : refsLt 0 x = true) (h : isWx x 60 = false) : callK 0 m_sums [x] S = .exc "BadWord" S := by
  refine call0_exc (S' := []) (by simp [hr]) ?_
  show outF (b_sums [some x] []) = _
  unfold b_sums
  try simp (config := {maxSteps := 2000000}) (disch := (first | assumption | omega | (refine lkd ?_; decide) | (simp only [LINE, Nat.reduceMul, Nat.reduceLeDiff, Int.reduceToNat, Int.toNat_natCast, List.length_append, List.length_cons, List.length_nil, List.length_map, List.length_range, List.length_take, List.length_drop, List.length_reverse, List.length_replicate, invw_length, List.length_set] <;> omega) | (simp only [wd_app, wd_cons, wd_nil, and_true, true_and]; first | done | (refine ⟨?_, ?_⟩ <;> assumption) | assumption) | (intro ca ch; simp (config := {maxSteps := 2000000}) (disch := (first | assumption | omega | (refine lkd ?_; decide) | (simp only [LINE, Nat.reduceMul, Nat.reduceLeDiff, Int.reduceToNat, Int.toNat_natCast, List.length_append, List.length_cons, List.length_nil, List.length_map, List.length_range, List.length_take, List.length_drop, List.length_reverse, List.length_replicate, invw_length, List.length_set] <;> omega) | (simp only [wd_app, wd_cons, wd_nil, and_true, true_and]; first | done | (refine ⟨?_, ?_⟩ <;> assumption) | assumption))) only [EVB, EVC, EVS, List.set_cons_succ, List.set_cons_zero, List.length_nil, List.length_cons, List.nil_append, List.cons_append, true_and, and_self, Option.toList_some, Option.toList_none, List.append_nil, Bool.decide_eq_true, decide_true, decide_false, List.length_map, List.length_range, BEq.rfl, beq_self_eq_true, Int.toNat_natCast, bne_self_eq_false, Bool.not_eq_true, Bool.not_true, Bool.not_false, Int.natCast_zero, Int.natCast_one, Int.cast_ofNat_Int, if_true, if_false, Bool.false_eq_true, reduceIte, Int.reduceBEq, Int.reduceAdd, Int.reduceSub, Int.reduceMul, Int.reduceLT, Int.reduceLE, Int.reduceNeg, Int.reduceToNat, Int.reduceDiv, Int.reduceMod, Nat.reduceAdd, Nat.reduceSub, Nat.reduceLeDiff, Nat.reduceBEq, Nat.reduceEqDiff, nw_bad hp hr h]; rfl))) only [EVB, EVC, EVS, List.set_cons_succ, List.set_cons_zero, List.length_nil, List.length_cons, List.nil_append, List.cons_append, true_and, and_self, Option.toList_some, Option.toList_none, List.append_nil, Bool.decide_eq_true, decide_true, decide_false, List.length_map, List.length_range, BEq.rfl, beq_self_eq_true, Int.toNat_natCast, bne_self_eq_false, Bool.not_eq_true, Bool.not_true, Bool.not_false, Int.natCast_zero, Int.natCast_one, Int.cast_ofNat_Int, if_true, if_false, Bool.false_eq_true, reduceIte, Int.reduceBEq, Int.reduceAdd, Int.reduceSub, Int.reduceMul, Int.reduceLT, Int.reduceLE, Int.reduceNeg, Int.reduceToNat, Int.reduceDiv, Int.reduceMod, Nat.reduceAdd, Nat.reduceSub, Nat.reduceLeDiff, Nat.reduceBEq, Nat.reduceEqDiff, nw_bad hp hr h]
/-! ### tables -/
open Fr
def matW (m : Mt) : W := .tup [.int m.a, .int m.b, .int m.c, .int m.d]
theorem mul_sm (h1 : -1000000 ≤ j) (h2 : j ≤ 1000000) : fMul (.int i) (.int j) S = .ok (.val (.int (i * j))) S := mul_ii (.inr ⟨by omega, by omega⟩)
theorem mul_sl' (h1 : -1000000 ≤ i) (h2 : i ≤ 1000000) : fMul (.int i) (.int j) S = .ok (.val (.int (i * j))) S := mul_ii (.inl ⟨by omega, by omega⟩)
theorem c_times {m : Mt} {e f g h : Int} (h1 : -1000 ≤ e ∧ e ≤ 1000) (h2 : -1000 ≤ f ∧ f ≤ 1000) (h3 : -1000 ≤ g ∧ g ≤ 1000) (h4 : -1000 ≤ h ∧ h ≤ 1000) : callK 0 m__law_times [matW m, .tup [.int e, .int f, .int g, .int h]] S = .ok (matW (mul m ⟨e, f, g, h⟩)) S := by
  refine call0 (S' := []) rfl ?_ rfl
  show outF (b__law_times [some (.tup [.int m.a, .int m.b, .int m.c, .int m.d]), some (.tup [.int e, .int f, .int g, .int h]), none, none, none, none, none, none, none, none] []) = _
  unfold b__law_times
  obtain ⟨q1, q2⟩ := h1
  obtain ⟨q3, q4⟩ := h2
  obtain ⟨q5, q6⟩ := h3
  obtain ⟨q7, q8⟩ := h4
  try simp (config := {maxSteps := 2000000}) (disch := (first | assumption | omega | (refine lkd ?_; decide) | (simp only [LINE, Nat.reduceMul, Nat.reduceLeDiff, Int.reduceToNat, Int.toNat_natCast, List.length_append, List.length_cons, List.length_nil, List.length_map, List.length_range, List.length_take, List.length_drop, List.length_reverse, List.length_replicate, invw_length, List.length_set] <;> omega) | (simp only [wd_app, wd_cons, wd_nil, and_true, true_and]; first | done | (refine ⟨?_, ?_⟩ <;> assumption) | assumption) | (intro ca ch; simp (config := {maxSteps := 2000000}) (disch := (first | assumption | omega | (refine lkd ?_; decide) | (simp only [LINE, Nat.reduceMul, Nat.reduceLeDiff, Int.reduceToNat, Int.toNat_natCast, List.length_append, List.length_cons, List.length_nil, List.length_map, List.length_range, List.length_take, List.length_drop, List.length_reverse, List.length_replicate, invw_length, List.length_set] <;> omega) | (simp only [wd_app, wd_cons, wd_nil, and_true, true_and]; first | done | (refine ⟨?_, ?_⟩ <;> assumption) | assumption))) only [EVB, EVC, EVS, List.set_cons_succ, List.set_cons_zero, List.length_nil, List.length_cons, List.nil_append, List.cons_append, true_and, and_self, Option.toList_some, Option.toList_none, List.append_nil, Bool.decide_eq_true, decide_true, decide_false, List.length_map, List.length_range, BEq.rfl, beq_self_eq_true, Int.toNat_natCast, bne_self_eq_false, Bool.not_eq_true, Bool.not_true, Bool.not_false, Int.natCast_zero, Int.natCast_one, Int.cast_ofNat_Int, if_true, if_false, Bool.false_eq_true, reduceIte, Int.reduceBEq, Int.reduceAdd, Int.reduceSub, Int.reduceMul, Int.reduceLT, Int.reduceLE, Int.reduceNeg, Int.reduceToNat, Int.reduceDiv, Int.reduceMod, Nat.reduceAdd, Nat.reduceSub, Nat.reduceLeDiff, Nat.reduceBEq, Nat.reduceEqDiff, mul_sm]; rfl))) only [EVB, EVC, EVS, List.set_cons_succ, List.set_cons_zero, List.length_nil, List.length_cons, List.nil_append, List.cons_append, true_and, and_self, Option.toList_some, Option.toList_none, List.append_nil, Bool.decide_eq_true, decide_true, decide_false, List.length_map, List.length_range, BEq.rfl, beq_self_eq_true, Int.toNat_natCast, bne_self_eq_false, Bool.not_eq_true, Bool.not_true, Bool.not_false, Int.natCast_zero, Int.natCast_one, Int.cast_ofNat_Int, if_true, if_false, Bool.false_eq_true, reduceIte, Int.reduceBEq, Int.reduceAdd, Int.reduceSub, Int.reduceMul, Int.reduceLT, Int.reduceLE, Int.reduceNeg, Int.reduceToNat, Int.reduceDiv, Int.reduceMod, Nat.reduceAdd, Nat.reduceSub, Nat.reduceLeDiff, Nat.reduceBEq, Nat.reduceEqDiff, mul_sm]
  rfl
theorem sg_idx : ∀ c, c ∈ SG → SG.idxOf c < 8 ∧ (if ((SG.idxOf c : Nat) : Int) < 4 then 2 * ((SG.idxOf c : Nat) : Int) else 2 * ((SG.idxOf c : Nat) : Int) - 8) = sh c ∧ (if ((SG.idxOf c : Nat) : Int) < 4 then (2 : Int) else -2) = di c := by decide
theorem w_table (h : Word s) : wp (m__law_table [.str s] []) (fun w _ => w = matW (M s)) E := by
  show wp (outF (b__law_table [some (.str s), none, none, none, none] [])) _ _
  refine wp_outF ?_
  unfold b__law_table
  try simp (config := {maxSteps := 2000000}) (disch := (first | assumption | omega | (refine lkd ?_; decide) | (simp only [LINE, Nat.reduceMul, Nat.reduceLeDiff, Int.reduceToNat, Int.toNat_natCast, List.length_append, List.length_cons, List.length_nil, List.length_map, List.length_range, List.length_take, List.length_drop, List.length_reverse, List.length_replicate, invw_length, List.length_set] <;> omega) | (simp only [wd_app, wd_cons, wd_nil, and_true, true_and]; first | done | (refine ⟨?_, ?_⟩ <;> assumption) | assumption) | (intro ca ch; simp (config := {maxSteps := 2000000}) (disch := (first | assumption | omega | (refine lkd ?_; decide) | (simp only [LINE, Nat.reduceMul, Nat.reduceLeDiff, Int.reduceToNat, Int.toNat_natCast, List.length_append, List.length_cons, List.length_nil, List.length_map, List.length_range, List.length_take, List.length_drop, List.length_reverse, List.length_replicate, invw_length, List.length_set] <;> omega) | (simp only [wd_app, wd_cons, wd_nil, and_true, true_and]; first | done | (refine ⟨?_, ?_⟩ <;> assumption) | assumption))) only [EVB, EVC, EVW, List.set_cons_succ, List.set_cons_zero, List.length_nil, List.length_cons, List.nil_append, List.cons_append, true_and, and_self, Option.toList_some, Option.toList_none, List.append_nil, Bool.decide_eq_true, decide_true, decide_false, List.length_map, List.length_range, BEq.rfl, beq_self_eq_true, Int.toNat_natCast, bne_self_eq_false, Bool.not_eq_true, Bool.not_true, Bool.not_false, Int.natCast_zero, Int.natCast_one, Int.cast_ofNat_Int, if_true, if_false, Bool.false_eq_true, reduceIte, Int.reduceBEq, Int.reduceAdd, Int.reduceSub, Int.reduceMul, Int.reduceLT, Int.reduceLE, Int.reduceNeg, Int.reduceToNat, Int.reduceDiv, Int.reduceMod, Nat.reduceAdd, Nat.reduceSub, Nat.reduceLeDiff, Nat.reduceBEq, Nat.reduceEqDiff]; rfl))) only [EVB, EVC, EVW, List.set_cons_succ, List.set_cons_zero, List.length_nil, List.length_cons, List.nil_append, List.cons_append, true_and, and_self, Option.toList_some, Option.toList_none, List.append_nil, Bool.decide_eq_true, decide_true, decide_false, List.length_map, List.length_range, BEq.rfl, beq_self_eq_true, Int.toNat_natCast, bne_self_eq_false, Bool.not_eq_true, Bool.not_true, Bool.not_false, Int.natCast_zero, Int.natCast_one, Int.cast_ofNat_Int, if_true, if_false, Bool.false_eq_true, reduceIte, Int.reduceBEq, Int.reduceAdd, Int.reduceSub, Int.reduceMul, Int.reduceLT, Int.reduceLE, Int.reduceNeg, Int.reduceToNat, Int.reduceDiv, Int.reduceMod, Nat.reduceAdd, Nat.reduceSub, Nat.reduceLeDiff, Nat.reduceBEq, Nat.reduceEqDiff]
  refine loop_fold (fun m c => mul m (LM c)) one (fun m env S => ∃ o2 o3 o4, env = [some (.str s), some (matW m), o2, o3, o4]) ⟨none, none, none, rfl⟩ ?_ ?_
  · rintro pre c post env S rfl ⟨o2, o3, o4, rfl⟩
    generalize pre.foldl (fun m c => mul m (LM c)) one = m
    have hc : c ∈ SG := h c (by simp)
    obtain ⟨hk, e1, e2⟩ := sg_idx c hc
    have hi : ∀ S, fSIndex (.str [97, 98, 99, 100, 65, 66, 67, 68]) [.str [c]] S = .ok (.val (.int (SG.idxOf c : Nat))) S := fun S => index_str hc
    generalize SG.idxOf c = k at hk e1 e2 hi
    have hL : ∀ S, Out.ok (matW (mul (mul (mul m ⟨1, sh c, 0, 1⟩) ⟨1, 0, di c, 1⟩) ⟨1, -sh c, 0, 1⟩)) S = Out.ok (matW (mul m (LM c))) S := fun S => by
      rw [mul_assoc, mul_assoc, ← mul_assoc ⟨1, sh c, 0, 1⟩]
      rfl
    by_cases h4 : (k : Int) < 4
    · rw [if_pos h4] at e1 e2
      have d4 : decide ((k : Int) < 4) = true := decide_eq_true h4
      have b1 : -1000 ≤ sh c ∧ sh c ≤ 1000 := by rw [← e1]; omega
      have b2 : -1000 ≤ di c ∧ di c ≤ 1000 := by rw [← e2]; omega
      have b3 : -1000 ≤ -sh c ∧ -sh c ≤ 1000 := by rw [← e1]; omega
      have t1 : ∀ m S, callK 0 m__law_times [matW m, .tup [.int 1, .int (sh c), .int 0, .int 1]] S = .ok (matW (mul m ⟨1, sh c, 0, 1⟩)) S := fun m S => c_times (by omega) b1 (by omega) (by omega)
      have t2 : ∀ m S, callK 0 m__law_times [matW m, .tup [.int 1, .int 0, .int (di c), .int 1]] S = .ok (matW (mul m ⟨1, 0, di c, 1⟩)) S := fun m S => c_times (by omega) (by omega) b2 (by omega)
      have t3 : ∀ m S, callK 0 m__law_times [matW m, .tup [.int 1, .int (-sh c), .int 0, .int 1]] S = .ok (matW (mul m ⟨1, -sh c, 0, 1⟩)) S := fun m S => c_times (by omega) b3 (by omega) (by omega)
      rw [← e2] at t2 hL
      try simp (config := {maxSteps := 2000000}) (disch := (first | assumption | omega | (refine lkd ?_; decide) | (simp only [LINE, Nat.reduceMul, Nat.reduceLeDiff, Int.reduceToNat, Int.toNat_natCast, List.length_append, List.length_cons, List.length_nil, List.length_map, List.length_range, List.length_take, List.length_drop, List.length_reverse, List.length_replicate, invw_length, List.length_set] <;> omega) | (simp only [wd_app, wd_cons, wd_nil, and_true, true_and]; first | done | (refine ⟨?_, ?_⟩ <;> assumption) | assumption) | (intro ca ch; simp (config := {maxSteps := 2000000}) (disch := (first | assumption | omega | (refine lkd ?_; decide) | (simp only [LINE, Nat.reduceMul, Nat.reduceLeDiff, Int.reduceToNat, Int.toNat_natCast, List.length_append, List.length_cons, List.length_nil, List.length_map, List.length_range, List.length_take, List.length_drop, List.length_reverse, List.length_replicate, invw_length, List.length_set] <;> omega) | (simp only [wd_app, wd_cons, wd_nil, and_true, true_and]; first | done | (refine ⟨?_, ?_⟩ <;> assumption) | assumption))) only [EVB, EVC, EVW, List.set_cons_succ, List.set_cons_zero, List.length_nil, List.length_cons, List.nil_append, List.cons_append, true_and, and_self, Option.toList_some, Option.toList_none, List.append_nil, Bool.decide_eq_true, decide_true, decide_false, List.length_map, List.length_range, BEq.rfl, beq_self_eq_true, Int.toNat_natCast, bne_self_eq_false, Bool.not_eq_true, Bool.not_true, Bool.not_false, Int.natCast_zero, Int.natCast_one, Int.cast_ofNat_Int, if_true, if_false, Bool.false_eq_true, reduceIte, Int.reduceBEq, Int.reduceAdd, Int.reduceSub, Int.reduceMul, Int.reduceLT, Int.reduceLE, Int.reduceNeg, Int.reduceToNat, Int.reduceDiv, Int.reduceMod, Nat.reduceAdd, Nat.reduceSub, Nat.reduceLeDiff, Nat.reduceBEq, Nat.reduceEqDiff, hi, d4, mul_sl', e1, t1, t2, t3, hL]; rfl))) only [EVB, EVC, EVW, List.set_cons_succ, List.set_cons_zero, List.length_nil, List.length_cons, List.nil_append, List.cons_append, true_and, and_self, Option.toList_some, Option.toList_none, List.append_nil, Bool.decide_eq_true, decide_true, decide_false, List.length_map, List.length_range, BEq.rfl, beq_self_eq_true, Int.toNat_natCast, bne_self_eq_false, Bool.not_eq_true, Bool.not_true, Bool.not_false, Int.natCast_zero, Int.natCast_one, Int.cast_ofNat_Int, if_true, if_false, Bool.false_eq_true, reduceIte, Int.reduceBEq, Int.reduceAdd, Int.reduceSub, Int.reduceMul, Int.reduceLT, Int.reduceLE, Int.reduceNeg, Int.reduceToNat, Int.reduceDiv, Int.reduceMod, Nat.reduceAdd, Nat.reduceSub, Nat.reduceLeDiff, Nat.reduceBEq, Nat.reduceEqDiff, hi, d4, mul_sl', e1, t1, t2, t3, hL]
      exact ⟨_, _, _, rfl⟩
    · rw [if_neg h4] at e1 e2
      have d4 : decide ((k : Int) < 4) = false := decide_eq_false h4
      have b1 : -1000 ≤ sh c ∧ sh c ≤ 1000 := by rw [← e1]; omega
      have b2 : -1000 ≤ di c ∧ di c ≤ 1000 := by rw [← e2]; omega
      have b3 : -1000 ≤ -sh c ∧ -sh c ≤ 1000 := by rw [← e1]; omega
      have t1 : ∀ m S, callK 0 m__law_times [matW m, .tup [.int 1, .int (sh c), .int 0, .int 1]] S = .ok (matW (mul m ⟨1, sh c, 0, 1⟩)) S := fun m S => c_times (by omega) b1 (by omega) (by omega)
      have t2 : ∀ m S, callK 0 m__law_times [matW m, .tup [.int 1, .int 0, .int (di c), .int 1]] S = .ok (matW (mul m ⟨1, 0, di c, 1⟩)) S := fun m S => c_times (by omega) (by omega) b2 (by omega)
      have t3 : ∀ m S, callK 0 m__law_times [matW m, .tup [.int 1, .int (-sh c), .int 0, .int 1]] S = .ok (matW (mul m ⟨1, -sh c, 0, 1⟩)) S := fun m S => c_times (by omega) b3 (by omega) (by omega)
      rw [← e2] at t2 hL
      try simp (config := {maxSteps := 2000000}) (disch := (first | assumption | omega | (refine lkd ?_; decide) | (simp only [LINE, Nat.reduceMul, Nat.reduceLeDiff, Int.reduceToNat, Int.toNat_natCast, List.length_append, List.length_cons, List.length_nil, List.length_map, List.length_range, List.length_take, List.length_drop, List.length_reverse, List.length_replicate, invw_length, List.length_set] <;> omega) | (simp only [wd_app, wd_cons, wd_nil, and_true, true_and]; first | done | (refine ⟨?_, ?_⟩ <;> assumption) | assumption) | (intro ca ch; simp (config := {maxSteps := 2000000}) (disch := (first | assumption | omega | (refine lkd ?_; decide) | (simp only [LINE, Nat.reduceMul, Nat.reduceLeDiff, Int.reduceToNat, Int.toNat_natCast, List.length_append, List.length_cons, List.length_nil, List.length_map, List.length_range, List.length_take, List.length_drop, List.length_reverse, List.length_replicate, invw_length, List.length_set] <;> omega) | (simp only [wd_app, wd_cons, wd_nil, and_true, true_and]; first | done | (refine ⟨?_, ?_⟩ <;> assumption) | assumption))) only [EVB, EVC, EVW, List.set_cons_succ, List.set_cons_zero, List.length_nil, List.length_cons, List.nil_append, List.cons_append, true_and, and_self, Option.toList_some, Option.toList_none, List.append_nil, Bool.decide_eq_true, decide_true, decide_false, List.length_map, List.length_range, BEq.rfl, beq_self_eq_true, Int.toNat_natCast, bne_self_eq_false, Bool.not_eq_true, Bool.not_true, Bool.not_false, Int.natCast_zero, Int.natCast_one, Int.cast_ofNat_Int, if_true, if_false, Bool.false_eq_true, reduceIte, Int.reduceBEq, Int.reduceAdd, Int.reduceSub, Int.reduceMul, Int.reduceLT, Int.reduceLE, Int.reduceNeg, Int.reduceToNat, Int.reduceDiv, Int.reduceMod, Nat.reduceAdd, Nat.reduceSub, Nat.reduceLeDiff, Nat.reduceBEq, Nat.reduceEqDiff, hi, d4, mul_sl', e1, t1, t2, t3, hL]; rfl))) only [EVB, EVC, EVW, List.set_cons_succ, List.set_cons_zero, List.length_nil, List.length_cons, List.nil_append, List.cons_append, true_and, and_self, Option.toList_some, Option.toList_none, List.append_nil, Bool.decide_eq_true, decide_true, decide_false, List.length_map, List.length_range, BEq.rfl, beq_self_eq_true, Int.toNat_natCast, bne_self_eq_false, Bool.not_eq_true, Bool.not_true, Bool.not_false, Int.natCast_zero, Int.natCast_one, Int.cast_ofNat_Int, if_true, if_false, Bool.false_eq_true, reduceIte, Int.reduceBEq, Int.reduceAdd, Int.reduceSub, Int.reduceMul, Int.reduceLT, Int.reduceLE, Int.reduceNeg, Int.reduceToNat, Int.reduceDiv, Int.reduceMod, Nat.reduceAdd, Nat.reduceSub, Nat.reduceLeDiff, Nat.reduceBEq, Nat.reduceEqDiff, hi, d4, mul_sl', e1, t1, t2, t3, hL]
      exact ⟨_, _, _, rfl⟩
  · rintro env S ⟨o2, o3, o4, rfl⟩
    try simp (config := {maxSteps := 2000000}) (disch := (first | assumption | omega | (refine lkd ?_; decide) | (simp only [LINE, Nat.reduceMul, Nat.reduceLeDiff, Int.reduceToNat, Int.toNat_natCast, List.length_append, List.length_cons, List.length_nil, List.length_map, List.length_range, List.length_take, List.length_drop, List.length_reverse, List.length_replicate, invw_length, List.length_set] <;> omega) | (simp only [wd_app, wd_cons, wd_nil, and_true, true_and]; first | done | (refine ⟨?_, ?_⟩ <;> assumption) | assumption) | (intro ca ch; simp (config := {maxSteps := 2000000}) (disch := (first | assumption | omega | (refine lkd ?_; decide) | (simp only [LINE, Nat.reduceMul, Nat.reduceLeDiff, Int.reduceToNat, Int.toNat_natCast, List.length_append, List.length_cons, List.length_nil, List.length_map, List.length_range, List.length_take, List.length_drop, List.length_reverse, List.length_replicate, invw_length, List.length_set] <;> omega) | (simp only [wd_app, wd_cons, wd_nil, and_true, true_and]; first | done | (refine ⟨?_, ?_⟩ <;> assumption) | assumption))) only [EVB, EVC, EVW, List.set_cons_succ, List.set_cons_zero, List.length_nil, List.length_cons, List.nil_append, List.cons_append, true_and, and_self, Option.toList_some, Option.toList_none, List.append_nil, Bool.decide_eq_true, decide_true, decide_false, List.length_map, List.length_range, BEq.rfl, beq_self_eq_true, Int.toNat_natCast, bne_self_eq_false, Bool.not_eq_true, Bool.not_true, Bool.not_false, Int.natCast_zero, Int.natCast_one, Int.cast_ofNat_Int, if_true, if_false, Bool.false_eq_true, reduceIte, Int.reduceBEq, Int.reduceAdd, Int.reduceSub, Int.reduceMul, Int.reduceLT, Int.reduceLE, Int.reduceNeg, Int.reduceToNat, Int.reduceDiv, Int.reduceMod, Nat.reduceAdd, Nat.reduceSub, Nat.reduceLeDiff, Nat.reduceBEq, Nat.reduceEqDiff]; rfl))) only [EVB, EVC, EVW, List.set_cons_succ, List.set_cons_zero, List.length_nil, List.length_cons, List.nil_append, List.cons_append, true_and, and_self, Option.toList_some, Option.toList_none, List.append_nil, Bool.decide_eq_true, decide_true, decide_false, List.length_map, List.length_range, BEq.rfl, beq_self_eq_true, Int.toNat_natCast, bne_self_eq_false, Bool.not_eq_true, Bool.not_true, Bool.not_false, Int.natCast_zero, Int.natCast_one, Int.cast_ofNat_Int, if_true, if_false, Bool.false_eq_true, reduceIte, Int.reduceBEq, Int.reduceAdd, Int.reduceSub, Int.reduceMul, Int.reduceLT, Int.reduceLE, Int.reduceNeg, Int.reduceToNat, Int.reduceDiv, Int.reduceMod, Nat.reduceAdd, Nat.reduceSub, Nat.reduceLeDiff, Nat.reduceBEq, Nat.reduceEqDiff]
    rfl
theorem c_table (h : Word s) : callK 0 m__law_table [.str s] S = .ok (matW (M s)) S := by
  obtain ⟨w, S', e, rfl⟩ := wp_eq (w_table h)
  exact call0 rfl e rfl
theorem eq_mat {m n : Mt} : fEq (matW m) (matW n) S = .ok (.val (.bl (decide (m = n)))) S := by
  have e : eqW (matW m) (matW n) = decide (m = n) := by
    show (m.a == n.a && (m.b == n.b && (m.c == n.c && (m.d == n.d && true)))) = _
    rw [Bool.eq_iff_iff]
    simp only [Bool.and_eq_true, beq_iff_eq, decide_eq_true_eq, and_true]
    constructor
    · intro ⟨h1, h2, h3, h4⟩; exact Mt.ext' h1 h2 h3 h4
    · rintro rfl; exact ⟨rfl, rfl, rfl, rfl⟩
  unfold fEq
  rw [show snap S (matW m) = matW m from rfl, show snap S (matW n) = matW n from rfl, if_pos ⟨rfl, rfl⟩, e]
end
end L2.Mi.Lx

set_option Elab.async false
set_option linter.all false
set_option maxRecDepth 100000
set_option maxHeartbeats 4000000
namespace L2.Mi.K02
open PySem PySem.Spec PyProof.Rows L2 L2.Mi
open L2.Mi.Lb (b__law_deck m__law_deck)
open L2.Mi.Lb (b__law_pick m__law_pick)
open L2.Mi.Lx (b__law_plain m__law_plain)
open L2.Mi.Lb (b__law_same m__law_same)
open L2.Mi.Lx (b__law_table m__law_table)
open L2.Mi.Lx (b__law_times m__law_times)
open L2.Mi.Lb (b__law_undone m__law_undone)
open L2.Mi.Lb (b__law_word m__law_word)
open L2.Mi.Lx (b_commutator m_commutator)
open L2.Mi.Lx (b_commutator_in m_commutator_in)
open L2.Mi.Lx (b_conjugate m_conjugate)
open L2.Mi.Lb (b_inverse_in m_inverse_in)
open L2.Mi.Lb (b_inverse_sign m_inverse_sign)
open L2.Mi.Lw (b_is_int m_is_int)
open L2.Mi.Lb (b_is_word_of m_is_word_of)
open L2.Mi.Lw (b_need_two m_need_two)
open L2.Mi.Lb (b_need_word m_need_word)
open L2.Mi.Lx (b_product m_product)
open L2.Mi.Lb (b_reduced_in m_reduced_in)
open L2.Mi.Lx (b_sums m_sums)
open L2.Mi.Lc (b_sums_in m_sums_in)
open L2.Mi.Lw (b_within m_within)
def top (i : Nat) : Stmt := PySem.Challenge.pw_handlesworn_k02_products_powers_commutat.main.body.getD i (.Pass ⟨0, 0, 0, 0⟩)
abbrev s__law_deck : Stmt := top 27
theorem sc__law_deck : FnScope ["script", "cell"] ["script"] (defScope s__law_deck) := ⟨rfl, rfl, rfl, by decide +kernel, rfl, by decide +kernel, by decide +kernel⟩
abbrev s__law_pick : Stmt := top 28
theorem sc__law_pick : FnScope ["deck", "many", "cells", "cell", "found"] ["deck", "many"] (defScope s__law_pick) := ⟨rfl, rfl, rfl, by decide +kernel, rfl, by decide +kernel, by decide +kernel⟩
abbrev s__law_word : Stmt := top 34
theorem sc__law_word : FnScope ["deck", "letters", "most", "signs", "k"] ["deck", "letters", "most"] (defScope s__law_word) := ⟨rfl, rfl, rfl, by decide +kernel, rfl, by decide +kernel, by decide +kernel⟩
abbrev s__law_undone : Stmt := top 30
theorem sc__law_undone : FnScope ["word", "sign"] ["word"] (defScope s__law_undone) := ⟨rfl, rfl, rfl, by decide +kernel, rfl, by decide +kernel, by decide +kernel⟩
abbrev s__law_second : Stmt := top 35
theorem sc__law_second : FnScope ["deck", "word", "letters", "kind"] ["deck", "word", "letters"] (defScope s__law_second) := ⟨rfl, rfl, rfl, by decide +kernel, rfl, by decide +kernel, by decide +kernel⟩
def b__law_second : Env → Sto → OutS :=
  sSeq (sSet 3 (mCall 2 m__law_pick (mCons (mVar 0) (mCons (mC (.int 5)) (mNil)))))
    (sSeq (sIf (mTestF (m2 fEq (mVar 3) (mC (.int 0)))) (sRet (mCall 0 m__law_undone (mCons (mVar 1) (mNil)))) (sSkip))
    (sSeq (sIf (mTestF (m2 fEq (mVar 3) (mC (.int 1)))) (sRet (mVal (m2 fAdd (mCall 0 m__law_undone (mCons (mVal (mSl (mVar 1) (mPart (mCall 2 m__law_pick (mCons (mVar 0) (mCons (mVal (m2 fAdd (mVal (mA fLen (mCons (mVar 1) (mNil)))) (mC (.int 1)))) (mNil))))) (mNoPart))) (mNil))) (mVal (mSl (mCall 2 m__law_word (mCons (mVar 0) (mCons (mVar 2) (mCons (mC (.int 8)) (mNil))))) (mNoPart) (mPart (mVal (m2 fSub (mC (.int 60)) (mVal (mA fLen (mCons (mVar 1) (mNil)))))))))))) (sSkip))
    (sSeq (sIf (mTestF (m2 fEq (mVar 3) (mC (.int 2)))) (sRet (mVar 1)) (sSkip))
    (sRet (mCall 2 m__law_word (mCons (mVar 0) (mCons (mVar 2) (mCons (mVal (m2 fIx (mVal (mLst (mCons (mC (.int 6)) (mCons (mC (.int 20)) (mCons (mC (.int 60)) (mNil)))))) (mCall 2 m__law_pick (mCons (mVar 0) (mCons (mC (.int 3)) (mNil)))))) (mNil)))))))))
def m__law_second : MF := mfun 3 4 b__law_second
abbrev s__law_times : Stmt := top 32
theorem sc__law_times : FnScope ["one", "two", "a", "b", "c", "d", "e", "f", "g", "h"] ["one", "two"] (defScope s__law_times) := ⟨rfl, rfl, rfl, by decide +kernel, rfl, by decide +kernel, by decide +kernel⟩
abbrev s__law_table : Stmt := top 33
theorem sc__law_table : FnScope ["word", "found", "sign", "k", "bout"] ["word"] (defScope s__law_table) := ⟨rfl, rfl, rfl, by decide +kernel, rfl, by decide +kernel, by decide +kernel⟩
abbrev s__law_same : Stmt := top 29
theorem sc__law_same : FnScope ["told", "due", "waiting", "one", "two", "k"] ["told", "due"] (defScope s__law_same) := ⟨rfl, rfl, rfl, by decide +kernel, rfl, by decide +kernel, by decide +kernel⟩
abbrev s__law_plain : Stmt := top 31
theorem sc__law_plain : FnScope ["word", "kept", "sign"] ["word"] (defScope s__law_plain) := ⟨rfl, rfl, rfl, by decide +kernel, rfl, by decide +kernel, by decide +kernel⟩
abbrev s__law_right : Stmt := top 36
theorem sc__law_right : FnScope ["told", "text", "k"] ["told", "text"] (defScope s__law_right) := ⟨rfl, rfl, rfl, by decide +kernel, rfl, by decide +kernel, by decide +kernel⟩
def b__law_right : Env → Sto → OutS :=
  sSeq (sIf (mOr (mNot (mTest (mCall 0 m__law_same (mCons (mVar 0) (mCons (mCall 0 m__law_plain (mCons (mVar 1) (mNil))) (mNil)))))) (mTestF (m2 fNe (mVal (mComp [2] (iR1 (mCons (mVal (m2 fSub (mVal (mA fLen (mCons (mVar 0) (mNil)))) (mC (.int 1)))) (mNil))) (tName 2) (mTestF (m2 fEq (mVal (m2 fIx (mVar 0) (mVar 2))) (mCall 0 m__law_undone (mCons (mVal (m2 fIx (mVar 0) (mVal (m2 fAdd (mVar 2) (mC (.int 1)))))) (mNil))))) (mVar 2))) (mVal (mLst (mNil)))))) (sRet (mC (.bl false))) (sSkip))
    (sRet (mVal (m2 fEq (mCall 0 m__law_table (mCons (mVar 0) (mNil))) (mCall 0 m__law_table (mCons (mVar 1) (mNil))))))
def m__law_right : MF := mfun 2 3 b__law_right
abbrev s_is_word_of : Stmt := top 13
theorem sc_is_word_of : FnScope ["thing", "most", "sign"] ["thing", "most"] (defScope s_is_word_of) := ⟨rfl, rfl, rfl, by decide +kernel, rfl, by decide +kernel, by decide +kernel⟩
abbrev s_need_word : Stmt := top 14
theorem sc_need_word : FnScope ["word"] ["word"] (defScope s_need_word) := ⟨rfl, rfl, rfl, by decide +kernel, rfl, by decide +kernel, by decide +kernel⟩
abbrev s_need_two : Stmt := top 15
theorem sc_need_two : FnScope ["word", "other"] ["word", "other"] (defScope s_need_two) := ⟨rfl, rfl, rfl, by decide +kernel, rfl, by decide +kernel, by decide +kernel⟩
abbrev s_inverse_sign : Stmt := top 16
theorem sc_inverse_sign : FnScope ["sign"] ["sign"] (defScope s_inverse_sign) := ⟨rfl, rfl, rfl, by decide +kernel, rfl, by decide +kernel, by decide +kernel⟩
abbrev s_reduced_in : Stmt := top 18
theorem sc_reduced_in : FnScope ["word", "kept", "sign"] ["word"] (defScope s_reduced_in) := ⟨rfl, rfl, rfl, by decide +kernel, rfl, by decide +kernel, by decide +kernel⟩
abbrev s_inverse_in : Stmt := top 17
theorem sc_inverse_in : FnScope ["word", "sign"] ["word"] (defScope s_inverse_in) := ⟨rfl, rfl, rfl, by decide +kernel, rfl, by decide +kernel, by decide +kernel⟩
abbrev s_commutator_in : Stmt := top 19
theorem sc_commutator_in : FnScope ["word", "other"] ["word", "other"] (defScope s_commutator_in) := ⟨rfl, rfl, rfl, by decide +kernel, rfl, by decide +kernel, by decide +kernel⟩
abbrev s_commutator : Stmt := top 23
theorem sc_commutator : FnScope ["word", "other"] ["word", "other"] (defScope s_commutator) := ⟨rfl, rfl, rfl, by decide +kernel, rfl, by decide +kernel, by decide +kernel⟩
abbrev s_conjugate : Stmt := top 24
theorem sc_conjugate : FnScope ["word", "other"] ["word", "other"] (defScope s_conjugate) := ⟨rfl, rfl, rfl, by decide +kernel, rfl, by decide +kernel, by decide +kernel⟩
abbrev s_is_int : Stmt := top 6
theorem sc_is_int : FnScope ["thing"] ["thing"] (defScope s_is_int) := ⟨rfl, rfl, rfl, by decide +kernel, rfl, by decide +kernel, by decide +kernel⟩
abbrev s_within : Stmt := top 7
theorem sc_within : FnScope ["thing", "low", "high"] ["thing", "low", "high"] (defScope s_within) := ⟨rfl, rfl, rfl, by decide +kernel, rfl, by decide +kernel, by decide +kernel⟩
abbrev s_power : Stmt := top 22
theorem sc_power : FnScope ["word", "number"] ["word", "number"] (defScope s_power) := ⟨rfl, rfl, rfl, by decide +kernel, rfl, by decide +kernel, by decide +kernel⟩
def b_power : Env → Sto → OutS :=
  sSeq (sExpr (mCall 0 m_need_word (mCons (mVar 0) (mNil))))
    (sSeq (sIf (mNot (mTest (mCall 0 m_within (mCons (mVar 1) (mCons (mVal (m1 fNeg (mC (.int 12)))) (mCons (mC (.int 12)) (mNil))))))) (sRaise "BadNumber") (sSkip))
    (sRet (mCall 0 m_reduced_in (mCons (mIf (mTestF (m2 fGe (mVar 1) (mC (.int 0)))) (mVal (m2 fMul (mVar 0) (mVar 1))) (mVal (m2 fMul (mCall 0 m_inverse_in (mCons (mVar 0) (mNil))) (mVal (m1 fNeg (mVar 1)))))) (mNil)))))
def m_power : MF := mfun 2 2 b_power
abbrev s_product : Stmt := top 21
theorem sc_product : FnScope ["word", "other"] ["word", "other"] (defScope s_product) := ⟨rfl, rfl, rfl, by decide +kernel, rfl, by decide +kernel, by decide +kernel⟩
abbrev s_sums_in : Stmt := top 20
theorem sc_sums_in : FnScope ["word", "letter"] ["word"] (defScope s_sums_in) := ⟨rfl, rfl, rfl, by decide +kernel, rfl, by decide +kernel, by decide +kernel⟩
abbrev s_sums : Stmt := top 25
theorem sc_sums : FnScope ["word"] ["word"] (defScope s_sums) := ⟨rfl, rfl, rfl, by decide +kernel, rfl, by decide +kernel, by decide +kernel⟩
abbrev s__law_error : Stmt := top 37
theorem sc__law_error : FnScope ["which", "word", "other", "found", "told"] ["which", "word", "other"] (defScope s__law_error) := ⟨rfl, rfl, rfl, by decide +kernel, rfl, by decide +kernel, by decide +kernel⟩
def b__law_error : Env → Sto → OutS :=
  sSeq (sSet 3 (mC (.str [])))
    (sSeq (sTryN (sIf (mTestF (m2 fLt (mVar 0) (mC (.int 2)))) (sSet 4 (mIf (mTestF (m2 fEq (mVar 0) (mC (.int 0)))) (mCall 0 m_product (mCons (mVar 1) (mCons (mVar 2) (mNil)))) (mCall 0 m_power (mCons (mVar 1) (mCons (mVar 2) (mNil)))))) (sSet 4 (mIf (mTestF (m2 fEq (mVar 0) (mC (.int 2)))) (mCall 0 m_commutator (mCons (mVar 1) (mCons (mVar 2) (mNil)))) (mIf (mTestF (m2 fEq (mVar 0) (mC (.int 3)))) (mCall 0 m_conjugate (mCons (mVar 1) (mCons (mVar 2) (mNil)))) (mCall 0 m_sums (mCons (mVar 1) (mNil))))))) [("BadNumber", some 2), ("BadOther", some 1), ("BadWord", some 0)] [sSet 3 (mC (.str [119, 111, 114, 100])), sSet 3 (mC (.str [111, 116, 104, 101, 114])), sSet 3 (mC (.str [110, 117, 109, 98, 101, 114]))])
    (sRet (mVar 3)))
def m__law_error : MF := mfun 3 5 b__law_error
abbrev s_law : Stmt := top 38
theorem sc_law : FnScope ["script", "deck", "bout", "letters", "word", "other", "number", "text", "due", "bad", "far", "one", "sign", "which"] ["script"] (defScope s_law) := ⟨rfl, rfl, rfl, by decide +kernel, rfl, by decide +kernel, by decide +kernel⟩
def q_law_0 : Env → Sto → OutS :=
  sSet 4 (mCall 2 m__law_word (mCons (mVar 1) (mCons (mVar 3) (mCons (mVal (m2 fIx (mVal (mLst (mCons (mC (.int 8)) (mCons (mC (.int 30)) (mCons (mC (.int 60)) (mNil)))))) (mCall 2 m__law_pick (mCons (mVar 1) (mCons (mC (.int 3)) (mNil)))))) (mNil)))))
def q_law_1 : Env → Sto → OutS :=
  sIf (mOr (mNot (mTest (mCall 0 m__law_right (mCons (mCallKwP 0 0 2 [1, 0] m_product mNil (mCons (mVar 5) (mCons (mVar 4) (mNil)))) (mCons (mVal (m2 fAdd (mVar 4) (mVar 5))) (mNil)))))) (mNot (mTest (mCall 0 m__law_right (mCons (mCall 0 m_product (mCons (mVar 5) (mCons (mVar 4) (mNil)))) (mCons (mVal (m2 fAdd (mVar 5) (mVar 4))) (mNil))))))) (sRet (mC (.bl false))) (sSkip)
def q_law_2 : Env → Sto → OutS :=
  sIf (mNot (mTest (mCall 0 m__law_right (mCons (mCallKwP 0 0 2 [1, 0] m_commutator mNil (mCons (mVar 5) (mCons (mVar 4) (mNil)))) (mCons (mVal (m2 fAdd (mVal (m2 fAdd (mVal (m2 fAdd (mVar 4) (mVar 5))) (mCall 0 m__law_undone (mCons (mVar 4) (mNil))))) (mCall 0 m__law_undone (mCons (mVar 5) (mNil))))) (mNil)))))) (sRet (mC (.bl false))) (sSkip)
def q_law_3 : Env → Sto → OutS :=
  sIf (mTestF (m2 fNe (mVal (m2 fEq (mCall 0 m_commutator (mCons (mVar 4) (mCons (mVar 5) (mNil)))) (mC (.str [])))) (mVal (m2 fEq (mCall 0 m__law_table (mCons (mVal (m2 fAdd (mVar 4) (mVar 5))) (mNil))) (mCall 0 m__law_table (mCons (mVal (m2 fAdd (mVar 5) (mVar 4))) (mNil))))))) (sRet (mC (.bl false))) (sSkip)
def q_law_4 : Env → Sto → OutS :=
  sIf (mNot (mTest (mCall 0 m__law_right (mCons (mCallKwP 0 0 2 [1, 0] m_conjugate mNil (mCons (mVar 5) (mCons (mVar 4) (mNil)))) (mCons (mVal (m2 fAdd (mVal (m2 fAdd (mVar 5) (mVar 4))) (mCall 0 m__law_undone (mCons (mVar 5) (mNil))))) (mNil)))))) (sRet (mC (.bl false))) (sSkip)
def q_law_5 : Env → Sto → OutS :=
  sSet 6 (mVal (m2 fIx (mVal (mLst (mCons (mVal (m2 fSub (mCall 2 m__law_pick (mCons (mVar 1) (mCons (mC (.int 25)) (mNil)))) (mC (.int 12)))) (mCons (mVal (m2 fIx (mVal (mLst (mCons (mVal (m1 fNeg (mC (.int 12)))) (mCons (mC (.int 12)) (mCons (mC (.int 0)) (mCons (mC (.int 1)) (mCons (mVal (m1 fNeg (mC (.int 1)))) (mNil)))))))) (mCall 2 m__law_pick (mCons (mVar 1) (mCons (mC (.int 5)) (mNil)))))) (mNil))))) (mCall 2 m__law_pick (mCons (mVar 1) (mCons (mC (.int 2)) (mNil))))))
def q_law_6 : Env → Sto → OutS :=
  sSet 7 (mIf (mTestF (m2 fGe (mVar 6) (mC (.int 0)))) (mVal (m2 fMul (mVar 4) (mVar 6))) (mVal (m2 fMul (mCall 0 m__law_undone (mCons (mVar 4) (mNil))) (mVal (m1 fNeg (mVar 6))))))
def q_law_7 : Env → Sto → OutS :=
  sIf (mNot (mTest (mCall 0 m__law_right (mCons (mCallKwP 0 0 2 [1, 0] m_power mNil (mCons (mVar 6) (mCons (mVar 4) (mNil)))) (mCons (mVar 7) (mNil)))))) (sRet (mC (.bl false))) (sSkip)
def q_law_8 : Env → Sto → OutS :=
  sSet 8 (mVal (mA fTupOf (mCons (mVal (mComp [11] (iSeqM (mC (.str [97, 98, 99, 100]))) (tName 11) (tYesM) (mVal (m2 fSub (mVal (mA fLen (mCons (mVal (mComp [12] (iSeqM (mVar 4)) (tName 12) (mTestF (m2 fEq (mVar 12) (mVar 11))) (mVar 12))) (mNil)))) (mVal (mA fLen (mCons (mVal (mComp [12] (iSeqM (mVar 4)) (tName 12) (mTestF (m2 fEq (mVar 12) (mCall 0 m__law_undone (mCons (mVar 11) (mNil))))) (mVar 12))) (mNil)))))))) (mNil))))
def q_law_9 : Env → Sto → OutS :=
  sIf (mOr (mNot (mTest (mCall 0 m__law_same (mCons (mCallKw 0 0 1 m_sums mNil (mCons (mVar 4) (mNil))) (mCons (mVar 8) (mNil)))))) (mTestF (m2 fNe (mVal (mComp [13] (iR1 (mCons (mC (.int 5)) (mNil))) (tName 13) (tYesM) (mCall 0 m__law_error (mCons (mVar 13) (mCons (mVar 4) (mCons (mIf (mTestF (m2 fEq (mVar 13) (mC (.int 1)))) (mC (.int 1)) (mVar 5)) (mNil))))))) (mVal (m2 fMul (mVal (mLst (mCons (mC (.str [])) (mNil)))) (mC (.int 5))))))) (sRet (mC (.bl false))) (sSkip)
def q_law_10 : Env → Sto → OutS :=
  sSet 9 (mVal (m2 fIx (mVal (mLst (mCons (mC (.str [101])) (mCons (mVal (m2 fMul (mC (.str [97])) (mC (.int 61)))) (mCons (mC .non) (mCons (mVal (mLst (mCons (mVar 4) (mNil)))) (mCons (mTup (mCons (mVar 4) (mNil))) (mCons (mC (.int 3)) (mCons (mC (.bl true)) (mNil)))))))))) (mCall 2 m__law_pick (mCons (mVar 1) (mCons (mC (.int 7)) (mNil))))))
def q_law_11 : Env → Sto → OutS :=
  sSet 10 (mVal (m2 fIx (mVal (mLst (mCons (mC (.int 13)) (mCons (mVal (m1 fNeg (mC (.int 13)))) (mCons (mC .non) (mCons (mC (.bl true)) (mCons (mC (.str [49])) (mCons (mTup (mCons (mC (.int 1)) (mNil))) (mNil))))))))) (mCall 2 m__law_pick (mCons (mVar 1) (mCons (mC (.int 6)) (mNil))))))
def q_law_12 : Env → Sto → OutS :=
  sIf (mTestF (m2 fNe (mVal (mComp [13] (iR1 (mCons (mC (.int 5)) (mNil))) (tName 13) (tYesM) (mCall 0 m__law_error (mCons (mVar 13) (mCons (mVar 9) (mCons (mIf (mTestF (m2 fEq (mVar 13) (mC (.int 1)))) (mVar 10) (mVar 9)) (mNil))))))) (mVal (m2 fMul (mVal (mLst (mCons (mC (.str [119, 111, 114, 100])) (mNil)))) (mC (.int 5)))))) (sRet (mC (.bl false))) (sSkip)
def q_law_13 : Env → Sto → OutS :=
  sIf (mTestF (m2 fNe (mVal (mComp [13] (iR1 (mCons (mC (.int 4)) (mNil))) (tName 13) (tYesM) (mCall 0 m__law_error (mCons (mVar 13) (mCons (mVar 4) (mCons (mIf (mTestF (m2 fEq (mVar 13) (mC (.int 1)))) (mVar 10) (mVar 9)) (mNil))))))) (mVal (mLst (mCons (mC (.str [111, 116, 104, 101, 114])) (mCons (mC (.str [110, 117, 109, 98, 101, 114])) (mCons (mC (.str [111, 116, 104, 101, 114])) (mCons (mC (.str [111, 116, 104, 101, 114])) (mNil))))))))) (sRet (mC (.bl false))) (sSkip)
def q_law_14 : Env → Sto → OutS :=
  sFor (iR1 (mCons (mVal (m2 fAdd (mC (.int 2)) (mVal (mA (fII gMin) (mCons (mVal (mA fLen (mCons (mVar 0) (mNil)))) (mCons (mC (.int 4)) (mNil))))))) (mNil))) (tName 2) (sSeq (sSet 3 (mVal (m2 fAdd (mC (.int 1)) (mCall 2 m__law_pick (mCons (mVar 1) (mCons (mC (.int 4)) (mNil)))))))
    (sSeq (q_law_0)
    (sSeq (sSet 5 (mCall 2 m__law_second (mCons (mVar 1) (mCons (mVar 4) (mCons (mVar 3) (mNil))))))
    (sSeq (q_law_1)
    (sSeq (q_law_2)
    (sSeq (q_law_3)
    (sSeq (q_law_4)
    (sSeq (q_law_5)
    (sSeq (q_law_6)
    (sSeq (q_law_7)
    (sSeq (q_law_8)
    (sSeq (q_law_9)
    (sSeq (q_law_10)
    (sSeq (q_law_11)
    (sSeq (q_law_12)
    (q_law_13))))))))))))))))
def b_law : Env → Sto → OutS :=
  sSeq (sSet 1 (mCallG m__law_deck (mCons (mVar 0) (mNil))))
    (sSeq (q_law_14)
    (sRet (mC (.bl true))))
def m_law : MF := mfun 1 14 b_law
structure Gx (w : World) (K : PySem.W.Frag) (mg : Str → Option Value) : Prop where
  b_all : mg "all" = none
  b_bool : mg "bool" = none
  b_int : mg "int" = none
  b_isinstance : mg "isinstance" = none
  b_len : mg "len" = none
  b_min : mg "min" = none
  b_range : mg "range" = none
  b_reversed : mg "reversed" = none
  b_str : mg "str" = none
  b_tuple : mg "tuple" = none
  c_LETTERS : ∃ t, mg "LETTERS" = some (.str "abcd" t)
  c_MOST_POWER : ∃ t, mg "MOST_POWER" = some (.int 12 t)
  c_MOST_SIGNS : ∃ t, mg "MOST_SIGNS" = some (.int 60 t)
  c_SIGNS : ∃ t, mg "SIGNS" = some (.str "abcdABCD" t)
  e_BadNumber : EF K mg "BadNumber"
  e_BadOther : EF K mg "BadOther"
  e_BadWord : EF K mg "BadWord"
  x_BadNumber_BadNumber : XF K mg "BadNumber" "BadNumber" true
  x_BadNumber_BadOther : XF K mg "BadNumber" "BadOther" false
  x_BadNumber_BadWord : XF K mg "BadNumber" "BadWord" false
  x_BadOther_BadOther : XF K mg "BadOther" "BadOther" true
  x_BadOther_BadWord : XF K mg "BadOther" "BadWord" false
  x_BadWord_BadWord : XF K mg "BadWord" "BadWord" true
  f__law_deck : FF K mg "_law_deck" s__law_deck
  f__law_pick : FF K mg "_law_pick" s__law_pick
  f__law_word : FF K mg "_law_word" s__law_word
  f__law_undone : FF K mg "_law_undone" s__law_undone
  f__law_second : FF K mg "_law_second" s__law_second
  f__law_times : FF K mg "_law_times" s__law_times
  f__law_table : FF K mg "_law_table" s__law_table
  f__law_same : FF K mg "_law_same" s__law_same
  f__law_plain : FF K mg "_law_plain" s__law_plain
  f__law_right : FF K mg "_law_right" s__law_right
  f_is_word_of : FF K mg "is_word_of" s_is_word_of
  f_need_word : FF K mg "need_word" s_need_word
  f_need_two : FF K mg "need_two" s_need_two
  f_inverse_sign : FF K mg "inverse_sign" s_inverse_sign
  f_reduced_in : FF K mg "reduced_in" s_reduced_in
  f_inverse_in : FF K mg "inverse_in" s_inverse_in
  f_commutator_in : FF K mg "commutator_in" s_commutator_in
  f_commutator : FF K mg "commutator" s_commutator
  f_conjugate : FF K mg "conjugate" s_conjugate
  f_is_int : FF K mg "is_int" s_is_int
  f_within : FF K mg "within" s_within
  f_power : FF K mg "power" s_power
  f_product : FF K mg "product" s_product
  f_sums_in : FF K mg "sums_in" s_sums_in
  f_sums : FF K mg "sums" s_sums
  f__law_error : FF K mg "_law_error" s__law_error
  f_law : FF K mg "law" s_law
section
variable {P : Program} {w : World} {K : PySem.W.Frag} {mg : Str → Option Value} {base : Heap}
theorem d__law_deck (G : Gx w K mg) : ∀ (f : Addr) (cdv : Value) (A : Around) (outer : List PySem.Env) (s : Shared) (H : Hp) (E : XK), Room 0 (A.deeper (envOfC "_law_deck" (defScope s__law_deck) s.heap.objs.size f cdv)) →
    PSs (cxOf (L2.CX P w) P w K mg base ["script", "cell"] "_law_deck" (defScope s__law_deck) f cdv A outer s H E) (defBody s__law_deck) (TSm K mg (Wb E) b__law_deck) := by
  intro f cdv A outer s H E hr
  have tk : Takes (cxOf (L2.CX P w) P w K mg base ["script", "cell"] "_law_deck" (defScope s__law_deck) f cdv A outer s H E) (Wb E) := takes_of (X := cxOf (L2.CX P w) P w K mg base ["script", "cell"] "_law_deck" (defScope s__law_deck) f cdv A outer s H E) (E := E) rfl rfl rfl rfl
  have pp : PassesOwn (model P w) (cxOf (L2.CX P w) P w K mg base ["script", "cell"] "_law_deck" (defScope s__law_deck) f cdv A outer s H E).A (cxOf (L2.CX P w) P w K mg base ["script", "cell"] "_law_deck" (defScope s__law_deck) f cdv A outer s H E).env (cxOf (L2.CX P w) P w K mg base ["script", "cell"] "_law_deck" (defScope s__law_deck) f cdv A outer s H E).xe := passes_of rfl
  exact mss_one (ms_ret (me_new (me_lst (ma_cons (me_new (me_comp rfl sc__law_deck.nd (own := [("cell", 1)]) (mi_any (me_val (me_slice (me_var 0) (mp_none) (mp_some (me_int))))) (blkOk_by (by kernel_rfl)) (fun _ _ _ _ _ => mg_nameV sc__law_deck.nd rfl (by first | exact Or.inl rfl | exact Or.inr rfl) (by decide)) (fun _ _ _ _ _ => mt_yes) (fun _ _ _ _ _ => me_val (me_op (pe_op op_mod (me_val (me_cb (pe_callTy call_int1 (by rfl) G.b_int (by decide +kernel) (ma_cons (me_var 1) (ma_nil))) cf_int)) (me_val (me_op (pe_op op_pow (me_int) (me_int)) of_pow))) of_mod)))) (ma_cons (me_int) (ma_cons (me_int) (ma_nil)))))))
theorem k__law_deck (G : Gx w K mg) : FnM P w K mg base "_law_deck" s__law_deck ["script"] 1 m__law_deck := G.f__law_deck.fnm sc__law_deck (d__law_deck G)
theorem d__law_pick (G : Gx w K mg) : ∀ (f : Addr) (cdv : Value) (A : Around) (outer : List PySem.Env) (s : Shared) (H : Hp) (E : XK), Room 0 (A.deeper (envOfC "_law_pick" (defScope s__law_pick) s.heap.objs.size f cdv)) →
    PSs (cxOf (L2.CX P w) P w K mg base ["deck", "many", "cells", "cell", "found"] "_law_pick" (defScope s__law_pick) f cdv A outer s H E) (defBody s__law_pick) (TSm K mg (Wb E) b__law_pick) := by
  intro f cdv A outer s H E hr
  have tk : Takes (cxOf (L2.CX P w) P w K mg base ["deck", "many", "cells", "cell", "found"] "_law_pick" (defScope s__law_pick) f cdv A outer s H E) (Wb E) := takes_of (X := cxOf (L2.CX P w) P w K mg base ["deck", "many", "cells", "cell", "found"] "_law_pick" (defScope s__law_pick) f cdv A outer s H E) (E := E) rfl rfl rfl rfl
  have pp : PassesOwn (model P w) (cxOf (L2.CX P w) P w K mg base ["deck", "many", "cells", "cell", "found"] "_law_pick" (defScope s__law_pick) f cdv A outer s H E).A (cxOf (L2.CX P w) P w K mg base ["deck", "many", "cells", "cell", "found"] "_law_pick" (defScope s__law_pick) f cdv A outer s H E).env (cxOf (L2.CX P w) P w K mg base ["deck", "many", "cells", "cell", "found"] "_law_pick" (defScope s__law_pick) f cdv A outer s H E).xe := passes_of rfl
  exact mss_cons (ms_set (i := 2) sc__law_pick.nd rfl (by first | exact Or.inl rfl | exact Or.inr rfl) (me_new (me_op (pe_ix ix_seq (me_var 0) (me_int) (fun _ _ => rfl)) of_ix)))
    (mss_cons (ms_if ((mw_and (mt_op (pt_cmpR op_lt (me_val (me_op (pe_ix ix_seq (me_var 0) (me_int) (fun _ _ => rfl)) of_ix)) (me_val (me_op (pe_op op_pow (me_int) (me_int)) of_pow)) (nomark _)) of_lt) (mw_and1 (mt_op (pt_cmpR (op_neD hr.units) (me_var 2) (me_val (me_lst (ma_nil))) (nomark _)) of_ne))).pt) (mss_cons (ms_set (i := 3) sc__law_pick.nd rfl (by first | exact Or.inl rfl | exact Or.inr rfl) (me_val (me_bm (pe_bm PySem.F.plainAttrs_list PySem.F.slot_list_pop PySem.F.type_list_pop mt_popAt (me_var 2) (ma_cons (me_int) (ma_nil))) ty_lst mf_popAt)))
    (mss_one (ms_if (mt_op (pt_cmpR op_ge (me_var 3) (me_val (me_op (pe_op op_pow (me_int) (me_int)) of_pow)) (nomark _)) of_ge) (mss_one (ms_asg (me_var 3) (mg_subL (me_var 0) (me_int)))) (mss_one (ms_asg (me_val (me_op (pe_op op_mod (me_val (me_cb (pe_callTy call_int1 (by rfl) G.b_int (by decide +kernel) (ma_cons (me_val (me_op (pe_op op_addA (me_val (me_op (pe_op op_addA (me_val (me_op (pe_op op_mulA (me_val (me_op (pe_ix ix_seq (me_var 0) (me_int) (fun _ _ => rfl)) of_ix)) (me_int)) of_mul)) (me_val (me_op (pe_op op_mulA (me_val (me_op (pe_op op_mod (me_val (me_cb (pe_callTy call_int1 (by rfl) G.b_int (by decide +kernel) (ma_cons (me_var 3) (ma_nil))) cf_int)) (me_int)) of_mod)) (me_int)) of_mul))) of_add)) (me_int)) of_add)) (ma_nil))) cf_int)) (me_int)) of_mod)) (mg_subL (me_var 0) (me_int))))))) (mss_nil))
    (mss_cons (ms_if (mt_op (pt_cmpR op_ge (me_val (me_op (pe_ix ix_seq (me_var 0) (me_int) (fun _ _ => rfl)) of_ix)) (me_val (me_op (pe_op op_pow (me_int) (me_int)) of_pow)) (nomark _)) of_ge) (mss_cons (ms_set (i := 4) sc__law_pick.nd rfl (by first | exact Or.inl rfl | exact Or.inr rfl) (me_val (me_op (pe_op op_mod (me_val (me_cb (pe_callTy call_int1 (by rfl) G.b_int (by decide +kernel) (ma_cons (me_val (me_op (pe_ix ix_seq (me_var 0) (me_int) (fun _ _ => rfl)) of_ix)) (ma_nil))) cf_int)) (me_var 1)) of_mod)))
    (mss_cons (ms_asg (me_val (me_op (pe_op op_fdiv (me_val (me_op (pe_ix ix_seq (me_var 0) (me_int) (fun _ _ => rfl)) of_ix)) (me_var 1)) of_div)) (mg_subL (me_var 0) (me_int)))
    (mss_one (ms_ret (me_var 4))))) (mss_nil))
    (mss_cons (ms_asg (me_val (me_op (pe_op op_mod (me_val (me_cb (pe_callTy call_int1 (by rfl) G.b_int (by decide +kernel) (ma_cons (me_val (me_op (pe_op op_addA (me_val (me_op (pe_op op_mulA (me_val (me_op (pe_ix ix_seq (me_var 0) (me_int) (fun _ _ => rfl)) of_ix)) (me_int)) of_mul)) (me_int)) of_add)) (ma_nil))) cf_int)) (me_int)) of_mod)) (mg_subL (me_var 0) (me_int)))
    (mss_one (ms_ret (me_val (me_op (pe_op op_mod (me_val (me_cb (pe_callTy call_int1 (by rfl) G.b_int (by decide +kernel) (ma_cons (me_val (me_op (pe_op op_fdiv (me_val (me_op (pe_ix ix_seq (me_var 0) (me_int) (fun _ _ => rfl)) of_ix)) (me_int)) of_div)) (ma_nil))) cf_int)) (me_var 1)) of_mod)))))))
theorem k__law_pick (G : Gx w K mg) : FnM P w K mg base "_law_pick" s__law_pick ["deck", "many"] 1 m__law_pick := G.f__law_pick.fnm sc__law_pick (d__law_pick G)
theorem d__law_word (G : Gx w K mg) (h__law_pick : FnM P w K mg base "_law_pick" s__law_pick ["deck", "many"] 1 m__law_pick) : ∀ (f : Addr) (cdv : Value) (A : Around) (outer : List PySem.Env) (s : Shared) (H : Hp) (E : XK), Room 1 (A.deeper (envOfC "_law_word" (defScope s__law_word) s.heap.objs.size f cdv)) →
    PSs (cxOf (L2.CX P w) P w K mg base ["deck", "letters", "most", "signs", "k"] "_law_word" (defScope s__law_word) f cdv A outer s H E) (defBody s__law_word) (TSm K mg (Wb E) b__law_word) := by
  intro f cdv A outer s H E hr
  have tk : Takes (cxOf (L2.CX P w) P w K mg base ["deck", "letters", "most", "signs", "k"] "_law_word" (defScope s__law_word) f cdv A outer s H E) (Wb E) := takes_of (X := cxOf (L2.CX P w) P w K mg base ["deck", "letters", "most", "signs", "k"] "_law_word" (defScope s__law_word) f cdv A outer s H E) (E := E) rfl rfl rfl rfl
  have pp : PassesOwn (model P w) (cxOf (L2.CX P w) P w K mg base ["deck", "letters", "most", "signs", "k"] "_law_word" (defScope s__law_word) f cdv A outer s H E).A (cxOf (L2.CX P w) P w K mg base ["deck", "letters", "most", "signs", "k"] "_law_word" (defScope s__law_word) f cdv A outer s H E).env (cxOf (L2.CX P w) P w K mg base ["deck", "letters", "most", "signs", "k"] "_law_word" (defScope s__law_word) f cdv A outer s H E).xe := passes_of rfl
  exact mss_cons (ms_set (i := 3) sc__law_word.nd rfl (by first | exact Or.inl rfl | exact Or.inr rfl) (me_val (me_op (pe_op op_addA (me_val (me_slice (me_str (by rfl)) (mp_none) (mp_some (me_var 1)))) (me_val (me_slice (me_str (by rfl)) (mp_none) (mp_some (me_var 1))))) of_add)))
    (mss_one (ms_ret (me_val (me_bm (pe_bm PySem.F.plainAttrs_str PySem.F.slot_str_join PySem.F.type_str_join mt_join (me_str (by rfl)) (ma_cons (me_val (me_comp rfl sc__law_word.nd (own := [("k", 4)]) (mi_range1 (pi_range1 (by rfl) G.b_range (ma_cons (me_call 2 h__law_pick tk (hr.mono (by omega)) (by rfl) (fun _ _ _ _ _ _ us hl => match us, hl with | [_, _], _ => rfl) (ma_cons (me_var 0) (ma_cons (me_val (me_op (pe_op op_addA (me_var 2) (me_int)) of_add)) (ma_nil)))) (ma_nil)))) (blkOk_by (by kernel_rfl)) (fun _ _ _ _ _ => mg_nameV sc__law_word.nd rfl (by first | exact Or.inl rfl | exact Or.inr rfl) (by decide)) (fun _ _ _ _ _ => mt_yes) (fun _ _ _ _ _ => me_val (me_op (pe_ix ix_seq (me_var 3) (me_call 2 h__law_pick takes0 (hr.mono (by omega)) (by rfl) (fun _ _ _ _ _ _ us hl => match us, hl with | [_, _], _ => rfl) (ma_cons (me_var 0) (ma_cons (me_val (me_cb (pe_callB call_lenA (by rfl) G.b_len (by decide +kernel) (ma_cons (me_var 3) (ma_nil))) cf_len)) (ma_nil)))) (fun _ _ => rfl)) of_ix)))) (ma_nil))) ty_str mf_join))))
theorem k__law_word (G : Gx w K mg) (h__law_pick : FnM P w K mg base "_law_pick" s__law_pick ["deck", "many"] 1 m__law_pick) : FnM P w K mg base "_law_word" s__law_word ["deck", "letters", "most"] 2 m__law_word := G.f__law_word.fnm sc__law_word (d__law_word G h__law_pick)
theorem d__law_undone (G : Gx w K mg) : ∀ (f : Addr) (cdv : Value) (A : Around) (outer : List PySem.Env) (s : Shared) (H : Hp) (E : XK), Room 0 (A.deeper (envOfC "_law_undone" (defScope s__law_undone) s.heap.objs.size f cdv)) →
    PSs (cxOf (L2.CX P w) P w K mg base ["word", "sign"] "_law_undone" (defScope s__law_undone) f cdv A outer s H E) (defBody s__law_undone) (TSm K mg (Wb E) b__law_undone) := by
  intro f cdv A outer s H E hr
  have tk : Takes (cxOf (L2.CX P w) P w K mg base ["word", "sign"] "_law_undone" (defScope s__law_undone) f cdv A outer s H E) (Wb E) := takes_of (X := cxOf (L2.CX P w) P w K mg base ["word", "sign"] "_law_undone" (defScope s__law_undone) f cdv A outer s H E) (E := E) rfl rfl rfl rfl
  have pp : PassesOwn (model P w) (cxOf (L2.CX P w) P w K mg base ["word", "sign"] "_law_undone" (defScope s__law_undone) f cdv A outer s H E).A (cxOf (L2.CX P w) P w K mg base ["word", "sign"] "_law_undone" (defScope s__law_undone) f cdv A outer s H E).env (cxOf (L2.CX P w) P w K mg base ["word", "sign"] "_law_undone" (defScope s__law_undone) f cdv A outer s H E).xe := passes_of rfl
  exact mss_one (ms_ret (me_val (me_bm (pe_bm PySem.F.plainAttrs_str PySem.F.slot_str_join PySem.F.type_str_join mt_join (me_str (by rfl)) (ma_cons (me_val (me_comp rfl sc__law_undone.nd (own := [("sign", 1)]) (mi_any (me_val (me_revX (me_var 0)))) (blkOk_by (by kernel_rfl)) (fun _ _ _ _ _ => mg_nameV sc__law_undone.nd rfl (by first | exact Or.inl rfl | exact Or.inr rfl) (by decide)) (fun _ _ _ _ _ => mt_yes) (fun _ _ _ _ _ => me_val (me_op (pe_ix ix_seq (me_str (by rfl)) (me_val (me_bm (pe_bm PySem.F.plainAttrs_str PySem.F.slot_str_index PySem.F.type_str_index mt_sindex (me_str (by rfl)) (ma_cons (me_var 1) (ma_nil))) ty_str mf_sindex)) (fun _ _ => rfl)) of_ix)))) (ma_nil))) ty_str mf_join)))
theorem k__law_undone (G : Gx w K mg) : FnM P w K mg base "_law_undone" s__law_undone ["word"] 1 m__law_undone := G.f__law_undone.fnm sc__law_undone (d__law_undone G)
theorem d__law_second (G : Gx w K mg) (h__law_pick : FnM P w K mg base "_law_pick" s__law_pick ["deck", "many"] 1 m__law_pick) (h__law_undone : FnM P w K mg base "_law_undone" s__law_undone ["word"] 1 m__law_undone) (h__law_word : FnM P w K mg base "_law_word" s__law_word ["deck", "letters", "most"] 2 m__law_word) : ∀ (f : Addr) (cdv : Value) (A : Around) (outer : List PySem.Env) (s : Shared) (H : Hp) (E : XK), Room 2 (A.deeper (envOfC "_law_second" (defScope s__law_second) s.heap.objs.size f cdv)) →
    PSs (cxOf (L2.CX P w) P w K mg base ["deck", "word", "letters", "kind"] "_law_second" (defScope s__law_second) f cdv A outer s H E) (defBody s__law_second) (TSm K mg (Wb E) b__law_second) := by
  intro f cdv A outer s H E hr
  have tk : Takes (cxOf (L2.CX P w) P w K mg base ["deck", "word", "letters", "kind"] "_law_second" (defScope s__law_second) f cdv A outer s H E) (Wb E) := takes_of (X := cxOf (L2.CX P w) P w K mg base ["deck", "word", "letters", "kind"] "_law_second" (defScope s__law_second) f cdv A outer s H E) (E := E) rfl rfl rfl rfl
  have pp : PassesOwn (model P w) (cxOf (L2.CX P w) P w K mg base ["deck", "word", "letters", "kind"] "_law_second" (defScope s__law_second) f cdv A outer s H E).A (cxOf (L2.CX P w) P w K mg base ["deck", "word", "letters", "kind"] "_law_second" (defScope s__law_second) f cdv A outer s H E).env (cxOf (L2.CX P w) P w K mg base ["deck", "word", "letters", "kind"] "_law_second" (defScope s__law_second) f cdv A outer s H E).xe := passes_of rfl
  exact mss_cons (ms_set (i := 3) sc__law_second.nd rfl (by first | exact Or.inl rfl | exact Or.inr rfl) (me_call 2 h__law_pick tk (hr.mono (by omega)) (by rfl) (fun _ _ _ _ _ _ us hl => match us, hl with | [_, _], _ => rfl) (ma_cons (me_var 0) (ma_cons (me_int) (ma_nil)))))
    (mss_cons (ms_if (mt_op (pt_cmpR (op_eqD hr.units) (me_var 3) (me_int) (nomark _)) of_eq) (mss_one (ms_ret (me_call 0 h__law_undone tk (hr.mono (by omega)) (by rfl) (fun _ _ _ _ _ _ us hl => match us, hl with | [_], _ => rfl) (ma_cons (me_var 1) (ma_nil))))) (mss_nil))
    (mss_cons (ms_if (mt_op (pt_cmpR (op_eqD hr.units) (me_var 3) (me_int) (nomark _)) of_eq) (mss_one (ms_ret (me_val (me_op (pe_op op_addA (me_call 0 h__law_undone tk (hr.mono (by omega)) (by rfl) (fun _ _ _ _ _ _ us hl => match us, hl with | [_], _ => rfl) (ma_cons (me_val (me_slice (me_var 1) (mp_some (me_call 2 h__law_pick tk (hr.mono (by omega)) (by rfl) (fun _ _ _ _ _ _ us hl => match us, hl with | [_, _], _ => rfl) (ma_cons (me_var 0) (ma_cons (me_val (me_op (pe_op op_addA (me_val (me_cb (pe_callB call_lenA (by rfl) G.b_len (by decide +kernel) (ma_cons (me_var 1) (ma_nil))) cf_len)) (me_int)) of_add)) (ma_nil))))) (mp_none))) (ma_nil))) (me_val (me_slice (me_call 2 h__law_word tk (hr.mono (by omega)) (by rfl) (fun _ _ _ _ _ _ us hl => match us, hl with | [_, _, _], _ => rfl) (ma_cons (me_var 0) (ma_cons (me_var 2) (ma_cons (me_int) (ma_nil))))) (mp_none) (mp_some (me_val (me_op (pe_op op_sub (me_int) (me_val (me_cb (pe_callB call_lenA (by rfl) G.b_len (by decide +kernel) (ma_cons (me_var 1) (ma_nil))) cf_len))) of_sub)))))) of_add)))) (mss_nil))
    (mss_cons (ms_if (mt_op (pt_cmpR (op_eqD hr.units) (me_var 3) (me_int) (nomark _)) of_eq) (mss_one (ms_ret (me_var 1))) (mss_nil))
    (mss_one (ms_ret (me_call 2 h__law_word tk (hr.mono (by omega)) (by rfl) (fun _ _ _ _ _ _ us hl => match us, hl with | [_, _, _], _ => rfl) (ma_cons (me_var 0) (ma_cons (me_var 2) (ma_cons (me_val (me_op (pe_ix ix_seq (me_val (me_lst (ma_cons (me_int) (ma_cons (me_int) (ma_cons (me_int) (ma_nil)))))) (me_call 2 h__law_pick tk (hr.mono (by omega)) (by rfl) (fun _ _ _ _ _ _ us hl => match us, hl with | [_, _], _ => rfl) (ma_cons (me_var 0) (ma_cons (me_int) (ma_nil)))) (fun _ _ => rfl)) of_ix)) (ma_nil))))))))))
theorem k__law_second (G : Gx w K mg) (h__law_pick : FnM P w K mg base "_law_pick" s__law_pick ["deck", "many"] 1 m__law_pick) (h__law_undone : FnM P w K mg base "_law_undone" s__law_undone ["word"] 1 m__law_undone) (h__law_word : FnM P w K mg base "_law_word" s__law_word ["deck", "letters", "most"] 2 m__law_word) : FnM P w K mg base "_law_second" s__law_second ["deck", "word", "letters"] 3 m__law_second := G.f__law_second.fnm sc__law_second (d__law_second G h__law_pick h__law_undone h__law_word)
theorem d__law_times (G : Gx w K mg) : ∀ (f : Addr) (cdv : Value) (A : Around) (outer : List PySem.Env) (s : Shared) (H : Hp) (E : XK), Room 0 (A.deeper (envOfC "_law_times" (defScope s__law_times) s.heap.objs.size f cdv)) →
    PSs (cxOf (L2.CX P w) P w K mg base ["one", "two", "a", "b", "c", "d", "e", "f", "g", "h"] "_law_times" (defScope s__law_times) f cdv A outer s H E) (defBody s__law_times) (TSm K mg (Wb E) b__law_times) := by
  intro f cdv A outer s H E hr
  have tk : Takes (cxOf (L2.CX P w) P w K mg base ["one", "two", "a", "b", "c", "d", "e", "f", "g", "h"] "_law_times" (defScope s__law_times) f cdv A outer s H E) (Wb E) := takes_of (X := cxOf (L2.CX P w) P w K mg base ["one", "two", "a", "b", "c", "d", "e", "f", "g", "h"] "_law_times" (defScope s__law_times) f cdv A outer s H E) (E := E) rfl rfl rfl rfl
  have pp : PassesOwn (model P w) (cxOf (L2.CX P w) P w K mg base ["one", "two", "a", "b", "c", "d", "e", "f", "g", "h"] "_law_times" (defScope s__law_times) f cdv A outer s H E).A (cxOf (L2.CX P w) P w K mg base ["one", "two", "a", "b", "c", "d", "e", "f", "g", "h"] "_law_times" (defScope s__law_times) f cdv A outer s H E).env (cxOf (L2.CX P w) P w K mg base ["one", "two", "a", "b", "c", "d", "e", "f", "g", "h"] "_law_times" (defScope s__law_times) f cdv A outer s H E).xe := passes_of rfl
  exact mss_cons (ms_asg (me_var 0) (mg_any (mg_tup rfl (mgs_cons (mg_name sc__law_times.nd rfl (by first | exact Or.inl rfl | exact Or.inr rfl)) (mgs_cons (mg_name sc__law_times.nd rfl (by first | exact Or.inl rfl | exact Or.inr rfl)) (mgs_cons (mg_name sc__law_times.nd rfl (by first | exact Or.inl rfl | exact Or.inr rfl)) (mgs_cons (mg_name sc__law_times.nd rfl (by first | exact Or.inl rfl | exact Or.inr rfl)) (mgs_nil)))))) (nx_tup (nxs_cons nx_name (nxs_cons nx_name (nxs_cons nx_name (nxs_cons nx_name nxs_nil)))))))
    (mss_cons (ms_asg (me_var 1) (mg_any (mg_tup rfl (mgs_cons (mg_name sc__law_times.nd rfl (by first | exact Or.inl rfl | exact Or.inr rfl)) (mgs_cons (mg_name sc__law_times.nd rfl (by first | exact Or.inl rfl | exact Or.inr rfl)) (mgs_cons (mg_name sc__law_times.nd rfl (by first | exact Or.inl rfl | exact Or.inr rfl)) (mgs_cons (mg_name sc__law_times.nd rfl (by first | exact Or.inl rfl | exact Or.inr rfl)) (mgs_nil)))))) (nx_tup (nxs_cons nx_name (nxs_cons nx_name (nxs_cons nx_name (nxs_cons nx_name nxs_nil)))))))
    (mss_one (ms_ret (me_tup (ma_cons (me_val (me_op (pe_op op_addA (me_val (me_op (pe_op op_mulA (me_var 2) (me_var 6)) of_mul)) (me_val (me_op (pe_op op_mulA (me_var 3) (me_var 8)) of_mul))) of_add)) (ma_cons (me_val (me_op (pe_op op_addA (me_val (me_op (pe_op op_mulA (me_var 2) (me_var 7)) of_mul)) (me_val (me_op (pe_op op_mulA (me_var 3) (me_var 9)) of_mul))) of_add)) (ma_cons (me_val (me_op (pe_op op_addA (me_val (me_op (pe_op op_mulA (me_var 4) (me_var 6)) of_mul)) (me_val (me_op (pe_op op_mulA (me_var 5) (me_var 8)) of_mul))) of_add)) (ma_cons (me_val (me_op (pe_op op_addA (me_val (me_op (pe_op op_mulA (me_var 4) (me_var 7)) of_mul)) (me_val (me_op (pe_op op_mulA (me_var 5) (me_var 9)) of_mul))) of_add)) (ma_nil)))))))))
theorem k__law_times (G : Gx w K mg) : FnM P w K mg base "_law_times" s__law_times ["one", "two"] 1 m__law_times := G.f__law_times.fnm sc__law_times (d__law_times G)
theorem d__law_table (G : Gx w K mg) (h__law_times : FnM P w K mg base "_law_times" s__law_times ["one", "two"] 1 m__law_times) : ∀ (f : Addr) (cdv : Value) (A : Around) (outer : List PySem.Env) (s : Shared) (H : Hp) (E : XK), Room 1 (A.deeper (envOfC "_law_table" (defScope s__law_table) s.heap.objs.size f cdv)) →
    PSs (cxOf (L2.CX P w) P w K mg base ["word", "found", "sign", "k", "bout"] "_law_table" (defScope s__law_table) f cdv A outer s H E) (defBody s__law_table) (TSm K mg (Wb E) b__law_table) := by
  intro f cdv A outer s H E hr
  have tk : Takes (cxOf (L2.CX P w) P w K mg base ["word", "found", "sign", "k", "bout"] "_law_table" (defScope s__law_table) f cdv A outer s H E) (Wb E) := takes_of (X := cxOf (L2.CX P w) P w K mg base ["word", "found", "sign", "k", "bout"] "_law_table" (defScope s__law_table) f cdv A outer s H E) (E := E) rfl rfl rfl rfl
  have pp : PassesOwn (model P w) (cxOf (L2.CX P w) P w K mg base ["word", "found", "sign", "k", "bout"] "_law_table" (defScope s__law_table) f cdv A outer s H E).A (cxOf (L2.CX P w) P w K mg base ["word", "found", "sign", "k", "bout"] "_law_table" (defScope s__law_table) f cdv A outer s H E).env (cxOf (L2.CX P w) P w K mg base ["word", "found", "sign", "k", "bout"] "_law_table" (defScope s__law_table) f cdv A outer s H E).xe := passes_of rfl
  exact mss_cons (ms_set (i := 1) sc__law_table.nd rfl (by first | exact Or.inl rfl | exact Or.inr rfl) (me_tup (ma_cons (me_int) (ma_cons (me_int) (ma_cons (me_int) (ma_cons (me_int) (ma_nil)))))))
    (mss_cons (ms_for pp rfl (mi_any (me_var 0)) (mg_name sc__law_table.nd rfl (by first | exact Or.inl rfl | exact Or.inr rfl)) (mss_cons (ms_set (i := 3) sc__law_table.nd rfl (by first | exact Or.inl rfl | exact Or.inr rfl) (me_val (me_bm (pe_bm PySem.F.plainAttrs_str PySem.F.slot_str_index PySem.F.type_str_index mt_sindex (me_str (by rfl)) (ma_cons (me_var 2) (ma_nil))) ty_str mf_sindex)))
    (mss_cons (ms_set (i := 4) sc__law_table.nd rfl (by first | exact Or.inl rfl | exact Or.inr rfl) (me_if (mt_op (pt_cmpR op_lt (me_var 3) (me_int) (nomark _)) of_lt) (me_val (me_op (pe_op op_mulA (me_int) (me_var 3)) of_mul)) (me_val (me_op (pe_op op_sub (me_val (me_op (pe_op op_mulA (me_int) (me_var 3)) of_mul)) (me_int)) of_sub))))
    (mss_one (ms_set (i := 1) sc__law_table.nd rfl (by first | exact Or.inl rfl | exact Or.inr rfl) (me_call 0 h__law_times tk (hr.mono (by omega)) (by rfl) (fun _ _ _ _ _ _ us hl => match us, hl with | [_, _], _ => rfl) (ma_cons (me_call 0 h__law_times tk (hr.mono (by omega)) (by rfl) (fun _ _ _ _ _ _ us hl => match us, hl with | [_, _], _ => rfl) (ma_cons (me_call 0 h__law_times tk (hr.mono (by omega)) (by rfl) (fun _ _ _ _ _ _ us hl => match us, hl with | [_, _], _ => rfl) (ma_cons (me_var 1) (ma_cons (me_tup (ma_cons (me_int) (ma_cons (me_var 4) (ma_cons (me_int) (ma_cons (me_int) (ma_nil)))))) (ma_nil)))) (ma_cons (me_tup (ma_cons (me_int) (ma_cons (me_int) (ma_cons (me_if (mt_op (pt_cmpR op_lt (me_var 3) (me_int) (nomark _)) of_lt) (me_int) (me_val (me_u (pe_un un_neg (me_int)) of_neg))) (ma_cons (me_int) (ma_nil)))))) (ma_nil)))) (ma_cons (me_tup (ma_cons (me_int) (ma_cons (me_val (me_u (pe_un un_neg (me_var 4)) of_neg)) (ma_cons (me_int) (ma_cons (me_int) (ma_nil)))))) (ma_nil)))))))))
    (mss_one (ms_ret (me_var 1))))
theorem k__law_table (G : Gx w K mg) (h__law_times : FnM P w K mg base "_law_times" s__law_times ["one", "two"] 1 m__law_times) : FnM P w K mg base "_law_table" s__law_table ["word"] 2 m__law_table := G.f__law_table.fnm sc__law_table (d__law_table G h__law_times)
theorem d__law_same (G : Gx w K mg) : ∀ (f : Addr) (cdv : Value) (A : Around) (outer : List PySem.Env) (s : Shared) (H : Hp) (E : XK), Room 0 (A.deeper (envOfC "_law_same" (defScope s__law_same) s.heap.objs.size f cdv)) →
    PSs (cxOf (L2.CX P w) P w K mg base ["told", "due", "waiting", "one", "two", "k"] "_law_same" (defScope s__law_same) f cdv A outer s H E) (defBody s__law_same) (TSm K mg (Wb E) b__law_same) := by
  intro f cdv A outer s H E hr
  have tk : Takes (cxOf (L2.CX P w) P w K mg base ["told", "due", "waiting", "one", "two", "k"] "_law_same" (defScope s__law_same) f cdv A outer s H E) (Wb E) := takes_of (X := cxOf (L2.CX P w) P w K mg base ["told", "due", "waiting", "one", "two", "k"] "_law_same" (defScope s__law_same) f cdv A outer s H E) (E := E) rfl rfl rfl rfl
  have pp : PassesOwn (model P w) (cxOf (L2.CX P w) P w K mg base ["told", "due", "waiting", "one", "two", "k"] "_law_same" (defScope s__law_same) f cdv A outer s H E).A (cxOf (L2.CX P w) P w K mg base ["told", "due", "waiting", "one", "two", "k"] "_law_same" (defScope s__law_same) f cdv A outer s H E).env (cxOf (L2.CX P w) P w K mg base ["told", "due", "waiting", "one", "two", "k"] "_law_same" (defScope s__law_same) f cdv A outer s H E).xe := passes_of rfl
  exact mss_cons (ms_set (i := 2) sc__law_same.nd rfl (by first | exact Or.inl rfl | exact Or.inr rfl) (me_new (me_lst (ma_cons (me_tup (ma_cons (me_var 0) (ma_cons (me_var 1) (ma_nil)))) (ma_nil)))))
    (mss_cons (ms_while pp (mt_op (pt_cmpR (op_neD hr.units) (me_var 2) (me_val (me_lst (ma_nil))) (nomark _)) of_ne) (mss_cons (ms_asg (me_val (me_bm0 (pe_bm0 PySem.F.plainAttrs_list PySem.F.slot_list_pop PySem.F.type_list_pop mt_pop (me_var 2)) ty_lst mf_pop)) (mg_any (mg_tup rfl (mgs_cons (mg_name sc__law_same.nd rfl (by first | exact Or.inl rfl | exact Or.inr rfl)) (mgs_cons (mg_name sc__law_same.nd rfl (by first | exact Or.inl rfl | exact Or.inr rfl)) (mgs_nil)))) (nx_tup (nxs_cons nx_name (nxs_cons nx_name nxs_nil)))))
    (mss_one (ms_if (mt_val (me_isi .tup (by rfl) G.b_isinstance (by rfl) G.b_tuple (by decide +kernel) (me_var 4))) (mss_cons (ms_if ((mw_or (mt_not (mt_val (me_isi .tup (by rfl) G.b_isinstance (by rfl) G.b_tuple (by decide +kernel) (me_var 3)))) (mw_or1 (mt_op (pt_cmpR (op_neD hr.units) (me_val (me_cb (pe_callB call_lenA (by rfl) G.b_len (by decide +kernel) (ma_cons (me_var 3) (ma_nil))) cf_len)) (me_val (me_cb (pe_callB call_lenA (by rfl) G.b_len (by decide +kernel) (ma_cons (me_var 4) (ma_nil))) cf_len)) (nomark _)) of_ne))).pt) (mss_one (ms_ret (me_bl))) (mss_nil))
    (mss_one (ms_expr (me_val (me_bm (pe_bm PySem.F.plainAttrs_list PySem.F.slot_list_extend PySem.F.type_list_extend mt_extend (me_var 2) (ma_cons (me_val (me_comp rfl sc__law_same.nd (own := [("k", 5)]) (mi_range1 (pi_range1 (by rfl) G.b_range (ma_cons (me_val (me_cb (pe_callB call_lenA (by rfl) G.b_len (by decide +kernel) (ma_cons (me_var 4) (ma_nil))) cf_len)) (ma_nil)))) (blkOk_by (by kernel_rfl)) (fun _ _ _ _ _ => mg_nameV sc__law_same.nd rfl (by first | exact Or.inl rfl | exact Or.inr rfl) (by decide)) (fun _ _ _ _ _ => mt_yes) (fun _ _ _ _ _ => me_tup (ma_cons (me_val (me_op (pe_ix ix_seq (me_var 3) (me_var 5) (fun _ _ => rfl)) of_ix)) (ma_cons (me_val (me_op (pe_ix ix_seq (me_var 4) (me_var 5) (fun _ _ => rfl)) of_ix)) (ma_nil)))))) (ma_nil))) ty_lst mf_extend))))) (mss_one (ms_if (mt_op (pt_cmpR op_isG (me_var 4) (me_non) (nomark _)) of_is) (mss_one (ms_if (mt_op (pt_cmpR op_isNotG (me_var 3) (me_non) (nomark _)) of_isNot) (mss_one (ms_ret (me_bl))) (mss_nil))) (mss_one (ms_if (mt_val (me_isi .bl (by rfl) G.b_isinstance (by rfl) G.b_bool (by decide +kernel) (me_var 4))) (mss_one (ms_if ((mw_or (mt_not (mt_val (me_isi .bl (by rfl) G.b_isinstance (by rfl) G.b_bool (by decide +kernel) (me_var 3)))) (mw_or1 (mt_op (pt_cmpR (op_neD hr.units) (me_var 3) (me_var 4) (nomark _)) of_ne))).pt) (mss_one (ms_ret (me_bl))) (mss_nil))) (mss_one (ms_if (mt_val (me_isi .str (by rfl) G.b_isinstance (by rfl) G.b_str (by decide +kernel) (me_var 4))) (mss_one (ms_if ((mw_or (mt_not (mt_val (me_isi .str (by rfl) G.b_isinstance (by rfl) G.b_str (by decide +kernel) (me_var 3)))) (mw_or1 (mt_op (pt_cmpR (op_neD hr.units) (me_var 3) (me_var 4) (nomark _)) of_ne))).pt) (mss_one (ms_ret (me_bl))) (mss_nil))) (mss_one (ms_if ((mw_or (mt_not (mt_val (me_isi .int (by rfl) G.b_isinstance (by rfl) G.b_int (by decide +kernel) (me_var 3)))) (mw_or (mt_val (me_isi .bl (by rfl) G.b_isinstance (by rfl) G.b_bool (by decide +kernel) (me_var 3))) (mw_or1 (mt_op (pt_cmpR (op_neD hr.units) (me_var 3) (me_var 4) (nomark _)) of_ne)))).pt) (mss_one (ms_ret (me_bl))) (mss_nil)))))))))))))
    (mss_one (ms_ret (me_bl))))
theorem k__law_same (G : Gx w K mg) : FnM P w K mg base "_law_same" s__law_same ["told", "due"] 1 m__law_same := G.f__law_same.fnm sc__law_same (d__law_same G)
theorem d__law_plain (G : Gx w K mg) (h__law_undone : FnM P w K mg base "_law_undone" s__law_undone ["word"] 1 m__law_undone) : ∀ (f : Addr) (cdv : Value) (A : Around) (outer : List PySem.Env) (s : Shared) (H : Hp) (E : XK), Room 1 (A.deeper (envOfC "_law_plain" (defScope s__law_plain) s.heap.objs.size f cdv)) →
    PSs (cxOf (L2.CX P w) P w K mg base ["word", "kept", "sign"] "_law_plain" (defScope s__law_plain) f cdv A outer s H E) (defBody s__law_plain) (TSm K mg (Wb E) b__law_plain) := by
  intro f cdv A outer s H E hr
  have tk : Takes (cxOf (L2.CX P w) P w K mg base ["word", "kept", "sign"] "_law_plain" (defScope s__law_plain) f cdv A outer s H E) (Wb E) := takes_of (X := cxOf (L2.CX P w) P w K mg base ["word", "kept", "sign"] "_law_plain" (defScope s__law_plain) f cdv A outer s H E) (E := E) rfl rfl rfl rfl
  have pp : PassesOwn (model P w) (cxOf (L2.CX P w) P w K mg base ["word", "kept", "sign"] "_law_plain" (defScope s__law_plain) f cdv A outer s H E).A (cxOf (L2.CX P w) P w K mg base ["word", "kept", "sign"] "_law_plain" (defScope s__law_plain) f cdv A outer s H E).env (cxOf (L2.CX P w) P w K mg base ["word", "kept", "sign"] "_law_plain" (defScope s__law_plain) f cdv A outer s H E).xe := passes_of rfl
  exact mss_cons (ms_set (i := 1) sc__law_plain.nd rfl (by first | exact Or.inl rfl | exact Or.inr rfl) (me_new (me_lst (ma_nil))))
    (mss_cons (ms_for pp rfl (mi_any (me_var 0)) (mg_name sc__law_plain.nd rfl (by first | exact Or.inl rfl | exact Or.inr rfl)) (mss_one (ms_if ((mw_and (mt_op (pt_cmpR (op_neD hr.units) (me_var 1) (me_val (me_lst (ma_nil))) (nomark _)) of_ne) (mw_and1 (mt_op (pt_cmpR (op_eqD hr.units) (me_val (me_op (pe_ix ix_seq (me_var 1) (me_val (me_u (pe_un un_neg (me_int)) of_neg)) (fun _ _ => rfl)) of_ix)) (me_call 0 h__law_undone tk (hr.mono (by omega)) (by rfl) (fun _ _ _ _ _ _ us hl => match us, hl with | [_], _ => rfl) (ma_cons (me_var 2) (ma_nil))) (nomark _)) of_eq))).pt) (mss_one (ms_expr (me_val (me_bm0 (pe_bm0 PySem.F.plainAttrs_list PySem.F.slot_list_pop PySem.F.type_list_pop mt_pop (me_var 1)) ty_lst mf_pop)))) (mss_one (ms_expr (me_val (me_bm (pe_bm PySem.F.plainAttrs_list PySem.F.slot_list_append PySem.F.type_list_append mt_append (me_var 1) (ma_cons (me_var 2) (ma_nil))) ty_lst mf_append)))))))
    (mss_one (ms_ret (me_val (me_bm (pe_bm PySem.F.plainAttrs_str PySem.F.slot_str_join PySem.F.type_str_join mt_join (me_str (by rfl)) (ma_cons (me_var 1) (ma_nil))) ty_str mf_join)))))
theorem k__law_plain (G : Gx w K mg) (h__law_undone : FnM P w K mg base "_law_undone" s__law_undone ["word"] 1 m__law_undone) : FnM P w K mg base "_law_plain" s__law_plain ["word"] 2 m__law_plain := G.f__law_plain.fnm sc__law_plain (d__law_plain G h__law_undone)
theorem d__law_right (G : Gx w K mg) (h__law_same : FnM P w K mg base "_law_same" s__law_same ["told", "due"] 1 m__law_same) (h__law_plain : FnM P w K mg base "_law_plain" s__law_plain ["word"] 2 m__law_plain) (h__law_undone : FnM P w K mg base "_law_undone" s__law_undone ["word"] 1 m__law_undone) (h__law_table : FnM P w K mg base "_law_table" s__law_table ["word"] 2 m__law_table) : ∀ (f : Addr) (cdv : Value) (A : Around) (outer : List PySem.Env) (s : Shared) (H : Hp) (E : XK), Room 2 (A.deeper (envOfC "_law_right" (defScope s__law_right) s.heap.objs.size f cdv)) →
    PSs (cxOf (L2.CX P w) P w K mg base ["told", "text", "k"] "_law_right" (defScope s__law_right) f cdv A outer s H E) (defBody s__law_right) (TSm K mg (Wb E) b__law_right) := by
  intro f cdv A outer s H E hr
  have tk : Takes (cxOf (L2.CX P w) P w K mg base ["told", "text", "k"] "_law_right" (defScope s__law_right) f cdv A outer s H E) (Wb E) := takes_of (X := cxOf (L2.CX P w) P w K mg base ["told", "text", "k"] "_law_right" (defScope s__law_right) f cdv A outer s H E) (E := E) rfl rfl rfl rfl
  have pp : PassesOwn (model P w) (cxOf (L2.CX P w) P w K mg base ["told", "text", "k"] "_law_right" (defScope s__law_right) f cdv A outer s H E).A (cxOf (L2.CX P w) P w K mg base ["told", "text", "k"] "_law_right" (defScope s__law_right) f cdv A outer s H E).env (cxOf (L2.CX P w) P w K mg base ["told", "text", "k"] "_law_right" (defScope s__law_right) f cdv A outer s H E).xe := passes_of rfl
  exact mss_cons (ms_if ((mw_or (mt_not (mt_val (me_call 0 h__law_same tk (hr.mono (by omega)) (by rfl) (fun _ _ _ _ _ _ us hl => match us, hl with | [_, _], _ => rfl) (ma_cons (me_var 0) (ma_cons (me_call 0 h__law_plain tk (hr.mono (by omega)) (by rfl) (fun _ _ _ _ _ _ us hl => match us, hl with | [_], _ => rfl) (ma_cons (me_var 1) (ma_nil))) (ma_nil)))))) (mw_or1 (mt_op (pt_cmpR (op_neD hr.units) (me_val (me_comp rfl sc__law_right.nd (own := [("k", 2)]) (mi_range1 (pi_range1 (by rfl) G.b_range (ma_cons (me_val (me_op (pe_op op_sub (me_val (me_cb (pe_callB call_lenA (by rfl) G.b_len (by decide +kernel) (ma_cons (me_var 0) (ma_nil))) cf_len)) (me_int)) of_sub)) (ma_nil)))) (blkOk_by (by kernel_rfl)) (fun _ _ _ _ _ => mg_nameV sc__law_right.nd rfl (by first | exact Or.inl rfl | exact Or.inr rfl) (by decide)) (fun _ _ _ _ _ => mt_one (mt_op (pt_cmpR (op_eqD hr.units) (me_val (me_op (pe_ix ix_seq (me_var 0) (me_var 2) (fun _ _ => rfl)) of_ix)) (me_call 0 h__law_undone takes0 (hr.mono (by omega)) (by rfl) (fun _ _ _ _ _ _ us hl => match us, hl with | [_], _ => rfl) (ma_cons (me_val (me_op (pe_ix ix_seq (me_var 0) (me_val (me_op (pe_op op_addA (me_var 2) (me_int)) of_add)) (fun _ _ => rfl)) of_ix)) (ma_nil))) (nomark _)) of_eq)) (fun _ _ _ _ _ => me_var 2))) (me_val (me_lst (ma_nil))) (nomark _)) of_ne))).pt) (mss_one (ms_ret (me_bl))) (mss_nil))
    (mss_one (ms_ret (me_val (me_op (pe_cmpR (op_eqD hr.units) (me_call 0 h__law_table tk (hr.mono (by omega)) (by rfl) (fun _ _ _ _ _ _ us hl => match us, hl with | [_], _ => rfl) (ma_cons (me_var 0) (ma_nil))) (me_call 0 h__law_table tk (hr.mono (by omega)) (by rfl) (fun _ _ _ _ _ _ us hl => match us, hl with | [_], _ => rfl) (ma_cons (me_var 1) (ma_nil))) (nomark _)) of_eq))))
theorem k__law_right (G : Gx w K mg) (h__law_same : FnM P w K mg base "_law_same" s__law_same ["told", "due"] 1 m__law_same) (h__law_plain : FnM P w K mg base "_law_plain" s__law_plain ["word"] 2 m__law_plain) (h__law_undone : FnM P w K mg base "_law_undone" s__law_undone ["word"] 1 m__law_undone) (h__law_table : FnM P w K mg base "_law_table" s__law_table ["word"] 2 m__law_table) : FnM P w K mg base "_law_right" s__law_right ["told", "text"] 3 m__law_right := G.f__law_right.fnm sc__law_right (d__law_right G h__law_same h__law_plain h__law_undone h__law_table)
theorem d_is_word_of (G : Gx w K mg) : ∀ (f : Addr) (cdv : Value) (A : Around) (outer : List PySem.Env) (s : Shared) (H : Hp) (E : XK), Room 0 (A.deeper (envOfC "is_word_of" (defScope s_is_word_of) s.heap.objs.size f cdv)) →
    PSs (cxOf (L2.CX P w) P w K mg base ["thing", "most", "sign"] "is_word_of" (defScope s_is_word_of) f cdv A outer s H E) (defBody s_is_word_of) (TSm K mg (Wb E) b_is_word_of) := by
  intro f cdv A outer s H E hr
  have tk : Takes (cxOf (L2.CX P w) P w K mg base ["thing", "most", "sign"] "is_word_of" (defScope s_is_word_of) f cdv A outer s H E) (Wb E) := takes_of (X := cxOf (L2.CX P w) P w K mg base ["thing", "most", "sign"] "is_word_of" (defScope s_is_word_of) f cdv A outer s H E) (E := E) rfl rfl rfl rfl
  have pp : PassesOwn (model P w) (cxOf (L2.CX P w) P w K mg base ["thing", "most", "sign"] "is_word_of" (defScope s_is_word_of) f cdv A outer s H E).A (cxOf (L2.CX P w) P w K mg base ["thing", "most", "sign"] "is_word_of" (defScope s_is_word_of) f cdv A outer s H E).env (cxOf (L2.CX P w) P w K mg base ["thing", "most", "sign"] "is_word_of" (defScope s_is_word_of) f cdv A outer s H E).xe := passes_of rfl
  exact mss_one (ms_ret (me_and (me_isi .str (by rfl) G.b_isinstance (by rfl) G.b_str (by decide +kernel) (me_var 0)) (me_and (me_val (me_op (pe_cmpR op_le (me_val (me_cb (pe_callB call_lenA (by rfl) G.b_len (by decide +kernel) (ma_cons (me_var 0) (ma_nil))) cf_len)) (me_var 1) (nomark _)) of_le)) (me_one (me_val (me_cb (pe_callB (cr_all rfl) (by rfl) G.b_all (by decide +kernel) (ma_cons (me_val (me_comp rfl sc_is_word_of.nd (own := [("sign", 2)]) (mi_any (me_var 0)) (blkOk_by (by kernel_rfl)) (fun _ _ _ _ _ => mg_nameV sc_is_word_of.nd rfl (by first | exact Or.inl rfl | exact Or.inr rfl) (by decide)) (fun _ _ _ _ _ => mt_yes) (fun _ _ _ _ _ => me_val (me_op (pe_cmpR (op_inA (units65 hr)) (me_var 2) (me_gstr (by rfl) G.c_SIGNS.choose_spec (by rfl)) (by with_unfolding_all rfl)) of_in)))) (ma_nil))) cf_all))))))
theorem k_is_word_of (G : Gx w K mg) : FnM P w K mg base "is_word_of" s_is_word_of ["thing", "most"] 1 m_is_word_of := G.f_is_word_of.fnm sc_is_word_of (d_is_word_of G)
theorem d_need_word (G : Gx w K mg) (h_is_word_of : FnM P w K mg base "is_word_of" s_is_word_of ["thing", "most"] 1 m_is_word_of) : ∀ (f : Addr) (cdv : Value) (A : Around) (outer : List PySem.Env) (s : Shared) (H : Hp) (E : XK), Room 1 (A.deeper (envOfC "need_word" (defScope s_need_word) s.heap.objs.size f cdv)) →
    PSs (cxOf (L2.CX P w) P w K mg base ["word"] "need_word" (defScope s_need_word) f cdv A outer s H E) (defBody s_need_word) (TSm K mg (Wb E) b_need_word) := by
  intro f cdv A outer s H E hr
  have tk : Takes (cxOf (L2.CX P w) P w K mg base ["word"] "need_word" (defScope s_need_word) f cdv A outer s H E) (Wb E) := takes_of (X := cxOf (L2.CX P w) P w K mg base ["word"] "need_word" (defScope s_need_word) f cdv A outer s H E) (E := E) rfl rfl rfl rfl
  have pp : PassesOwn (model P w) (cxOf (L2.CX P w) P w K mg base ["word"] "need_word" (defScope s_need_word) f cdv A outer s H E).A (cxOf (L2.CX P w) P w K mg base ["word"] "need_word" (defScope s_need_word) f cdv A outer s H E).env (cxOf (L2.CX P w) P w K mg base ["word"] "need_word" (defScope s_need_word) f cdv A outer s H E).xe := passes_of rfl
  exact mss_one (ms_if (mt_not (mt_val (me_call 0 h_is_word_of tk (hr.mono (by omega)) (by rfl) (fun _ _ _ _ _ _ us hl => match us, hl with | [_, _], _ => rfl) (ma_cons (me_var 0) (ma_cons (me_gint (by rfl) G.c_MOST_SIGNS.choose_spec) (ma_nil)))))) (mss_one (ms_raiseE rfl tk G.e_BadWord (by rfl))) (mss_nil))
theorem k_need_word (G : Gx w K mg) (h_is_word_of : FnM P w K mg base "is_word_of" s_is_word_of ["thing", "most"] 1 m_is_word_of) : FnM P w K mg base "need_word" s_need_word ["word"] 2 m_need_word := G.f_need_word.fnm sc_need_word (d_need_word G h_is_word_of)
theorem d_need_two (G : Gx w K mg) (h_need_word : FnM P w K mg base "need_word" s_need_word ["word"] 2 m_need_word) (h_is_word_of : FnM P w K mg base "is_word_of" s_is_word_of ["thing", "most"] 1 m_is_word_of) : ∀ (f : Addr) (cdv : Value) (A : Around) (outer : List PySem.Env) (s : Shared) (H : Hp) (E : XK), Room 2 (A.deeper (envOfC "need_two" (defScope s_need_two) s.heap.objs.size f cdv)) →
    PSs (cxOf (L2.CX P w) P w K mg base ["word", "other"] "need_two" (defScope s_need_two) f cdv A outer s H E) (defBody s_need_two) (TSm K mg (Wb E) b_need_two) := by
  intro f cdv A outer s H E hr
  have tk : Takes (cxOf (L2.CX P w) P w K mg base ["word", "other"] "need_two" (defScope s_need_two) f cdv A outer s H E) (Wb E) := takes_of (X := cxOf (L2.CX P w) P w K mg base ["word", "other"] "need_two" (defScope s_need_two) f cdv A outer s H E) (E := E) rfl rfl rfl rfl
  have pp : PassesOwn (model P w) (cxOf (L2.CX P w) P w K mg base ["word", "other"] "need_two" (defScope s_need_two) f cdv A outer s H E).A (cxOf (L2.CX P w) P w K mg base ["word", "other"] "need_two" (defScope s_need_two) f cdv A outer s H E).env (cxOf (L2.CX P w) P w K mg base ["word", "other"] "need_two" (defScope s_need_two) f cdv A outer s H E).xe := passes_of rfl
  exact mss_cons (ms_expr (me_call 0 h_need_word tk (hr.mono (by omega)) (by rfl) (fun _ _ _ _ _ _ us hl => match us, hl with | [_], _ => rfl) (ma_cons (me_var 0) (ma_nil))))
    (mss_one (ms_if (mt_not (mt_val (me_call 0 h_is_word_of tk (hr.mono (by omega)) (by rfl) (fun _ _ _ _ _ _ us hl => match us, hl with | [_, _], _ => rfl) (ma_cons (me_var 1) (ma_cons (me_gint (by rfl) G.c_MOST_SIGNS.choose_spec) (ma_nil)))))) (mss_one (ms_raiseE rfl tk G.e_BadOther (by rfl))) (mss_nil)))
theorem k_need_two (G : Gx w K mg) (h_need_word : FnM P w K mg base "need_word" s_need_word ["word"] 2 m_need_word) (h_is_word_of : FnM P w K mg base "is_word_of" s_is_word_of ["thing", "most"] 1 m_is_word_of) : FnM P w K mg base "need_two" s_need_two ["word", "other"] 3 m_need_two := G.f_need_two.fnm sc_need_two (d_need_two G h_need_word h_is_word_of)
theorem d_inverse_sign (G : Gx w K mg) : ∀ (f : Addr) (cdv : Value) (A : Around) (outer : List PySem.Env) (s : Shared) (H : Hp) (E : XK), Room 0 (A.deeper (envOfC "inverse_sign" (defScope s_inverse_sign) s.heap.objs.size f cdv)) →
    PSs (cxOf (L2.CX P w) P w K mg base ["sign"] "inverse_sign" (defScope s_inverse_sign) f cdv A outer s H E) (defBody s_inverse_sign) (TSm K mg (Wb E) b_inverse_sign) := by
  intro f cdv A outer s H E hr
  have tk : Takes (cxOf (L2.CX P w) P w K mg base ["sign"] "inverse_sign" (defScope s_inverse_sign) f cdv A outer s H E) (Wb E) := takes_of (X := cxOf (L2.CX P w) P w K mg base ["sign"] "inverse_sign" (defScope s_inverse_sign) f cdv A outer s H E) (E := E) rfl rfl rfl rfl
  have pp : PassesOwn (model P w) (cxOf (L2.CX P w) P w K mg base ["sign"] "inverse_sign" (defScope s_inverse_sign) f cdv A outer s H E).A (cxOf (L2.CX P w) P w K mg base ["sign"] "inverse_sign" (defScope s_inverse_sign) f cdv A outer s H E).env (cxOf (L2.CX P w) P w K mg base ["sign"] "inverse_sign" (defScope s_inverse_sign) f cdv A outer s H E).xe := passes_of rfl
  exact mss_one (ms_ret (me_val (me_op (pe_ix ix_seq (me_gstr (by rfl) G.c_SIGNS.choose_spec (by rfl)) (me_val (me_op (pe_op op_sub (me_val (me_bm (pe_bm PySem.F.plainAttrs_str PySem.F.slot_str_index PySem.F.type_str_index mt_sindex (me_gstr (by rfl) G.c_SIGNS.choose_spec (by rfl)) (ma_cons (me_var 0) (ma_nil))) ty_str mf_sindex)) (me_int)) of_sub)) (fun _ _ => rfl)) of_ix)))
theorem k_inverse_sign (G : Gx w K mg) : FnM P w K mg base "inverse_sign" s_inverse_sign ["sign"] 1 m_inverse_sign := G.f_inverse_sign.fnm sc_inverse_sign (d_inverse_sign G)
theorem d_reduced_in (G : Gx w K mg) (h_inverse_sign : FnM P w K mg base "inverse_sign" s_inverse_sign ["sign"] 1 m_inverse_sign) : ∀ (f : Addr) (cdv : Value) (A : Around) (outer : List PySem.Env) (s : Shared) (H : Hp) (E : XK), Room 1 (A.deeper (envOfC "reduced_in" (defScope s_reduced_in) s.heap.objs.size f cdv)) →
    PSs (cxOf (L2.CX P w) P w K mg base ["word", "kept", "sign"] "reduced_in" (defScope s_reduced_in) f cdv A outer s H E) (defBody s_reduced_in) (TSm K mg (Wb E) b_reduced_in) := by
  intro f cdv A outer s H E hr
  have tk : Takes (cxOf (L2.CX P w) P w K mg base ["word", "kept", "sign"] "reduced_in" (defScope s_reduced_in) f cdv A outer s H E) (Wb E) := takes_of (X := cxOf (L2.CX P w) P w K mg base ["word", "kept", "sign"] "reduced_in" (defScope s_reduced_in) f cdv A outer s H E) (E := E) rfl rfl rfl rfl
  have pp : PassesOwn (model P w) (cxOf (L2.CX P w) P w K mg base ["word", "kept", "sign"] "reduced_in" (defScope s_reduced_in) f cdv A outer s H E).A (cxOf (L2.CX P w) P w K mg base ["word", "kept", "sign"] "reduced_in" (defScope s_reduced_in) f cdv A outer s H E).env (cxOf (L2.CX P w) P w K mg base ["word", "kept", "sign"] "reduced_in" (defScope s_reduced_in) f cdv A outer s H E).xe := passes_of rfl
  exact mss_cons (ms_set (i := 1) sc_reduced_in.nd rfl (by first | exact Or.inl rfl | exact Or.inr rfl) (me_new (me_lst (ma_nil))))
    (mss_cons (ms_for pp rfl (mi_any (me_var 0)) (mg_name sc_reduced_in.nd rfl (by first | exact Or.inl rfl | exact Or.inr rfl)) (mss_one (ms_if ((mw_and (mt_op (pt_cmpR (op_neD hr.units) (me_var 1) (me_val (me_lst (ma_nil))) (nomark _)) of_ne) (mw_and1 (mt_op (pt_cmpR (op_eqD hr.units) (me_val (me_op (pe_ix ix_seq (me_var 1) (me_val (me_u (pe_un un_neg (me_int)) of_neg)) (fun _ _ => rfl)) of_ix)) (me_call 0 h_inverse_sign tk (hr.mono (by omega)) (by rfl) (fun _ _ _ _ _ _ us hl => match us, hl with | [_], _ => rfl) (ma_cons (me_var 2) (ma_nil))) (nomark _)) of_eq))).pt) (mss_one (ms_expr (me_val (me_bm0 (pe_bm0 PySem.F.plainAttrs_list PySem.F.slot_list_pop PySem.F.type_list_pop mt_pop (me_var 1)) ty_lst mf_pop)))) (mss_one (ms_expr (me_val (me_bm (pe_bm PySem.F.plainAttrs_list PySem.F.slot_list_append PySem.F.type_list_append mt_append (me_var 1) (ma_cons (me_var 2) (ma_nil))) ty_lst mf_append)))))))
    (mss_one (ms_ret (me_val (me_bm (pe_bm PySem.F.plainAttrs_str PySem.F.slot_str_join PySem.F.type_str_join mt_join (me_str (by rfl)) (ma_cons (me_var 1) (ma_nil))) ty_str mf_join)))))
theorem k_reduced_in (G : Gx w K mg) (h_inverse_sign : FnM P w K mg base "inverse_sign" s_inverse_sign ["sign"] 1 m_inverse_sign) : FnM P w K mg base "reduced_in" s_reduced_in ["word"] 2 m_reduced_in := G.f_reduced_in.fnm sc_reduced_in (d_reduced_in G h_inverse_sign)
theorem d_inverse_in (G : Gx w K mg) (h_inverse_sign : FnM P w K mg base "inverse_sign" s_inverse_sign ["sign"] 1 m_inverse_sign) : ∀ (f : Addr) (cdv : Value) (A : Around) (outer : List PySem.Env) (s : Shared) (H : Hp) (E : XK), Room 1 (A.deeper (envOfC "inverse_in" (defScope s_inverse_in) s.heap.objs.size f cdv)) →
    PSs (cxOf (L2.CX P w) P w K mg base ["word", "sign"] "inverse_in" (defScope s_inverse_in) f cdv A outer s H E) (defBody s_inverse_in) (TSm K mg (Wb E) b_inverse_in) := by
  intro f cdv A outer s H E hr
  have tk : Takes (cxOf (L2.CX P w) P w K mg base ["word", "sign"] "inverse_in" (defScope s_inverse_in) f cdv A outer s H E) (Wb E) := takes_of (X := cxOf (L2.CX P w) P w K mg base ["word", "sign"] "inverse_in" (defScope s_inverse_in) f cdv A outer s H E) (E := E) rfl rfl rfl rfl
  have pp : PassesOwn (model P w) (cxOf (L2.CX P w) P w K mg base ["word", "sign"] "inverse_in" (defScope s_inverse_in) f cdv A outer s H E).A (cxOf (L2.CX P w) P w K mg base ["word", "sign"] "inverse_in" (defScope s_inverse_in) f cdv A outer s H E).env (cxOf (L2.CX P w) P w K mg base ["word", "sign"] "inverse_in" (defScope s_inverse_in) f cdv A outer s H E).xe := passes_of rfl
  exact mss_one (ms_ret (me_val (me_bm (pe_bm PySem.F.plainAttrs_str PySem.F.slot_str_join PySem.F.type_str_join mt_join (me_str (by rfl)) (ma_cons (me_val (me_comp rfl sc_inverse_in.nd (own := [("sign", 1)]) (mi_rev (by rfl) G.b_reversed (me_var 0)) (blkOk_by (by kernel_rfl)) (fun _ _ _ _ _ => mg_nameV sc_inverse_in.nd rfl (by first | exact Or.inl rfl | exact Or.inr rfl) (by decide)) (fun _ _ _ _ _ => mt_yes) (fun _ _ _ _ _ => me_call 0 h_inverse_sign takes0 (hr.mono (by omega)) (by rfl) (fun _ _ _ _ _ _ us hl => match us, hl with | [_], _ => rfl) (ma_cons (me_var 1) (ma_nil))))) (ma_nil))) ty_str mf_join)))
theorem k_inverse_in (G : Gx w K mg) (h_inverse_sign : FnM P w K mg base "inverse_sign" s_inverse_sign ["sign"] 1 m_inverse_sign) : FnM P w K mg base "inverse_in" s_inverse_in ["word"] 2 m_inverse_in := G.f_inverse_in.fnm sc_inverse_in (d_inverse_in G h_inverse_sign)
theorem d_commutator_in (G : Gx w K mg) (h_inverse_in : FnM P w K mg base "inverse_in" s_inverse_in ["word"] 2 m_inverse_in) : ∀ (f : Addr) (cdv : Value) (A : Around) (outer : List PySem.Env) (s : Shared) (H : Hp) (E : XK), Room 2 (A.deeper (envOfC "commutator_in" (defScope s_commutator_in) s.heap.objs.size f cdv)) →
    PSs (cxOf (L2.CX P w) P w K mg base ["word", "other"] "commutator_in" (defScope s_commutator_in) f cdv A outer s H E) (defBody s_commutator_in) (TSm K mg (Wb E) b_commutator_in) := by
  intro f cdv A outer s H E hr
  have tk : Takes (cxOf (L2.CX P w) P w K mg base ["word", "other"] "commutator_in" (defScope s_commutator_in) f cdv A outer s H E) (Wb E) := takes_of (X := cxOf (L2.CX P w) P w K mg base ["word", "other"] "commutator_in" (defScope s_commutator_in) f cdv A outer s H E) (E := E) rfl rfl rfl rfl
  have pp : PassesOwn (model P w) (cxOf (L2.CX P w) P w K mg base ["word", "other"] "commutator_in" (defScope s_commutator_in) f cdv A outer s H E).A (cxOf (L2.CX P w) P w K mg base ["word", "other"] "commutator_in" (defScope s_commutator_in) f cdv A outer s H E).env (cxOf (L2.CX P w) P w K mg base ["word", "other"] "commutator_in" (defScope s_commutator_in) f cdv A outer s H E).xe := passes_of rfl
  exact mss_one (ms_ret (me_val (me_op (pe_op op_addA (me_val (me_op (pe_op op_addA (me_val (me_op (pe_op op_addA (me_var 0) (me_var 1)) of_add)) (me_call 0 h_inverse_in tk (hr.mono (by omega)) (by rfl) (fun _ _ _ _ _ _ us hl => match us, hl with | [_], _ => rfl) (ma_cons (me_var 0) (ma_nil)))) of_add)) (me_call 0 h_inverse_in tk (hr.mono (by omega)) (by rfl) (fun _ _ _ _ _ _ us hl => match us, hl with | [_], _ => rfl) (ma_cons (me_var 1) (ma_nil)))) of_add)))
theorem k_commutator_in (G : Gx w K mg) (h_inverse_in : FnM P w K mg base "inverse_in" s_inverse_in ["word"] 2 m_inverse_in) : FnM P w K mg base "commutator_in" s_commutator_in ["word", "other"] 3 m_commutator_in := G.f_commutator_in.fnm sc_commutator_in (d_commutator_in G h_inverse_in)
theorem d_commutator (G : Gx w K mg) (h_need_two : FnM P w K mg base "need_two" s_need_two ["word", "other"] 3 m_need_two) (h_reduced_in : FnM P w K mg base "reduced_in" s_reduced_in ["word"] 2 m_reduced_in) (h_commutator_in : FnM P w K mg base "commutator_in" s_commutator_in ["word", "other"] 3 m_commutator_in) : ∀ (f : Addr) (cdv : Value) (A : Around) (outer : List PySem.Env) (s : Shared) (H : Hp) (E : XK), Room 3 (A.deeper (envOfC "commutator" (defScope s_commutator) s.heap.objs.size f cdv)) →
    PSs (cxOf (L2.CX P w) P w K mg base ["word", "other"] "commutator" (defScope s_commutator) f cdv A outer s H E) (defBody s_commutator) (TSm K mg (Wb E) b_commutator) := by
  intro f cdv A outer s H E hr
  have tk : Takes (cxOf (L2.CX P w) P w K mg base ["word", "other"] "commutator" (defScope s_commutator) f cdv A outer s H E) (Wb E) := takes_of (X := cxOf (L2.CX P w) P w K mg base ["word", "other"] "commutator" (defScope s_commutator) f cdv A outer s H E) (E := E) rfl rfl rfl rfl
  have pp : PassesOwn (model P w) (cxOf (L2.CX P w) P w K mg base ["word", "other"] "commutator" (defScope s_commutator) f cdv A outer s H E).A (cxOf (L2.CX P w) P w K mg base ["word", "other"] "commutator" (defScope s_commutator) f cdv A outer s H E).env (cxOf (L2.CX P w) P w K mg base ["word", "other"] "commutator" (defScope s_commutator) f cdv A outer s H E).xe := passes_of rfl
  exact mss_cons (ms_expr (me_call 0 h_need_two tk (hr.mono (by omega)) (by rfl) (fun _ _ _ _ _ _ us hl => match us, hl with | [_, _], _ => rfl) (ma_cons (me_var 0) (ma_cons (me_var 1) (ma_nil)))))
    (mss_one (ms_ret (me_call 0 h_reduced_in tk (hr.mono (by omega)) (by rfl) (fun _ _ _ _ _ _ us hl => match us, hl with | [_], _ => rfl) (ma_cons (me_call 0 h_commutator_in tk (hr.mono (by omega)) (by rfl) (fun _ _ _ _ _ _ us hl => match us, hl with | [_, _], _ => rfl) (ma_cons (me_var 0) (ma_cons (me_var 1) (ma_nil)))) (ma_nil)))))
theorem k_commutator (G : Gx w K mg) (h_need_two : FnM P w K mg base "need_two" s_need_two ["word", "other"] 3 m_need_two) (h_reduced_in : FnM P w K mg base "reduced_in" s_reduced_in ["word"] 2 m_reduced_in) (h_commutator_in : FnM P w K mg base "commutator_in" s_commutator_in ["word", "other"] 3 m_commutator_in) : FnM P w K mg base "commutator" s_commutator ["word", "other"] 4 m_commutator := G.f_commutator.fnm sc_commutator (d_commutator G h_need_two h_reduced_in h_commutator_in)
theorem d_conjugate (G : Gx w K mg) (h_need_two : FnM P w K mg base "need_two" s_need_two ["word", "other"] 3 m_need_two) (h_reduced_in : FnM P w K mg base "reduced_in" s_reduced_in ["word"] 2 m_reduced_in) (h_inverse_in : FnM P w K mg base "inverse_in" s_inverse_in ["word"] 2 m_inverse_in) : ∀ (f : Addr) (cdv : Value) (A : Around) (outer : List PySem.Env) (s : Shared) (H : Hp) (E : XK), Room 3 (A.deeper (envOfC "conjugate" (defScope s_conjugate) s.heap.objs.size f cdv)) →
    PSs (cxOf (L2.CX P w) P w K mg base ["word", "other"] "conjugate" (defScope s_conjugate) f cdv A outer s H E) (defBody s_conjugate) (TSm K mg (Wb E) b_conjugate) := by
  intro f cdv A outer s H E hr
  have tk : Takes (cxOf (L2.CX P w) P w K mg base ["word", "other"] "conjugate" (defScope s_conjugate) f cdv A outer s H E) (Wb E) := takes_of (X := cxOf (L2.CX P w) P w K mg base ["word", "other"] "conjugate" (defScope s_conjugate) f cdv A outer s H E) (E := E) rfl rfl rfl rfl
  have pp : PassesOwn (model P w) (cxOf (L2.CX P w) P w K mg base ["word", "other"] "conjugate" (defScope s_conjugate) f cdv A outer s H E).A (cxOf (L2.CX P w) P w K mg base ["word", "other"] "conjugate" (defScope s_conjugate) f cdv A outer s H E).env (cxOf (L2.CX P w) P w K mg base ["word", "other"] "conjugate" (defScope s_conjugate) f cdv A outer s H E).xe := passes_of rfl
  exact mss_cons (ms_expr (me_call 0 h_need_two tk (hr.mono (by omega)) (by rfl) (fun _ _ _ _ _ _ us hl => match us, hl with | [_, _], _ => rfl) (ma_cons (me_var 0) (ma_cons (me_var 1) (ma_nil)))))
    (mss_one (ms_ret (me_call 0 h_reduced_in tk (hr.mono (by omega)) (by rfl) (fun _ _ _ _ _ _ us hl => match us, hl with | [_], _ => rfl) (ma_cons (me_val (me_op (pe_op op_addA (me_val (me_op (pe_op op_addA (me_var 1) (me_var 0)) of_add)) (me_call 0 h_inverse_in tk (hr.mono (by omega)) (by rfl) (fun _ _ _ _ _ _ us hl => match us, hl with | [_], _ => rfl) (ma_cons (me_var 1) (ma_nil)))) of_add)) (ma_nil)))))
theorem k_conjugate (G : Gx w K mg) (h_need_two : FnM P w K mg base "need_two" s_need_two ["word", "other"] 3 m_need_two) (h_reduced_in : FnM P w K mg base "reduced_in" s_reduced_in ["word"] 2 m_reduced_in) (h_inverse_in : FnM P w K mg base "inverse_in" s_inverse_in ["word"] 2 m_inverse_in) : FnM P w K mg base "conjugate" s_conjugate ["word", "other"] 4 m_conjugate := G.f_conjugate.fnm sc_conjugate (d_conjugate G h_need_two h_reduced_in h_inverse_in)
theorem d_is_int (G : Gx w K mg) : ∀ (f : Addr) (cdv : Value) (A : Around) (outer : List PySem.Env) (s : Shared) (H : Hp) (E : XK), Room 0 (A.deeper (envOfC "is_int" (defScope s_is_int) s.heap.objs.size f cdv)) →
    PSs (cxOf (L2.CX P w) P w K mg base ["thing"] "is_int" (defScope s_is_int) f cdv A outer s H E) (defBody s_is_int) (TSm K mg (Wb E) b_is_int) := by
  intro f cdv A outer s H E hr
  have tk : Takes (cxOf (L2.CX P w) P w K mg base ["thing"] "is_int" (defScope s_is_int) f cdv A outer s H E) (Wb E) := takes_of (X := cxOf (L2.CX P w) P w K mg base ["thing"] "is_int" (defScope s_is_int) f cdv A outer s H E) (E := E) rfl rfl rfl rfl
  have pp : PassesOwn (model P w) (cxOf (L2.CX P w) P w K mg base ["thing"] "is_int" (defScope s_is_int) f cdv A outer s H E).A (cxOf (L2.CX P w) P w K mg base ["thing"] "is_int" (defScope s_is_int) f cdv A outer s H E).env (cxOf (L2.CX P w) P w K mg base ["thing"] "is_int" (defScope s_is_int) f cdv A outer s H E).xe := passes_of rfl
  exact mss_one (ms_ret (me_and (me_isi .int (by rfl) G.b_isinstance (by rfl) G.b_int (by decide +kernel) (me_var 0)) (me_one (me_not (me_isi .bl (by rfl) G.b_isinstance (by rfl) G.b_bool (by decide +kernel) (me_var 0))))))
theorem k_is_int (G : Gx w K mg) : FnM P w K mg base "is_int" s_is_int ["thing"] 1 m_is_int := G.f_is_int.fnm sc_is_int (d_is_int G)
theorem d_within (G : Gx w K mg) (h_is_int : FnM P w K mg base "is_int" s_is_int ["thing"] 1 m_is_int) : ∀ (f : Addr) (cdv : Value) (A : Around) (outer : List PySem.Env) (s : Shared) (H : Hp) (E : XK), Room 1 (A.deeper (envOfC "within" (defScope s_within) s.heap.objs.size f cdv)) →
    PSs (cxOf (L2.CX P w) P w K mg base ["thing", "low", "high"] "within" (defScope s_within) f cdv A outer s H E) (defBody s_within) (TSm K mg (Wb E) b_within) := by
  intro f cdv A outer s H E hr
  have tk : Takes (cxOf (L2.CX P w) P w K mg base ["thing", "low", "high"] "within" (defScope s_within) f cdv A outer s H E) (Wb E) := takes_of (X := cxOf (L2.CX P w) P w K mg base ["thing", "low", "high"] "within" (defScope s_within) f cdv A outer s H E) (E := E) rfl rfl rfl rfl
  have pp : PassesOwn (model P w) (cxOf (L2.CX P w) P w K mg base ["thing", "low", "high"] "within" (defScope s_within) f cdv A outer s H E).A (cxOf (L2.CX P w) P w K mg base ["thing", "low", "high"] "within" (defScope s_within) f cdv A outer s H E).env (cxOf (L2.CX P w) P w K mg base ["thing", "low", "high"] "within" (defScope s_within) f cdv A outer s H E).xe := passes_of rfl
  exact mss_one (ms_ret (me_and (me_call 0 h_is_int tk (hr.mono (by omega)) (by rfl) (fun _ _ _ _ _ _ us hl => match us, hl with | [_], _ => rfl) (ma_cons (me_var 0) (ma_nil))) (me_one (me_chain op_le op_le of_le of_le (me_var 1) (me_var 0) (me_var 2)))))
theorem k_within (G : Gx w K mg) (h_is_int : FnM P w K mg base "is_int" s_is_int ["thing"] 1 m_is_int) : FnM P w K mg base "within" s_within ["thing", "low", "high"] 2 m_within := G.f_within.fnm sc_within (d_within G h_is_int)
theorem d_power (G : Gx w K mg) (h_need_word : FnM P w K mg base "need_word" s_need_word ["word"] 2 m_need_word) (h_within : FnM P w K mg base "within" s_within ["thing", "low", "high"] 2 m_within) (h_reduced_in : FnM P w K mg base "reduced_in" s_reduced_in ["word"] 2 m_reduced_in) (h_inverse_in : FnM P w K mg base "inverse_in" s_inverse_in ["word"] 2 m_inverse_in) : ∀ (f : Addr) (cdv : Value) (A : Around) (outer : List PySem.Env) (s : Shared) (H : Hp) (E : XK), Room 2 (A.deeper (envOfC "power" (defScope s_power) s.heap.objs.size f cdv)) →
    PSs (cxOf (L2.CX P w) P w K mg base ["word", "number"] "power" (defScope s_power) f cdv A outer s H E) (defBody s_power) (TSm K mg (Wb E) b_power) := by
  intro f cdv A outer s H E hr
  have tk : Takes (cxOf (L2.CX P w) P w K mg base ["word", "number"] "power" (defScope s_power) f cdv A outer s H E) (Wb E) := takes_of (X := cxOf (L2.CX P w) P w K mg base ["word", "number"] "power" (defScope s_power) f cdv A outer s H E) (E := E) rfl rfl rfl rfl
  have pp : PassesOwn (model P w) (cxOf (L2.CX P w) P w K mg base ["word", "number"] "power" (defScope s_power) f cdv A outer s H E).A (cxOf (L2.CX P w) P w K mg base ["word", "number"] "power" (defScope s_power) f cdv A outer s H E).env (cxOf (L2.CX P w) P w K mg base ["word", "number"] "power" (defScope s_power) f cdv A outer s H E).xe := passes_of rfl
  exact mss_cons (ms_expr (me_call 0 h_need_word tk (hr.mono (by omega)) (by rfl) (fun _ _ _ _ _ _ us hl => match us, hl with | [_], _ => rfl) (ma_cons (me_var 0) (ma_nil))))
    (mss_cons (ms_if (mt_not (mt_val (me_call 0 h_within tk (hr.mono (by omega)) (by rfl) (fun _ _ _ _ _ _ us hl => match us, hl with | [_, _, _], _ => rfl) (ma_cons (me_var 1) (ma_cons (me_val (me_u (pe_un un_neg (me_gint (by rfl) G.c_MOST_POWER.choose_spec)) of_neg)) (ma_cons (me_gint (by rfl) G.c_MOST_POWER.choose_spec) (ma_nil))))))) (mss_one (ms_raiseE rfl tk G.e_BadNumber (by rfl))) (mss_nil))
    (mss_one (ms_ret (me_call 0 h_reduced_in tk (hr.mono (by omega)) (by rfl) (fun _ _ _ _ _ _ us hl => match us, hl with | [_], _ => rfl) (ma_cons (me_if (mt_op (pt_cmpR op_ge (me_var 1) (me_int) (nomark _)) of_ge) (me_val (me_op (pe_op op_mulA (me_var 0) (me_var 1)) of_mul)) (me_val (me_op (pe_op op_mulA (me_call 0 h_inverse_in tk (hr.mono (by omega)) (by rfl) (fun _ _ _ _ _ _ us hl => match us, hl with | [_], _ => rfl) (ma_cons (me_var 0) (ma_nil))) (me_val (me_u (pe_un un_neg (me_var 1)) of_neg))) of_mul))) (ma_nil))))))
theorem k_power (G : Gx w K mg) (h_need_word : FnM P w K mg base "need_word" s_need_word ["word"] 2 m_need_word) (h_within : FnM P w K mg base "within" s_within ["thing", "low", "high"] 2 m_within) (h_reduced_in : FnM P w K mg base "reduced_in" s_reduced_in ["word"] 2 m_reduced_in) (h_inverse_in : FnM P w K mg base "inverse_in" s_inverse_in ["word"] 2 m_inverse_in) : FnM P w K mg base "power" s_power ["word", "number"] 3 m_power := G.f_power.fnm sc_power (d_power G h_need_word h_within h_reduced_in h_inverse_in)
theorem d_product (G : Gx w K mg) (h_need_two : FnM P w K mg base "need_two" s_need_two ["word", "other"] 3 m_need_two) (h_reduced_in : FnM P w K mg base "reduced_in" s_reduced_in ["word"] 2 m_reduced_in) : ∀ (f : Addr) (cdv : Value) (A : Around) (outer : List PySem.Env) (s : Shared) (H : Hp) (E : XK), Room 3 (A.deeper (envOfC "product" (defScope s_product) s.heap.objs.size f cdv)) →
    PSs (cxOf (L2.CX P w) P w K mg base ["word", "other"] "product" (defScope s_product) f cdv A outer s H E) (defBody s_product) (TSm K mg (Wb E) b_product) := by
  intro f cdv A outer s H E hr
  have tk : Takes (cxOf (L2.CX P w) P w K mg base ["word", "other"] "product" (defScope s_product) f cdv A outer s H E) (Wb E) := takes_of (X := cxOf (L2.CX P w) P w K mg base ["word", "other"] "product" (defScope s_product) f cdv A outer s H E) (E := E) rfl rfl rfl rfl
  have pp : PassesOwn (model P w) (cxOf (L2.CX P w) P w K mg base ["word", "other"] "product" (defScope s_product) f cdv A outer s H E).A (cxOf (L2.CX P w) P w K mg base ["word", "other"] "product" (defScope s_product) f cdv A outer s H E).env (cxOf (L2.CX P w) P w K mg base ["word", "other"] "product" (defScope s_product) f cdv A outer s H E).xe := passes_of rfl
  exact mss_cons (ms_expr (me_call 0 h_need_two tk (hr.mono (by omega)) (by rfl) (fun _ _ _ _ _ _ us hl => match us, hl with | [_, _], _ => rfl) (ma_cons (me_var 0) (ma_cons (me_var 1) (ma_nil)))))
    (mss_one (ms_ret (me_call 0 h_reduced_in tk (hr.mono (by omega)) (by rfl) (fun _ _ _ _ _ _ us hl => match us, hl with | [_], _ => rfl) (ma_cons (me_val (me_op (pe_op op_addA (me_var 0) (me_var 1)) of_add)) (ma_nil)))))
theorem k_product (G : Gx w K mg) (h_need_two : FnM P w K mg base "need_two" s_need_two ["word", "other"] 3 m_need_two) (h_reduced_in : FnM P w K mg base "reduced_in" s_reduced_in ["word"] 2 m_reduced_in) : FnM P w K mg base "product" s_product ["word", "other"] 4 m_product := G.f_product.fnm sc_product (d_product G h_need_two h_reduced_in)
theorem d_sums_in (G : Gx w K mg) (h_inverse_sign : FnM P w K mg base "inverse_sign" s_inverse_sign ["sign"] 1 m_inverse_sign) : ∀ (f : Addr) (cdv : Value) (A : Around) (outer : List PySem.Env) (s : Shared) (H : Hp) (E : XK), Room 1 (A.deeper (envOfC "sums_in" (defScope s_sums_in) s.heap.objs.size f cdv)) →
    PSs (cxOf (L2.CX P w) P w K mg base ["word", "letter"] "sums_in" (defScope s_sums_in) f cdv A outer s H E) (defBody s_sums_in) (TSm K mg (Wb E) b_sums_in) := by
  intro f cdv A outer s H E hr
  have tk : Takes (cxOf (L2.CX P w) P w K mg base ["word", "letter"] "sums_in" (defScope s_sums_in) f cdv A outer s H E) (Wb E) := takes_of (X := cxOf (L2.CX P w) P w K mg base ["word", "letter"] "sums_in" (defScope s_sums_in) f cdv A outer s H E) (E := E) rfl rfl rfl rfl
  have pp : PassesOwn (model P w) (cxOf (L2.CX P w) P w K mg base ["word", "letter"] "sums_in" (defScope s_sums_in) f cdv A outer s H E).A (cxOf (L2.CX P w) P w K mg base ["word", "letter"] "sums_in" (defScope s_sums_in) f cdv A outer s H E).env (cxOf (L2.CX P w) P w K mg base ["word", "letter"] "sums_in" (defScope s_sums_in) f cdv A outer s H E).xe := passes_of rfl
  exact mss_one (ms_ret (me_val (me_cb (pe_callTy call_tuple_of (by rfl) G.b_tuple (by decide +kernel) (ma_cons (me_val (me_comp rfl sc_sums_in.nd (own := [("letter", 1)]) (mi_any (me_gstr (by rfl) G.c_LETTERS.choose_spec (by rfl))) (blkOk_by (by kernel_rfl)) (fun _ _ _ _ _ => mg_nameV sc_sums_in.nd rfl (by first | exact Or.inl rfl | exact Or.inr rfl) (by decide)) (fun _ _ _ _ _ => mt_yes) (fun _ _ _ _ _ => me_val (me_op (pe_op op_sub (me_val (me_bm (pe_bm PySem.F.plainAttrs_str PySem.F.slot_str_count PySem.F.type_str_count mt_count (me_var 0) (ma_cons (me_var 1) (ma_nil))) ty_str mf_scount)) (me_val (me_bm (pe_bm PySem.F.plainAttrs_str PySem.F.slot_str_count PySem.F.type_str_count mt_count (me_var 0) (ma_cons (me_call 0 h_inverse_sign takes0 (hr.mono (by omega)) (by rfl) (fun _ _ _ _ _ _ us hl => match us, hl with | [_], _ => rfl) (ma_cons (me_var 1) (ma_nil))) (ma_nil))) ty_str mf_scount))) of_sub)))) (ma_nil))) cf_tupOf)))
theorem k_sums_in (G : Gx w K mg) (h_inverse_sign : FnM P w K mg base "inverse_sign" s_inverse_sign ["sign"] 1 m_inverse_sign) : FnM P w K mg base "sums_in" s_sums_in ["word"] 2 m_sums_in := G.f_sums_in.fnm sc_sums_in (d_sums_in G h_inverse_sign)
theorem d_sums (G : Gx w K mg) (h_need_word : FnM P w K mg base "need_word" s_need_word ["word"] 2 m_need_word) (h_sums_in : FnM P w K mg base "sums_in" s_sums_in ["word"] 2 m_sums_in) : ∀ (f : Addr) (cdv : Value) (A : Around) (outer : List PySem.Env) (s : Shared) (H : Hp) (E : XK), Room 2 (A.deeper (envOfC "sums" (defScope s_sums) s.heap.objs.size f cdv)) →
    PSs (cxOf (L2.CX P w) P w K mg base ["word"] "sums" (defScope s_sums) f cdv A outer s H E) (defBody s_sums) (TSm K mg (Wb E) b_sums) := by
  intro f cdv A outer s H E hr
  have tk : Takes (cxOf (L2.CX P w) P w K mg base ["word"] "sums" (defScope s_sums) f cdv A outer s H E) (Wb E) := takes_of (X := cxOf (L2.CX P w) P w K mg base ["word"] "sums" (defScope s_sums) f cdv A outer s H E) (E := E) rfl rfl rfl rfl
  have pp : PassesOwn (model P w) (cxOf (L2.CX P w) P w K mg base ["word"] "sums" (defScope s_sums) f cdv A outer s H E).A (cxOf (L2.CX P w) P w K mg base ["word"] "sums" (defScope s_sums) f cdv A outer s H E).env (cxOf (L2.CX P w) P w K mg base ["word"] "sums" (defScope s_sums) f cdv A outer s H E).xe := passes_of rfl
  exact mss_cons (ms_expr (me_call 0 h_need_word tk (hr.mono (by omega)) (by rfl) (fun _ _ _ _ _ _ us hl => match us, hl with | [_], _ => rfl) (ma_cons (me_var 0) (ma_nil))))
    (mss_one (ms_ret (me_call 0 h_sums_in tk (hr.mono (by omega)) (by rfl) (fun _ _ _ _ _ _ us hl => match us, hl with | [_], _ => rfl) (ma_cons (me_var 0) (ma_nil)))))
theorem k_sums (G : Gx w K mg) (h_need_word : FnM P w K mg base "need_word" s_need_word ["word"] 2 m_need_word) (h_sums_in : FnM P w K mg base "sums_in" s_sums_in ["word"] 2 m_sums_in) : FnM P w K mg base "sums" s_sums ["word"] 3 m_sums := G.f_sums.fnm sc_sums (d_sums G h_need_word h_sums_in)
theorem d__law_error (G : Gx w K mg) (h_product : FnM P w K mg base "product" s_product ["word", "other"] 4 m_product) (h_power : FnM P w K mg base "power" s_power ["word", "number"] 3 m_power) (h_commutator : FnM P w K mg base "commutator" s_commutator ["word", "other"] 4 m_commutator) (h_conjugate : FnM P w K mg base "conjugate" s_conjugate ["word", "other"] 4 m_conjugate) (h_sums : FnM P w K mg base "sums" s_sums ["word"] 3 m_sums) : ∀ (f : Addr) (cdv : Value) (A : Around) (outer : List PySem.Env) (s : Shared) (H : Hp) (E : XK), Room 4 (A.deeper (envOfC "_law_error" (defScope s__law_error) s.heap.objs.size f cdv)) →
    PSs (cxOf (L2.CX P w) P w K mg base ["which", "word", "other", "found", "told"] "_law_error" (defScope s__law_error) f cdv A outer s H E) (defBody s__law_error) (TSm K mg (Wb E) b__law_error) := by
  intro f cdv A outer s H E hr
  have tk : Takes (cxOf (L2.CX P w) P w K mg base ["which", "word", "other", "found", "told"] "_law_error" (defScope s__law_error) f cdv A outer s H E) (Wb E) := takes_of (X := cxOf (L2.CX P w) P w K mg base ["which", "word", "other", "found", "told"] "_law_error" (defScope s__law_error) f cdv A outer s H E) (E := E) rfl rfl rfl rfl
  have pp : PassesOwn (model P w) (cxOf (L2.CX P w) P w K mg base ["which", "word", "other", "found", "told"] "_law_error" (defScope s__law_error) f cdv A outer s H E).A (cxOf (L2.CX P w) P w K mg base ["which", "word", "other", "found", "told"] "_law_error" (defScope s__law_error) f cdv A outer s H E).env (cxOf (L2.CX P w) P w K mg base ["which", "word", "other", "found", "told"] "_law_error" (defScope s__law_error) f cdv A outer s H E).xe := passes_of rfl
  exact mss_cons (ms_set (i := 3) sc__law_error.nd rfl (by first | exact Or.inl rfl | exact Or.inr rfl) (me_str (by rfl)))
    (mss_cons (ms_tryNE (l := [("BadNumber", some 2), ("BadOther", some 1), ("BadWord", some 0)]) (ys := ["BadWord", "BadOther", "BadNumber"]) rfl rfl tk (.cons (by rfl) G.e_BadWord (by decide) (fun a1 pn1 => mss_one (ms_set (i := 3) sc__law_error.nd rfl (by first | exact Or.inl rfl | exact Or.inr rfl) (me_str (by rfl)))) (nx_set nx_c) (.cons (by rfl) G.e_BadOther (by decide) (fun a1 pn1 => mss_one (ms_set (i := 3) sc__law_error.nd rfl (by first | exact Or.inl rfl | exact Or.inr rfl) (me_str (by rfl)))) (nx_set nx_c) (.cons (by rfl) G.e_BadNumber (by decide) (fun a1 pn1 => mss_one (ms_set (i := 3) sc__law_error.nd rfl (by first | exact Or.inl rfl | exact Or.inr rfl) (me_str (by rfl)))) (nx_set nx_c) .nil))) (.cons (.next G.x_BadNumber_BadWord (.next G.x_BadNumber_BadOther (.here G.x_BadNumber_BadNumber))) (.cons (.next G.x_BadOther_BadWord (.here G.x_BadOther_BadOther)) (.cons (.here G.x_BadWord_BadWord) .nil))) (fun W1 pn1 xe1 tk1 pp1 => mss_one (ms_if (mt_op (pt_cmpR op_lt (me_var 0) (me_int) (nomark _)) of_lt) (mss_one (ms_set (i := 4) sc__law_error.nd rfl (by first | exact Or.inl rfl | exact Or.inr rfl) (me_if (mt_op (pt_cmpR (op_eqD hr.units) (me_var 0) (me_int) (nomark _)) of_eq) (me_call 0 h_product tk1 (hr.mono (by omega)) (by rfl) (fun _ _ _ _ _ _ us hl => match us, hl with | [_, _], _ => rfl) (ma_cons (me_var 1) (ma_cons (me_var 2) (ma_nil)))) (me_call 0 h_power tk1 (hr.mono (by omega)) (by rfl) (fun _ _ _ _ _ _ us hl => match us, hl with | [_, _], _ => rfl) (ma_cons (me_var 1) (ma_cons (me_var 2) (ma_nil))))))) (mss_one (ms_set (i := 4) sc__law_error.nd rfl (by first | exact Or.inl rfl | exact Or.inr rfl) (me_if (mt_op (pt_cmpR (op_eqD hr.units) (me_var 0) (me_int) (nomark _)) of_eq) (me_call 0 h_commutator tk1 (hr.mono (by omega)) (by rfl) (fun _ _ _ _ _ _ us hl => match us, hl with | [_, _], _ => rfl) (ma_cons (me_var 1) (ma_cons (me_var 2) (ma_nil)))) (me_if (mt_op (pt_cmpR (op_eqD hr.units) (me_var 0) (me_int) (nomark _)) of_eq) (me_call 0 h_conjugate tk1 (hr.mono (by omega)) (by rfl) (fun _ _ _ _ _ _ us hl => match us, hl with | [_, _], _ => rfl) (ma_cons (me_var 1) (ma_cons (me_var 2) (ma_nil)))) (me_call 0 h_sums tk1 (hr.mono (by omega)) (by rfl) (fun _ _ _ _ _ _ us hl => match us, hl with | [_], _ => rfl) (ma_cons (me_var 1) (ma_nil))))))))))
    (mss_one (ms_ret (me_var 3))))
theorem k__law_error (G : Gx w K mg) (h_product : FnM P w K mg base "product" s_product ["word", "other"] 4 m_product) (h_power : FnM P w K mg base "power" s_power ["word", "number"] 3 m_power) (h_commutator : FnM P w K mg base "commutator" s_commutator ["word", "other"] 4 m_commutator) (h_conjugate : FnM P w K mg base "conjugate" s_conjugate ["word", "other"] 4 m_conjugate) (h_sums : FnM P w K mg base "sums" s_sums ["word"] 3 m_sums) : FnM P w K mg base "_law_error" s__law_error ["which", "word", "other"] 5 m__law_error := G.f__law_error.fnm sc__law_error (d__law_error G h_product h_power h_commutator h_conjugate h_sums)
theorem d_law (G : Gx w K mg) (h__law_deck : FnM P w K mg base "_law_deck" s__law_deck ["script"] 1 m__law_deck) (h__law_pick : FnM P w K mg base "_law_pick" s__law_pick ["deck", "many"] 1 m__law_pick) (h__law_word : FnM P w K mg base "_law_word" s__law_word ["deck", "letters", "most"] 2 m__law_word) (h__law_second : FnM P w K mg base "_law_second" s__law_second ["deck", "word", "letters"] 3 m__law_second) (h__law_right : FnM P w K mg base "_law_right" s__law_right ["told", "text"] 3 m__law_right) (h_product : FnM P w K mg base "product" s_product ["word", "other"] 4 m_product) (h__law_undone : FnM P w K mg base "_law_undone" s__law_undone ["word"] 1 m__law_undone) (h_commutator : FnM P w K mg base "commutator" s_commutator ["word", "other"] 4 m_commutator) (h__law_table : FnM P w K mg base "_law_table" s__law_table ["word"] 2 m__law_table) (h_conjugate : FnM P w K mg base "conjugate" s_conjugate ["word", "other"] 4 m_conjugate) (h_power : FnM P w K mg base "power" s_power ["word", "number"] 3 m_power) (h__law_same : FnM P w K mg base "_law_same" s__law_same ["told", "due"] 1 m__law_same) (h_sums : FnM P w K mg base "sums" s_sums ["word"] 3 m_sums) (h__law_error : FnM P w K mg base "_law_error" s__law_error ["which", "word", "other"] 5 m__law_error) : ∀ (f : Addr) (cdv : Value) (A : Around) (outer : List PySem.Env) (s : Shared) (H : Hp) (E : XK), Room 5 (A.deeper (envOfC "law" (defScope s_law) s.heap.objs.size f cdv)) →
    PSs (cxOf (L2.CX P w) P w K mg base ["script", "deck", "bout", "letters", "word", "other", "number", "text", "due", "bad", "far", "one", "sign", "which"] "law" (defScope s_law) f cdv A outer s H E) (defBody s_law) (TSm K mg (Wb E) b_law) := by
  intro f cdv A outer s H E hr
  have tk : Takes (cxOf (L2.CX P w) P w K mg base ["script", "deck", "bout", "letters", "word", "other", "number", "text", "due", "bad", "far", "one", "sign", "which"] "law" (defScope s_law) f cdv A outer s H E) (Wb E) := takes_of (X := cxOf (L2.CX P w) P w K mg base ["script", "deck", "bout", "letters", "word", "other", "number", "text", "due", "bad", "far", "one", "sign", "which"] "law" (defScope s_law) f cdv A outer s H E) (E := E) rfl rfl rfl rfl
  have pp : PassesOwn (model P w) (cxOf (L2.CX P w) P w K mg base ["script", "deck", "bout", "letters", "word", "other", "number", "text", "due", "bad", "far", "one", "sign", "which"] "law" (defScope s_law) f cdv A outer s H E).A (cxOf (L2.CX P w) P w K mg base ["script", "deck", "bout", "letters", "word", "other", "number", "text", "due", "bad", "far", "one", "sign", "which"] "law" (defScope s_law) f cdv A outer s H E).env (cxOf (L2.CX P w) P w K mg base ["script", "deck", "bout", "letters", "word", "other", "number", "text", "due", "bad", "far", "one", "sign", "which"] "law" (defScope s_law) f cdv A outer s H E).xe := passes_of rfl
  exact mss_cons (ms_set (i := 1) sc_law.nd rfl (by first | exact Or.inl rfl | exact Or.inr rfl) (me_callG h__law_deck tk (hr.mono (by omega)) (by rfl) (fun _ _ _ _ _ _ us hl => match us, hl with | [_], _ => rfl) (ma_cons (me_var 0) (ma_nil))))
    (mss_cons (ms_for pp rfl (mi_range1 (pi_range1 (by rfl) G.b_range (ma_cons (me_val (me_op (pe_op op_addA (me_int) (me_val (me_cb (pe_callB (call_min2 rfl) (by rfl) G.b_min (by decide +kernel) (ma_cons (me_val (me_cb (pe_callB call_lenA (by rfl) G.b_len (by decide +kernel) (ma_cons (me_var 0) (ma_nil))) cf_len)) (ma_cons (me_int) (ma_nil)))) (cf_II (g := gMin))))) of_add)) (ma_nil)))) (mg_name sc_law.nd rfl (by first | exact Or.inl rfl | exact Or.inr rfl)) (mss_cons (ms_set (i := 3) sc_law.nd rfl (by first | exact Or.inl rfl | exact Or.inr rfl) (me_val (me_op (pe_op op_addA (me_int) (me_call 2 h__law_pick tk (hr.mono (by omega)) (by rfl) (fun _ _ _ _ _ _ us hl => match us, hl with | [_, _], _ => rfl) (ma_cons (me_var 1) (ma_cons (me_int) (ma_nil))))) of_add)))
    (mss_cons (ms_set (i := 4) sc_law.nd rfl (by first | exact Or.inl rfl | exact Or.inr rfl) (me_call 2 h__law_word tk (hr.mono (by omega)) (by rfl) (fun _ _ _ _ _ _ us hl => match us, hl with | [_, _, _], _ => rfl) (ma_cons (me_var 1) (ma_cons (me_var 3) (ma_cons (me_val (me_op (pe_ix ix_seq (me_val (me_lst (ma_cons (me_int) (ma_cons (me_int) (ma_cons (me_int) (ma_nil)))))) (me_call 2 h__law_pick tk (hr.mono (by omega)) (by rfl) (fun _ _ _ _ _ _ us hl => match us, hl with | [_, _], _ => rfl) (ma_cons (me_var 1) (ma_cons (me_int) (ma_nil)))) (fun _ _ => rfl)) of_ix)) (ma_nil))))))
    (mss_cons (ms_set (i := 5) sc_law.nd rfl (by first | exact Or.inl rfl | exact Or.inr rfl) (me_call 2 h__law_second tk (hr.mono (by omega)) (by rfl) (fun _ _ _ _ _ _ us hl => match us, hl with | [_, _, _], _ => rfl) (ma_cons (me_var 1) (ma_cons (me_var 4) (ma_cons (me_var 3) (ma_nil))))))
    (mss_cons (ms_if ((mw_or (mt_not (mt_val (me_call 0 h__law_right tk (hr.mono (by omega)) (by rfl) (fun _ _ _ _ _ _ us hl => match us, hl with | [_, _], _ => rfl) (ma_cons (me_callKwP0 (ks := ["other", "word"]) 0 [1, 0] h_product tk (hr.mono (by omega)) (by rfl) (fun _ _ _ _ _ _ us ws hl hl2 => match us, ws, hl, hl2 with | [], [_, _], _, _ => by rfl) (mk_cons (me_var 5) (mk_cons (me_var 4) (mk_nil)))) (ma_cons (me_val (me_op (pe_op op_addA (me_var 4) (me_var 5)) of_add)) (ma_nil)))))) (mw_or1 (mt_not (mt_val (me_call 0 h__law_right tk (hr.mono (by omega)) (by rfl) (fun _ _ _ _ _ _ us hl => match us, hl with | [_, _], _ => rfl) (ma_cons (me_call 0 h_product tk (hr.mono (by omega)) (by rfl) (fun _ _ _ _ _ _ us hl => match us, hl with | [_, _], _ => rfl) (ma_cons (me_var 5) (ma_cons (me_var 4) (ma_nil)))) (ma_cons (me_val (me_op (pe_op op_addA (me_var 5) (me_var 4)) of_add)) (ma_nil)))))))).pt) (mss_one (ms_ret (me_bl))) (mss_nil))
    (mss_cons (ms_if (mt_not (mt_val (me_call 0 h__law_right tk (hr.mono (by omega)) (by rfl) (fun _ _ _ _ _ _ us hl => match us, hl with | [_, _], _ => rfl) (ma_cons (me_callKwP0 (ks := ["other", "word"]) 0 [1, 0] h_commutator tk (hr.mono (by omega)) (by rfl) (fun _ _ _ _ _ _ us ws hl hl2 => match us, ws, hl, hl2 with | [], [_, _], _, _ => by rfl) (mk_cons (me_var 5) (mk_cons (me_var 4) (mk_nil)))) (ma_cons (me_val (me_op (pe_op op_addA (me_val (me_op (pe_op op_addA (me_val (me_op (pe_op op_addA (me_var 4) (me_var 5)) of_add)) (me_call 0 h__law_undone tk (hr.mono (by omega)) (by rfl) (fun _ _ _ _ _ _ us hl => match us, hl with | [_], _ => rfl) (ma_cons (me_var 4) (ma_nil)))) of_add)) (me_call 0 h__law_undone tk (hr.mono (by omega)) (by rfl) (fun _ _ _ _ _ _ us hl => match us, hl with | [_], _ => rfl) (ma_cons (me_var 5) (ma_nil)))) of_add)) (ma_nil)))))) (mss_one (ms_ret (me_bl))) (mss_nil))
    (mss_cons (ms_if (mt_op (pt_cmpR (op_neD hr.units) (me_val (me_op (pe_cmpR (op_eqD hr.units) (me_call 0 h_commutator tk (hr.mono (by omega)) (by rfl) (fun _ _ _ _ _ _ us hl => match us, hl with | [_, _], _ => rfl) (ma_cons (me_var 4) (ma_cons (me_var 5) (ma_nil)))) (me_str (by rfl)) (nomark _)) of_eq)) (me_val (me_op (pe_cmpR (op_eqD hr.units) (me_call 0 h__law_table tk (hr.mono (by omega)) (by rfl) (fun _ _ _ _ _ _ us hl => match us, hl with | [_], _ => rfl) (ma_cons (me_val (me_op (pe_op op_addA (me_var 4) (me_var 5)) of_add)) (ma_nil))) (me_call 0 h__law_table tk (hr.mono (by omega)) (by rfl) (fun _ _ _ _ _ _ us hl => match us, hl with | [_], _ => rfl) (ma_cons (me_val (me_op (pe_op op_addA (me_var 5) (me_var 4)) of_add)) (ma_nil))) (nomark _)) of_eq)) (nomark _)) of_ne) (mss_one (ms_ret (me_bl))) (mss_nil))
    (mss_cons (ms_if (mt_not (mt_val (me_call 0 h__law_right tk (hr.mono (by omega)) (by rfl) (fun _ _ _ _ _ _ us hl => match us, hl with | [_, _], _ => rfl) (ma_cons (me_callKwP0 (ks := ["other", "word"]) 0 [1, 0] h_conjugate tk (hr.mono (by omega)) (by rfl) (fun _ _ _ _ _ _ us ws hl hl2 => match us, ws, hl, hl2 with | [], [_, _], _, _ => by rfl) (mk_cons (me_var 5) (mk_cons (me_var 4) (mk_nil)))) (ma_cons (me_val (me_op (pe_op op_addA (me_val (me_op (pe_op op_addA (me_var 5) (me_var 4)) of_add)) (me_call 0 h__law_undone tk (hr.mono (by omega)) (by rfl) (fun _ _ _ _ _ _ us hl => match us, hl with | [_], _ => rfl) (ma_cons (me_var 5) (ma_nil)))) of_add)) (ma_nil)))))) (mss_one (ms_ret (me_bl))) (mss_nil))
    (mss_cons (ms_set (i := 6) sc_law.nd rfl (by first | exact Or.inl rfl | exact Or.inr rfl) (me_val (me_op (pe_ix ix_seq (me_val (me_lst (ma_cons (me_val (me_op (pe_op op_sub (me_call 2 h__law_pick tk (hr.mono (by omega)) (by rfl) (fun _ _ _ _ _ _ us hl => match us, hl with | [_, _], _ => rfl) (ma_cons (me_var 1) (ma_cons (me_int) (ma_nil)))) (me_int)) of_sub)) (ma_cons (me_val (me_op (pe_ix ix_seq (me_val (me_lst (ma_cons (me_val (me_u (pe_un un_neg (me_int)) of_neg)) (ma_cons (me_int) (ma_cons (me_int) (ma_cons (me_int) (ma_cons (me_val (me_u (pe_un un_neg (me_int)) of_neg)) (ma_nil)))))))) (me_call 2 h__law_pick tk (hr.mono (by omega)) (by rfl) (fun _ _ _ _ _ _ us hl => match us, hl with | [_, _], _ => rfl) (ma_cons (me_var 1) (ma_cons (me_int) (ma_nil)))) (fun _ _ => rfl)) of_ix)) (ma_nil))))) (me_call 2 h__law_pick tk (hr.mono (by omega)) (by rfl) (fun _ _ _ _ _ _ us hl => match us, hl with | [_, _], _ => rfl) (ma_cons (me_var 1) (ma_cons (me_int) (ma_nil)))) (fun _ _ => rfl)) of_ix)))
    (mss_cons (ms_set (i := 7) sc_law.nd rfl (by first | exact Or.inl rfl | exact Or.inr rfl) (me_if (mt_op (pt_cmpR op_ge (me_var 6) (me_int) (nomark _)) of_ge) (me_val (me_op (pe_op op_mulA (me_var 4) (me_var 6)) of_mul)) (me_val (me_op (pe_op op_mulA (me_call 0 h__law_undone tk (hr.mono (by omega)) (by rfl) (fun _ _ _ _ _ _ us hl => match us, hl with | [_], _ => rfl) (ma_cons (me_var 4) (ma_nil))) (me_val (me_u (pe_un un_neg (me_var 6)) of_neg))) of_mul))))
    (mss_cons (ms_if (mt_not (mt_val (me_call 0 h__law_right tk (hr.mono (by omega)) (by rfl) (fun _ _ _ _ _ _ us hl => match us, hl with | [_, _], _ => rfl) (ma_cons (me_callKwP0 (ks := ["number", "word"]) 0 [1, 0] h_power tk (hr.mono (by omega)) (by rfl) (fun _ _ _ _ _ _ us ws hl hl2 => match us, ws, hl, hl2 with | [], [_, _], _, _ => by rfl) (mk_cons (me_var 6) (mk_cons (me_var 4) (mk_nil)))) (ma_cons (me_var 7) (ma_nil)))))) (mss_one (ms_ret (me_bl))) (mss_nil))
    (mss_cons (ms_set (i := 8) sc_law.nd rfl (by first | exact Or.inl rfl | exact Or.inr rfl) (me_val (me_cb (pe_callTy call_tuple_of (by rfl) G.b_tuple (by decide +kernel) (ma_cons (me_val (me_comp rfl sc_law.nd (own := [("one", 11)]) (mi_any (me_str (by rfl))) (blkOk_by (by kernel_rfl)) (fun _ _ _ _ _ => mg_nameV sc_law.nd rfl (by first | exact Or.inl rfl | exact Or.inr rfl) (by decide)) (fun _ _ _ _ _ => mt_yes) (fun _ _ _ _ _ => me_val (me_op (pe_op op_sub (me_val (me_cb (pe_callB call_lenA (by rfl) G.b_len (by decide +kernel) (ma_cons (me_val (me_comp rfl sc_law.nd (own := [("sign", 12)]) (mi_any (me_var 4)) (blkOk_by (by kernel_rfl)) (fun _ _ _ _ _ => mg_nameV sc_law.nd rfl (by first | exact Or.inl rfl | exact Or.inr rfl) (by decide)) (fun _ _ _ _ _ => mt_one (mt_op (pt_cmpR (op_eqD hr.units) (me_var 12) (me_var 11) (nomark _)) of_eq)) (fun _ _ _ _ _ => me_var 12))) (ma_nil))) cf_len)) (me_val (me_cb (pe_callB call_lenA (by rfl) G.b_len (by decide +kernel) (ma_cons (me_val (me_comp rfl sc_law.nd (own := [("sign", 12)]) (mi_any (me_var 4)) (blkOk_by (by kernel_rfl)) (fun _ _ _ _ _ => mg_nameV sc_law.nd rfl (by first | exact Or.inl rfl | exact Or.inr rfl) (by decide)) (fun _ _ _ _ _ => mt_one (mt_op (pt_cmpR (op_eqD hr.units) (me_var 12) (me_call 0 h__law_undone takes0 (hr.mono (by omega)) (by rfl) (fun _ _ _ _ _ _ us hl => match us, hl with | [_], _ => rfl) (ma_cons (me_var 11) (ma_nil))) (nomark _)) of_eq)) (fun _ _ _ _ _ => me_var 12))) (ma_nil))) cf_len))) of_sub)))) (ma_nil))) cf_tupOf)))
    (mss_cons (ms_if ((mw_or (mt_not (mt_val (me_call 0 h__law_same tk (hr.mono (by omega)) (by rfl) (fun _ _ _ _ _ _ us hl => match us, hl with | [_, _], _ => rfl) (ma_cons (me_callKw0 (ks := ["word"]) 0 h_sums tk (hr.mono (by omega)) (by rfl) (fun _ _ _ _ _ _ us ws hl hl2 => match us, ws, hl, hl2 with | [], [_], _, _ => by rfl) (mk_cons (me_var 4) (mk_nil))) (ma_cons (me_var 8) (ma_nil)))))) (mw_or1 (mt_op (pt_cmpR (op_neD hr.units) (me_val (me_comp rfl sc_law.nd (own := [("which", 13)]) (mi_range1 (pi_range1 (by rfl) G.b_range (ma_cons (me_int) (ma_nil)))) (blkOk_by (by kernel_rfl)) (fun _ _ _ _ _ => mg_nameV sc_law.nd rfl (by first | exact Or.inl rfl | exact Or.inr rfl) (by decide)) (fun _ _ _ _ _ => mt_yes) (fun _ _ _ _ _ => me_call 0 h__law_error takes0 (hr.mono (by omega)) (by rfl) (fun _ _ _ _ _ _ us hl => match us, hl with | [_, _, _], _ => rfl) (ma_cons (me_var 13) (ma_cons (me_var 4) (ma_cons (me_if (mt_op (pt_cmpR (op_eqD hr.units) (me_var 13) (me_int) (nomark _)) of_eq) (me_int) (me_var 5)) (ma_nil))))))) (me_val (me_op (pe_op op_mulA (me_val (me_lst (ma_cons (me_str (by rfl)) (ma_nil)))) (me_int)) of_mul)) (nomark _)) of_ne))).pt) (mss_one (ms_ret (me_bl))) (mss_nil))
    (mss_cons (ms_set (i := 9) sc_law.nd rfl (by first | exact Or.inl rfl | exact Or.inr rfl) (me_val (me_op (pe_ix ix_seq (me_val (me_lst (ma_cons (me_str (by rfl)) (ma_cons (me_val (me_op (pe_op op_mulA (me_str (by rfl)) (me_int)) of_mul)) (ma_cons (me_non) (ma_cons (me_val (me_lst (ma_cons (me_var 4) (ma_nil)))) (ma_cons (me_tup (ma_cons (me_var 4) (ma_nil))) (ma_cons (me_int) (ma_cons (me_bl) (ma_nil)))))))))) (me_call 2 h__law_pick tk (hr.mono (by omega)) (by rfl) (fun _ _ _ _ _ _ us hl => match us, hl with | [_, _], _ => rfl) (ma_cons (me_var 1) (ma_cons (me_int) (ma_nil)))) (fun _ _ => rfl)) of_ix)))
    (mss_cons (ms_set (i := 10) sc_law.nd rfl (by first | exact Or.inl rfl | exact Or.inr rfl) (me_val (me_op (pe_ix ix_seq (me_val (me_lst (ma_cons (me_int) (ma_cons (me_val (me_u (pe_un un_neg (me_int)) of_neg)) (ma_cons (me_non) (ma_cons (me_bl) (ma_cons (me_str (by rfl)) (ma_cons (me_tup (ma_cons (me_int) (ma_nil))) (ma_nil))))))))) (me_call 2 h__law_pick tk (hr.mono (by omega)) (by rfl) (fun _ _ _ _ _ _ us hl => match us, hl with | [_, _], _ => rfl) (ma_cons (me_var 1) (ma_cons (me_int) (ma_nil)))) (fun _ _ => rfl)) of_ix)))
    (mss_cons (ms_if (mt_op (pt_cmpR (op_neD hr.units) (me_val (me_comp rfl sc_law.nd (own := [("which", 13)]) (mi_range1 (pi_range1 (by rfl) G.b_range (ma_cons (me_int) (ma_nil)))) (blkOk_by (by kernel_rfl)) (fun _ _ _ _ _ => mg_nameV sc_law.nd rfl (by first | exact Or.inl rfl | exact Or.inr rfl) (by decide)) (fun _ _ _ _ _ => mt_yes) (fun _ _ _ _ _ => me_call 0 h__law_error takes0 (hr.mono (by omega)) (by rfl) (fun _ _ _ _ _ _ us hl => match us, hl with | [_, _, _], _ => rfl) (ma_cons (me_var 13) (ma_cons (me_var 9) (ma_cons (me_if (mt_op (pt_cmpR (op_eqD hr.units) (me_var 13) (me_int) (nomark _)) of_eq) (me_var 10) (me_var 9)) (ma_nil))))))) (me_val (me_op (pe_op op_mulA (me_val (me_lst (ma_cons (me_str (by rfl)) (ma_nil)))) (me_int)) of_mul)) (nomark _)) of_ne) (mss_one (ms_ret (me_bl))) (mss_nil))
    (mss_one (ms_if (mt_op (pt_cmpR (op_neD hr.units) (me_val (me_comp rfl sc_law.nd (own := [("which", 13)]) (mi_range1 (pi_range1 (by rfl) G.b_range (ma_cons (me_int) (ma_nil)))) (blkOk_by (by kernel_rfl)) (fun _ _ _ _ _ => mg_nameV sc_law.nd rfl (by first | exact Or.inl rfl | exact Or.inr rfl) (by decide)) (fun _ _ _ _ _ => mt_yes) (fun _ _ _ _ _ => me_call 0 h__law_error takes0 (hr.mono (by omega)) (by rfl) (fun _ _ _ _ _ _ us hl => match us, hl with | [_, _, _], _ => rfl) (ma_cons (me_var 13) (ma_cons (me_var 4) (ma_cons (me_if (mt_op (pt_cmpR (op_eqD hr.units) (me_var 13) (me_int) (nomark _)) of_eq) (me_var 10) (me_var 9)) (ma_nil))))))) (me_val (me_lst (ma_cons (me_str (by rfl)) (ma_cons (me_str (by rfl)) (ma_cons (me_str (by rfl)) (ma_cons (me_str (by rfl)) (ma_nil))))))) (nomark _)) of_ne) (mss_one (ms_ret (me_bl))) (mss_nil)))))))))))))))))))
    (mss_one (ms_ret (me_bl))))
theorem d_all (G : Gx w K mg) : ∀ (f : Addr) (cdv : Value) (A : Around) (outer : List PySem.Env) (s : Shared) (H : Hp) (E : XK), Room 5 (A.deeper (envOfC "law" (defScope s_law) s.heap.objs.size f cdv)) →
    PSs (cxOf (L2.CX P w) P w K mg base ["script", "deck", "bout", "letters", "word", "other", "number", "text", "due", "bad", "far", "one", "sign", "which"] "law" (defScope s_law) f cdv A outer s H E) (defBody s_law) (TSm K mg (Wb E) b_law) := by
  have h__law_deck := k__law_deck (P := P) (w := w) (base := base) G
  have h__law_pick := k__law_pick (P := P) (w := w) (base := base) G
  have h__law_word := k__law_word (P := P) (w := w) (base := base) G h__law_pick
  have h__law_undone := k__law_undone (P := P) (w := w) (base := base) G
  have h__law_second := k__law_second (P := P) (w := w) (base := base) G h__law_pick h__law_undone h__law_word
  have h__law_times := k__law_times (P := P) (w := w) (base := base) G
  have h__law_table := k__law_table (P := P) (w := w) (base := base) G h__law_times
  have h__law_same := k__law_same (P := P) (w := w) (base := base) G
  have h__law_plain := k__law_plain (P := P) (w := w) (base := base) G h__law_undone
  have h__law_right := k__law_right (P := P) (w := w) (base := base) G h__law_same h__law_plain h__law_undone h__law_table
  have h_is_word_of := k_is_word_of (P := P) (w := w) (base := base) G
  have h_need_word := k_need_word (P := P) (w := w) (base := base) G h_is_word_of
  have h_need_two := k_need_two (P := P) (w := w) (base := base) G h_need_word h_is_word_of
  have h_inverse_sign := k_inverse_sign (P := P) (w := w) (base := base) G
  have h_reduced_in := k_reduced_in (P := P) (w := w) (base := base) G h_inverse_sign
  have h_inverse_in := k_inverse_in (P := P) (w := w) (base := base) G h_inverse_sign
  have h_commutator_in := k_commutator_in (P := P) (w := w) (base := base) G h_inverse_in
  have h_commutator := k_commutator (P := P) (w := w) (base := base) G h_need_two h_reduced_in h_commutator_in
  have h_conjugate := k_conjugate (P := P) (w := w) (base := base) G h_need_two h_reduced_in h_inverse_in
  have h_is_int := k_is_int (P := P) (w := w) (base := base) G
  have h_within := k_within (P := P) (w := w) (base := base) G h_is_int
  have h_power := k_power (P := P) (w := w) (base := base) G h_need_word h_within h_reduced_in h_inverse_in
  have h_product := k_product (P := P) (w := w) (base := base) G h_need_two h_reduced_in
  have h_sums_in := k_sums_in (P := P) (w := w) (base := base) G h_inverse_sign
  have h_sums := k_sums (P := P) (w := w) (base := base) G h_need_word h_sums_in
  have h__law_error := k__law_error (P := P) (w := w) (base := base) G h_product h_power h_commutator h_conjugate h_sums
  exact d_law G h__law_deck h__law_pick h__law_word h__law_second h__law_right h_product h__law_undone h_commutator h__law_table h_conjugate h_power h__law_same h_sums h__law_error
end
theorem all_mk {w : World} {K : PySem.W.Frag} {h : Heap} {mg : Str → Option Value} {zt_LETTERS : Tok} {zt_MOST_POWER : Tok} {zt_MOST_SIGNS : Tok} {zt_SIGNS : Tok} {C_BadNumber : Addr} {C_BadOther : Addr} {C_BadWord : Addr} {f__law_deck : Addr} {oc__law_deck kV__law_deck dc__law_deck pm__law_deck cd__law_deck ct__law_deck : Value} {od__law_deck an__law_deck : Option Addr} {sl__law_deck : Array (Option Value)} {f__law_pick : Addr} {oc__law_pick kV__law_pick dc__law_pick pm__law_pick cd__law_pick ct__law_pick : Value} {od__law_pick an__law_pick : Option Addr} {sl__law_pick : Array (Option Value)} {f__law_word : Addr} {oc__law_word kV__law_word dc__law_word pm__law_word cd__law_word ct__law_word : Value} {od__law_word an__law_word : Option Addr} {sl__law_word : Array (Option Value)} {f__law_undone : Addr} {oc__law_undone kV__law_undone dc__law_undone pm__law_undone cd__law_undone ct__law_undone : Value} {od__law_undone an__law_undone : Option Addr} {sl__law_undone : Array (Option Value)} {f__law_second : Addr} {oc__law_second kV__law_second dc__law_second pm__law_second cd__law_second ct__law_second : Value} {od__law_second an__law_second : Option Addr} {sl__law_second : Array (Option Value)} {f__law_times : Addr} {oc__law_times kV__law_times dc__law_times pm__law_times cd__law_times ct__law_times : Value} {od__law_times an__law_times : Option Addr} {sl__law_times : Array (Option Value)} {f__law_table : Addr} {oc__law_table kV__law_table dc__law_table pm__law_table cd__law_table ct__law_table : Value} {od__law_table an__law_table : Option Addr} {sl__law_table : Array (Option Value)} {f__law_same : Addr} {oc__law_same kV__law_same dc__law_same pm__law_same cd__law_same ct__law_same : Value} {od__law_same an__law_same : Option Addr} {sl__law_same : Array (Option Value)} {f__law_plain : Addr} {oc__law_plain kV__law_plain dc__law_plain pm__law_plain cd__law_plain ct__law_plain : Value} {od__law_plain an__law_plain : Option Addr} {sl__law_plain : Array (Option Value)} {f__law_right : Addr} {oc__law_right kV__law_right dc__law_right pm__law_right cd__law_right ct__law_right : Value} {od__law_right an__law_right : Option Addr} {sl__law_right : Array (Option Value)} {f_is_word_of : Addr} {oc_is_word_of kV_is_word_of dc_is_word_of pm_is_word_of cd_is_word_of ct_is_word_of : Value} {od_is_word_of an_is_word_of : Option Addr} {sl_is_word_of : Array (Option Value)} {f_need_word : Addr} {oc_need_word kV_need_word dc_need_word pm_need_word cd_need_word ct_need_word : Value} {od_need_word an_need_word : Option Addr} {sl_need_word : Array (Option Value)} {f_need_two : Addr} {oc_need_two kV_need_two dc_need_two pm_need_two cd_need_two ct_need_two : Value} {od_need_two an_need_two : Option Addr} {sl_need_two : Array (Option Value)} {f_inverse_sign : Addr} {oc_inverse_sign kV_inverse_sign dc_inverse_sign pm_inverse_sign cd_inverse_sign ct_inverse_sign : Value} {od_inverse_sign an_inverse_sign : Option Addr} {sl_inverse_sign : Array (Option Value)} {f_reduced_in : Addr} {oc_reduced_in kV_reduced_in dc_reduced_in pm_reduced_in cd_reduced_in ct_reduced_in : Value} {od_reduced_in an_reduced_in : Option Addr} {sl_reduced_in : Array (Option Value)} {f_inverse_in : Addr} {oc_inverse_in kV_inverse_in dc_inverse_in pm_inverse_in cd_inverse_in ct_inverse_in : Value} {od_inverse_in an_inverse_in : Option Addr} {sl_inverse_in : Array (Option Value)} {f_commutator_in : Addr} {oc_commutator_in kV_commutator_in dc_commutator_in pm_commutator_in cd_commutator_in ct_commutator_in : Value} {od_commutator_in an_commutator_in : Option Addr} {sl_commutator_in : Array (Option Value)} {f_commutator : Addr} {oc_commutator kV_commutator dc_commutator pm_commutator cd_commutator ct_commutator : Value} {od_commutator an_commutator : Option Addr} {sl_commutator : Array (Option Value)} {f_conjugate : Addr} {oc_conjugate kV_conjugate dc_conjugate pm_conjugate cd_conjugate ct_conjugate : Value} {od_conjugate an_conjugate : Option Addr} {sl_conjugate : Array (Option Value)} {f_is_int : Addr} {oc_is_int kV_is_int dc_is_int pm_is_int cd_is_int ct_is_int : Value} {od_is_int an_is_int : Option Addr} {sl_is_int : Array (Option Value)} {f_within : Addr} {oc_within kV_within dc_within pm_within cd_within ct_within : Value} {od_within an_within : Option Addr} {sl_within : Array (Option Value)} {f_power : Addr} {oc_power kV_power dc_power pm_power cd_power ct_power : Value} {od_power an_power : Option Addr} {sl_power : Array (Option Value)} {f_product : Addr} {oc_product kV_product dc_product pm_product cd_product ct_product : Value} {od_product an_product : Option Addr} {sl_product : Array (Option Value)} {f_sums_in : Addr} {oc_sums_in kV_sums_in dc_sums_in pm_sums_in cd_sums_in ct_sums_in : Value} {od_sums_in an_sums_in : Option Addr} {sl_sums_in : Array (Option Value)} {f_sums : Addr} {oc_sums kV_sums dc_sums pm_sums cd_sums ct_sums : Value} {od_sums an_sums : Option Addr} {sl_sums : Array (Option Value)} {f__law_error : Addr} {oc__law_error kV__law_error dc__law_error pm__law_error cd__law_error ct__law_error : Value} {od__law_error an__law_error : Option Addr} {sl__law_error : Array (Option Value)} {f_law : Addr} {oc_law kV_law dc_law pm_law cd_law ct_law : Value} {od_law an_law : Option Addr} {sl_law : Array (Option Value)} (X : K.In h) (G : h.Ns mainGlobals mg)
    (zb_all : PySem.W.nsIn K mainGlobals "all" = some none)
    (zb_bool : PySem.W.nsIn K mainGlobals "bool" = some none)
    (zb_int : PySem.W.nsIn K mainGlobals "int" = some none)
    (zb_isinstance : PySem.W.nsIn K mainGlobals "isinstance" = some none)
    (zb_len : PySem.W.nsIn K mainGlobals "len" = some none)
    (zb_min : PySem.W.nsIn K mainGlobals "min" = some none)
    (zb_range : PySem.W.nsIn K mainGlobals "range" = some none)
    (zb_reversed : PySem.W.nsIn K mainGlobals "reversed" = some none)
    (zb_str : PySem.W.nsIn K mainGlobals "str" = some none)
    (zb_tuple : PySem.W.nsIn K mainGlobals "tuple" = some none)
    (zc_LETTERS : PySem.W.nsIn K mainGlobals "LETTERS" = some (some (.str "abcd" zt_LETTERS)))
    (zc_MOST_POWER : PySem.W.nsIn K mainGlobals "MOST_POWER" = some (some (.int 12 zt_MOST_POWER)))
    (zc_MOST_SIGNS : PySem.W.nsIn K mainGlobals "MOST_SIGNS" = some (some (.int 60 zt_MOST_SIGNS)))
    (zc_SIGNS : PySem.W.nsIn K mainGlobals "SIGNS" = some (some (.str "abcdABCD" zt_SIGNS)))
    (ea_BadNumber : PySem.W.nsIn K mainGlobals "BadNumber" = some (some (.ref C_BadNumber)))
    (ex_BadNumber : PySem.W.excIn K C_BadNumber [.type "ValueError", .type "Exception", .type "BaseException", .type "object"] "ValueError.__new__" = true)
    (ek_BadNumber : PySem.W.keepIn K (.ref C_BadNumber) = true)
    (eb_BadNumber : PySem.W.subIn K (.ref C_BadNumber) (.type "BaseException") = some true)
    (et_BadNumber : PySem.W.typeIn K (.ref C_BadNumber) = some (.type "type"))
    (ei_BadNumber : PySem.W.isClsIn K C_BadNumber = true)
    (ea_BadOther : PySem.W.nsIn K mainGlobals "BadOther" = some (some (.ref C_BadOther)))
    (ex_BadOther : PySem.W.excIn K C_BadOther [.type "ValueError", .type "Exception", .type "BaseException", .type "object"] "ValueError.__new__" = true)
    (ek_BadOther : PySem.W.keepIn K (.ref C_BadOther) = true)
    (eb_BadOther : PySem.W.subIn K (.ref C_BadOther) (.type "BaseException") = some true)
    (et_BadOther : PySem.W.typeIn K (.ref C_BadOther) = some (.type "type"))
    (ei_BadOther : PySem.W.isClsIn K C_BadOther = true)
    (ea_BadWord : PySem.W.nsIn K mainGlobals "BadWord" = some (some (.ref C_BadWord)))
    (ex_BadWord : PySem.W.excIn K C_BadWord [.type "ValueError", .type "Exception", .type "BaseException", .type "object"] "ValueError.__new__" = true)
    (ek_BadWord : PySem.W.keepIn K (.ref C_BadWord) = true)
    (eb_BadWord : PySem.W.subIn K (.ref C_BadWord) (.type "BaseException") = some true)
    (et_BadWord : PySem.W.typeIn K (.ref C_BadWord) = some (.type "type"))
    (ei_BadWord : PySem.W.isClsIn K C_BadWord = true)
    (xs_BadNumber_BadNumber : PySem.W.subIn K (.ref C_BadNumber) (.ref C_BadNumber) = some true)
    (xs_BadNumber_BadOther : PySem.W.subIn K (.ref C_BadNumber) (.ref C_BadOther) = some false)
    (xs_BadNumber_BadWord : PySem.W.subIn K (.ref C_BadNumber) (.ref C_BadWord) = some false)
    (xs_BadOther_BadOther : PySem.W.subIn K (.ref C_BadOther) (.ref C_BadOther) = some true)
    (xs_BadOther_BadWord : PySem.W.subIn K (.ref C_BadOther) (.ref C_BadWord) = some false)
    (xs_BadWord_BadWord : PySem.W.subIn K (.ref C_BadWord) (.ref C_BadWord) = some true)
    (fa__law_deck : PySem.W.nsIn K mainGlobals "_law_deck" = some (some (.ref f__law_deck)))
    (fl__law_deck : K.lookup f__law_deck = some ⟨oc__law_deck, od__law_deck, .func (PySem.W.fnOf "_law_deck" "_law_deck" (defArgs s__law_deck) (defBody s__law_deck) (defScope s__law_deck) .none kV__law_deck dc__law_deck pm__law_deck an__law_deck cd__law_deck ct__law_deck), sl__law_deck⟩)
    (fc__law_deck : PySem.W.codeIn K cd__law_deck "_law_deck" = true)
    (fk__law_deck : PySem.W.keepIn K (.ref f__law_deck) = true)
    (fa__law_pick : PySem.W.nsIn K mainGlobals "_law_pick" = some (some (.ref f__law_pick)))
    (fl__law_pick : K.lookup f__law_pick = some ⟨oc__law_pick, od__law_pick, .func (PySem.W.fnOf "_law_pick" "_law_pick" (defArgs s__law_pick) (defBody s__law_pick) (defScope s__law_pick) .none kV__law_pick dc__law_pick pm__law_pick an__law_pick cd__law_pick ct__law_pick), sl__law_pick⟩)
    (fc__law_pick : PySem.W.codeIn K cd__law_pick "_law_pick" = true)
    (fk__law_pick : PySem.W.keepIn K (.ref f__law_pick) = true)
    (fa__law_word : PySem.W.nsIn K mainGlobals "_law_word" = some (some (.ref f__law_word)))
    (fl__law_word : K.lookup f__law_word = some ⟨oc__law_word, od__law_word, .func (PySem.W.fnOf "_law_word" "_law_word" (defArgs s__law_word) (defBody s__law_word) (defScope s__law_word) .none kV__law_word dc__law_word pm__law_word an__law_word cd__law_word ct__law_word), sl__law_word⟩)
    (fc__law_word : PySem.W.codeIn K cd__law_word "_law_word" = true)
    (fk__law_word : PySem.W.keepIn K (.ref f__law_word) = true)
    (fa__law_undone : PySem.W.nsIn K mainGlobals "_law_undone" = some (some (.ref f__law_undone)))
    (fl__law_undone : K.lookup f__law_undone = some ⟨oc__law_undone, od__law_undone, .func (PySem.W.fnOf "_law_undone" "_law_undone" (defArgs s__law_undone) (defBody s__law_undone) (defScope s__law_undone) .none kV__law_undone dc__law_undone pm__law_undone an__law_undone cd__law_undone ct__law_undone), sl__law_undone⟩)
    (fc__law_undone : PySem.W.codeIn K cd__law_undone "_law_undone" = true)
    (fk__law_undone : PySem.W.keepIn K (.ref f__law_undone) = true)
    (fa__law_second : PySem.W.nsIn K mainGlobals "_law_second" = some (some (.ref f__law_second)))
    (fl__law_second : K.lookup f__law_second = some ⟨oc__law_second, od__law_second, .func (PySem.W.fnOf "_law_second" "_law_second" (defArgs s__law_second) (defBody s__law_second) (defScope s__law_second) .none kV__law_second dc__law_second pm__law_second an__law_second cd__law_second ct__law_second), sl__law_second⟩)
    (fc__law_second : PySem.W.codeIn K cd__law_second "_law_second" = true)
    (fk__law_second : PySem.W.keepIn K (.ref f__law_second) = true)
    (fa__law_times : PySem.W.nsIn K mainGlobals "_law_times" = some (some (.ref f__law_times)))
    (fl__law_times : K.lookup f__law_times = some ⟨oc__law_times, od__law_times, .func (PySem.W.fnOf "_law_times" "_law_times" (defArgs s__law_times) (defBody s__law_times) (defScope s__law_times) .none kV__law_times dc__law_times pm__law_times an__law_times cd__law_times ct__law_times), sl__law_times⟩)
    (fc__law_times : PySem.W.codeIn K cd__law_times "_law_times" = true)
    (fk__law_times : PySem.W.keepIn K (.ref f__law_times) = true)
    (fa__law_table : PySem.W.nsIn K mainGlobals "_law_table" = some (some (.ref f__law_table)))
    (fl__law_table : K.lookup f__law_table = some ⟨oc__law_table, od__law_table, .func (PySem.W.fnOf "_law_table" "_law_table" (defArgs s__law_table) (defBody s__law_table) (defScope s__law_table) .none kV__law_table dc__law_table pm__law_table an__law_table cd__law_table ct__law_table), sl__law_table⟩)
    (fc__law_table : PySem.W.codeIn K cd__law_table "_law_table" = true)
    (fk__law_table : PySem.W.keepIn K (.ref f__law_table) = true)
    (fa__law_same : PySem.W.nsIn K mainGlobals "_law_same" = some (some (.ref f__law_same)))
    (fl__law_same : K.lookup f__law_same = some ⟨oc__law_same, od__law_same, .func (PySem.W.fnOf "_law_same" "_law_same" (defArgs s__law_same) (defBody s__law_same) (defScope s__law_same) .none kV__law_same dc__law_same pm__law_same an__law_same cd__law_same ct__law_same), sl__law_same⟩)
    (fc__law_same : PySem.W.codeIn K cd__law_same "_law_same" = true)
    (fk__law_same : PySem.W.keepIn K (.ref f__law_same) = true)
    (fa__law_plain : PySem.W.nsIn K mainGlobals "_law_plain" = some (some (.ref f__law_plain)))
    (fl__law_plain : K.lookup f__law_plain = some ⟨oc__law_plain, od__law_plain, .func (PySem.W.fnOf "_law_plain" "_law_plain" (defArgs s__law_plain) (defBody s__law_plain) (defScope s__law_plain) .none kV__law_plain dc__law_plain pm__law_plain an__law_plain cd__law_plain ct__law_plain), sl__law_plain⟩)
    (fc__law_plain : PySem.W.codeIn K cd__law_plain "_law_plain" = true)
    (fk__law_plain : PySem.W.keepIn K (.ref f__law_plain) = true)
    (fa__law_right : PySem.W.nsIn K mainGlobals "_law_right" = some (some (.ref f__law_right)))
    (fl__law_right : K.lookup f__law_right = some ⟨oc__law_right, od__law_right, .func (PySem.W.fnOf "_law_right" "_law_right" (defArgs s__law_right) (defBody s__law_right) (defScope s__law_right) .none kV__law_right dc__law_right pm__law_right an__law_right cd__law_right ct__law_right), sl__law_right⟩)
    (fc__law_right : PySem.W.codeIn K cd__law_right "_law_right" = true)
    (fk__law_right : PySem.W.keepIn K (.ref f__law_right) = true)
    (fa_is_word_of : PySem.W.nsIn K mainGlobals "is_word_of" = some (some (.ref f_is_word_of)))
    (fl_is_word_of : K.lookup f_is_word_of = some ⟨oc_is_word_of, od_is_word_of, .func (PySem.W.fnOf "is_word_of" "is_word_of" (defArgs s_is_word_of) (defBody s_is_word_of) (defScope s_is_word_of) .none kV_is_word_of dc_is_word_of pm_is_word_of an_is_word_of cd_is_word_of ct_is_word_of), sl_is_word_of⟩)
    (fc_is_word_of : PySem.W.codeIn K cd_is_word_of "is_word_of" = true)
    (fk_is_word_of : PySem.W.keepIn K (.ref f_is_word_of) = true)
    (fa_need_word : PySem.W.nsIn K mainGlobals "need_word" = some (some (.ref f_need_word)))
    (fl_need_word : K.lookup f_need_word = some ⟨oc_need_word, od_need_word, .func (PySem.W.fnOf "need_word" "need_word" (defArgs s_need_word) (defBody s_need_word) (defScope s_need_word) .none kV_need_word dc_need_word pm_need_word an_need_word cd_need_word ct_need_word), sl_need_word⟩)
    (fc_need_word : PySem.W.codeIn K cd_need_word "need_word" = true)
    (fk_need_word : PySem.W.keepIn K (.ref f_need_word) = true)
    (fa_need_two : PySem.W.nsIn K mainGlobals "need_two" = some (some (.ref f_need_two)))
    (fl_need_two : K.lookup f_need_two = some ⟨oc_need_two, od_need_two, .func (PySem.W.fnOf "need_two" "need_two" (defArgs s_need_two) (defBody s_need_two) (defScope s_need_two) .none kV_need_two dc_need_two pm_need_two an_need_two cd_need_two ct_need_two), sl_need_two⟩)
    (fc_need_two : PySem.W.codeIn K cd_need_two "need_two" = true)
    (fk_need_two : PySem.W.keepIn K (.ref f_need_two) = true)
    (fa_inverse_sign : PySem.W.nsIn K mainGlobals "inverse_sign" = some (some (.ref f_inverse_sign)))
    (fl_inverse_sign : K.lookup f_inverse_sign = some ⟨oc_inverse_sign, od_inverse_sign, .func (PySem.W.fnOf "inverse_sign" "inverse_sign" (defArgs s_inverse_sign) (defBody s_inverse_sign) (defScope s_inverse_sign) .none kV_inverse_sign dc_inverse_sign pm_inverse_sign an_inverse_sign cd_inverse_sign ct_inverse_sign), sl_inverse_sign⟩)
    (fc_inverse_sign : PySem.W.codeIn K cd_inverse_sign "inverse_sign" = true)
    (fk_inverse_sign : PySem.W.keepIn K (.ref f_inverse_sign) = true)
    (fa_reduced_in : PySem.W.nsIn K mainGlobals "reduced_in" = some (some (.ref f_reduced_in)))
    (fl_reduced_in : K.lookup f_reduced_in = some ⟨oc_reduced_in, od_reduced_in, .func (PySem.W.fnOf "reduced_in" "reduced_in" (defArgs s_reduced_in) (defBody s_reduced_in) (defScope s_reduced_in) .none kV_reduced_in dc_reduced_in pm_reduced_in an_reduced_in cd_reduced_in ct_reduced_in), sl_reduced_in⟩)
    (fc_reduced_in : PySem.W.codeIn K cd_reduced_in "reduced_in" = true)
    (fk_reduced_in : PySem.W.keepIn K (.ref f_reduced_in) = true)
    (fa_inverse_in : PySem.W.nsIn K mainGlobals "inverse_in" = some (some (.ref f_inverse_in)))
    (fl_inverse_in : K.lookup f_inverse_in = some ⟨oc_inverse_in, od_inverse_in, .func (PySem.W.fnOf "inverse_in" "inverse_in" (defArgs s_inverse_in) (defBody s_inverse_in) (defScope s_inverse_in) .none kV_inverse_in dc_inverse_in pm_inverse_in an_inverse_in cd_inverse_in ct_inverse_in), sl_inverse_in⟩)
    (fc_inverse_in : PySem.W.codeIn K cd_inverse_in "inverse_in" = true)
    (fk_inverse_in : PySem.W.keepIn K (.ref f_inverse_in) = true)
    (fa_commutator_in : PySem.W.nsIn K mainGlobals "commutator_in" = some (some (.ref f_commutator_in)))
    (fl_commutator_in : K.lookup f_commutator_in = some ⟨oc_commutator_in, od_commutator_in, .func (PySem.W.fnOf "commutator_in" "commutator_in" (defArgs s_commutator_in) (defBody s_commutator_in) (defScope s_commutator_in) .none kV_commutator_in dc_commutator_in pm_commutator_in an_commutator_in cd_commutator_in ct_commutator_in), sl_commutator_in⟩)
    (fc_commutator_in : PySem.W.codeIn K cd_commutator_in "commutator_in" = true)
    (fk_commutator_in : PySem.W.keepIn K (.ref f_commutator_in) = true)
    (fa_commutator : PySem.W.nsIn K mainGlobals "commutator" = some (some (.ref f_commutator)))
    (fl_commutator : K.lookup f_commutator = some ⟨oc_commutator, od_commutator, .func (PySem.W.fnOf "commutator" "commutator" (defArgs s_commutator) (defBody s_commutator) (defScope s_commutator) .none kV_commutator dc_commutator pm_commutator an_commutator cd_commutator ct_commutator), sl_commutator⟩)
    (fc_commutator : PySem.W.codeIn K cd_commutator "commutator" = true)
    (fk_commutator : PySem.W.keepIn K (.ref f_commutator) = true)
    (fa_conjugate : PySem.W.nsIn K mainGlobals "conjugate" = some (some (.ref f_conjugate)))
    (fl_conjugate : K.lookup f_conjugate = some ⟨oc_conjugate, od_conjugate, .func (PySem.W.fnOf "conjugate" "conjugate" (defArgs s_conjugate) (defBody s_conjugate) (defScope s_conjugate) .none kV_conjugate dc_conjugate pm_conjugate an_conjugate cd_conjugate ct_conjugate), sl_conjugate⟩)
    (fc_conjugate : PySem.W.codeIn K cd_conjugate "conjugate" = true)
    (fk_conjugate : PySem.W.keepIn K (.ref f_conjugate) = true)
    (fa_is_int : PySem.W.nsIn K mainGlobals "is_int" = some (some (.ref f_is_int)))
    (fl_is_int : K.lookup f_is_int = some ⟨oc_is_int, od_is_int, .func (PySem.W.fnOf "is_int" "is_int" (defArgs s_is_int) (defBody s_is_int) (defScope s_is_int) .none kV_is_int dc_is_int pm_is_int an_is_int cd_is_int ct_is_int), sl_is_int⟩)
    (fc_is_int : PySem.W.codeIn K cd_is_int "is_int" = true)
    (fk_is_int : PySem.W.keepIn K (.ref f_is_int) = true)
    (fa_within : PySem.W.nsIn K mainGlobals "within" = some (some (.ref f_within)))
    (fl_within : K.lookup f_within = some ⟨oc_within, od_within, .func (PySem.W.fnOf "within" "within" (defArgs s_within) (defBody s_within) (defScope s_within) .none kV_within dc_within pm_within an_within cd_within ct_within), sl_within⟩)
    (fc_within : PySem.W.codeIn K cd_within "within" = true)
    (fk_within : PySem.W.keepIn K (.ref f_within) = true)
    (fa_power : PySem.W.nsIn K mainGlobals "power" = some (some (.ref f_power)))
    (fl_power : K.lookup f_power = some ⟨oc_power, od_power, .func (PySem.W.fnOf "power" "power" (defArgs s_power) (defBody s_power) (defScope s_power) .none kV_power dc_power pm_power an_power cd_power ct_power), sl_power⟩)
    (fc_power : PySem.W.codeIn K cd_power "power" = true)
    (fk_power : PySem.W.keepIn K (.ref f_power) = true)
    (fa_product : PySem.W.nsIn K mainGlobals "product" = some (some (.ref f_product)))
    (fl_product : K.lookup f_product = some ⟨oc_product, od_product, .func (PySem.W.fnOf "product" "product" (defArgs s_product) (defBody s_product) (defScope s_product) .none kV_product dc_product pm_product an_product cd_product ct_product), sl_product⟩)
    (fc_product : PySem.W.codeIn K cd_product "product" = true)
    (fk_product : PySem.W.keepIn K (.ref f_product) = true)
    (fa_sums_in : PySem.W.nsIn K mainGlobals "sums_in" = some (some (.ref f_sums_in)))
    (fl_sums_in : K.lookup f_sums_in = some ⟨oc_sums_in, od_sums_in, .func (PySem.W.fnOf "sums_in" "sums_in" (defArgs s_sums_in) (defBody s_sums_in) (defScope s_sums_in) .none kV_sums_in dc_sums_in pm_sums_in an_sums_in cd_sums_in ct_sums_in), sl_sums_in⟩)
    (fc_sums_in : PySem.W.codeIn K cd_sums_in "sums_in" = true)
    (fk_sums_in : PySem.W.keepIn K (.ref f_sums_in) = true)
    (fa_sums : PySem.W.nsIn K mainGlobals "sums" = some (some (.ref f_sums)))
    (fl_sums : K.lookup f_sums = some ⟨oc_sums, od_sums, .func (PySem.W.fnOf "sums" "sums" (defArgs s_sums) (defBody s_sums) (defScope s_sums) .none kV_sums dc_sums pm_sums an_sums cd_sums ct_sums), sl_sums⟩)
    (fc_sums : PySem.W.codeIn K cd_sums "sums" = true)
    (fk_sums : PySem.W.keepIn K (.ref f_sums) = true)
    (fa__law_error : PySem.W.nsIn K mainGlobals "_law_error" = some (some (.ref f__law_error)))
    (fl__law_error : K.lookup f__law_error = some ⟨oc__law_error, od__law_error, .func (PySem.W.fnOf "_law_error" "_law_error" (defArgs s__law_error) (defBody s__law_error) (defScope s__law_error) .none kV__law_error dc__law_error pm__law_error an__law_error cd__law_error ct__law_error), sl__law_error⟩)
    (fc__law_error : PySem.W.codeIn K cd__law_error "_law_error" = true)
    (fk__law_error : PySem.W.keepIn K (.ref f__law_error) = true)
    (fa_law : PySem.W.nsIn K mainGlobals "law" = some (some (.ref f_law)))
    (fl_law : K.lookup f_law = some ⟨oc_law, od_law, .func (PySem.W.fnOf "law" "law" (defArgs s_law) (defBody s_law) (defScope s_law) .none kV_law dc_law pm_law an_law cd_law ct_law), sl_law⟩)
    (fc_law : PySem.W.codeIn K cd_law "law" = true)
    (fk_law : PySem.W.keepIn K (.ref f_law) = true) : Gx w K mg :=
  { b_all := PySem.W.mg_none_of X G zb_all,
    b_bool := PySem.W.mg_none_of X G zb_bool,
    b_int := PySem.W.mg_none_of X G zb_int,
    b_isinstance := PySem.W.mg_none_of X G zb_isinstance,
    b_len := PySem.W.mg_none_of X G zb_len,
    b_min := PySem.W.mg_none_of X G zb_min,
    b_range := PySem.W.mg_none_of X G zb_range,
    b_reversed := PySem.W.mg_none_of X G zb_reversed,
    b_str := PySem.W.mg_none_of X G zb_str,
    b_tuple := PySem.W.mg_none_of X G zb_tuple,
    c_LETTERS := ⟨_, PySem.W.mg_of X G zc_LETTERS⟩,
    c_MOST_POWER := ⟨_, PySem.W.mg_of X G zc_MOST_POWER⟩,
    c_MOST_SIGNS := ⟨_, PySem.W.mg_of X G zc_MOST_SIGNS⟩,
    c_SIGNS := ⟨_, PySem.W.mg_of X G zc_SIGNS⟩,
    e_BadNumber := ⟨C_BadNumber, PySem.W.mg_of X G ea_BadNumber, ex_BadNumber, ek_BadNumber, eb_BadNumber, et_BadNumber⟩,
    e_BadOther := ⟨C_BadOther, PySem.W.mg_of X G ea_BadOther, ex_BadOther, ek_BadOther, eb_BadOther, et_BadOther⟩,
    e_BadWord := ⟨C_BadWord, PySem.W.mg_of X G ea_BadWord, ex_BadWord, ek_BadWord, eb_BadWord, et_BadWord⟩,
    x_BadNumber_BadNumber := ⟨C_BadNumber, C_BadNumber, PySem.W.mg_of X G ea_BadNumber, PySem.W.mg_of X G ea_BadNumber, exm_cd eb_BadNumber ei_BadNumber et_BadNumber xs_BadNumber_BadNumber⟩,
    x_BadNumber_BadOther := ⟨C_BadNumber, C_BadOther, PySem.W.mg_of X G ea_BadNumber, PySem.W.mg_of X G ea_BadOther, exm_cd eb_BadOther ei_BadOther et_BadOther xs_BadNumber_BadOther⟩,
    x_BadNumber_BadWord := ⟨C_BadNumber, C_BadWord, PySem.W.mg_of X G ea_BadNumber, PySem.W.mg_of X G ea_BadWord, exm_cd eb_BadWord ei_BadWord et_BadWord xs_BadNumber_BadWord⟩,
    x_BadOther_BadOther := ⟨C_BadOther, C_BadOther, PySem.W.mg_of X G ea_BadOther, PySem.W.mg_of X G ea_BadOther, exm_cd eb_BadOther ei_BadOther et_BadOther xs_BadOther_BadOther⟩,
    x_BadOther_BadWord := ⟨C_BadOther, C_BadWord, PySem.W.mg_of X G ea_BadOther, PySem.W.mg_of X G ea_BadWord, exm_cd eb_BadWord ei_BadWord et_BadWord xs_BadOther_BadWord⟩,
    x_BadWord_BadWord := ⟨C_BadWord, C_BadWord, PySem.W.mg_of X G ea_BadWord, PySem.W.mg_of X G ea_BadWord, exm_cd eb_BadWord ei_BadWord et_BadWord xs_BadWord_BadWord⟩,
    f__law_deck := ff_mk X G fa__law_deck fl__law_deck fc__law_deck fk__law_deck,
    f__law_pick := ff_mk X G fa__law_pick fl__law_pick fc__law_pick fk__law_pick,
    f__law_word := ff_mk X G fa__law_word fl__law_word fc__law_word fk__law_word,
    f__law_undone := ff_mk X G fa__law_undone fl__law_undone fc__law_undone fk__law_undone,
    f__law_second := ff_mk X G fa__law_second fl__law_second fc__law_second fk__law_second,
    f__law_times := ff_mk X G fa__law_times fl__law_times fc__law_times fk__law_times,
    f__law_table := ff_mk X G fa__law_table fl__law_table fc__law_table fk__law_table,
    f__law_same := ff_mk X G fa__law_same fl__law_same fc__law_same fk__law_same,
    f__law_plain := ff_mk X G fa__law_plain fl__law_plain fc__law_plain fk__law_plain,
    f__law_right := ff_mk X G fa__law_right fl__law_right fc__law_right fk__law_right,
    f_is_word_of := ff_mk X G fa_is_word_of fl_is_word_of fc_is_word_of fk_is_word_of,
    f_need_word := ff_mk X G fa_need_word fl_need_word fc_need_word fk_need_word,
    f_need_two := ff_mk X G fa_need_two fl_need_two fc_need_two fk_need_two,
    f_inverse_sign := ff_mk X G fa_inverse_sign fl_inverse_sign fc_inverse_sign fk_inverse_sign,
    f_reduced_in := ff_mk X G fa_reduced_in fl_reduced_in fc_reduced_in fk_reduced_in,
    f_inverse_in := ff_mk X G fa_inverse_in fl_inverse_in fc_inverse_in fk_inverse_in,
    f_commutator_in := ff_mk X G fa_commutator_in fl_commutator_in fc_commutator_in fk_commutator_in,
    f_commutator := ff_mk X G fa_commutator fl_commutator fc_commutator fk_commutator,
    f_conjugate := ff_mk X G fa_conjugate fl_conjugate fc_conjugate fk_conjugate,
    f_is_int := ff_mk X G fa_is_int fl_is_int fc_is_int fk_is_int,
    f_within := ff_mk X G fa_within fl_within fc_within fk_within,
    f_power := ff_mk X G fa_power fl_power fc_power fk_power,
    f_product := ff_mk X G fa_product fl_product fc_product fk_product,
    f_sums_in := ff_mk X G fa_sums_in fl_sums_in fc_sums_in fk_sums_in,
    f_sums := ff_mk X G fa_sums fl_sums fc_sums fk_sums,
    f__law_error := ff_mk X G fa__law_error fl__law_error fc__law_error fk__law_error,
    f_law := ff_mk X G fa_law fl_law fc_law fk_law }
end L2.Mi.K02

set_option Elab.async false
set_option linter.all false
set_option maxRecDepth 100000
set_option maxHeartbeats 4000000
namespace L2.Mi.K02
open PySem PySem.Spec PyProof.Rows L2 L2.Mi L2.Mi.Wd L2.Mi.Lb L2.Mi.Lw L2.Mi.Lx L2.Mi.Fr
section
variable {S D D' R : Sto} {s t u v : List Nat} {c n m r : Nat} {w x y z : W} {xs ys : List W} {i j k : Int} {E : Str → Sto → Prop} {Q : W → Sto → Prop} {ss : List (List Nat)}
theorem ev_mCallKwP {k n m : Nat} {ix : List Nat} {f : MF} {ms mk : Env → Sto → Out (List W)} {env : Env} : mCallKwP k n m ix f ms mk env S = (ms env S).bind fun ws S1 => (mk env S1).bind fun zs S2 => if ws.length = n ∧ zs.length = m then callK k f (ws ++ permL ix zs) S2 else .fail := rfl
theorem perm_10 : permL [1, 0] [x, y] = [y, x] := rfl
theorem cL_none {α : Type} {g : α → Sto → Out (Option W)} : ∀ {l : List α}, (∀ a, a ∈ l → g a S = .ok none S) → cL g l S = .ok [] S
  | [], _ => rfl
  | a :: l, h => by
    show (g a S).bind _ = _
    rw [h a List.mem_cons_self, Out.bind_ok, cL_none (l := l) fun b hb => h b (List.mem_cons_of_mem _ hb)]
    rfl
/-! ### power -/
def pw (s : List Nat) (n : Int) : List Nat := if 0 ≤ n then (List.replicate n.toNat s).flatten else (List.replicate (-n).toNat (invw s)).flatten
theorem rep_word (hs : Word s) : ∀ k, Word (List.replicate k s).flatten
  | 0 => .nil
  | k + 1 => by
    rw [List.replicate_succ, List.flatten_cons]
    exact hs.app (rep_word hs k)
theorem pw_word (hs : Word s) : Word (pw s i) := by
  unfold pw
  split
  · exact rep_word hs _
  · exact rep_word hs.inv _
theorem pw_len (hl : s.length ≤ 60) (h1 : -12 ≤ i) (h2 : i ≤ 12) : (pw s i).length ≤ 720 := by
  have key : ∀ (k : Nat) (l : List Nat), k ≤ 12 → l.length ≤ 60 → (List.replicate k l).flatten.length ≤ 720 := fun k l hk hl => by
    rw [len_rep]
    have := Nat.mul_le_mul hk hl
    omega
  unfold pw
  split
  · exact key _ _ (by omega) hl
  · exact key _ _ (by omega) (by rw [invw_length]; exact hl)
theorem pw_pos (hl : s.length ≤ 60) (h1 : 0 ≤ i) (h2 : i ≤ 12) : fMul (.str s) (.int i) S = .ok (.val (.str (pw s i))) S := by
  have : s.length * i.toNat ≤ 60 * 12 := Nat.mul_le_mul hl (by omega)
  rw [mul_si h1 (by omega) (by omega)]
  unfold pw
  rw [if_pos h1]
theorem pw_neg (hl : s.length ≤ 60) (h1 : i < 0) (h2 : -12 ≤ i) : fMul (.str (invw s)) (.int (-i)) S = .ok (.val (.str (pw s i))) S := by
  have : (invw s).length * (-i).toNat ≤ 60 * 12 := Nat.mul_le_mul (by rw [invw_length]; exact hl) (by omega)
  rw [mul_si (by omega) (by omega) (by omega)]
  unfold pw
  rw [if_neg (by omega)]
theorem power_ok (h : isW s 60 = true) (h1 : -12 ≤ i) (h2 : i ≤ 12) : callK 0 m_power [.str s, .int i] S = .ok (.str (red (pw s i))) S := by
  have hl := isW_len (n := 60) h
  have hw := isW_word h
  have hpw := pw_len hl h1 h2
  refine call0 (S' := []) rfl ?_ rfl
  show outF (b_power [some (.str s), some (.int i)] []) = _
  unfold b_power
  have k1 : ∀ S, callK 0 m_within [.int i, .int (-12), .int 12] S = .ok (.bl true) S := fun S => by
    rw [c_within rfl rfl]
    have : inX (.int i) (-12) 12 = true := by simp [inX]; omega
    rw [this]
  have k2 : ∀ S, callK 0 m_reduced_in [.str (pw s i)] S = .ok (.str (red (pw s i))) S := fun S => c_reduced_in (pw_word hw) (by show _ ≤ 16777216; omega)
  by_cases h0 : 0 ≤ i
  · have d : decide (0 ≤ i) = true := decide_eq_true h0
    have k3 : ∀ S, fMul (.str s) (.int i) S = .ok (.val (.str (pw s i))) S := fun S => pw_pos hl h0 h2
    try simp (config := {maxSteps := 2000000}) (disch := (first | assumption | omega | (refine lkd ?_; decide) | (simp only [LINE, Nat.reduceMul, Nat.reduceLeDiff, Int.reduceToNat, Int.toNat_natCast, List.length_append, List.length_cons, List.length_nil, List.length_map, List.length_range, List.length_take, List.length_drop, List.length_reverse, List.length_replicate, invw_length, List.length_set] <;> omega) | (simp only [wd_app, wd_cons, wd_nil, and_true, true_and]; first | done | (refine ⟨?_, ?_⟩ <;> assumption) | assumption) | (intro ca ch; simp (config := {maxSteps := 2000000}) (disch := (first | assumption | omega | (refine lkd ?_; decide) | (simp only [LINE, Nat.reduceMul, Nat.reduceLeDiff, Int.reduceToNat, Int.toNat_natCast, List.length_append, List.length_cons, List.length_nil, List.length_map, List.length_range, List.length_take, List.length_drop, List.length_reverse, List.length_replicate, invw_length, List.length_set] <;> omega) | (simp only [wd_app, wd_cons, wd_nil, and_true, true_and]; first | done | (refine ⟨?_, ?_⟩ <;> assumption) | assumption))) only [EVB, EVC, EVS, List.set_cons_succ, List.set_cons_zero, List.length_nil, List.length_cons, List.nil_append, List.cons_append, true_and, and_self, Option.toList_some, Option.toList_none, List.append_nil, Bool.decide_eq_true, decide_true, decide_false, List.length_map, List.length_range, BEq.rfl, beq_self_eq_true, Int.toNat_natCast, bne_self_eq_false, Bool.not_eq_true, Bool.not_true, Bool.not_false, Int.natCast_zero, Int.natCast_one, Int.cast_ofNat_Int, if_true, if_false, Bool.false_eq_true, reduceIte, Int.reduceBEq, Int.reduceAdd, Int.reduceSub, Int.reduceMul, Int.reduceLT, Int.reduceLE, Int.reduceNeg, Int.reduceToNat, Int.reduceDiv, Int.reduceMod, Nat.reduceAdd, Nat.reduceSub, Nat.reduceLeDiff, Nat.reduceBEq, Nat.reduceEqDiff, nw h, k1, k2, k3, d]; first | done | rfl))) only [EVB, EVC, EVS, List.set_cons_succ, List.set_cons_zero, List.length_nil, List.length_cons, List.nil_append, List.cons_append, true_and, and_self, Option.toList_some, Option.toList_none, List.append_nil, Bool.decide_eq_true, decide_true, decide_false, List.length_map, List.length_range, BEq.rfl, beq_self_eq_true, Int.toNat_natCast, bne_self_eq_false, Bool.not_eq_true, Bool.not_true, Bool.not_false, Int.natCast_zero, Int.natCast_one, Int.cast_ofNat_Int, if_true, if_false, Bool.false_eq_true, reduceIte, Int.reduceBEq, Int.reduceAdd, Int.reduceSub, Int.reduceMul, Int.reduceLT, Int.reduceLE, Int.reduceNeg, Int.reduceToNat, Int.reduceDiv, Int.reduceMod, Nat.reduceAdd, Nat.reduceSub, Nat.reduceLeDiff, Nat.reduceBEq, Nat.reduceEqDiff, nw h, k1, k2, k3, d]
  · have d : decide (0 ≤ i) = false := decide_eq_false h0
    have k3 : ∀ S, fMul (.str (invw s)) (.int (-i)) S = .ok (.val (.str (pw s i))) S := fun S => pw_neg hl (by omega) h1
    try simp (config := {maxSteps := 2000000}) (disch := (first | assumption | omega | (refine lkd ?_; decide) | (simp only [LINE, Nat.reduceMul, Nat.reduceLeDiff, Int.reduceToNat, Int.toNat_natCast, List.length_append, List.length_cons, List.length_nil, List.length_map, List.length_range, List.length_take, List.length_drop, List.length_reverse, List.length_replicate, invw_length, List.length_set] <;> omega) | (simp only [wd_app, wd_cons, wd_nil, and_true, true_and]; first | done | (refine ⟨?_, ?_⟩ <;> assumption) | assumption) | (intro ca ch; simp (config := {maxSteps := 2000000}) (disch := (first | assumption | omega | (refine lkd ?_; decide) | (simp only [LINE, Nat.reduceMul, Nat.reduceLeDiff, Int.reduceToNat, Int.toNat_natCast, List.length_append, List.length_cons, List.length_nil, List.length_map, List.length_range, List.length_take, List.length_drop, List.length_reverse, List.length_replicate, invw_length, List.length_set] <;> omega) | (simp only [wd_app, wd_cons, wd_nil, and_true, true_and]; first | done | (refine ⟨?_, ?_⟩ <;> assumption) | assumption))) only [EVB, EVC, EVS, List.set_cons_succ, List.set_cons_zero, List.length_nil, List.length_cons, List.nil_append, List.cons_append, true_and, and_self, Option.toList_some, Option.toList_none, List.append_nil, Bool.decide_eq_true, decide_true, decide_false, List.length_map, List.length_range, BEq.rfl, beq_self_eq_true, Int.toNat_natCast, bne_self_eq_false, Bool.not_eq_true, Bool.not_true, Bool.not_false, Int.natCast_zero, Int.natCast_one, Int.cast_ofNat_Int, if_true, if_false, Bool.false_eq_true, reduceIte, Int.reduceBEq, Int.reduceAdd, Int.reduceSub, Int.reduceMul, Int.reduceLT, Int.reduceLE, Int.reduceNeg, Int.reduceToNat, Int.reduceDiv, Int.reduceMod, Nat.reduceAdd, Nat.reduceSub, Nat.reduceLeDiff, Nat.reduceBEq, Nat.reduceEqDiff, nw h, k1, k2, k3, d, c_inverse_in]; first | done | rfl))) only [EVB, EVC, EVS, List.set_cons_succ, List.set_cons_zero, List.length_nil, List.length_cons, List.nil_append, List.cons_append, true_and, and_self, Option.toList_some, Option.toList_none, List.append_nil, Bool.decide_eq_true, decide_true, decide_false, List.length_map, List.length_range, BEq.rfl, beq_self_eq_true, Int.toNat_natCast, bne_self_eq_false, Bool.not_eq_true, Bool.not_true, Bool.not_false, Int.natCast_zero, Int.natCast_one, Int.cast_ofNat_Int, if_true, if_false, Bool.false_eq_true, reduceIte, Int.reduceBEq, Int.reduceAdd, Int.reduceSub, Int.reduceMul, Int.reduceLT, Int.reduceLE, Int.reduceNeg, Int.reduceToNat, Int.reduceDiv, Int.reduceMod, Nat.reduceAdd, Nat.reduceSub, Nat.reduceLeDiff, Nat.reduceBEq, Nat.reduceEqDiff, nw h, k1, k2, k3, d, c_inverse_in]
theorem power_number (h : isW s 60 = true) (hp : plainN x = true) (hr : refsLt 0 x = true) (hx : inX x (-12) 12 = false) : callK 0 m_power [.str s, x] S = .exc "BadNumber" S := by
  refine call0_exc (S' := []) (by simp [hr, refsLt]) ?_
  show outF (b_power [some (.str s), some x] []) = _
  unfold b_power
  have k1 : ∀ S, callK 0 m_within [x, .int (-12), .int 12] S = .ok (.bl false) S := fun S => by rw [c_within hp hr, hx]
  try simp (config := {maxSteps := 2000000}) (disch := (first | assumption | omega | (refine lkd ?_; decide) | (simp only [LINE, Nat.reduceMul, Nat.reduceLeDiff, Int.reduceToNat, Int.toNat_natCast, List.length_append, List.length_cons, List.length_nil, List.length_map, List.length_range, List.length_take, List.length_drop, List.length_reverse, List.length_replicate, invw_length, List.length_set] <;> omega) | (simp only [wd_app, wd_cons, wd_nil, and_true, true_and]; first | done | (refine ⟨?_, ?_⟩ <;> assumption) | assumption) | (intro ca ch; simp (config := {maxSteps := 2000000}) (disch := (first | assumption | omega | (refine lkd ?_; decide) | (simp only [LINE, Nat.reduceMul, Nat.reduceLeDiff, Int.reduceToNat, Int.toNat_natCast, List.length_append, List.length_cons, List.length_nil, List.length_map, List.length_range, List.length_take, List.length_drop, List.length_reverse, List.length_replicate, invw_length, List.length_set] <;> omega) | (simp only [wd_app, wd_cons, wd_nil, and_true, true_and]; first | done | (refine ⟨?_, ?_⟩ <;> assumption) | assumption))) only [EVB, EVC, EVS, List.set_cons_succ, List.set_cons_zero, List.length_nil, List.length_cons, List.nil_append, List.cons_append, true_and, and_self, Option.toList_some, Option.toList_none, List.append_nil, Bool.decide_eq_true, decide_true, decide_false, List.length_map, List.length_range, BEq.rfl, beq_self_eq_true, Int.toNat_natCast, bne_self_eq_false, Bool.not_eq_true, Bool.not_true, Bool.not_false, Int.natCast_zero, Int.natCast_one, Int.cast_ofNat_Int, if_true, if_false, Bool.false_eq_true, reduceIte, Int.reduceBEq, Int.reduceAdd, Int.reduceSub, Int.reduceMul, Int.reduceLT, Int.reduceLE, Int.reduceNeg, Int.reduceToNat, Int.reduceDiv, Int.reduceMod, Nat.reduceAdd, Nat.reduceSub, Nat.reduceLeDiff, Nat.reduceBEq, Nat.reduceEqDiff, nw h, k1]; first | done | rfl))) only [EVB, EVC, EVS, List.set_cons_succ, List.set_cons_zero, List.length_nil, List.length_cons, List.nil_append, List.cons_append, true_and, and_self, Option.toList_some, Option.toList_none, List.append_nil, Bool.decide_eq_true, decide_true, decide_false, List.length_map, List.length_range, BEq.rfl, beq_self_eq_true, Int.toNat_natCast, bne_self_eq_false, Bool.not_eq_true, Bool.not_true, Bool.not_false, Int.natCast_zero, Int.natCast_one, Int.cast_ofNat_Int, if_true, if_false, Bool.false_eq_true, reduceIte, Int.reduceBEq, Int.reduceAdd, Int.reduceSub, Int.reduceMul, Int.reduceLT, Int.reduceLE, Int.reduceNeg, Int.reduceToNat, Int.reduceDiv, Int.reduceMod, Nat.reduceAdd, Nat.reduceSub, Nat.reduceLeDiff, Nat.reduceBEq, Nat.reduceEqDiff, nw h, k1]
theorem power_word (hp : plainV x = true) (hr : refsLt 0 x = true) (h2 : isWx x 60 = false) (hr' : refsLt 0 y = true) : callK 0 m_power [x, y] S = .exc "BadWord" S := by
  refine call0_exc (S' := []) (by simp [hr, hr']) ?_
  show outF (b_power [some x, some y] []) = _
  unfold b_power
  try simp (config := {maxSteps := 2000000}) (disch := (first | assumption | omega | (refine lkd ?_; decide) | (simp only [LINE, Nat.reduceMul, Nat.reduceLeDiff, Int.reduceToNat, Int.toNat_natCast, List.length_append, List.length_cons, List.length_nil, List.length_map, List.length_range, List.length_take, List.length_drop, List.length_reverse, List.length_replicate, invw_length, List.length_set] <;> omega) | (simp only [wd_app, wd_cons, wd_nil, and_true, true_and]; first | done | (refine ⟨?_, ?_⟩ <;> assumption) | assumption) | (intro ca ch; simp (config := {maxSteps := 2000000}) (disch := (first | assumption | omega | (refine lkd ?_; decide) | (simp only [LINE, Nat.reduceMul, Nat.reduceLeDiff, Int.reduceToNat, Int.toNat_natCast, List.length_append, List.length_cons, List.length_nil, List.length_map, List.length_range, List.length_take, List.length_drop, List.length_reverse, List.length_replicate, invw_length, List.length_set] <;> omega) | (simp only [wd_app, wd_cons, wd_nil, and_true, true_and]; first | done | (refine ⟨?_, ?_⟩ <;> assumption) | assumption))) only [EVB, EVC, EVS, List.set_cons_succ, List.set_cons_zero, List.length_nil, List.length_cons, List.nil_append, List.cons_append, true_and, and_self, Option.toList_some, Option.toList_none, List.append_nil, Bool.decide_eq_true, decide_true, decide_false, List.length_map, List.length_range, BEq.rfl, beq_self_eq_true, Int.toNat_natCast, bne_self_eq_false, Bool.not_eq_true, Bool.not_true, Bool.not_false, Int.natCast_zero, Int.natCast_one, Int.cast_ofNat_Int, if_true, if_false, Bool.false_eq_true, reduceIte, Int.reduceBEq, Int.reduceAdd, Int.reduceSub, Int.reduceMul, Int.reduceLT, Int.reduceLE, Int.reduceNeg, Int.reduceToNat, Int.reduceDiv, Int.reduceMod, Nat.reduceAdd, Nat.reduceSub, Nat.reduceLeDiff, Nat.reduceBEq, Nat.reduceEqDiff, nw_bad hp hr h2]; first | done | rfl))) only [EVB, EVC, EVS, List.set_cons_succ, List.set_cons_zero, List.length_nil, List.length_cons, List.nil_append, List.cons_append, true_and, and_self, Option.toList_some, Option.toList_none, List.append_nil, Bool.decide_eq_true, decide_true, decide_false, List.length_map, List.length_range, BEq.rfl, beq_self_eq_true, Int.toNat_natCast, bne_self_eq_false, Bool.not_eq_true, Bool.not_true, Bool.not_false, Int.natCast_zero, Int.natCast_one, Int.cast_ofNat_Int, if_true, if_false, Bool.false_eq_true, reduceIte, Int.reduceBEq, Int.reduceAdd, Int.reduceSub, Int.reduceMul, Int.reduceLT, Int.reduceLE, Int.reduceNeg, Int.reduceToNat, Int.reduceDiv, Int.reduceMod, Nat.reduceAdd, Nat.reduceSub, Nat.reduceLeDiff, Nat.reduceBEq, Nat.reduceEqDiff, nw_bad hp hr h2]
/-! ### the law's own look -/
theorem np_at {s : List Nat} (h : NP s) {k : Nat} (hk : k + 1 < s.length) : s.getD (k + 1) 0 ≠ iv (s.getD k 0) := by
  have e : s = s.take k ++ s[k] :: s[k + 1] :: s.drop (k + 2) := by
    rw [← List.drop_eq_getElem_cons hk, ← List.drop_eq_getElem_cons (by omega), List.take_append_drop]
  have := h _ _ _ _ e
  simpa [hk, (by omega : k < s.length)] using this
theorem getD_sg (hw : Word s) {k : Nat} (hk : k < s.length) : s.getD k 0 ∈ SG := hw _ (getD_mem hk)
theorem right_ok (hw : Word s) (hl : s.length ≤ 100000) : callK 0 m__law_right [.str (red s), .str s] S = .ok (.bl true) S := by
  have hwr := red_word hw
  have hlr : (red s).length ≤ 100000 := Nat.le_trans (red_len s) hl
  have hnp := red_np hw
  have hM := M_red hw
  refine call0 (S' := []) rfl ?_ rfl
  show outF (b__law_right [some (.str (red s)), some (.str s), none] []) = _
  unfold b__law_right
  have k1 : ∀ S, callK 0 m__law_plain [.str s] S = .ok (.str (red s)) S := fun S => c_plain hw (by omega)
  generalize red s = t at hwr hlr hnp hM k1
  have k2 : ∀ S, callK 0 m__law_same [.str t, .str t] S = .ok (.bl true) S := fun S => c_same_str (Word.ok hwr)
  have k3 : ∀ k, k ∈ List.range ((t.length : Int) - 1).toNat → ∀ S, fIx (.str t) (.int ((k : Int) + 1)) S = .ok (.val (.str [t.getD (k + 1) 0])) S := fun k hk S => by
    have hk := List.mem_range.mp hk
    exact ix_sn (k := k + 1) (by omega) (by omega)
  have k3' : ∀ k, k ∈ List.range ((t.length : Int) - 1).toNat → ∀ S, fIx (.str t) (.int (k : Int)) S = .ok (.val (.str [t.getD k 0])) S := fun k hk S => by
    have hk := List.mem_range.mp hk
    exact ix_sn (k := k) (by omega) (by omega)
  have k4 : ∀ k, k ∈ List.range ((t.length : Int) - 1).toNat → ∀ S, callK 0 m__law_undone [.str [t.getD (k + 1) 0]] S = .ok (.str [iv (t.getD (k + 1) 0)]) S := fun k hk S => by
    have hk := List.mem_range.mp hk
    exact c_undone (Word.cons (getD_sg hwr (by omega)) .nil) (by show 1 ≤ 16777216; omega)
  have k5 : ∀ k, k ∈ List.range ((t.length : Int) - 1).toNat → ∀ S, fEq (.str [t.getD k 0]) (.str [iv (t.getD (k + 1) 0)]) S = .ok (.val (.bl false)) S := fun k hk S => by
    have hk := List.mem_range.mp hk
    have h1 := getD_sg hwr (k := k) (by omega)
    have h2 := getD_sg hwr (k := k + 1) (by omega)
    rw [fEq_str (Word.ok (Word.cons h1 .nil)) (Word.ok (Word.cons (iv_mem h2) .nil))]
    have := np_at hnp (k := k) (by omega)
    have : ([t.getD k 0] == [iv (t.getD (k + 1) 0)]) = false := by
      have h3 : t.getD k 0 ≠ iv (t.getD (k + 1) 0) := fun z => this (iv_sym h1 z h2)
      simpa using h3
    rw [this]
  have k6 : ∀ S, fNe (.lst []) (.lst []) S = .ok (.val (.bl false)) S := fun S => rfl
  have k9 : decide (M t = M s) = true := decide_eq_true hM
  try simp (config := {maxSteps := 2000000}) (disch := (first | assumption | omega | (refine lkd ?_; decide) | (simp only [LINE, Nat.reduceMul, Nat.reduceLeDiff, Int.reduceToNat, Int.toNat_natCast, List.length_append, List.length_cons, List.length_nil, List.length_map, List.length_range, List.length_take, List.length_drop, List.length_reverse, List.length_replicate, invw_length, List.length_set] <;> omega) | (simp only [wd_app, wd_cons, wd_nil, and_true, true_and]; first | done | (refine ⟨?_, ?_⟩ <;> assumption) | assumption) | (intro ca ch; simp (config := {maxSteps := 2000000}) (disch := (first | assumption | omega | (refine lkd ?_; decide) | (simp only [LINE, Nat.reduceMul, Nat.reduceLeDiff, Int.reduceToNat, Int.toNat_natCast, List.length_append, List.length_cons, List.length_nil, List.length_map, List.length_range, List.length_take, List.length_drop, List.length_reverse, List.length_replicate, invw_length, List.length_set] <;> omega) | (simp only [wd_app, wd_cons, wd_nil, and_true, true_and]; first | done | (refine ⟨?_, ?_⟩ <;> assumption) | assumption))) only [EVB, EVC, EVS, List.set_cons_succ, List.set_cons_zero, List.length_nil, List.length_cons, List.nil_append, List.cons_append, true_and, and_self, Option.toList_some, Option.toList_none, List.append_nil, Bool.decide_eq_true, decide_true, decide_false, List.length_map, List.length_range, BEq.rfl, beq_self_eq_true, Int.toNat_natCast, bne_self_eq_false, Bool.not_eq_true, Bool.not_true, Bool.not_false, Int.natCast_zero, Int.natCast_one, Int.cast_ofNat_Int, if_true, if_false, Bool.false_eq_true, reduceIte, Int.reduceBEq, Int.reduceAdd, Int.reduceSub, Int.reduceMul, Int.reduceLT, Int.reduceLE, Int.reduceNeg, Int.reduceToNat, Int.reduceDiv, Int.reduceMod, Nat.reduceAdd, Nat.reduceSub, Nat.reduceLeDiff, Nat.reduceBEq, Nat.reduceEqDiff, k1, k2, k3, k3', k4, k5, k6, cL_none, c_table hwr, c_table hw, eq_mat, k9]; first | done | rfl))) only [EVB, EVC, EVS, List.set_cons_succ, List.set_cons_zero, List.length_nil, List.length_cons, List.nil_append, List.cons_append, true_and, and_self, Option.toList_some, Option.toList_none, List.append_nil, Bool.decide_eq_true, decide_true, decide_false, List.length_map, List.length_range, BEq.rfl, beq_self_eq_true, Int.toNat_natCast, bne_self_eq_false, Bool.not_eq_true, Bool.not_true, Bool.not_false, Int.natCast_zero, Int.natCast_one, Int.cast_ofNat_Int, if_true, if_false, Bool.false_eq_true, reduceIte, Int.reduceBEq, Int.reduceAdd, Int.reduceSub, Int.reduceMul, Int.reduceLT, Int.reduceLE, Int.reduceNeg, Int.reduceToNat, Int.reduceDiv, Int.reduceMod, Nat.reduceAdd, Nat.reduceSub, Nat.reduceLeDiff, Nat.reduceBEq, Nat.reduceEqDiff, k1, k2, k3, k3', k4, k5, k6, cL_none, c_table hwr, c_table hw, eq_mat, k9]
/-! ### which error -/
theorem err_of {i : Nat} {v : W} (hr : refsLt 0 x = true) (hr' : refsLt 0 y = true) (hv : refsLt 0 v = true) (h : outF (b__law_error [some (.int (i : Nat)), some x, some y, none, none] []) = .ok v []) : callK 0 m__law_error [.int (i : Nat), x, y] S = .ok v S :=
  call0 (S' := []) (by simp [refsLt, hr, hr']) h hv
def NON : W := .str []
def WRD : W := .str [119, 111, 114, 100]
def OTH : W := .str [111, 116, 104, 101, 114]
def NUM : W := .str [110, 117, 109, 98, 101, 114]
theorem er0_ok {v : W} (hr : refsLt 0 x = true) (hr' : refsLt 0 y = true) (h : ∀ S, callK 0 m_product [x, y] S = .ok v S) : callK 0 m__law_error [.int 0, x, y] S = .ok NON S := by
  refine err_of (i := 0) hr hr' rfl ?_
  unfold b__law_error
  try simp (config := {maxSteps := 2000000}) (disch := (first | assumption | omega | (refine lkd ?_; decide) | (simp only [LINE, Nat.reduceMul, Nat.reduceLeDiff, Int.reduceToNat, Int.toNat_natCast, List.length_append, List.length_cons, List.length_nil, List.length_map, List.length_range, List.length_take, List.length_drop, List.length_reverse, List.length_replicate, invw_length, List.length_set] <;> omega) | (simp only [wd_app, wd_cons, wd_nil, and_true, true_and]; first | done | (refine ⟨?_, ?_⟩ <;> assumption) | assumption) | (intro ca ch; simp (config := {maxSteps := 2000000}) (disch := (first | assumption | omega | (refine lkd ?_; decide) | (simp only [LINE, Nat.reduceMul, Nat.reduceLeDiff, Int.reduceToNat, Int.toNat_natCast, List.length_append, List.length_cons, List.length_nil, List.length_map, List.length_range, List.length_take, List.length_drop, List.length_reverse, List.length_replicate, invw_length, List.length_set] <;> omega) | (simp only [wd_app, wd_cons, wd_nil, and_true, true_and]; first | done | (refine ⟨?_, ?_⟩ <;> assumption) | assumption))) only [EVB, EVC, EVS, List.set_cons_succ, List.set_cons_zero, List.length_nil, List.length_cons, List.nil_append, List.cons_append, true_and, and_self, Option.toList_some, Option.toList_none, List.append_nil, Bool.decide_eq_true, decide_true, decide_false, List.length_map, List.length_range, BEq.rfl, beq_self_eq_true, Int.toNat_natCast, bne_self_eq_false, Bool.not_eq_true, Bool.not_true, Bool.not_false, Int.natCast_zero, Int.natCast_one, Int.cast_ofNat_Int, if_true, if_false, Bool.false_eq_true, reduceIte, Int.reduceBEq, Int.reduceAdd, Int.reduceSub, Int.reduceMul, Int.reduceLT, Int.reduceLE, Int.reduceNeg, Int.reduceToNat, Int.reduceDiv, Int.reduceMod, Nat.reduceAdd, Nat.reduceSub, Nat.reduceLeDiff, Nat.reduceBEq, Nat.reduceEqDiff, h]; first | done | rfl))) only [EVB, EVC, EVS, List.set_cons_succ, List.set_cons_zero, List.length_nil, List.length_cons, List.nil_append, List.cons_append, true_and, and_self, Option.toList_some, Option.toList_none, List.append_nil, Bool.decide_eq_true, decide_true, decide_false, List.length_map, List.length_range, BEq.rfl, beq_self_eq_true, Int.toNat_natCast, bne_self_eq_false, Bool.not_eq_true, Bool.not_true, Bool.not_false, Int.natCast_zero, Int.natCast_one, Int.cast_ofNat_Int, if_true, if_false, Bool.false_eq_true, reduceIte, Int.reduceBEq, Int.reduceAdd, Int.reduceSub, Int.reduceMul, Int.reduceLT, Int.reduceLE, Int.reduceNeg, Int.reduceToNat, Int.reduceDiv, Int.reduceMod, Nat.reduceAdd, Nat.reduceSub, Nat.reduceLeDiff, Nat.reduceBEq, Nat.reduceEqDiff, h]
  try rfl
theorem er0_WRD (hr : refsLt 0 x = true) (hr' : refsLt 0 y = true) (h : ∀ S, callK 0 m_product [x, y] S = .exc "BadWord" S) : callK 0 m__law_error [.int 0, x, y] S = .ok WRD S := by
  refine err_of (i := 0) hr hr' rfl ?_
  unfold b__law_error
  try simp (config := {maxSteps := 2000000}) (disch := (first | assumption | omega | (refine lkd ?_; decide) | (simp only [LINE, Nat.reduceMul, Nat.reduceLeDiff, Int.reduceToNat, Int.toNat_natCast, List.length_append, List.length_cons, List.length_nil, List.length_map, List.length_range, List.length_take, List.length_drop, List.length_reverse, List.length_replicate, invw_length, List.length_set] <;> omega) | (simp only [wd_app, wd_cons, wd_nil, and_true, true_and]; first | done | (refine ⟨?_, ?_⟩ <;> assumption) | assumption) | (intro ca ch; simp (config := {maxSteps := 2000000}) (disch := (first | assumption | omega | (refine lkd ?_; decide) | (simp only [LINE, Nat.reduceMul, Nat.reduceLeDiff, Int.reduceToNat, Int.toNat_natCast, List.length_append, List.length_cons, List.length_nil, List.length_map, List.length_range, List.length_take, List.length_drop, List.length_reverse, List.length_replicate, invw_length, List.length_set] <;> omega) | (simp only [wd_app, wd_cons, wd_nil, and_true, true_and]; first | done | (refine ⟨?_, ?_⟩ <;> assumption) | assumption))) only [EVB, EVC, EVS, List.set_cons_succ, List.set_cons_zero, List.length_nil, List.length_cons, List.nil_append, List.cons_append, true_and, and_self, Option.toList_some, Option.toList_none, List.append_nil, Bool.decide_eq_true, decide_true, decide_false, List.length_map, List.length_range, BEq.rfl, beq_self_eq_true, Int.toNat_natCast, bne_self_eq_false, Bool.not_eq_true, Bool.not_true, Bool.not_false, Int.natCast_zero, Int.natCast_one, Int.cast_ofNat_Int, if_true, if_false, Bool.false_eq_true, reduceIte, Int.reduceBEq, Int.reduceAdd, Int.reduceSub, Int.reduceMul, Int.reduceLT, Int.reduceLE, Int.reduceNeg, Int.reduceToNat, Int.reduceDiv, Int.reduceMod, Nat.reduceAdd, Nat.reduceSub, Nat.reduceLeDiff, Nat.reduceBEq, Nat.reduceEqDiff, h]; first | done | rfl))) only [EVB, EVC, EVS, List.set_cons_succ, List.set_cons_zero, List.length_nil, List.length_cons, List.nil_append, List.cons_append, true_and, and_self, Option.toList_some, Option.toList_none, List.append_nil, Bool.decide_eq_true, decide_true, decide_false, List.length_map, List.length_range, BEq.rfl, beq_self_eq_true, Int.toNat_natCast, bne_self_eq_false, Bool.not_eq_true, Bool.not_true, Bool.not_false, Int.natCast_zero, Int.natCast_one, Int.cast_ofNat_Int, if_true, if_false, Bool.false_eq_true, reduceIte, Int.reduceBEq, Int.reduceAdd, Int.reduceSub, Int.reduceMul, Int.reduceLT, Int.reduceLE, Int.reduceNeg, Int.reduceToNat, Int.reduceDiv, Int.reduceMod, Nat.reduceAdd, Nat.reduceSub, Nat.reduceLeDiff, Nat.reduceBEq, Nat.reduceEqDiff, h]
  try rfl
theorem er0_OTH (hr : refsLt 0 x = true) (hr' : refsLt 0 y = true) (h : ∀ S, callK 0 m_product [x, y] S = .exc "BadOther" S) : callK 0 m__law_error [.int 0, x, y] S = .ok OTH S := by
  refine err_of (i := 0) hr hr' rfl ?_
  unfold b__law_error
  try simp (config := {maxSteps := 2000000}) (disch := (first | assumption | omega | (refine lkd ?_; decide) | (simp only [LINE, Nat.reduceMul, Nat.reduceLeDiff, Int.reduceToNat, Int.toNat_natCast, List.length_append, List.length_cons, List.length_nil, List.length_map, List.length_range, List.length_take, List.length_drop, List.length_reverse, List.length_replicate, invw_length, List.length_set] <;> omega) | (simp only [wd_app, wd_cons, wd_nil, and_true, true_and]; first | done | (refine ⟨?_, ?_⟩ <;> assumption) | assumption) | (intro ca ch; simp (config := {maxSteps := 2000000}) (disch := (first | assumption | omega | (refine lkd ?_; decide) | (simp only [LINE, Nat.reduceMul, Nat.reduceLeDiff, Int.reduceToNat, Int.toNat_natCast, List.length_append, List.length_cons, List.length_nil, List.length_map, List.length_range, List.length_take, List.length_drop, List.length_reverse, List.length_replicate, invw_length, List.length_set] <;> omega) | (simp only [wd_app, wd_cons, wd_nil, and_true, true_and]; first | done | (refine ⟨?_, ?_⟩ <;> assumption) | assumption))) only [EVB, EVC, EVS, List.set_cons_succ, List.set_cons_zero, List.length_nil, List.length_cons, List.nil_append, List.cons_append, true_and, and_self, Option.toList_some, Option.toList_none, List.append_nil, Bool.decide_eq_true, decide_true, decide_false, List.length_map, List.length_range, BEq.rfl, beq_self_eq_true, Int.toNat_natCast, bne_self_eq_false, Bool.not_eq_true, Bool.not_true, Bool.not_false, Int.natCast_zero, Int.natCast_one, Int.cast_ofNat_Int, if_true, if_false, Bool.false_eq_true, reduceIte, Int.reduceBEq, Int.reduceAdd, Int.reduceSub, Int.reduceMul, Int.reduceLT, Int.reduceLE, Int.reduceNeg, Int.reduceToNat, Int.reduceDiv, Int.reduceMod, Nat.reduceAdd, Nat.reduceSub, Nat.reduceLeDiff, Nat.reduceBEq, Nat.reduceEqDiff, h]; first | done | rfl))) only [EVB, EVC, EVS, List.set_cons_succ, List.set_cons_zero, List.length_nil, List.length_cons, List.nil_append, List.cons_append, true_and, and_self, Option.toList_some, Option.toList_none, List.append_nil, Bool.decide_eq_true, decide_true, decide_false, List.length_map, List.length_range, BEq.rfl, beq_self_eq_true, Int.toNat_natCast, bne_self_eq_false, Bool.not_eq_true, Bool.not_true, Bool.not_false, Int.natCast_zero, Int.natCast_one, Int.cast_ofNat_Int, if_true, if_false, Bool.false_eq_true, reduceIte, Int.reduceBEq, Int.reduceAdd, Int.reduceSub, Int.reduceMul, Int.reduceLT, Int.reduceLE, Int.reduceNeg, Int.reduceToNat, Int.reduceDiv, Int.reduceMod, Nat.reduceAdd, Nat.reduceSub, Nat.reduceLeDiff, Nat.reduceBEq, Nat.reduceEqDiff, h]
  try rfl
theorem er0_NUM (hr : refsLt 0 x = true) (hr' : refsLt 0 y = true) (h : ∀ S, callK 0 m_product [x, y] S = .exc "BadNumber" S) : callK 0 m__law_error [.int 0, x, y] S = .ok NUM S := by
  refine err_of (i := 0) hr hr' rfl ?_
  unfold b__law_error
  try simp (config := {maxSteps := 2000000}) (disch := (first | assumption | omega | (refine lkd ?_; decide) | (simp only [LINE, Nat.reduceMul, Nat.reduceLeDiff, Int.reduceToNat, Int.toNat_natCast, List.length_append, List.length_cons, List.length_nil, List.length_map, List.length_range, List.length_take, List.length_drop, List.length_reverse, List.length_replicate, invw_length, List.length_set] <;> omega) | (simp only [wd_app, wd_cons, wd_nil, and_true, true_and]; first | done | (refine ⟨?_, ?_⟩ <;> assumption) | assumption) | (intro ca ch; simp (config := {maxSteps := 2000000}) (disch := (first | assumption | omega | (refine lkd ?_; decide) | (simp only [LINE, Nat.reduceMul, Nat.reduceLeDiff, Int.reduceToNat, Int.toNat_natCast, List.length_append, List.length_cons, List.length_nil, List.length_map, List.length_range, List.length_take, List.length_drop, List.length_reverse, List.length_replicate, invw_length, List.length_set] <;> omega) | (simp only [wd_app, wd_cons, wd_nil, and_true, true_and]; first | done | (refine ⟨?_, ?_⟩ <;> assumption) | assumption))) only [EVB, EVC, EVS, List.set_cons_succ, List.set_cons_zero, List.length_nil, List.length_cons, List.nil_append, List.cons_append, true_and, and_self, Option.toList_some, Option.toList_none, List.append_nil, Bool.decide_eq_true, decide_true, decide_false, List.length_map, List.length_range, BEq.rfl, beq_self_eq_true, Int.toNat_natCast, bne_self_eq_false, Bool.not_eq_true, Bool.not_true, Bool.not_false, Int.natCast_zero, Int.natCast_one, Int.cast_ofNat_Int, if_true, if_false, Bool.false_eq_true, reduceIte, Int.reduceBEq, Int.reduceAdd, Int.reduceSub, Int.reduceMul, Int.reduceLT, Int.reduceLE, Int.reduceNeg, Int.reduceToNat, Int.reduceDiv, Int.reduceMod, Nat.reduceAdd, Nat.reduceSub, Nat.reduceLeDiff, Nat.reduceBEq, Nat.reduceEqDiff, h]; first | done | rfl))) only [EVB, EVC, EVS, List.set_cons_succ, List.set_cons_zero, List.length_nil, List.length_cons, List.nil_append, List.cons_append, true_and, and_self, Option.toList_some, Option.toList_none, List.append_nil, Bool.decide_eq_true, decide_true, decide_false, List.length_map, List.length_range, BEq.rfl, beq_self_eq_true, Int.toNat_natCast, bne_self_eq_false, Bool.not_eq_true, Bool.not_true, Bool.not_false, Int.natCast_zero, Int.natCast_one, Int.cast_ofNat_Int, if_true, if_false, Bool.false_eq_true, reduceIte, Int.reduceBEq, Int.reduceAdd, Int.reduceSub, Int.reduceMul, Int.reduceLT, Int.reduceLE, Int.reduceNeg, Int.reduceToNat, Int.reduceDiv, Int.reduceMod, Nat.reduceAdd, Nat.reduceSub, Nat.reduceLeDiff, Nat.reduceBEq, Nat.reduceEqDiff, h]
  try rfl
theorem er1_ok {v : W} (hr : refsLt 0 x = true) (hr' : refsLt 0 y = true) (h : ∀ S, callK 0 m_power [x, y] S = .ok v S) : callK 0 m__law_error [.int 1, x, y] S = .ok NON S := by
  refine err_of (i := 1) hr hr' rfl ?_
  unfold b__law_error
  try simp (config := {maxSteps := 2000000}) (disch := (first | assumption | omega | (refine lkd ?_; decide) | (simp only [LINE, Nat.reduceMul, Nat.reduceLeDiff, Int.reduceToNat, Int.toNat_natCast, List.length_append, List.length_cons, List.length_nil, List.length_map, List.length_range, List.length_take, List.length_drop, List.length_reverse, List.length_replicate, invw_length, List.length_set] <;> omega) | (simp only [wd_app, wd_cons, wd_nil, and_true, true_and]; first | done | (refine ⟨?_, ?_⟩ <;> assumption) | assumption) | (intro ca ch; simp (config := {maxSteps := 2000000}) (disch := (first | assumption | omega | (refine lkd ?_; decide) | (simp only [LINE, Nat.reduceMul, Nat.reduceLeDiff, Int.reduceToNat, Int.toNat_natCast, List.length_append, List.length_cons, List.length_nil, List.length_map, List.length_range, List.length_take, List.length_drop, List.length_reverse, List.length_replicate, invw_length, List.length_set] <;> omega) | (simp only [wd_app, wd_cons, wd_nil, and_true, true_and]; first | done | (refine ⟨?_, ?_⟩ <;> assumption) | assumption))) only [EVB, EVC, EVS, List.set_cons_succ, List.set_cons_zero, List.length_nil, List.length_cons, List.nil_append, List.cons_append, true_and, and_self, Option.toList_some, Option.toList_none, List.append_nil, Bool.decide_eq_true, decide_true, decide_false, List.length_map, List.length_range, BEq.rfl, beq_self_eq_true, Int.toNat_natCast, bne_self_eq_false, Bool.not_eq_true, Bool.not_true, Bool.not_false, Int.natCast_zero, Int.natCast_one, Int.cast_ofNat_Int, if_true, if_false, Bool.false_eq_true, reduceIte, Int.reduceBEq, Int.reduceAdd, Int.reduceSub, Int.reduceMul, Int.reduceLT, Int.reduceLE, Int.reduceNeg, Int.reduceToNat, Int.reduceDiv, Int.reduceMod, Nat.reduceAdd, Nat.reduceSub, Nat.reduceLeDiff, Nat.reduceBEq, Nat.reduceEqDiff, h]; first | done | rfl))) only [EVB, EVC, EVS, List.set_cons_succ, List.set_cons_zero, List.length_nil, List.length_cons, List.nil_append, List.cons_append, true_and, and_self, Option.toList_some, Option.toList_none, List.append_nil, Bool.decide_eq_true, decide_true, decide_false, List.length_map, List.length_range, BEq.rfl, beq_self_eq_true, Int.toNat_natCast, bne_self_eq_false, Bool.not_eq_true, Bool.not_true, Bool.not_false, Int.natCast_zero, Int.natCast_one, Int.cast_ofNat_Int, if_true, if_false, Bool.false_eq_true, reduceIte, Int.reduceBEq, Int.reduceAdd, Int.reduceSub, Int.reduceMul, Int.reduceLT, Int.reduceLE, Int.reduceNeg, Int.reduceToNat, Int.reduceDiv, Int.reduceMod, Nat.reduceAdd, Nat.reduceSub, Nat.reduceLeDiff, Nat.reduceBEq, Nat.reduceEqDiff, h]
  try rfl
theorem er1_WRD (hr : refsLt 0 x = true) (hr' : refsLt 0 y = true) (h : ∀ S, callK 0 m_power [x, y] S = .exc "BadWord" S) : callK 0 m__law_error [.int 1, x, y] S = .ok WRD S := by
  refine err_of (i := 1) hr hr' rfl ?_
  unfold b__law_error
  try simp (config := {maxSteps := 2000000}) (disch := (first | assumption | omega | (refine lkd ?_; decide) | (simp only [LINE, Nat.reduceMul, Nat.reduceLeDiff, Int.reduceToNat, Int.toNat_natCast, List.length_append, List.length_cons, List.length_nil, List.length_map, List.length_range, List.length_take, List.length_drop, List.length_reverse, List.length_replicate, invw_length, List.length_set] <;> omega) | (simp only [wd_app, wd_cons, wd_nil, and_true, true_and]; first | done | (refine ⟨?_, ?_⟩ <;> assumption) | assumption) | (intro ca ch; simp (config := {maxSteps := 2000000}) (disch := (first | assumption | omega | (refine lkd ?_; decide) | (simp only [LINE, Nat.reduceMul, Nat.reduceLeDiff, Int.reduceToNat, Int.toNat_natCast, List.length_append, List.length_cons, List.length_nil, List.length_map, List.length_range, List.length_take, List.length_drop, List.length_reverse, List.length_replicate, invw_length, List.length_set] <;> omega) | (simp only [wd_app, wd_cons, wd_nil, and_true, true_and]; first | done | (refine ⟨?_, ?_⟩ <;> assumption) | assumption))) only [EVB, EVC, EVS, List.set_cons_succ, List.set_cons_zero, List.length_nil, List.length_cons, List.nil_append, List.cons_append, true_and, and_self, Option.toList_some, Option.toList_none, List.append_nil, Bool.decide_eq_true, decide_true, decide_false, List.length_map, List.length_range, BEq.rfl, beq_self_eq_true, Int.toNat_natCast, bne_self_eq_false, Bool.not_eq_true, Bool.not_true, Bool.not_false, Int.natCast_zero, Int.natCast_one, Int.cast_ofNat_Int, if_true, if_false, Bool.false_eq_true, reduceIte, Int.reduceBEq, Int.reduceAdd, Int.reduceSub, Int.reduceMul, Int.reduceLT, Int.reduceLE, Int.reduceNeg, Int.reduceToNat, Int.reduceDiv, Int.reduceMod, Nat.reduceAdd, Nat.reduceSub, Nat.reduceLeDiff, Nat.reduceBEq, Nat.reduceEqDiff, h]; first | done | rfl))) only [EVB, EVC, EVS, List.set_cons_succ, List.set_cons_zero, List.length_nil, List.length_cons, List.nil_append, List.cons_append, true_and, and_self, Option.toList_some, Option.toList_none, List.append_nil, Bool.decide_eq_true, decide_true, decide_false, List.length_map, List.length_range, BEq.rfl, beq_self_eq_true, Int.toNat_natCast, bne_self_eq_false, Bool.not_eq_true, Bool.not_true, Bool.not_false, Int.natCast_zero, Int.natCast_one, Int.cast_ofNat_Int, if_true, if_false, Bool.false_eq_true, reduceIte, Int.reduceBEq, Int.reduceAdd, Int.reduceSub, Int.reduceMul, Int.reduceLT, Int.reduceLE, Int.reduceNeg, Int.reduceToNat, Int.reduceDiv, Int.reduceMod, Nat.reduceAdd, Nat.reduceSub, Nat.reduceLeDiff, Nat.reduceBEq, Nat.reduceEqDiff, h]
  try rfl
theorem er1_OTH (hr : refsLt 0 x = true) (hr' : refsLt 0 y = true) (h : ∀ S, callK 0 m_power [x, y] S = .exc "BadOther" S) : callK 0 m__law_error [.int 1, x, y] S = .ok OTH S := by
  refine err_of (i := 1) hr hr' rfl ?_
  unfold b__law_error
  try simp (config := {maxSteps := 2000000}) (disch := (first | assumption | omega | (refine lkd ?_; decide) | (simp only [LINE, Nat.reduceMul, Nat.reduceLeDiff, Int.reduceToNat, Int.toNat_natCast, List.length_append, List.length_cons, List.length_nil, List.length_map, List.length_range, List.length_take, List.length_drop, List.length_reverse, List.length_replicate, invw_length, List.length_set] <;> omega) | (simp only [wd_app, wd_cons, wd_nil, and_true, true_and]; first | done | (refine ⟨?_, ?_⟩ <;> assumption) | assumption) | (intro ca ch; simp (config := {maxSteps := 2000000}) (disch := (first | assumption | omega | (refine lkd ?_; decide) | (simp only [LINE, Nat.reduceMul, Nat.reduceLeDiff, Int.reduceToNat, Int.toNat_natCast, List.length_append, List.length_cons, List.length_nil, List.length_map, List.length_range, List.length_take, List.length_drop, List.length_reverse, List.length_replicate, invw_length, List.length_set] <;> omega) | (simp only [wd_app, wd_cons, wd_nil, and_true, true_and]; first | done | (refine ⟨?_, ?_⟩ <;> assumption) | assumption))) only [EVB, EVC, EVS, List.set_cons_succ, List.set_cons_zero, List.length_nil, List.length_cons, List.nil_append, List.cons_append, true_and, and_self, Option.toList_some, Option.toList_none, List.append_nil, Bool.decide_eq_true, decide_true, decide_false, List.length_map, List.length_range, BEq.rfl, beq_self_eq_true, Int.toNat_natCast, bne_self_eq_false, Bool.not_eq_true, Bool.not_true, Bool.not_false, Int.natCast_zero, Int.natCast_one, Int.cast_ofNat_Int, if_true, if_false, Bool.false_eq_true, reduceIte, Int.reduceBEq, Int.reduceAdd, Int.reduceSub, Int.reduceMul, Int.reduceLT, Int.reduceLE, Int.reduceNeg, Int.reduceToNat, Int.reduceDiv, Int.reduceMod, Nat.reduceAdd, Nat.reduceSub, Nat.reduceLeDiff, Nat.reduceBEq, Nat.reduceEqDiff, h]; first | done | rfl))) only [EVB, EVC, EVS, List.set_cons_succ, List.set_cons_zero, List.length_nil, List.length_cons, List.nil_append, List.cons_append, true_and, and_self, Option.toList_some, Option.toList_none, List.append_nil, Bool.decide_eq_true, decide_true, decide_false, List.length_map, List.length_range, BEq.rfl, beq_self_eq_true, Int.toNat_natCast, bne_self_eq_false, Bool.not_eq_true, Bool.not_true, Bool.not_false, Int.natCast_zero, Int.natCast_one, Int.cast_ofNat_Int, if_true, if_false, Bool.false_eq_true, reduceIte, Int.reduceBEq, Int.reduceAdd, Int.reduceSub, Int.reduceMul, Int.reduceLT, Int.reduceLE, Int.reduceNeg, Int.reduceToNat, Int.reduceDiv, Int.reduceMod, Nat.reduceAdd, Nat.reduceSub, Nat.reduceLeDiff, Nat.reduceBEq, Nat.reduceEqDiff, h]
  try rfl
theorem er1_NUM (hr : refsLt 0 x = true) (hr' : refsLt 0 y = true) (h : ∀ S, callK 0 m_power [x, y] S = .exc "BadNumber" S) : callK 0 m__law_error [.int 1, x, y] S = .ok NUM S := by
  refine err_of (i := 1) hr hr' rfl ?_
  unfold b__law_error
  try simp (config := {maxSteps := 2000000}) (disch := (first | assumption | omega | (refine lkd ?_; decide) | (simp only [LINE, Nat.reduceMul, Nat.reduceLeDiff, Int.reduceToNat, Int.toNat_natCast, List.length_append, List.length_cons, List.length_nil, List.length_map, List.length_range, List.length_take, List.length_drop, List.length_reverse, List.length_replicate, invw_length, List.length_set] <;> omega) | (simp only [wd_app, wd_cons, wd_nil, and_true, true_and]; first | done | (refine ⟨?_, ?_⟩ <;> assumption) | assumption) | (intro ca ch; simp (config := {maxSteps := 2000000}) (disch := (first | assumption | omega | (refine lkd ?_; decide) | (simp only [LINE, Nat.reduceMul, Nat.reduceLeDiff, Int.reduceToNat, Int.toNat_natCast, List.length_append, List.length_cons, List.length_nil, List.length_map, List.length_range, List.length_take, List.length_drop, List.length_reverse, List.length_replicate, invw_length, List.length_set] <;> omega) | (simp only [wd_app, wd_cons, wd_nil, and_true, true_and]; first | done | (refine ⟨?_, ?_⟩ <;> assumption) | assumption))) only [EVB, EVC, EVS, List.set_cons_succ, List.set_cons_zero, List.length_nil, List.length_cons, List.nil_append, List.cons_append, true_and, and_self, Option.toList_some, Option.toList_none, List.append_nil, Bool.decide_eq_true, decide_true, decide_false, List.length_map, List.length_range, BEq.rfl, beq_self_eq_true, Int.toNat_natCast, bne_self_eq_false, Bool.not_eq_true, Bool.not_true, Bool.not_false, Int.natCast_zero, Int.natCast_one, Int.cast_ofNat_Int, if_true, if_false, Bool.false_eq_true, reduceIte, Int.reduceBEq, Int.reduceAdd, Int.reduceSub, Int.reduceMul, Int.reduceLT, Int.reduceLE, Int.reduceNeg, Int.reduceToNat, Int.reduceDiv, Int.reduceMod, Nat.reduceAdd, Nat.reduceSub, Nat.reduceLeDiff, Nat.reduceBEq, Nat.reduceEqDiff, h]; first | done | rfl))) only [EVB, EVC, EVS, List.set_cons_succ, List.set_cons_zero, List.length_nil, List.length_cons, List.nil_append, List.cons_append, true_and, and_self, Option.toList_some, Option.toList_none, List.append_nil, Bool.decide_eq_true, decide_true, decide_false, List.length_map, List.length_range, BEq.rfl, beq_self_eq_true, Int.toNat_natCast, bne_self_eq_false, Bool.not_eq_true, Bool.not_true, Bool.not_false, Int.natCast_zero, Int.natCast_one, Int.cast_ofNat_Int, if_true, if_false, Bool.false_eq_true, reduceIte, Int.reduceBEq, Int.reduceAdd, Int.reduceSub, Int.reduceMul, Int.reduceLT, Int.reduceLE, Int.reduceNeg, Int.reduceToNat, Int.reduceDiv, Int.reduceMod, Nat.reduceAdd, Nat.reduceSub, Nat.reduceLeDiff, Nat.reduceBEq, Nat.reduceEqDiff, h]
  try rfl
theorem er2_ok {v : W} (hr : refsLt 0 x = true) (hr' : refsLt 0 y = true) (h : ∀ S, callK 0 m_commutator [x, y] S = .ok v S) : callK 0 m__law_error [.int 2, x, y] S = .ok NON S := by
  refine err_of (i := 2) hr hr' rfl ?_
  unfold b__law_error
  try simp (config := {maxSteps := 2000000}) (disch := (first | assumption | omega | (refine lkd ?_; decide) | (simp only [LINE, Nat.reduceMul, Nat.reduceLeDiff, Int.reduceToNat, Int.toNat_natCast, List.length_append, List.length_cons, List.length_nil, List.length_map, List.length_range, List.length_take, List.length_drop, List.length_reverse, List.length_replicate, invw_length, List.length_set] <;> omega) | (simp only [wd_app, wd_cons, wd_nil, and_true, true_and]; first | done | (refine ⟨?_, ?_⟩ <;> assumption) | assumption) | (intro ca ch; simp (config := {maxSteps := 2000000}) (disch := (first | assumption | omega | (refine lkd ?_; decide) | (simp only [LINE, Nat.reduceMul, Nat.reduceLeDiff, Int.reduceToNat, Int.toNat_natCast, List.length_append, List.length_cons, List.length_nil, List.length_map, List.length_range, List.length_take, List.length_drop, List.length_reverse, List.length_replicate, invw_length, List.length_set] <;> omega) | (simp only [wd_app, wd_cons, wd_nil, and_true, true_and]; first | done | (refine ⟨?_, ?_⟩ <;> assumption) | assumption))) only [EVB, EVC, EVS, List.set_cons_succ, List.set_cons_zero, List.length_nil, List.length_cons, List.nil_append, List.cons_append, true_and, and_self, Option.toList_some, Option.toList_none, List.append_nil, Bool.decide_eq_true, decide_true, decide_false, List.length_map, List.length_range, BEq.rfl, beq_self_eq_true, Int.toNat_natCast, bne_self_eq_false, Bool.not_eq_true, Bool.not_true, Bool.not_false, Int.natCast_zero, Int.natCast_one, Int.cast_ofNat_Int, if_true, if_false, Bool.false_eq_true, reduceIte, Int.reduceBEq, Int.reduceAdd, Int.reduceSub, Int.reduceMul, Int.reduceLT, Int.reduceLE, Int.reduceNeg, Int.reduceToNat, Int.reduceDiv, Int.reduceMod, Nat.reduceAdd, Nat.reduceSub, Nat.reduceLeDiff, Nat.reduceBEq, Nat.reduceEqDiff, h]; first | done | rfl))) only [EVB, EVC, EVS, List.set_cons_succ, List.set_cons_zero, List.length_nil, List.length_cons, List.nil_append, List.cons_append, true_and, and_self, Option.toList_some, Option.toList_none, List.append_nil, Bool.decide_eq_true, decide_true, decide_false, List.length_map, List.length_range, BEq.rfl, beq_self_eq_true, Int.toNat_natCast, bne_self_eq_false, Bool.not_eq_true, Bool.not_true, Bool.not_false, Int.natCast_zero, Int.natCast_one, Int.cast_ofNat_Int, if_true, if_false, Bool.false_eq_true, reduceIte, Int.reduceBEq, Int.reduceAdd, Int.reduceSub, Int.reduceMul, Int.reduceLT, Int.reduceLE, Int.reduceNeg, Int.reduceToNat, Int.reduceDiv, Int.reduceMod, Nat.reduceAdd, Nat.reduceSub, Nat.reduceLeDiff, Nat.reduceBEq, Nat.reduceEqDiff, h]
  try rfl
theorem er2_WRD (hr : refsLt 0 x = true) (hr' : refsLt 0 y = true) (h : ∀ S, callK 0 m_commutator [x, y] S = .exc "BadWord" S) : callK 0 m__law_error [.int 2, x, y] S = .ok WRD S := by
  refine err_of (i := 2) hr hr' rfl ?_
  unfold b__law_error
  try simp (config := {maxSteps := 2000000}) (disch := (first | assumption | omega | (refine lkd ?_; decide) | (simp only [LINE, Nat.reduceMul, Nat.reduceLeDiff, Int.reduceToNat, Int.toNat_natCast, List.length_append, List.length_cons, List.length_nil, List.length_map, List.length_range, List.length_take, List.length_drop, List.length_reverse, List.length_replicate, invw_length, List.length_set] <;> omega) | (simp only [wd_app, wd_cons, wd_nil, and_true, true_and]; first | done | (refine ⟨?_, ?_⟩ <;> assumption) | assumption) | (intro ca ch; simp (config := {maxSteps := 2000000}) (disch := (first | assumption | omega | (refine lkd ?_; decide) | (simp only [LINE, Nat.reduceMul, Nat.reduceLeDiff, Int.reduceToNat, Int.toNat_natCast, List.length_append, List.length_cons, List.length_nil, List.length_map, List.length_range, List.length_take, List.length_drop, List.length_reverse, List.length_replicate, invw_length, List.length_set] <;> omega) | (simp only [wd_app, wd_cons, wd_nil, and_true, true_and]; first | done | (refine ⟨?_, ?_⟩ <;> assumption) | assumption))) only [EVB, EVC, EVS, List.set_cons_succ, List.set_cons_zero, List.length_nil, List.length_cons, List.nil_append, List.cons_append, true_and, and_self, Option.toList_some, Option.toList_none, List.append_nil, Bool.decide_eq_true, decide_true, decide_false, List.length_map, List.length_range, BEq.rfl, beq_self_eq_true, Int.toNat_natCast, bne_self_eq_false, Bool.not_eq_true, Bool.not_true, Bool.not_false, Int.natCast_zero, Int.natCast_one, Int.cast_ofNat_Int, if_true, if_false, Bool.false_eq_true, reduceIte, Int.reduceBEq, Int.reduceAdd, Int.reduceSub, Int.reduceMul, Int.reduceLT, Int.reduceLE, Int.reduceNeg, Int.reduceToNat, Int.reduceDiv, Int.reduceMod, Nat.reduceAdd, Nat.reduceSub, Nat.reduceLeDiff, Nat.reduceBEq, Nat.reduceEqDiff, h]; first | done | rfl))) only [EVB, EVC, EVS, List.set_cons_succ, List.set_cons_zero, List.length_nil, List.length_cons, List.nil_append, List.cons_append, true_and, and_self, Option.toList_some, Option.toList_none, List.append_nil, Bool.decide_eq_true, decide_true, decide_false, List.length_map, List.length_range, BEq.rfl, beq_self_eq_true, Int.toNat_natCast, bne_self_eq_false, Bool.not_eq_true, Bool.not_true, Bool.not_false, Int.natCast_zero, Int.natCast_one, Int.cast_ofNat_Int, if_true, if_false, Bool.false_eq_true, reduceIte, Int.reduceBEq, Int.reduceAdd, Int.reduceSub, Int.reduceMul, Int.reduceLT, Int.reduceLE, Int.reduceNeg, Int.reduceToNat, Int.reduceDiv, Int.reduceMod, Nat.reduceAdd, Nat.reduceSub, Nat.reduceLeDiff, Nat.reduceBEq, Nat.reduceEqDiff, h]
  try rfl
theorem er2_OTH (hr : refsLt 0 x = true) (hr' : refsLt 0 y = true) (h : ∀ S, callK 0 m_commutator [x, y] S = .exc "BadOther" S) : callK 0 m__law_error [.int 2, x, y] S = .ok OTH S := by
  refine err_of (i := 2) hr hr' rfl ?_
  unfold b__law_error
  try simp (config := {maxSteps := 2000000}) (disch := (first | assumption | omega | (refine lkd ?_; decide) | (simp only [LINE, Nat.reduceMul, Nat.reduceLeDiff, Int.reduceToNat, Int.toNat_natCast, List.length_append, List.length_cons, List.length_nil, List.length_map, List.length_range, List.length_take, List.length_drop, List.length_reverse, List.length_replicate, invw_length, List.length_set] <;> omega) | (simp only [wd_app, wd_cons, wd_nil, and_true, true_and]; first | done | (refine ⟨?_, ?_⟩ <;> assumption) | assumption) | (intro ca ch; simp (config := {maxSteps := 2000000}) (disch := (first | assumption | omega | (refine lkd ?_; decide) | (simp only [LINE, Nat.reduceMul, Nat.reduceLeDiff, Int.reduceToNat, Int.toNat_natCast, List.length_append, List.length_cons, List.length_nil, List.length_map, List.length_range, List.length_take, List.length_drop, List.length_reverse, List.length_replicate, invw_length, List.length_set] <;> omega) | (simp only [wd_app, wd_cons, wd_nil, and_true, true_and]; first | done | (refine ⟨?_, ?_⟩ <;> assumption) | assumption))) only [EVB, EVC, EVS, List.set_cons_succ, List.set_cons_zero, List.length_nil, List.length_cons, List.nil_append, List.cons_append, true_and, and_self, Option.toList_some, Option.toList_none, List.append_nil, Bool.decide_eq_true, decide_true, decide_false, List.length_map, List.length_range, BEq.rfl, beq_self_eq_true, Int.toNat_natCast, bne_self_eq_false, Bool.not_eq_true, Bool.not_true, Bool.not_false, Int.natCast_zero, Int.natCast_one, Int.cast_ofNat_Int, if_true, if_false, Bool.false_eq_true, reduceIte, Int.reduceBEq, Int.reduceAdd, Int.reduceSub, Int.reduceMul, Int.reduceLT, Int.reduceLE, Int.reduceNeg, Int.reduceToNat, Int.reduceDiv, Int.reduceMod, Nat.reduceAdd, Nat.reduceSub, Nat.reduceLeDiff, Nat.reduceBEq, Nat.reduceEqDiff, h]; first | done | rfl))) only [EVB, EVC, EVS, List.set_cons_succ, List.set_cons_zero, List.length_nil, List.length_cons, List.nil_append, List.cons_append, true_and, and_self, Option.toList_some, Option.toList_none, List.append_nil, Bool.decide_eq_true, decide_true, decide_false, List.length_map, List.length_range, BEq.rfl, beq_self_eq_true, Int.toNat_natCast, bne_self_eq_false, Bool.not_eq_true, Bool.not_true, Bool.not_false, Int.natCast_zero, Int.natCast_one, Int.cast_ofNat_Int, if_true, if_false, Bool.false_eq_true, reduceIte, Int.reduceBEq, Int.reduceAdd, Int.reduceSub, Int.reduceMul, Int.reduceLT, Int.reduceLE, Int.reduceNeg, Int.reduceToNat, Int.reduceDiv, Int.reduceMod, Nat.reduceAdd, Nat.reduceSub, Nat.reduceLeDiff, Nat.reduceBEq, Nat.reduceEqDiff, h]
  try rfl
theorem er2_NUM (hr : refsLt 0 x = true) (hr' : refsLt 0 y = true) (h : ∀ S, callK 0 m_commutator [x, y] S = .exc "BadNumber" S) : callK 0 m__law_error [.int 2, x, y] S = .ok NUM S := by
  refine err_of (i := 2) hr hr' rfl ?_
  unfold b__law_error
  try simp (config := {maxSteps := 2000000}) (disch := (first | assumption | omega | (refine lkd ?_; decide) | (simp only [LINE, Nat.reduceMul, Nat.reduceLeDiff, Int.reduceToNat, Int.toNat_natCast, List.length_append, List.length_cons, List.length_nil, List.length_map, List.length_range, List.length_take, List.length_drop, List.length_reverse, List.length_replicate, invw_length, List.length_set] <;> omega) | (simp only [wd_app, wd_cons, wd_nil, and_true, true_and]; first | done | (refine ⟨?_, ?_⟩ <;> assumption) | assumption) | (intro ca ch; simp (config := {maxSteps := 2000000}) (disch := (first | assumption | omega | (refine lkd ?_; decide) | (simp only [LINE, Nat.reduceMul, Nat.reduceLeDiff, Int.reduceToNat, Int.toNat_natCast, List.length_append, List.length_cons, List.length_nil, List.length_map, List.length_range, List.length_take, List.length_drop, List.length_reverse, List.length_replicate, invw_length, List.length_set] <;> omega) | (simp only [wd_app, wd_cons, wd_nil, and_true, true_and]; first | done | (refine ⟨?_, ?_⟩ <;> assumption) | assumption))) only [EVB, EVC, EVS, List.set_cons_succ, List.set_cons_zero, List.length_nil, List.length_cons, List.nil_append, List.cons_append, true_and, and_self, Option.toList_some, Option.toList_none, List.append_nil, Bool.decide_eq_true, decide_true, decide_false, List.length_map, List.length_range, BEq.rfl, beq_self_eq_true, Int.toNat_natCast, bne_self_eq_false, Bool.not_eq_true, Bool.not_true, Bool.not_false, Int.natCast_zero, Int.natCast_one, Int.cast_ofNat_Int, if_true, if_false, Bool.false_eq_true, reduceIte, Int.reduceBEq, Int.reduceAdd, Int.reduceSub, Int.reduceMul, Int.reduceLT, Int.reduceLE, Int.reduceNeg, Int.reduceToNat, Int.reduceDiv, Int.reduceMod, Nat.reduceAdd, Nat.reduceSub, Nat.reduceLeDiff, Nat.reduceBEq, Nat.reduceEqDiff, h]; first | done | rfl))) only [EVB, EVC, EVS, List.set_cons_succ, List.set_cons_zero, List.length_nil, List.length_cons, List.nil_append, List.cons_append, true_and, and_self, Option.toList_some, Option.toList_none, List.append_nil, Bool.decide_eq_true, decide_true, decide_false, List.length_map, List.length_range, BEq.rfl, beq_self_eq_true, Int.toNat_natCast, bne_self_eq_false, Bool.not_eq_true, Bool.not_true, Bool.not_false, Int.natCast_zero, Int.natCast_one, Int.cast_ofNat_Int, if_true, if_false, Bool.false_eq_true, reduceIte, Int.reduceBEq, Int.reduceAdd, Int.reduceSub, Int.reduceMul, Int.reduceLT, Int.reduceLE, Int.reduceNeg, Int.reduceToNat, Int.reduceDiv, Int.reduceMod, Nat.reduceAdd, Nat.reduceSub, Nat.reduceLeDiff, Nat.reduceBEq, Nat.reduceEqDiff, h]
  try rfl
theorem er3_ok {v : W} (hr : refsLt 0 x = true) (hr' : refsLt 0 y = true) (h : ∀ S, callK 0 m_conjugate [x, y] S = .ok v S) : callK 0 m__law_error [.int 3, x, y] S = .ok NON S := by
  refine err_of (i := 3) hr hr' rfl ?_
  unfold b__law_error
  try simp (config := {maxSteps := 2000000}) (disch := (first | assumption | omega | (refine lkd ?_; decide) | (simp only [LINE, Nat.reduceMul, Nat.reduceLeDiff, Int.reduceToNat, Int.toNat_natCast, List.length_append, List.length_cons, List.length_nil, List.length_map, List.length_range, List.length_take, List.length_drop, List.length_reverse, List.length_replicate, invw_length, List.length_set] <;> omega) | (simp only [wd_app, wd_cons, wd_nil, and_true, true_and]; first | done | (refine ⟨?_, ?_⟩ <;> assumption) | assumption) | (intro ca ch; simp (config := {maxSteps := 2000000}) (disch := (first | assumption | omega | (refine lkd ?_; decide) | (simp only [LINE, Nat.reduceMul, Nat.reduceLeDiff, Int.reduceToNat, Int.toNat_natCast, List.length_append, List.length_cons, List.length_nil, List.length_map, List.length_range, List.length_take, List.length_drop, List.length_reverse, List.length_replicate, invw_length, List.length_set] <;> omega) | (simp only [wd_app, wd_cons, wd_nil, and_true, true_and]; first | done | (refine ⟨?_, ?_⟩ <;> assumption) | assumption))) only [EVB, EVC, EVS, List.set_cons_succ, List.set_cons_zero, List.length_nil, List.length_cons, List.nil_append, List.cons_append, true_and, and_self, Option.toList_some, Option.toList_none, List.append_nil, Bool.decide_eq_true, decide_true, decide_false, List.length_map, List.length_range, BEq.rfl, beq_self_eq_true, Int.toNat_natCast, bne_self_eq_false, Bool.not_eq_true, Bool.not_true, Bool.not_false, Int.natCast_zero, Int.natCast_one, Int.cast_ofNat_Int, if_true, if_false, Bool.false_eq_true, reduceIte, Int.reduceBEq, Int.reduceAdd, Int.reduceSub, Int.reduceMul, Int.reduceLT, Int.reduceLE, Int.reduceNeg, Int.reduceToNat, Int.reduceDiv, Int.reduceMod, Nat.reduceAdd, Nat.reduceSub, Nat.reduceLeDiff, Nat.reduceBEq, Nat.reduceEqDiff, h]; first | done | rfl))) only [EVB, EVC, EVS, List.set_cons_succ, List.set_cons_zero, List.length_nil, List.length_cons, List.nil_append, List.cons_append, true_and, and_self, Option.toList_some, Option.toList_none, List.append_nil, Bool.decide_eq_true, decide_true, decide_false, List.length_map, List.length_range, BEq.rfl, beq_self_eq_true, Int.toNat_natCast, bne_self_eq_false, Bool.not_eq_true, Bool.not_true, Bool.not_false, Int.natCast_zero, Int.natCast_one, Int.cast_ofNat_Int, if_true, if_false, Bool.false_eq_true, reduceIte, Int.reduceBEq, Int.reduceAdd, Int.reduceSub, Int.reduceMul, Int.reduceLT, Int.reduceLE, Int.reduceNeg, Int.reduceToNat, Int.reduceDiv, Int.reduceMod, Nat.reduceAdd, Nat.reduceSub, Nat.reduceLeDiff, Nat.reduceBEq, Nat.reduceEqDiff, h]
  try rfl
theorem er3_WRD (hr : refsLt 0 x = true) (hr' : refsLt 0 y = true) (h : ∀ S, callK 0 m_conjugate [x, y] S = .exc "BadWord" S) : callK 0 m__law_error [.int 3, x, y] S = .ok WRD S := by
  refine err_of (i := 3) hr hr' rfl ?_
  unfold b__law_error
  try simp (config := {maxSteps := 2000000}) (disch := (first | assumption | omega | (refine lkd ?_; decide) | (simp only [LINE, Nat.reduceMul, Nat.reduceLeDiff, Int.reduceToNat, Int.toNat_natCast, List.length_append, List.length_cons, List.length_nil, List.length_map, List.length_range, List.length_take, List.length_drop, List.length_reverse, List.length_replicate, invw_length, List.length_set] <;> omega) | (simp only [wd_app, wd_cons, wd_nil, and_true, true_and]; first | done | (refine ⟨?_, ?_⟩ <;> assumption) | assumption) | (intro ca ch; simp (config := {maxSteps := 2000000}) (disch := (first | assumption | omega | (refine lkd ?_; decide) | (simp only [LINE, Nat.reduceMul, Nat.reduceLeDiff, Int.reduceToNat, Int.toNat_natCast, List.length_append, List.length_cons, List.length_nil, List.length_map, List.length_range, List.length_take, List.length_drop, List.length_reverse, List.length_replicate, invw_length, List.length_set] <;> omega) | (simp only [wd_app, wd_cons, wd_nil, and_true, true_and]; first | done | (refine ⟨?_, ?_⟩ <;> assumption) | assumption))) only [EVB, EVC, EVS, List.set_cons_succ, List.set_cons_zero, List.length_nil, List.length_cons, List.nil_append, List.cons_append, true_and, and_self, Option.toList_some, Option.toList_none, List.append_nil, Bool.decide_eq_true, decide_true, decide_false, List.length_map, List.length_range, BEq.rfl, beq_self_eq_true, Int.toNat_natCast, bne_self_eq_false, Bool.not_eq_true, Bool.not_true, Bool.not_false, Int.natCast_zero, Int.natCast_one, Int.cast_ofNat_Int, if_true, if_false, Bool.false_eq_true, reduceIte, Int.reduceBEq, Int.reduceAdd, Int.reduceSub, Int.reduceMul, Int.reduceLT, Int.reduceLE, Int.reduceNeg, Int.reduceToNat, Int.reduceDiv, Int.reduceMod, Nat.reduceAdd, Nat.reduceSub, Nat.reduceLeDiff, Nat.reduceBEq, Nat.reduceEqDiff, h]; first | done | rfl))) only [EVB, EVC, EVS, List.set_cons_succ, List.set_cons_zero, List.length_nil, List.length_cons, List.nil_append, List.cons_append, true_and, and_self, Option.toList_some, Option.toList_none, List.append_nil, Bool.decide_eq_true, decide_true, decide_false, List.length_map, List.length_range, BEq.rfl, beq_self_eq_true, Int.toNat_natCast, bne_self_eq_false, Bool.not_eq_true, Bool.not_true, Bool.not_false, Int.natCast_zero, Int.natCast_one, Int.cast_ofNat_Int, if_true, if_false, Bool.false_eq_true, reduceIte, Int.reduceBEq, Int.reduceAdd, Int.reduceSub, Int.reduceMul, Int.reduceLT, Int.reduceLE, Int.reduceNeg, Int.reduceToNat, Int.reduceDiv, Int.reduceMod, Nat.reduceAdd, Nat.reduceSub, Nat.reduceLeDiff, Nat.reduceBEq, Nat.reduceEqDiff, h]
  try rfl
theorem er3_OTH (hr : refsLt 0 x = true) (hr' : refsLt 0 y = true) (h : ∀ S, callK 0 m_conjugate [x, y] S = .exc "BadOther" S) : callK 0 m__law_error [.int 3, x, y] S = .ok OTH S := by
  refine err_of (i := 3) hr hr' rfl ?_
  unfold b__law_error
  try simp (config := {maxSteps := 2000000}) (disch := (first | assumption | omega | (refine lkd ?_; decide) | (simp only [LINE, Nat.reduceMul, Nat.reduceLeDiff, Int.reduceToNat, Int.toNat_natCast, List.length_append, List.length_cons, List.length_nil, List.length_map, List.length_range, List.length_take, List.length_drop, List.length_reverse, List.length_replicate, invw_length, List.length_set] <;> omega) | (simp only [wd_app, wd_cons, wd_nil, and_true, true_and]; first | done | (refine ⟨?_, ?_⟩ <;> assumption) | assumption) | (intro ca ch; simp (config := {maxSteps := 2000000}) (disch := (first | assumption | omega | (refine lkd ?_; decide) | (simp only [LINE, Nat.reduceMul, Nat.reduceLeDiff, Int.reduceToNat, Int.toNat_natCast, List.length_append, List.length_cons, List.length_nil, List.length_map, List.length_range, List.length_take, List.length_drop, List.length_reverse, List.length_replicate, invw_length, List.length_set] <;> omega) | (simp only [wd_app, wd_cons, wd_nil, and_true, true_and]; first | done | (refine ⟨?_, ?_⟩ <;> assumption) | assumption))) only [EVB, EVC, EVS, List.set_cons_succ, List.set_cons_zero, List.length_nil, List.length_cons, List.nil_append, List.cons_append, true_and, and_self, Option.toList_some, Option.toList_none, List.append_nil, Bool.decide_eq_true, decide_true, decide_false, List.length_map, List.length_range, BEq.rfl, beq_self_eq_true, Int.toNat_natCast, bne_self_eq_false, Bool.not_eq_true, Bool.not_true, Bool.not_false, Int.natCast_zero, Int.natCast_one, Int.cast_ofNat_Int, if_true, if_false, Bool.false_eq_true, reduceIte, Int.reduceBEq, Int.reduceAdd, Int.reduceSub, Int.reduceMul, Int.reduceLT, Int.reduceLE, Int.reduceNeg, Int.reduceToNat, Int.reduceDiv, Int.reduceMod, Nat.reduceAdd, Nat.reduceSub, Nat.reduceLeDiff, Nat.reduceBEq, Nat.reduceEqDiff, h]; first | done | rfl))) only [EVB, EVC, EVS, List.set_cons_succ, List.set_cons_zero, List.length_nil, List.length_cons, List.nil_append, List.cons_append, true_and, and_self, Option.toList_some, Option.toList_none, List.append_nil, Bool.decide_eq_true, decide_true, decide_false, List.length_map, List.length_range, BEq.rfl, beq_self_eq_true, Int.toNat_natCast, bne_self_eq_false, Bool.not_eq_true, Bool.not_true, Bool.not_false, Int.natCast_zero, Int.natCast_one, Int.cast_ofNat_Int, if_true, if_false, Bool.false_eq_true, reduceIte, Int.reduceBEq, Int.reduceAdd, Int.reduceSub, Int.reduceMul, Int.reduceLT, Int.reduceLE, Int.reduceNeg, Int.reduceToNat, Int.reduceDiv, Int.reduceMod, Nat.reduceAdd, Nat.reduceSub, Nat.reduceLeDiff, Nat.reduceBEq, Nat.reduceEqDiff, h]
  try rfl
theorem er3_NUM (hr : refsLt 0 x = true) (hr' : refsLt 0 y = true) (h : ∀ S, callK 0 m_conjugate [x, y] S = .exc "BadNumber" S) : callK 0 m__law_error [.int 3, x, y] S = .ok NUM S := by
  refine err_of (i := 3) hr hr' rfl ?_
  unfold b__law_error
  try simp (config := {maxSteps := 2000000}) (disch := (first | assumption | omega | (refine lkd ?_; decide) | (simp only [LINE, Nat.reduceMul, Nat.reduceLeDiff, Int.reduceToNat, Int.toNat_natCast, List.length_append, List.length_cons, List.length_nil, List.length_map, List.length_range, List.length_take, List.length_drop, List.length_reverse, List.length_replicate, invw_length, List.length_set] <;> omega) | (simp only [wd_app, wd_cons, wd_nil, and_true, true_and]; first | done | (refine ⟨?_, ?_⟩ <;> assumption) | assumption) | (intro ca ch; simp (config := {maxSteps := 2000000}) (disch := (first | assumption | omega | (refine lkd ?_; decide) | (simp only [LINE, Nat.reduceMul, Nat.reduceLeDiff, Int.reduceToNat, Int.toNat_natCast, List.length_append, List.length_cons, List.length_nil, List.length_map, List.length_range, List.length_take, List.length_drop, List.length_reverse, List.length_replicate, invw_length, List.length_set] <;> omega) | (simp only [wd_app, wd_cons, wd_nil, and_true, true_and]; first | done | (refine ⟨?_, ?_⟩ <;> assumption) | assumption))) only [EVB, EVC, EVS, List.set_cons_succ, List.set_cons_zero, List.length_nil, List.length_cons, List.nil_append, List.cons_append, true_and, and_self, Option.toList_some, Option.toList_none, List.append_nil, Bool.decide_eq_true, decide_true, decide_false, List.length_map, List.length_range, BEq.rfl, beq_self_eq_true, Int.toNat_natCast, bne_self_eq_false, Bool.not_eq_true, Bool.not_true, Bool.not_false, Int.natCast_zero, Int.natCast_one, Int.cast_ofNat_Int, if_true, if_false, Bool.false_eq_true, reduceIte, Int.reduceBEq, Int.reduceAdd, Int.reduceSub, Int.reduceMul, Int.reduceLT, Int.reduceLE, Int.reduceNeg, Int.reduceToNat, Int.reduceDiv, Int.reduceMod, Nat.reduceAdd, Nat.reduceSub, Nat.reduceLeDiff, Nat.reduceBEq, Nat.reduceEqDiff, h]; first | done | rfl))) only [EVB, EVC, EVS, List.set_cons_succ, List.set_cons_zero, List.length_nil, List.length_cons, List.nil_append, List.cons_append, true_and, and_self, Option.toList_some, Option.toList_none, List.append_nil, Bool.decide_eq_true, decide_true, decide_false, List.length_map, List.length_range, BEq.rfl, beq_self_eq_true, Int.toNat_natCast, bne_self_eq_false, Bool.not_eq_true, Bool.not_true, Bool.not_false, Int.natCast_zero, Int.natCast_one, Int.cast_ofNat_Int, if_true, if_false, Bool.false_eq_true, reduceIte, Int.reduceBEq, Int.reduceAdd, Int.reduceSub, Int.reduceMul, Int.reduceLT, Int.reduceLE, Int.reduceNeg, Int.reduceToNat, Int.reduceDiv, Int.reduceMod, Nat.reduceAdd, Nat.reduceSub, Nat.reduceLeDiff, Nat.reduceBEq, Nat.reduceEqDiff, h]
  try rfl
theorem er4_ok {v : W} (hr : refsLt 0 x = true) (hr' : refsLt 0 y = true) (h : ∀ S, callK 0 m_sums [x] S = .ok v S) : callK 0 m__law_error [.int 4, x, y] S = .ok NON S := by
  refine err_of (i := 4) hr hr' rfl ?_
  unfold b__law_error
  try simp (config := {maxSteps := 2000000}) (disch := (first | assumption | omega | (refine lkd ?_; decide) | (simp only [LINE, Nat.reduceMul, Nat.reduceLeDiff, Int.reduceToNat, Int.toNat_natCast, List.length_append, List.length_cons, List.length_nil, List.length_map, List.length_range, List.length_take, List.length_drop, List.length_reverse, List.length_replicate, invw_length, List.length_set] <;> omega) | (simp only [wd_app, wd_cons, wd_nil, and_true, true_and]; first | done | (refine ⟨?_, ?_⟩ <;> assumption) | assumption) | (intro ca ch; simp (config := {maxSteps := 2000000}) (disch := (first | assumption | omega | (refine lkd ?_; decide) | (simp only [LINE, Nat.reduceMul, Nat.reduceLeDiff, Int.reduceToNat, Int.toNat_natCast, List.length_append, List.length_cons, List.length_nil, List.length_map, List.length_range, List.length_take, List.length_drop, List.length_reverse, List.length_replicate, invw_length, List.length_set] <;> omega) | (simp only [wd_app, wd_cons, wd_nil, and_true, true_and]; first | done | (refine ⟨?_, ?_⟩ <;> assumption) | assumption))) only [EVB, EVC, EVS, List.set_cons_succ, List.set_cons_zero, List.length_nil, List.length_cons, List.nil_append, List.cons_append, true_and, and_self, Option.toList_some, Option.toList_none, List.append_nil, Bool.decide_eq_true, decide_true, decide_false, List.length_map, List.length_range, BEq.rfl, beq_self_eq_true, Int.toNat_natCast, bne_self_eq_false, Bool.not_eq_true, Bool.not_true, Bool.not_false, Int.natCast_zero, Int.natCast_one, Int.cast_ofNat_Int, if_true, if_false, Bool.false_eq_true, reduceIte, Int.reduceBEq, Int.reduceAdd, Int.reduceSub, Int.reduceMul, Int.reduceLT, Int.reduceLE, Int.reduceNeg, Int.reduceToNat, Int.reduceDiv, Int.reduceMod, Nat.reduceAdd, Nat.reduceSub, Nat.reduceLeDiff, Nat.reduceBEq, Nat.reduceEqDiff, h]; first | done | rfl))) only [EVB, EVC, EVS, List.set_cons_succ, List.set_cons_zero, List.length_nil, List.length_cons, List.nil_append, List.cons_append, true_and, and_self, Option.toList_some, Option.toList_none, List.append_nil, Bool.decide_eq_true, decide_true, decide_false, List.length_map, List.length_range, BEq.rfl, beq_self_eq_true, Int.toNat_natCast, bne_self_eq_false, Bool.not_eq_true, Bool.not_true, Bool.not_false, Int.natCast_zero, Int.natCast_one, Int.cast_ofNat_Int, if_true, if_false, Bool.false_eq_true, reduceIte, Int.reduceBEq, Int.reduceAdd, Int.reduceSub, Int.reduceMul, Int.reduceLT, Int.reduceLE, Int.reduceNeg, Int.reduceToNat, Int.reduceDiv, Int.reduceMod, Nat.reduceAdd, Nat.reduceSub, Nat.reduceLeDiff, Nat.reduceBEq, Nat.reduceEqDiff, h]
  try rfl
theorem er4_WRD (hr : refsLt 0 x = true) (hr' : refsLt 0 y = true) (h : ∀ S, callK 0 m_sums [x] S = .exc "BadWord" S) : callK 0 m__law_error [.int 4, x, y] S = .ok WRD S := by
  refine err_of (i := 4) hr hr' rfl ?_
  unfold b__law_error
  try simp (config := {maxSteps := 2000000}) (disch := (first | assumption | omega | (refine lkd ?_; decide) | (simp only [LINE, Nat.reduceMul, Nat.reduceLeDiff, Int.reduceToNat, Int.toNat_natCast, List.length_append, List.length_cons, List.length_nil, List.length_map, List.length_range, List.length_take, List.length_drop, List.length_reverse, List.length_replicate, invw_length, List.length_set] <;> omega) | (simp only [wd_app, wd_cons, wd_nil, and_true, true_and]; first | done | (refine ⟨?_, ?_⟩ <;> assumption) | assumption) | (intro ca ch; simp (config := {maxSteps := 2000000}) (disch := (first | assumption | omega | (refine lkd ?_; decide) | (simp only [LINE, Nat.reduceMul, Nat.reduceLeDiff, Int.reduceToNat, Int.toNat_natCast, List.length_append, List.length_cons, List.length_nil, List.length_map, List.length_range, List.length_take, List.length_drop, List.length_reverse, List.length_replicate, invw_length, List.length_set] <;> omega) | (simp only [wd_app, wd_cons, wd_nil, and_true, true_and]; first | done | (refine ⟨?_, ?_⟩ <;> assumption) | assumption))) only [EVB, EVC, EVS, List.set_cons_succ, List.set_cons_zero, List.length_nil, List.length_cons, List.nil_append, List.cons_append, true_and, and_self, Option.toList_some, Option.toList_none, List.append_nil, Bool.decide_eq_true, decide_true, decide_false, List.length_map, List.length_range, BEq.rfl, beq_self_eq_true, Int.toNat_natCast, bne_self_eq_false, Bool.not_eq_true, Bool.not_true, Bool.not_false, Int.natCast_zero, Int.natCast_one, Int.cast_ofNat_Int, if_true, if_false, Bool.false_eq_true, reduceIte, Int.reduceBEq, Int.reduceAdd, Int.reduceSub, Int.reduceMul, Int.reduceLT, Int.reduceLE, Int.reduceNeg, Int.reduceToNat, Int.reduceDiv, Int.reduceMod, Nat.reduceAdd, Nat.reduceSub, Nat.reduceLeDiff, Nat.reduceBEq, Nat.reduceEqDiff, h]; first | done | rfl))) only [EVB, EVC, EVS, List.set_cons_succ, List.set_cons_zero, List.length_nil, List.length_cons, List.nil_append, List.cons_append, true_and, and_self, Option.toList_some, Option.toList_none, List.append_nil, Bool.decide_eq_true, decide_true, decide_false, List.length_map, List.length_range, BEq.rfl, beq_self_eq_true, Int.toNat_natCast, bne_self_eq_false, Bool.not_eq_true, Bool.not_true, Bool.not_false, Int.natCast_zero, Int.natCast_one, Int.cast_ofNat_Int, if_true, if_false, Bool.false_eq_true, reduceIte, Int.reduceBEq, Int.reduceAdd, Int.reduceSub, Int.reduceMul, Int.reduceLT, Int.reduceLE, Int.reduceNeg, Int.reduceToNat, Int.reduceDiv, Int.reduceMod, Nat.reduceAdd, Nat.reduceSub, Nat.reduceLeDiff, Nat.reduceBEq, Nat.reduceEqDiff, h]
  try rfl
theorem er4_OTH (hr : refsLt 0 x = true) (hr' : refsLt 0 y = true) (h : ∀ S, callK 0 m_sums [x] S = .exc "BadOther" S) : callK 0 m__law_error [.int 4, x, y] S = .ok OTH S := by
  refine err_of (i := 4) hr hr' rfl ?_
  unfold b__law_error
  try simp (config := {maxSteps := 2000000}) (disch := (first | assumption | omega | (refine lkd ?_; decide) | (simp only [LINE, Nat.reduceMul, Nat.reduceLeDiff, Int.reduceToNat, Int.toNat_natCast, List.length_append, List.length_cons, List.length_nil, List.length_map, List.length_range, List.length_take, List.length_drop, List.length_reverse, List.length_replicate, invw_length, List.length_set] <;> omega) | (simp only [wd_app, wd_cons, wd_nil, and_true, true_and]; first | done | (refine ⟨?_, ?_⟩ <;> assumption) | assumption) | (intro ca ch; simp (config := {maxSteps := 2000000}) (disch := (first | assumption | omega | (refine lkd ?_; decide) | (simp only [LINE, Nat.reduceMul, Nat.reduceLeDiff, Int.reduceToNat, Int.toNat_natCast, List.length_append, List.length_cons, List.length_nil, List.length_map, List.length_range, List.length_take, List.length_drop, List.length_reverse, List.length_replicate, invw_length, List.length_set] <;> omega) | (simp only [wd_app, wd_cons, wd_nil, and_true, true_and]; first | done | (refine ⟨?_, ?_⟩ <;> assumption) | assumption))) only [EVB, EVC, EVS, List.set_cons_succ, List.set_cons_zero, List.length_nil, List.length_cons, List.nil_append, List.cons_append, true_and, and_self, Option.toList_some, Option.toList_none, List.append_nil, Bool.decide_eq_true, decide_true, decide_false, List.length_map, List.length_range, BEq.rfl, beq_self_eq_true, Int.toNat_natCast, bne_self_eq_false, Bool.not_eq_true, Bool.not_true, Bool.not_false, Int.natCast_zero, Int.natCast_one, Int.cast_ofNat_Int, if_true, if_false, Bool.false_eq_true, reduceIte, Int.reduceBEq, Int.reduceAdd, Int.reduceSub, Int.reduceMul, Int.reduceLT, Int.reduceLE, Int.reduceNeg, Int.reduceToNat, Int.reduceDiv, Int.reduceMod, Nat.reduceAdd, Nat.reduceSub, Nat.reduceLeDiff, Nat.reduceBEq, Nat.reduceEqDiff, h]; first | done | rfl))) only [EVB, EVC, EVS, List.set_cons_succ, List.set_cons_zero, List.length_nil, List.length_cons, List.nil_append, List.cons_append, true_and, and_self, Option.toList_some, Option.toList_none, List.append_nil, Bool.decide_eq_true, decide_true, decide_false, List.length_map, List.length_range, BEq.rfl, beq_self_eq_true, Int.toNat_natCast, bne_self_eq_false, Bool.not_eq_true, Bool.not_true, Bool.not_false, Int.natCast_zero, Int.natCast_one, Int.cast_ofNat_Int, if_true, if_false, Bool.false_eq_true, reduceIte, Int.reduceBEq, Int.reduceAdd, Int.reduceSub, Int.reduceMul, Int.reduceLT, Int.reduceLE, Int.reduceNeg, Int.reduceToNat, Int.reduceDiv, Int.reduceMod, Nat.reduceAdd, Nat.reduceSub, Nat.reduceLeDiff, Nat.reduceBEq, Nat.reduceEqDiff, h]
  try rfl
theorem er4_NUM (hr : refsLt 0 x = true) (hr' : refsLt 0 y = true) (h : ∀ S, callK 0 m_sums [x] S = .exc "BadNumber" S) : callK 0 m__law_error [.int 4, x, y] S = .ok NUM S := by
  refine err_of (i := 4) hr hr' rfl ?_
  unfold b__law_error
  try simp (config := {maxSteps := 2000000}) (disch := (first | assumption | omega | (refine lkd ?_; decide) | (simp only [LINE, Nat.reduceMul, Nat.reduceLeDiff, Int.reduceToNat, Int.toNat_natCast, List.length_append, List.length_cons, List.length_nil, List.length_map, List.length_range, List.length_take, List.length_drop, List.length_reverse, List.length_replicate, invw_length, List.length_set] <;> omega) | (simp only [wd_app, wd_cons, wd_nil, and_true, true_and]; first | done | (refine ⟨?_, ?_⟩ <;> assumption) | assumption) | (intro ca ch; simp (config := {maxSteps := 2000000}) (disch := (first | assumption | omega | (refine lkd ?_; decide) | (simp only [LINE, Nat.reduceMul, Nat.reduceLeDiff, Int.reduceToNat, Int.toNat_natCast, List.length_append, List.length_cons, List.length_nil, List.length_map, List.length_range, List.length_take, List.length_drop, List.length_reverse, List.length_replicate, invw_length, List.length_set] <;> omega) | (simp only [wd_app, wd_cons, wd_nil, and_true, true_and]; first | done | (refine ⟨?_, ?_⟩ <;> assumption) | assumption))) only [EVB, EVC, EVS, List.set_cons_succ, List.set_cons_zero, List.length_nil, List.length_cons, List.nil_append, List.cons_append, true_and, and_self, Option.toList_some, Option.toList_none, List.append_nil, Bool.decide_eq_true, decide_true, decide_false, List.length_map, List.length_range, BEq.rfl, beq_self_eq_true, Int.toNat_natCast, bne_self_eq_false, Bool.not_eq_true, Bool.not_true, Bool.not_false, Int.natCast_zero, Int.natCast_one, Int.cast_ofNat_Int, if_true, if_false, Bool.false_eq_true, reduceIte, Int.reduceBEq, Int.reduceAdd, Int.reduceSub, Int.reduceMul, Int.reduceLT, Int.reduceLE, Int.reduceNeg, Int.reduceToNat, Int.reduceDiv, Int.reduceMod, Nat.reduceAdd, Nat.reduceSub, Nat.reduceLeDiff, Nat.reduceBEq, Nat.reduceEqDiff, h]; first | done | rfl))) only [EVB, EVC, EVS, List.set_cons_succ, List.set_cons_zero, List.length_nil, List.length_cons, List.nil_append, List.cons_append, true_and, and_self, Option.toList_some, Option.toList_none, List.append_nil, Bool.decide_eq_true, decide_true, decide_false, List.length_map, List.length_range, BEq.rfl, beq_self_eq_true, Int.toNat_natCast, bne_self_eq_false, Bool.not_eq_true, Bool.not_true, Bool.not_false, Int.natCast_zero, Int.natCast_one, Int.cast_ofNat_Int, if_true, if_false, Bool.false_eq_true, reduceIte, Int.reduceBEq, Int.reduceAdd, Int.reduceSub, Int.reduceMul, Int.reduceLT, Int.reduceLE, Int.reduceNeg, Int.reduceToNat, Int.reduceDiv, Int.reduceMod, Nat.reduceAdd, Nat.reduceSub, Nat.reduceLeDiff, Nat.reduceBEq, Nat.reduceEqDiff, h]
  try rfl
end
end L2.Mi.K02

set_option Elab.async false
set_option linter.all false
set_option maxRecDepth 100000
set_option maxHeartbeats 4000000
namespace L2.Mi.K02
open PySem PySem.Spec PyProof.Rows L2 L2.Mi L2.Mi.Wd L2.Mi.Lb L2.Mi.Lw L2.Mi.Lx L2.Mi.Fr
section
variable {S D D' R : Sto} {s t u v : List Nat} {c n m r : Nat} {w x y z : W} {xs ys : List W} {i j k : Int} {E : Str → Sto → Prop} {Q : W → Sto → Prop} {ss : List (List Nat)}
theorem wp_if_ok {α : Type} {c : Prop} [Decidable c] {A B : Out α} {v : α} {S : Sto} {Q : α → Sto → Prop} {E : Str → Sto → Prop} (hA : c → A = .ok v S) (hB : ¬ c → B = .ok v S) (h : Q v S) : wp (if c then A else B) Q E := by
  by_cases q : c
  · rw [if_pos q, hA q]; exact wp_ok.mpr h
  · rw [if_neg q, hB q]; exact wp_ok.mpr h
theorem w_second {L : Nat} (h : Dk D) (hs : Word s) (hl : s.length ≤ 60) (hL1 : 1 ≤ L) (hL4 : L ≤ 4) (hQ : ∀ (D' : Sto) (t : List Nat), Dk D' → Word t → t.length ≤ 60 → Q (.str t) D') : wp (m__law_second [.ref 1, .str s, .int L] D) Q E := by
  show wp (outF (b__law_second [some (.ref 1), some (.str s), some (.int L), none] D)) _ _
  refine wp_outF ?_
  unfold b__law_second
  try simp (config := {maxSteps := 2000000}) (disch := (first | assumption | omega | (refine lkd ?_; decide) | (simp only [LINE, Nat.reduceMul, Nat.reduceLeDiff, Int.reduceToNat, Int.toNat_natCast, List.length_append, List.length_cons, List.length_nil, List.length_map, List.length_range, List.length_take, List.length_drop, List.length_reverse, List.length_replicate, invw_length, List.length_set] <;> omega) | (simp only [wd_app, wd_cons, wd_nil, and_true, true_and]; first | done | (refine ⟨?_, ?_⟩ <;> assumption) | assumption) | (intro ca ch; simp (config := {maxSteps := 2000000}) (disch := (first | assumption | omega | (refine lkd ?_; decide) | (simp only [LINE, Nat.reduceMul, Nat.reduceLeDiff, Int.reduceToNat, Int.toNat_natCast, List.length_append, List.length_cons, List.length_nil, List.length_map, List.length_range, List.length_take, List.length_drop, List.length_reverse, List.length_replicate, invw_length, List.length_set] <;> omega) | (simp only [wd_app, wd_cons, wd_nil, and_true, true_and]; first | done | (refine ⟨?_, ?_⟩ <;> assumption) | assumption))) only [EVB, EVC, EVW, List.set_cons_succ, List.set_cons_zero, List.length_nil, List.length_cons, List.nil_append, List.cons_append, true_and, and_self, Option.toList_some, Option.toList_none, List.append_nil, Bool.decide_eq_true, decide_true, decide_false, List.length_map, List.length_range, BEq.rfl, beq_self_eq_true, Int.toNat_natCast, bne_self_eq_false, Bool.not_eq_true, Bool.not_true, Bool.not_false, Int.natCast_zero, Int.natCast_one, Int.cast_ofNat_Int, if_true, if_false, Bool.false_eq_true, reduceIte, Int.reduceBEq, Int.reduceAdd, Int.reduceSub, Int.reduceMul, Int.reduceLT, Int.reduceLE, Int.reduceNeg, Int.reduceToNat, Int.reduceDiv, Int.reduceMod, Nat.reduceAdd, Nat.reduceSub, Nat.reduceLeDiff, Nat.reduceBEq, Nat.reduceEqDiff]; first | done | rfl))) only [EVB, EVC, EVW, List.set_cons_succ, List.set_cons_zero, List.length_nil, List.length_cons, List.nil_append, List.cons_append, true_and, and_self, Option.toList_some, Option.toList_none, List.append_nil, Bool.decide_eq_true, decide_true, decide_false, List.length_map, List.length_range, BEq.rfl, beq_self_eq_true, Int.toNat_natCast, bne_self_eq_false, Bool.not_eq_true, Bool.not_true, Bool.not_false, Int.natCast_zero, Int.natCast_one, Int.cast_ofNat_Int, if_true, if_false, Bool.false_eq_true, reduceIte, Int.reduceBEq, Int.reduceAdd, Int.reduceSub, Int.reduceMul, Int.reduceLT, Int.reduceLE, Int.reduceNeg, Int.reduceToNat, Int.reduceDiv, Int.reduceMod, Nat.reduceAdd, Nat.reduceSub, Nat.reduceLeDiff, Nat.reduceBEq, Nat.reduceEqDiff]
  refine c_pick0 h (by omega) (by omega) fun D1 kind hD1 hk => ?_
  have hkk : kind = 0 ∨ kind = 1 ∨ kind = 2 ∨ kind = 3 ∨ kind = 4 := by omega
  have hu : ∀ S, callK 0 m__law_undone [.str s] S = .ok (.str (invw s)) S := fun S => c_undone hs (by show _ ≤ 16777216; omega)
  have gen : ∀ (D1 : Sto), Dk D1 → wp (callK 2 m__law_pick [.ref 1, .int 3] D1) (fun a S => wp (fIx (.lst [.int 6, .int 20, .int 60]) a S) (fun a S => wp (vK a S) (fun a S => wp (callK 2 m__law_word [.ref 1, .int L, a] S) (fun a S => Q a S) fun c S => E c S) fun c S => E c S) fun c S => E c S) fun c S => E c S := fun D1 hD1 => by
    refine c_pick0 hD1 (by omega) (by omega) fun D2 b hD2 hb => ?_
    obtain ⟨M, hM, e1⟩ : ∃ M : Nat, M ≤ 60 ∧ ([W.int 6, .int 20, .int 60] : List W).getD b .non = .int (M : Nat) := by
      have : b = 0 ∨ b = 1 ∨ b = 2 := by omega
      rcases this with rfl | rfl | rfl
      · exact ⟨6, by omega, rfl⟩
      · exact ⟨20, by omega, rfl⟩
      · exact ⟨60, by omega, rfl⟩
    try simp (config := {maxSteps := 2000000}) (disch := (first | assumption | omega | (refine lkd ?_; decide) | (simp only [LINE, Nat.reduceMul, Nat.reduceLeDiff, Int.reduceToNat, Int.toNat_natCast, List.length_append, List.length_cons, List.length_nil, List.length_map, List.length_range, List.length_take, List.length_drop, List.length_reverse, List.length_replicate, invw_length, List.length_set] <;> omega) | (simp only [wd_app, wd_cons, wd_nil, and_true, true_and]; first | done | (refine ⟨?_, ?_⟩ <;> assumption) | assumption) | (intro ca ch; simp (config := {maxSteps := 2000000}) (disch := (first | assumption | omega | (refine lkd ?_; decide) | (simp only [LINE, Nat.reduceMul, Nat.reduceLeDiff, Int.reduceToNat, Int.toNat_natCast, List.length_append, List.length_cons, List.length_nil, List.length_map, List.length_range, List.length_take, List.length_drop, List.length_reverse, List.length_replicate, invw_length, List.length_set] <;> omega) | (simp only [wd_app, wd_cons, wd_nil, and_true, true_and]; first | done | (refine ⟨?_, ?_⟩ <;> assumption) | assumption))) only [EVB, EVC, EVW, List.set_cons_succ, List.set_cons_zero, List.length_nil, List.length_cons, List.nil_append, List.cons_append, true_and, and_self, Option.toList_some, Option.toList_none, List.append_nil, Bool.decide_eq_true, decide_true, decide_false, List.length_map, List.length_range, BEq.rfl, beq_self_eq_true, Int.toNat_natCast, bne_self_eq_false, Bool.not_eq_true, Bool.not_true, Bool.not_false, Int.natCast_zero, Int.natCast_one, Int.cast_ofNat_Int, if_true, if_false, Bool.false_eq_true, reduceIte, Int.reduceBEq, Int.reduceAdd, Int.reduceSub, Int.reduceMul, Int.reduceLT, Int.reduceLE, Int.reduceNeg, Int.reduceToNat, Int.reduceDiv, Int.reduceMod, Nat.reduceAdd, Nat.reduceSub, Nat.reduceLeDiff, Nat.reduceBEq, Nat.reduceEqDiff, e1]; first | done | rfl))) only [EVB, EVC, EVW, List.set_cons_succ, List.set_cons_zero, List.length_nil, List.length_cons, List.nil_append, List.cons_append, true_and, and_self, Option.toList_some, Option.toList_none, List.append_nil, Bool.decide_eq_true, decide_true, decide_false, List.length_map, List.length_range, BEq.rfl, beq_self_eq_true, Int.toNat_natCast, bne_self_eq_false, Bool.not_eq_true, Bool.not_true, Bool.not_false, Int.natCast_zero, Int.natCast_one, Int.cast_ofNat_Int, if_true, if_false, Bool.false_eq_true, reduceIte, Int.reduceBEq, Int.reduceAdd, Int.reduceSub, Int.reduceMul, Int.reduceLT, Int.reduceLE, Int.reduceNeg, Int.reduceToNat, Int.reduceDiv, Int.reduceMod, Nat.reduceAdd, Nat.reduceSub, Nat.reduceLeDiff, Nat.reduceBEq, Nat.reduceEqDiff, e1]
    exact c_word hD2 hL1 hL4 (by omega) fun D3 t hD3 htl hta => hQ D3 t hD3 (fun c hc => al_sg (hta c hc)) (by omega)
  rcases hkk with rfl | rfl | rfl | rfl | rfl
  · try simp (config := {maxSteps := 2000000}) (disch := (first | assumption | omega | (refine lkd ?_; decide) | (simp only [LINE, Nat.reduceMul, Nat.reduceLeDiff, Int.reduceToNat, Int.toNat_natCast, List.length_append, List.length_cons, List.length_nil, List.length_map, List.length_range, List.length_take, List.length_drop, List.length_reverse, List.length_replicate, invw_length, List.length_set] <;> omega) | (simp only [wd_app, wd_cons, wd_nil, and_true, true_and]; first | done | (refine ⟨?_, ?_⟩ <;> assumption) | assumption) | (intro ca ch; simp (config := {maxSteps := 2000000}) (disch := (first | assumption | omega | (refine lkd ?_; decide) | (simp only [LINE, Nat.reduceMul, Nat.reduceLeDiff, Int.reduceToNat, Int.toNat_natCast, List.length_append, List.length_cons, List.length_nil, List.length_map, List.length_range, List.length_take, List.length_drop, List.length_reverse, List.length_replicate, invw_length, List.length_set] <;> omega) | (simp only [wd_app, wd_cons, wd_nil, and_true, true_and]; first | done | (refine ⟨?_, ?_⟩ <;> assumption) | assumption))) only [EVB, EVC, EVW, List.set_cons_succ, List.set_cons_zero, List.length_nil, List.length_cons, List.nil_append, List.cons_append, true_and, and_self, Option.toList_some, Option.toList_none, List.append_nil, Bool.decide_eq_true, decide_true, decide_false, List.length_map, List.length_range, BEq.rfl, beq_self_eq_true, Int.toNat_natCast, bne_self_eq_false, Bool.not_eq_true, Bool.not_true, Bool.not_false, Int.natCast_zero, Int.natCast_one, Int.cast_ofNat_Int, if_true, if_false, Bool.false_eq_true, reduceIte, Int.reduceBEq, Int.reduceAdd, Int.reduceSub, Int.reduceMul, Int.reduceLT, Int.reduceLE, Int.reduceNeg, Int.reduceToNat, Int.reduceDiv, Int.reduceMod, Nat.reduceAdd, Nat.reduceSub, Nat.reduceLeDiff, Nat.reduceBEq, Nat.reduceEqDiff, hu]; first | done | rfl))) only [EVB, EVC, EVW, List.set_cons_succ, List.set_cons_zero, List.length_nil, List.length_cons, List.nil_append, List.cons_append, true_and, and_self, Option.toList_some, Option.toList_none, List.append_nil, Bool.decide_eq_true, decide_true, decide_false, List.length_map, List.length_range, BEq.rfl, beq_self_eq_true, Int.toNat_natCast, bne_self_eq_false, Bool.not_eq_true, Bool.not_true, Bool.not_false, Int.natCast_zero, Int.natCast_one, Int.cast_ofNat_Int, if_true, if_false, Bool.false_eq_true, reduceIte, Int.reduceBEq, Int.reduceAdd, Int.reduceSub, Int.reduceMul, Int.reduceLT, Int.reduceLE, Int.reduceNeg, Int.reduceToNat, Int.reduceDiv, Int.reduceMod, Nat.reduceAdd, Nat.reduceSub, Nat.reduceLeDiff, Nat.reduceBEq, Nat.reduceEqDiff, hu]
    exact hQ D1 _ hD1 hs.inv (by rw [invw_length]; exact hl)
  · try simp (config := {maxSteps := 2000000}) (disch := (first | assumption | omega | (refine lkd ?_; decide) | (simp only [LINE, Nat.reduceMul, Nat.reduceLeDiff, Int.reduceToNat, Int.toNat_natCast, List.length_append, List.length_cons, List.length_nil, List.length_map, List.length_range, List.length_take, List.length_drop, List.length_reverse, List.length_replicate, invw_length, List.length_set] <;> omega) | (simp only [wd_app, wd_cons, wd_nil, and_true, true_and]; first | done | (refine ⟨?_, ?_⟩ <;> assumption) | assumption) | (intro ca ch; simp (config := {maxSteps := 2000000}) (disch := (first | assumption | omega | (refine lkd ?_; decide) | (simp only [LINE, Nat.reduceMul, Nat.reduceLeDiff, Int.reduceToNat, Int.toNat_natCast, List.length_append, List.length_cons, List.length_nil, List.length_map, List.length_range, List.length_take, List.length_drop, List.length_reverse, List.length_replicate, invw_length, List.length_set] <;> omega) | (simp only [wd_app, wd_cons, wd_nil, and_true, true_and]; first | done | (refine ⟨?_, ?_⟩ <;> assumption) | assumption))) only [EVB, EVC, EVW, List.set_cons_succ, List.set_cons_zero, List.length_nil, List.length_cons, List.nil_append, List.cons_append, true_and, and_self, Option.toList_some, Option.toList_none, List.append_nil, Bool.decide_eq_true, decide_true, decide_false, List.length_map, List.length_range, BEq.rfl, beq_self_eq_true, Int.toNat_natCast, bne_self_eq_false, Bool.not_eq_true, Bool.not_true, Bool.not_false, Int.natCast_zero, Int.natCast_one, Int.cast_ofNat_Int, if_true, if_false, Bool.false_eq_true, reduceIte, Int.reduceBEq, Int.reduceAdd, Int.reduceSub, Int.reduceMul, Int.reduceLT, Int.reduceLE, Int.reduceNeg, Int.reduceToNat, Int.reduceDiv, Int.reduceMod, Nat.reduceAdd, Nat.reduceSub, Nat.reduceLeDiff, Nat.reduceBEq, Nat.reduceEqDiff]; first | done | rfl))) only [EVB, EVC, EVW, List.set_cons_succ, List.set_cons_zero, List.length_nil, List.length_cons, List.nil_append, List.cons_append, true_and, and_self, Option.toList_some, Option.toList_none, List.append_nil, Bool.decide_eq_true, decide_true, decide_false, List.length_map, List.length_range, BEq.rfl, beq_self_eq_true, Int.toNat_natCast, bne_self_eq_false, Bool.not_eq_true, Bool.not_true, Bool.not_false, Int.natCast_zero, Int.natCast_one, Int.cast_ofNat_Int, if_true, if_false, Bool.false_eq_true, reduceIte, Int.reduceBEq, Int.reduceAdd, Int.reduceSub, Int.reduceMul, Int.reduceLT, Int.reduceLE, Int.reduceNeg, Int.reduceToNat, Int.reduceDiv, Int.reduceMod, Nat.reduceAdd, Nat.reduceSub, Nat.reduceLeDiff, Nat.reduceBEq, Nat.reduceEqDiff]
    refine c_pick0 hD1 (by omega) (by omega) fun D2 r hD2 hr => ?_
    have hu2 : ∀ S, callK 0 m__law_undone [.str (s.drop r)] S = .ok (.str (invw (s.drop r))) S := fun S => c_undone (hs.drop r) (by show _ ≤ 16777216; rw [List.length_drop]; omega)
    try simp (config := {maxSteps := 2000000}) (disch := (first | assumption | omega | (refine lkd ?_; decide) | (simp only [LINE, Nat.reduceMul, Nat.reduceLeDiff, Int.reduceToNat, Int.toNat_natCast, List.length_append, List.length_cons, List.length_nil, List.length_map, List.length_range, List.length_take, List.length_drop, List.length_reverse, List.length_replicate, invw_length, List.length_set] <;> omega) | (simp only [wd_app, wd_cons, wd_nil, and_true, true_and]; first | done | (refine ⟨?_, ?_⟩ <;> assumption) | assumption) | (intro ca ch; simp (config := {maxSteps := 2000000}) (disch := (first | assumption | omega | (refine lkd ?_; decide) | (simp only [LINE, Nat.reduceMul, Nat.reduceLeDiff, Int.reduceToNat, Int.toNat_natCast, List.length_append, List.length_cons, List.length_nil, List.length_map, List.length_range, List.length_take, List.length_drop, List.length_reverse, List.length_replicate, invw_length, List.length_set] <;> omega) | (simp only [wd_app, wd_cons, wd_nil, and_true, true_and]; first | done | (refine ⟨?_, ?_⟩ <;> assumption) | assumption))) only [EVB, EVC, EVW, List.set_cons_succ, List.set_cons_zero, List.length_nil, List.length_cons, List.nil_append, List.cons_append, true_and, and_self, Option.toList_some, Option.toList_none, List.append_nil, Bool.decide_eq_true, decide_true, decide_false, List.length_map, List.length_range, BEq.rfl, beq_self_eq_true, Int.toNat_natCast, bne_self_eq_false, Bool.not_eq_true, Bool.not_true, Bool.not_false, Int.natCast_zero, Int.natCast_one, Int.cast_ofNat_Int, if_true, if_false, Bool.false_eq_true, reduceIte, Int.reduceBEq, Int.reduceAdd, Int.reduceSub, Int.reduceMul, Int.reduceLT, Int.reduceLE, Int.reduceNeg, Int.reduceToNat, Int.reduceDiv, Int.reduceMod, Nat.reduceAdd, Nat.reduceSub, Nat.reduceLeDiff, Nat.reduceBEq, Nat.reduceEqDiff, hu2]; first | done | rfl))) only [EVB, EVC, EVW, List.set_cons_succ, List.set_cons_zero, List.length_nil, List.length_cons, List.nil_append, List.cons_append, true_and, and_self, Option.toList_some, Option.toList_none, List.append_nil, Bool.decide_eq_true, decide_true, decide_false, List.length_map, List.length_range, BEq.rfl, beq_self_eq_true, Int.toNat_natCast, bne_self_eq_false, Bool.not_eq_true, Bool.not_true, Bool.not_false, Int.natCast_zero, Int.natCast_one, Int.cast_ofNat_Int, if_true, if_false, Bool.false_eq_true, reduceIte, Int.reduceBEq, Int.reduceAdd, Int.reduceSub, Int.reduceMul, Int.reduceLT, Int.reduceLE, Int.reduceNeg, Int.reduceToNat, Int.reduceDiv, Int.reduceMod, Nat.reduceAdd, Nat.reduceSub, Nat.reduceLeDiff, Nat.reduceBEq, Nat.reduceEqDiff, hu2]
    refine c_word (M := 8) hD2 hL1 hL4 (by omega) fun D3 t hD3 htl hta => ?_
    have hwt : Word t := fun c hc => al_sg (hta c hc)
    have e60 : (60 : Int) - (s.length : Int) = ((60 - s.length : Nat) : Int) := by omega
    try simp (config := {maxSteps := 2000000}) (disch := (first | assumption | omega | (refine lkd ?_; decide) | (simp only [LINE, Nat.reduceMul, Nat.reduceLeDiff, Int.reduceToNat, Int.toNat_natCast, List.length_append, List.length_cons, List.length_nil, List.length_map, List.length_range, List.length_take, List.length_drop, List.length_reverse, List.length_replicate, invw_length, List.length_set] <;> omega) | (simp only [wd_app, wd_cons, wd_nil, and_true, true_and]; first | done | (refine ⟨?_, ?_⟩ <;> assumption) | assumption) | (intro ca ch; simp (config := {maxSteps := 2000000}) (disch := (first | assumption | omega | (refine lkd ?_; decide) | (simp only [LINE, Nat.reduceMul, Nat.reduceLeDiff, Int.reduceToNat, Int.toNat_natCast, List.length_append, List.length_cons, List.length_nil, List.length_map, List.length_range, List.length_take, List.length_drop, List.length_reverse, List.length_replicate, invw_length, List.length_set] <;> omega) | (simp only [wd_app, wd_cons, wd_nil, and_true, true_and]; first | done | (refine ⟨?_, ?_⟩ <;> assumption) | assumption))) only [EVB, EVC, EVW, List.set_cons_succ, List.set_cons_zero, List.length_nil, List.length_cons, List.nil_append, List.cons_append, true_and, and_self, Option.toList_some, Option.toList_none, List.append_nil, Bool.decide_eq_true, decide_true, decide_false, List.length_map, List.length_range, BEq.rfl, beq_self_eq_true, Int.toNat_natCast, bne_self_eq_false, Bool.not_eq_true, Bool.not_true, Bool.not_false, Int.natCast_zero, Int.natCast_one, Int.cast_ofNat_Int, if_true, if_false, Bool.false_eq_true, reduceIte, Int.reduceBEq, Int.reduceAdd, Int.reduceSub, Int.reduceMul, Int.reduceLT, Int.reduceLE, Int.reduceNeg, Int.reduceToNat, Int.reduceDiv, Int.reduceMod, Nat.reduceAdd, Nat.reduceSub, Nat.reduceLeDiff, Nat.reduceBEq, Nat.reduceEqDiff, e60]; first | done | rfl))) only [EVB, EVC, EVW, List.set_cons_succ, List.set_cons_zero, List.length_nil, List.length_cons, List.nil_append, List.cons_append, true_and, and_self, Option.toList_some, Option.toList_none, List.append_nil, Bool.decide_eq_true, decide_true, decide_false, List.length_map, List.length_range, BEq.rfl, beq_self_eq_true, Int.toNat_natCast, bne_self_eq_false, Bool.not_eq_true, Bool.not_true, Bool.not_false, Int.natCast_zero, Int.natCast_one, Int.cast_ofNat_Int, if_true, if_false, Bool.false_eq_true, reduceIte, Int.reduceBEq, Int.reduceAdd, Int.reduceSub, Int.reduceMul, Int.reduceLT, Int.reduceLE, Int.reduceNeg, Int.reduceToNat, Int.reduceDiv, Int.reduceMod, Nat.reduceAdd, Nat.reduceSub, Nat.reduceLeDiff, Nat.reduceBEq, Nat.reduceEqDiff, e60]
    exact hQ D3 _ hD3 ((hs.drop r).inv.app (hwt.take _)) (by simp only [LINE, Nat.reduceMul, Nat.reduceLeDiff, Int.reduceToNat, Int.toNat_natCast, List.length_append, List.length_cons, List.length_nil, List.length_map, List.length_range, List.length_take, List.length_drop, List.length_reverse, List.length_replicate, invw_length, List.length_set]; omega)
  · try simp (config := {maxSteps := 2000000}) (disch := (first | assumption | omega | (refine lkd ?_; decide) | (simp only [LINE, Nat.reduceMul, Nat.reduceLeDiff, Int.reduceToNat, Int.toNat_natCast, List.length_append, List.length_cons, List.length_nil, List.length_map, List.length_range, List.length_take, List.length_drop, List.length_reverse, List.length_replicate, invw_length, List.length_set] <;> omega) | (simp only [wd_app, wd_cons, wd_nil, and_true, true_and]; first | done | (refine ⟨?_, ?_⟩ <;> assumption) | assumption) | (intro ca ch; simp (config := {maxSteps := 2000000}) (disch := (first | assumption | omega | (refine lkd ?_; decide) | (simp only [LINE, Nat.reduceMul, Nat.reduceLeDiff, Int.reduceToNat, Int.toNat_natCast, List.length_append, List.length_cons, List.length_nil, List.length_map, List.length_range, List.length_take, List.length_drop, List.length_reverse, List.length_replicate, invw_length, List.length_set] <;> omega) | (simp only [wd_app, wd_cons, wd_nil, and_true, true_and]; first | done | (refine ⟨?_, ?_⟩ <;> assumption) | assumption))) only [EVB, EVC, EVW, List.set_cons_succ, List.set_cons_zero, List.length_nil, List.length_cons, List.nil_append, List.cons_append, true_and, and_self, Option.toList_some, Option.toList_none, List.append_nil, Bool.decide_eq_true, decide_true, decide_false, List.length_map, List.length_range, BEq.rfl, beq_self_eq_true, Int.toNat_natCast, bne_self_eq_false, Bool.not_eq_true, Bool.not_true, Bool.not_false, Int.natCast_zero, Int.natCast_one, Int.cast_ofNat_Int, if_true, if_false, Bool.false_eq_true, reduceIte, Int.reduceBEq, Int.reduceAdd, Int.reduceSub, Int.reduceMul, Int.reduceLT, Int.reduceLE, Int.reduceNeg, Int.reduceToNat, Int.reduceDiv, Int.reduceMod, Nat.reduceAdd, Nat.reduceSub, Nat.reduceLeDiff, Nat.reduceBEq, Nat.reduceEqDiff]; first | done | rfl))) only [EVB, EVC, EVW, List.set_cons_succ, List.set_cons_zero, List.length_nil, List.length_cons, List.nil_append, List.cons_append, true_and, and_self, Option.toList_some, Option.toList_none, List.append_nil, Bool.decide_eq_true, decide_true, decide_false, List.length_map, List.length_range, BEq.rfl, beq_self_eq_true, Int.toNat_natCast, bne_self_eq_false, Bool.not_eq_true, Bool.not_true, Bool.not_false, Int.natCast_zero, Int.natCast_one, Int.cast_ofNat_Int, if_true, if_false, Bool.false_eq_true, reduceIte, Int.reduceBEq, Int.reduceAdd, Int.reduceSub, Int.reduceMul, Int.reduceLT, Int.reduceLE, Int.reduceNeg, Int.reduceToNat, Int.reduceDiv, Int.reduceMod, Nat.reduceAdd, Nat.reduceSub, Nat.reduceLeDiff, Nat.reduceBEq, Nat.reduceEqDiff]
    exact hQ D1 _ hD1 hs hl
  · try simp (config := {maxSteps := 2000000}) (disch := (first | assumption | omega | (refine lkd ?_; decide) | (simp only [LINE, Nat.reduceMul, Nat.reduceLeDiff, Int.reduceToNat, Int.toNat_natCast, List.length_append, List.length_cons, List.length_nil, List.length_map, List.length_range, List.length_take, List.length_drop, List.length_reverse, List.length_replicate, invw_length, List.length_set] <;> omega) | (simp only [wd_app, wd_cons, wd_nil, and_true, true_and]; first | done | (refine ⟨?_, ?_⟩ <;> assumption) | assumption) | (intro ca ch; simp (config := {maxSteps := 2000000}) (disch := (first | assumption | omega | (refine lkd ?_; decide) | (simp only [LINE, Nat.reduceMul, Nat.reduceLeDiff, Int.reduceToNat, Int.toNat_natCast, List.length_append, List.length_cons, List.length_nil, List.length_map, List.length_range, List.length_take, List.length_drop, List.length_reverse, List.length_replicate, invw_length, List.length_set] <;> omega) | (simp only [wd_app, wd_cons, wd_nil, and_true, true_and]; first | done | (refine ⟨?_, ?_⟩ <;> assumption) | assumption))) only [EVB, EVC, EVW, List.set_cons_succ, List.set_cons_zero, List.length_nil, List.length_cons, List.nil_append, List.cons_append, true_and, and_self, Option.toList_some, Option.toList_none, List.append_nil, Bool.decide_eq_true, decide_true, decide_false, List.length_map, List.length_range, BEq.rfl, beq_self_eq_true, Int.toNat_natCast, bne_self_eq_false, Bool.not_eq_true, Bool.not_true, Bool.not_false, Int.natCast_zero, Int.natCast_one, Int.cast_ofNat_Int, if_true, if_false, Bool.false_eq_true, reduceIte, Int.reduceBEq, Int.reduceAdd, Int.reduceSub, Int.reduceMul, Int.reduceLT, Int.reduceLE, Int.reduceNeg, Int.reduceToNat, Int.reduceDiv, Int.reduceMod, Nat.reduceAdd, Nat.reduceSub, Nat.reduceLeDiff, Nat.reduceBEq, Nat.reduceEqDiff]; first | done | rfl))) only [EVB, EVC, EVW, List.set_cons_succ, List.set_cons_zero, List.length_nil, List.length_cons, List.nil_append, List.cons_append, true_and, and_self, Option.toList_some, Option.toList_none, List.append_nil, Bool.decide_eq_true, decide_true, decide_false, List.length_map, List.length_range, BEq.rfl, beq_self_eq_true, Int.toNat_natCast, bne_self_eq_false, Bool.not_eq_true, Bool.not_true, Bool.not_false, Int.natCast_zero, Int.natCast_one, Int.cast_ofNat_Int, if_true, if_false, Bool.false_eq_true, reduceIte, Int.reduceBEq, Int.reduceAdd, Int.reduceSub, Int.reduceMul, Int.reduceLT, Int.reduceLE, Int.reduceNeg, Int.reduceToNat, Int.reduceDiv, Int.reduceMod, Nat.reduceAdd, Nat.reduceSub, Nat.reduceLeDiff, Nat.reduceBEq, Nat.reduceEqDiff]
    exact gen D1 hD1
  · try simp (config := {maxSteps := 2000000}) (disch := (first | assumption | omega | (refine lkd ?_; decide) | (simp only [LINE, Nat.reduceMul, Nat.reduceLeDiff, Int.reduceToNat, Int.toNat_natCast, List.length_append, List.length_cons, List.length_nil, List.length_map, List.length_range, List.length_take, List.length_drop, List.length_reverse, List.length_replicate, invw_length, List.length_set] <;> omega) | (simp only [wd_app, wd_cons, wd_nil, and_true, true_and]; first | done | (refine ⟨?_, ?_⟩ <;> assumption) | assumption) | (intro ca ch; simp (config := {maxSteps := 2000000}) (disch := (first | assumption | omega | (refine lkd ?_; decide) | (simp only [LINE, Nat.reduceMul, Nat.reduceLeDiff, Int.reduceToNat, Int.toNat_natCast, List.length_append, List.length_cons, List.length_nil, List.length_map, List.length_range, List.length_take, List.length_drop, List.length_reverse, List.length_replicate, invw_length, List.length_set] <;> omega) | (simp only [wd_app, wd_cons, wd_nil, and_true, true_and]; first | done | (refine ⟨?_, ?_⟩ <;> assumption) | assumption))) only [EVB, EVC, EVW, List.set_cons_succ, List.set_cons_zero, List.length_nil, List.length_cons, List.nil_append, List.cons_append, true_and, and_self, Option.toList_some, Option.toList_none, List.append_nil, Bool.decide_eq_true, decide_true, decide_false, List.length_map, List.length_range, BEq.rfl, beq_self_eq_true, Int.toNat_natCast, bne_self_eq_false, Bool.not_eq_true, Bool.not_true, Bool.not_false, Int.natCast_zero, Int.natCast_one, Int.cast_ofNat_Int, if_true, if_false, Bool.false_eq_true, reduceIte, Int.reduceBEq, Int.reduceAdd, Int.reduceSub, Int.reduceMul, Int.reduceLT, Int.reduceLE, Int.reduceNeg, Int.reduceToNat, Int.reduceDiv, Int.reduceMod, Nat.reduceAdd, Nat.reduceSub, Nat.reduceLeDiff, Nat.reduceBEq, Nat.reduceEqDiff]; first | done | rfl))) only [EVB, EVC, EVW, List.set_cons_succ, List.set_cons_zero, List.length_nil, List.length_cons, List.nil_append, List.cons_append, true_and, and_self, Option.toList_some, Option.toList_none, List.append_nil, Bool.decide_eq_true, decide_true, decide_false, List.length_map, List.length_range, BEq.rfl, beq_self_eq_true, Int.toNat_natCast, bne_self_eq_false, Bool.not_eq_true, Bool.not_true, Bool.not_false, Int.natCast_zero, Int.natCast_one, Int.cast_ofNat_Int, if_true, if_false, Bool.false_eq_true, reduceIte, Int.reduceBEq, Int.reduceAdd, Int.reduceSub, Int.reduceMul, Int.reduceLT, Int.reduceLE, Int.reduceNeg, Int.reduceToNat, Int.reduceDiv, Int.reduceMod, Nat.reduceAdd, Nat.reduceSub, Nat.reduceLeDiff, Nat.reduceBEq, Nat.reduceEqDiff]
    exact gen D1 hD1
theorem c_second {L : Nat} (h : Dk D) (hs : Word s) (hl : s.length ≤ 60) (hL1 : 1 ≤ L) (hL4 : L ≤ 4) (hQ : ∀ (D' : Sto) (t : List Nat), Dk D' → Word t → t.length ≤ 60 → Q (.str t) D') : wp (callK 2 m__law_second [.ref 1, .str s, .int L] D) Q E := by
  refine dk_call0 h (by simp [refsLt]) ?_
  exact w_second h hs hl hL1 hL4 fun D' t h1 h2 h3 => ⟨D', [], by simp, h1, rfl, hQ D' t h1 h2 h3⟩
theorem cnt {l : List Nat} {a : Nat} : (l.filter fun b => b == a).length = l.count a := by rw [List.count_eq_countP, List.countP_eq_length_filter]
theorem same_sums : callK 0 m__law_same [sumsW s, sumsW s] S = .ok (.bl true) S := c_same rfl rfl (by show _ ≤ 1000000; simp [sumsW, sz, szs])
def sel (x y : W) (i : Nat) : W := if i = 1 then x else y
theorem sel_is (x y : W) (i : Nat) : (if ((i : Int) == 1) = true then Out.ok x S else .ok y S) = .ok (sel x y i) S := by
  unfold sel
  by_cases h : i = 1
  · subst h; rfl
  · rw [if_neg h, if_neg (by simp; omega)]
theorem law_true (ns : List Int) (hns : ns.length ≤ 63) : ∃ S, m_law [.fro (ns.map W.int)] [] = .ok (.bl true) S := by
  suffices h : wp (m_law [.fro (ns.map W.int)] []) (fun w _ => w = .bl true) (fun _ _ => False) by
    obtain ⟨w, S, e, rfl⟩ := wp_eq h
    exact ⟨S, e⟩
  show wp (outF (b_law [some (.fro (ns.map W.int)), none, none, none, none, none, none, none, none, none, none, none, none, none] [])) _ _
  refine wp_outF ?_
  unfold b_law
  obtain ⟨cs, hcs, hdeck⟩ := e_deck ns hns
  try simp (config := {maxSteps := 2000000}) (disch := (first | assumption | omega | (refine lkd ?_; decide) | (simp only [LINE, Nat.reduceMul, Nat.reduceLeDiff, Int.reduceToNat, Int.toNat_natCast, List.length_append, List.length_cons, List.length_nil, List.length_map, List.length_range, List.length_take, List.length_drop, List.length_reverse, List.length_replicate, invw_length, List.length_set] <;> omega) | (simp only [wd_app, wd_cons, wd_nil, and_true, true_and]; first | done | (refine ⟨?_, ?_⟩ <;> assumption) | assumption) | (intro ca ch; simp (config := {maxSteps := 2000000}) (disch := (first | assumption | omega | (refine lkd ?_; decide) | (simp only [LINE, Nat.reduceMul, Nat.reduceLeDiff, Int.reduceToNat, Int.toNat_natCast, List.length_append, List.length_cons, List.length_nil, List.length_map, List.length_range, List.length_take, List.length_drop, List.length_reverse, List.length_replicate, invw_length, List.length_set] <;> omega) | (simp only [wd_app, wd_cons, wd_nil, and_true, true_and]; first | done | (refine ⟨?_, ?_⟩ <;> assumption) | assumption))) only [EVB, EVC, EVW, List.set_cons_succ, List.set_cons_zero, List.length_nil, List.length_cons, List.nil_append, List.cons_append, true_and, and_self, Option.toList_some, Option.toList_none, List.append_nil, Bool.decide_eq_true, decide_true, decide_false, List.length_map, List.length_range, BEq.rfl, beq_self_eq_true, Int.toNat_natCast, bne_self_eq_false, Bool.not_eq_true, Bool.not_true, Bool.not_false, Int.natCast_zero, Int.natCast_one, Int.cast_ofNat_Int, if_true, if_false, Bool.false_eq_true, reduceIte, Int.reduceBEq, Int.reduceAdd, Int.reduceSub, Int.reduceMul, Int.reduceLT, Int.reduceLE, Int.reduceNeg, Int.reduceToNat, Int.reduceDiv, Int.reduceMod, Nat.reduceAdd, Nat.reduceSub, Nat.reduceLeDiff, Nat.reduceBEq, Nat.reduceEqDiff, hdeck, q_law_14]; first | done | rfl))) only [EVB, EVC, EVW, List.set_cons_succ, List.set_cons_zero, List.length_nil, List.length_cons, List.nil_append, List.cons_append, true_and, and_self, Option.toList_some, Option.toList_none, List.append_nil, Bool.decide_eq_true, decide_true, decide_false, List.length_map, List.length_range, BEq.rfl, beq_self_eq_true, Int.toNat_natCast, bne_self_eq_false, Bool.not_eq_true, Bool.not_true, Bool.not_false, Int.natCast_zero, Int.natCast_one, Int.cast_ofNat_Int, if_true, if_false, Bool.false_eq_true, reduceIte, Int.reduceBEq, Int.reduceAdd, Int.reduceSub, Int.reduceMul, Int.reduceLT, Int.reduceLE, Int.reduceNeg, Int.reduceToNat, Int.reduceDiv, Int.reduceMod, Nat.reduceAdd, Nat.reduceSub, Nat.reduceLeDiff, Nat.reduceBEq, Nat.reduceEqDiff, hdeck, q_law_14]
  have hD0 : Dk (dk cs 0 5563) := ⟨cs, 0, 5563, hcs, rfl⟩
  generalize dk cs 0 5563 = D0 at hD0
  obtain ⟨n, hn⟩ : ∃ n : Nat, (2 + min (ns.length : Int) 4).toNat = n := ⟨_, rfl⟩
  try simp (config := {maxSteps := 2000000}) (disch := (first | assumption | omega | (refine lkd ?_; decide) | (simp only [LINE, Nat.reduceMul, Nat.reduceLeDiff, Int.reduceToNat, Int.toNat_natCast, List.length_append, List.length_cons, List.length_nil, List.length_map, List.length_range, List.length_take, List.length_drop, List.length_reverse, List.length_replicate, invw_length, List.length_set] <;> omega) | (simp only [wd_app, wd_cons, wd_nil, and_true, true_and]; first | done | (refine ⟨?_, ?_⟩ <;> assumption) | assumption) | (intro ca ch; simp (config := {maxSteps := 2000000}) (disch := (first | assumption | omega | (refine lkd ?_; decide) | (simp only [LINE, Nat.reduceMul, Nat.reduceLeDiff, Int.reduceToNat, Int.toNat_natCast, List.length_append, List.length_cons, List.length_nil, List.length_map, List.length_range, List.length_take, List.length_drop, List.length_reverse, List.length_replicate, invw_length, List.length_set] <;> omega) | (simp only [wd_app, wd_cons, wd_nil, and_true, true_and]; first | done | (refine ⟨?_, ?_⟩ <;> assumption) | assumption))) only [EVB, EVC, EVW, List.set_cons_succ, List.set_cons_zero, List.length_nil, List.length_cons, List.nil_append, List.cons_append, true_and, and_self, Option.toList_some, Option.toList_none, List.append_nil, Bool.decide_eq_true, decide_true, decide_false, List.length_map, List.length_range, BEq.rfl, beq_self_eq_true, Int.toNat_natCast, bne_self_eq_false, Bool.not_eq_true, Bool.not_true, Bool.not_false, Int.natCast_zero, Int.natCast_one, Int.cast_ofNat_Int, if_true, if_false, Bool.false_eq_true, reduceIte, Int.reduceBEq, Int.reduceAdd, Int.reduceSub, Int.reduceMul, Int.reduceLT, Int.reduceLE, Int.reduceNeg, Int.reduceToNat, Int.reduceDiv, Int.reduceMod, Nat.reduceAdd, Nat.reduceSub, Nat.reduceLeDiff, Nat.reduceBEq, Nat.reduceEqDiff, hn]; first | done | rfl))) only [EVB, EVC, EVW, List.set_cons_succ, List.set_cons_zero, List.length_nil, List.length_cons, List.nil_append, List.cons_append, true_and, and_self, Option.toList_some, Option.toList_none, List.append_nil, Bool.decide_eq_true, decide_true, decide_false, List.length_map, List.length_range, BEq.rfl, beq_self_eq_true, Int.toNat_natCast, bne_self_eq_false, Bool.not_eq_true, Bool.not_true, Bool.not_false, Int.natCast_zero, Int.natCast_one, Int.cast_ofNat_Int, if_true, if_false, Bool.false_eq_true, reduceIte, Int.reduceBEq, Int.reduceAdd, Int.reduceSub, Int.reduceMul, Int.reduceLT, Int.reduceLE, Int.reduceNeg, Int.reduceToNat, Int.reduceDiv, Int.reduceMod, Nat.reduceAdd, Nat.reduceSub, Nat.reduceLeDiff, Nat.reduceBEq, Nat.reduceEqDiff, hn]
  refine loop_range (fun i env S => ∃ o2 o3 o4 o5 o6 o7 o8 o9 o10, env = [some (.fro (ns.map W.int)), some (.ref 1), o2, o3, o4, o5, o6, o7, o8, o9, o10, none, none, none] ∧ Dk S) ⟨none, none, none, none, none, none, none, none, none, rfl, hD0⟩ ?_ ?_
  · rintro i env S hi ⟨o2, o3, o4, o5, o6, o7, o8, o9, o10, rfl, hS⟩
    clear hi hn hdeck hD0
    try simp (config := {maxSteps := 2000000}) (disch := (first | assumption | omega | (refine lkd ?_; decide) | (simp only [LINE, Nat.reduceMul, Nat.reduceLeDiff, Int.reduceToNat, Int.toNat_natCast, List.length_append, List.length_cons, List.length_nil, List.length_map, List.length_range, List.length_take, List.length_drop, List.length_reverse, List.length_replicate, invw_length, List.length_set] <;> omega) | (simp only [wd_app, wd_cons, wd_nil, and_true, true_and]; first | done | (refine ⟨?_, ?_⟩ <;> assumption) | assumption) | (intro ca ch; simp (config := {maxSteps := 2000000}) (disch := (first | assumption | omega | (refine lkd ?_; decide) | (simp only [LINE, Nat.reduceMul, Nat.reduceLeDiff, Int.reduceToNat, Int.toNat_natCast, List.length_append, List.length_cons, List.length_nil, List.length_map, List.length_range, List.length_take, List.length_drop, List.length_reverse, List.length_replicate, invw_length, List.length_set] <;> omega) | (simp only [wd_app, wd_cons, wd_nil, and_true, true_and]; first | done | (refine ⟨?_, ?_⟩ <;> assumption) | assumption))) only [EVB, EVC, EVW, List.set_cons_succ, List.set_cons_zero, List.length_nil, List.length_cons, List.nil_append, List.cons_append, true_and, and_self, Option.toList_some, Option.toList_none, List.append_nil, Bool.decide_eq_true, decide_true, decide_false, List.length_map, List.length_range, BEq.rfl, beq_self_eq_true, Int.toNat_natCast, bne_self_eq_false, Bool.not_eq_true, Bool.not_true, Bool.not_false, Int.natCast_zero, Int.natCast_one, Int.cast_ofNat_Int, if_true, if_false, Bool.false_eq_true, reduceIte, Int.reduceBEq, Int.reduceAdd, Int.reduceSub, Int.reduceMul, Int.reduceLT, Int.reduceLE, Int.reduceNeg, Int.reduceToNat, Int.reduceDiv, Int.reduceMod, Nat.reduceAdd, Nat.reduceSub, Nat.reduceLeDiff, Nat.reduceBEq, Nat.reduceEqDiff]; first | done | rfl))) only [EVB, EVC, EVW, List.set_cons_succ, List.set_cons_zero, List.length_nil, List.length_cons, List.nil_append, List.cons_append, true_and, and_self, Option.toList_some, Option.toList_none, List.append_nil, Bool.decide_eq_true, decide_true, decide_false, List.length_map, List.length_range, BEq.rfl, beq_self_eq_true, Int.toNat_natCast, bne_self_eq_false, Bool.not_eq_true, Bool.not_true, Bool.not_false, Int.natCast_zero, Int.natCast_one, Int.cast_ofNat_Int, if_true, if_false, Bool.false_eq_true, reduceIte, Int.reduceBEq, Int.reduceAdd, Int.reduceSub, Int.reduceMul, Int.reduceLT, Int.reduceLE, Int.reduceNeg, Int.reduceToNat, Int.reduceDiv, Int.reduceMod, Nat.reduceAdd, Nat.reduceSub, Nat.reduceLeDiff, Nat.reduceBEq, Nat.reduceEqDiff]
    refine c_pick0 hS (by omega) (by omega) fun D1 a hD1 ha => ?_
    obtain ⟨L, hL, hL1, hL4⟩ : ∃ L : Nat, 1 + (a : Int) = (L : Nat) ∧ 1 ≤ L ∧ L ≤ 4 := ⟨1 + a, by omega, by omega, by omega⟩
    try simp (config := {maxSteps := 2000000}) (disch := (first | assumption | omega | (refine lkd ?_; decide) | (simp only [LINE, Nat.reduceMul, Nat.reduceLeDiff, Int.reduceToNat, Int.toNat_natCast, List.length_append, List.length_cons, List.length_nil, List.length_map, List.length_range, List.length_take, List.length_drop, List.length_reverse, List.length_replicate, invw_length, List.length_set] <;> omega) | (simp only [wd_app, wd_cons, wd_nil, and_true, true_and]; first | done | (refine ⟨?_, ?_⟩ <;> assumption) | assumption) | (intro ca ch; simp (config := {maxSteps := 2000000}) (disch := (first | assumption | omega | (refine lkd ?_; decide) | (simp only [LINE, Nat.reduceMul, Nat.reduceLeDiff, Int.reduceToNat, Int.toNat_natCast, List.length_append, List.length_cons, List.length_nil, List.length_map, List.length_range, List.length_take, List.length_drop, List.length_reverse, List.length_replicate, invw_length, List.length_set] <;> omega) | (simp only [wd_app, wd_cons, wd_nil, and_true, true_and]; first | done | (refine ⟨?_, ?_⟩ <;> assumption) | assumption))) only [EVB, EVC, EVW, List.set_cons_succ, List.set_cons_zero, List.length_nil, List.length_cons, List.nil_append, List.cons_append, true_and, and_self, Option.toList_some, Option.toList_none, List.append_nil, Bool.decide_eq_true, decide_true, decide_false, List.length_map, List.length_range, BEq.rfl, beq_self_eq_true, Int.toNat_natCast, bne_self_eq_false, Bool.not_eq_true, Bool.not_true, Bool.not_false, Int.natCast_zero, Int.natCast_one, Int.cast_ofNat_Int, if_true, if_false, Bool.false_eq_true, reduceIte, Int.reduceBEq, Int.reduceAdd, Int.reduceSub, Int.reduceMul, Int.reduceLT, Int.reduceLE, Int.reduceNeg, Int.reduceToNat, Int.reduceDiv, Int.reduceMod, Nat.reduceAdd, Nat.reduceSub, Nat.reduceLeDiff, Nat.reduceBEq, Nat.reduceEqDiff, hL, q_law_0]; first | done | rfl))) only [EVB, EVC, EVW, List.set_cons_succ, List.set_cons_zero, List.length_nil, List.length_cons, List.nil_append, List.cons_append, true_and, and_self, Option.toList_some, Option.toList_none, List.append_nil, Bool.decide_eq_true, decide_true, decide_false, List.length_map, List.length_range, BEq.rfl, beq_self_eq_true, Int.toNat_natCast, bne_self_eq_false, Bool.not_eq_true, Bool.not_true, Bool.not_false, Int.natCast_zero, Int.natCast_one, Int.cast_ofNat_Int, if_true, if_false, Bool.false_eq_true, reduceIte, Int.reduceBEq, Int.reduceAdd, Int.reduceSub, Int.reduceMul, Int.reduceLT, Int.reduceLE, Int.reduceNeg, Int.reduceToNat, Int.reduceDiv, Int.reduceMod, Nat.reduceAdd, Nat.reduceSub, Nat.reduceLeDiff, Nat.reduceBEq, Nat.reduceEqDiff, hL, q_law_0]
    refine c_pick0 hD1 (by omega) (by omega) fun D2 b hD2 hb => ?_
    obtain ⟨M0, hM, e1⟩ : ∃ M0 : Nat, M0 ≤ 60 ∧ ([W.int 8, .int 30, .int 60] : List W).getD b .non = .int (M0 : Nat) := by
      have : b = 0 ∨ b = 1 ∨ b = 2 := by omega
      rcases this with rfl | rfl | rfl
      · exact ⟨8, by omega, rfl⟩
      · exact ⟨30, by omega, rfl⟩
      · exact ⟨60, by omega, rfl⟩
    try simp (config := {maxSteps := 2000000}) (disch := (first | assumption | omega | (refine lkd ?_; decide) | (simp only [LINE, Nat.reduceMul, Nat.reduceLeDiff, Int.reduceToNat, Int.toNat_natCast, List.length_append, List.length_cons, List.length_nil, List.length_map, List.length_range, List.length_take, List.length_drop, List.length_reverse, List.length_replicate, invw_length, List.length_set] <;> omega) | (simp only [wd_app, wd_cons, wd_nil, and_true, true_and]; first | done | (refine ⟨?_, ?_⟩ <;> assumption) | assumption) | (intro ca ch; simp (config := {maxSteps := 2000000}) (disch := (first | assumption | omega | (refine lkd ?_; decide) | (simp only [LINE, Nat.reduceMul, Nat.reduceLeDiff, Int.reduceToNat, Int.toNat_natCast, List.length_append, List.length_cons, List.length_nil, List.length_map, List.length_range, List.length_take, List.length_drop, List.length_reverse, List.length_replicate, invw_length, List.length_set] <;> omega) | (simp only [wd_app, wd_cons, wd_nil, and_true, true_and]; first | done | (refine ⟨?_, ?_⟩ <;> assumption) | assumption))) only [EVB, EVC, EVW, List.set_cons_succ, List.set_cons_zero, List.length_nil, List.length_cons, List.nil_append, List.cons_append, true_and, and_self, Option.toList_some, Option.toList_none, List.append_nil, Bool.decide_eq_true, decide_true, decide_false, List.length_map, List.length_range, BEq.rfl, beq_self_eq_true, Int.toNat_natCast, bne_self_eq_false, Bool.not_eq_true, Bool.not_true, Bool.not_false, Int.natCast_zero, Int.natCast_one, Int.cast_ofNat_Int, if_true, if_false, Bool.false_eq_true, reduceIte, Int.reduceBEq, Int.reduceAdd, Int.reduceSub, Int.reduceMul, Int.reduceLT, Int.reduceLE, Int.reduceNeg, Int.reduceToNat, Int.reduceDiv, Int.reduceMod, Nat.reduceAdd, Nat.reduceSub, Nat.reduceLeDiff, Nat.reduceBEq, Nat.reduceEqDiff, e1]; first | done | rfl))) only [EVB, EVC, EVW, List.set_cons_succ, List.set_cons_zero, List.length_nil, List.length_cons, List.nil_append, List.cons_append, true_and, and_self, Option.toList_some, Option.toList_none, List.append_nil, Bool.decide_eq_true, decide_true, decide_false, List.length_map, List.length_range, BEq.rfl, beq_self_eq_true, Int.toNat_natCast, bne_self_eq_false, Bool.not_eq_true, Bool.not_true, Bool.not_false, Int.natCast_zero, Int.natCast_one, Int.cast_ofNat_Int, if_true, if_false, Bool.false_eq_true, reduceIte, Int.reduceBEq, Int.reduceAdd, Int.reduceSub, Int.reduceMul, Int.reduceLT, Int.reduceLE, Int.reduceNeg, Int.reduceToNat, Int.reduceDiv, Int.reduceMod, Nat.reduceAdd, Nat.reduceSub, Nat.reduceLeDiff, Nat.reduceBEq, Nat.reduceEqDiff, e1]
    refine c_word hD2 hL1 hL4 (by omega) fun D3 s hD3 hsl hsa => ?_
    have hws : Word s := fun c hc => al_sg (hsa c hc)
    have hl : s.length ≤ 60 := by omega
    have hs : isW s 60 = true := (isW_iff (n := 60)).mpr ⟨by omega, hws⟩
    clear hsa hsl e1 hM
    try simp (config := {maxSteps := 2000000}) (disch := (first | assumption | omega | (refine lkd ?_; decide) | (simp only [LINE, Nat.reduceMul, Nat.reduceLeDiff, Int.reduceToNat, Int.toNat_natCast, List.length_append, List.length_cons, List.length_nil, List.length_map, List.length_range, List.length_take, List.length_drop, List.length_reverse, List.length_replicate, invw_length, List.length_set] <;> omega) | (simp only [wd_app, wd_cons, wd_nil, and_true, true_and]; first | done | (refine ⟨?_, ?_⟩ <;> assumption) | assumption) | (intro ca ch; simp (config := {maxSteps := 2000000}) (disch := (first | assumption | omega | (refine lkd ?_; decide) | (simp only [LINE, Nat.reduceMul, Nat.reduceLeDiff, Int.reduceToNat, Int.toNat_natCast, List.length_append, List.length_cons, List.length_nil, List.length_map, List.length_range, List.length_take, List.length_drop, List.length_reverse, List.length_replicate, invw_length, List.length_set] <;> omega) | (simp only [wd_app, wd_cons, wd_nil, and_true, true_and]; first | done | (refine ⟨?_, ?_⟩ <;> assumption) | assumption))) only [EVB, EVC, EVW, List.set_cons_succ, List.set_cons_zero, List.length_nil, List.length_cons, List.nil_append, List.cons_append, true_and, and_self, Option.toList_some, Option.toList_none, List.append_nil, Bool.decide_eq_true, decide_true, decide_false, List.length_map, List.length_range, BEq.rfl, beq_self_eq_true, Int.toNat_natCast, bne_self_eq_false, Bool.not_eq_true, Bool.not_true, Bool.not_false, Int.natCast_zero, Int.natCast_one, Int.cast_ofNat_Int, if_true, if_false, Bool.false_eq_true, reduceIte, Int.reduceBEq, Int.reduceAdd, Int.reduceSub, Int.reduceMul, Int.reduceLT, Int.reduceLE, Int.reduceNeg, Int.reduceToNat, Int.reduceDiv, Int.reduceMod, Nat.reduceAdd, Nat.reduceSub, Nat.reduceLeDiff, Nat.reduceBEq, Nat.reduceEqDiff]; first | done | rfl))) only [EVB, EVC, EVW, List.set_cons_succ, List.set_cons_zero, List.length_nil, List.length_cons, List.nil_append, List.cons_append, true_and, and_self, Option.toList_some, Option.toList_none, List.append_nil, Bool.decide_eq_true, decide_true, decide_false, List.length_map, List.length_range, BEq.rfl, beq_self_eq_true, Int.toNat_natCast, bne_self_eq_false, Bool.not_eq_true, Bool.not_true, Bool.not_false, Int.natCast_zero, Int.natCast_one, Int.cast_ofNat_Int, if_true, if_false, Bool.false_eq_true, reduceIte, Int.reduceBEq, Int.reduceAdd, Int.reduceSub, Int.reduceMul, Int.reduceLT, Int.reduceLE, Int.reduceNeg, Int.reduceToNat, Int.reduceDiv, Int.reduceMod, Nat.reduceAdd, Nat.reduceSub, Nat.reduceLeDiff, Nat.reduceBEq, Nat.reduceEqDiff]
    refine c_second hD3 hws hl hL1 hL4 fun D4 t hD4 hwt hlt => ?_
    have ht : isW t 60 = true := (isW_iff (n := 60)).mpr ⟨by omega, hwt⟩
    have p1 : ∀ S, callK 0 m_product [.str s, .str t] S = .ok (.str (red (s ++ t))) S := fun S => product_ok hs ht
    have p2 : ∀ S, callK 0 m_product [.str t, .str s] S = .ok (.str (red (t ++ s))) S := fun S => product_ok ht hs
    have p3 : ∀ S, callK 0 m_commutator [.str s, .str t] S = .ok (.str (red (s ++ t ++ invw s ++ invw t))) S := fun S => commutator_ok hs ht
    have p4 : ∀ S, callK 0 m_conjugate [.str s, .str t] S = .ok (.str (red (t ++ s ++ invw t))) S := fun S => conjugate_ok hs ht
    have r1 : ∀ S, callK 0 m__law_right [.str (red (s ++ t)), .str (s ++ t)] S = .ok (.bl true) S := fun S => right_ok (hws.app hwt) (by simp only [LINE, Nat.reduceMul, Nat.reduceLeDiff, Int.reduceToNat, Int.toNat_natCast, List.length_append, List.length_cons, List.length_nil, List.length_map, List.length_range, List.length_take, List.length_drop, List.length_reverse, List.length_replicate, invw_length, List.length_set]; omega)
    have r2 : ∀ S, callK 0 m__law_right [.str (red (t ++ s)), .str (t ++ s)] S = .ok (.bl true) S := fun S => right_ok (hwt.app hws) (by simp only [LINE, Nat.reduceMul, Nat.reduceLeDiff, Int.reduceToNat, Int.toNat_natCast, List.length_append, List.length_cons, List.length_nil, List.length_map, List.length_range, List.length_take, List.length_drop, List.length_reverse, List.length_replicate, invw_length, List.length_set]; omega)
    have r3 : ∀ S, callK 0 m__law_right [.str (red (s ++ t ++ invw s ++ invw t)), .str (s ++ t ++ invw s ++ invw t)] S = .ok (.bl true) S := fun S => right_ok (((hws.app hwt).app hws.inv).app hwt.inv) (by simp only [LINE, Nat.reduceMul, Nat.reduceLeDiff, Int.reduceToNat, Int.toNat_natCast, List.length_append, List.length_cons, List.length_nil, List.length_map, List.length_range, List.length_take, List.length_drop, List.length_reverse, List.length_replicate, invw_length, List.length_set]; omega)
    have r4 : ∀ S, callK 0 m__law_right [.str (red (t ++ s ++ invw t)), .str (t ++ s ++ invw t)] S = .ok (.bl true) S := fun S => right_ok ((hwt.app hws).app hwt.inv) (by simp only [LINE, Nat.reduceMul, Nat.reduceLeDiff, Int.reduceToNat, Int.toNat_natCast, List.length_append, List.length_cons, List.length_nil, List.length_map, List.length_range, List.length_take, List.length_drop, List.length_reverse, List.length_replicate, invw_length, List.length_set]; omega)
    have u1 : ∀ S, callK 0 m__law_undone [.str s] S = .ok (.str (invw s)) S := fun S => c_undone hws (by show _ ≤ 16777216; omega)
    have u2 : ∀ S, callK 0 m__law_undone [.str t] S = .ok (.str (invw t)) S := fun S => c_undone hwt (by show _ ≤ 16777216; omega)
    have q1 : ∀ S, fEq (.str (red (s ++ t ++ invw s ++ invw t))) (.str []) S = .ok (.val (.bl (decide (M (s ++ t) = M (t ++ s))))) S := fun S => by
      rw [fEq_str (Word.ok (red_word (((hws.app hwt).app hws.inv).app hwt.inv))) rfl]
      have : (red (s ++ t ++ invw s ++ invw t) == []) = decide (M (s ++ t) = M (t ++ s)) := by
        rw [Bool.eq_iff_iff, beq_iff_eq, decide_eq_true_eq]
        exact comm_iff hws hwt
      rw [this]
    have q2 : ∀ S, callK 0 m__law_table [.str (s ++ t)] S = .ok (matW (M (s ++ t))) S := fun S => c_table (hws.app hwt)
    have q3 : ∀ S, callK 0 m__law_table [.str (t ++ s)] S = .ok (matW (M (t ++ s))) S := fun S => c_table (hwt.app hws)
    try simp (config := {maxSteps := 2000000}) (disch := (first | assumption | omega | (refine lkd ?_; decide) | (simp only [LINE, Nat.reduceMul, Nat.reduceLeDiff, Int.reduceToNat, Int.toNat_natCast, List.length_append, List.length_cons, List.length_nil, List.length_map, List.length_range, List.length_take, List.length_drop, List.length_reverse, List.length_replicate, invw_length, List.length_set] <;> omega) | (simp only [wd_app, wd_cons, wd_nil, and_true, true_and]; first | done | (refine ⟨?_, ?_⟩ <;> assumption) | assumption) | (intro ca ch; simp (config := {maxSteps := 2000000}) (disch := (first | assumption | omega | (refine lkd ?_; decide) | (simp only [LINE, Nat.reduceMul, Nat.reduceLeDiff, Int.reduceToNat, Int.toNat_natCast, List.length_append, List.length_cons, List.length_nil, List.length_map, List.length_range, List.length_take, List.length_drop, List.length_reverse, List.length_replicate, invw_length, List.length_set] <;> omega) | (simp only [wd_app, wd_cons, wd_nil, and_true, true_and]; first | done | (refine ⟨?_, ?_⟩ <;> assumption) | assumption))) only [EVB, EVC, EVW, List.set_cons_succ, List.set_cons_zero, List.length_nil, List.length_cons, List.nil_append, List.cons_append, true_and, and_self, Option.toList_some, Option.toList_none, List.append_nil, Bool.decide_eq_true, decide_true, decide_false, List.length_map, List.length_range, BEq.rfl, beq_self_eq_true, Int.toNat_natCast, bne_self_eq_false, Bool.not_eq_true, Bool.not_true, Bool.not_false, Int.natCast_zero, Int.natCast_one, Int.cast_ofNat_Int, if_true, if_false, Bool.false_eq_true, reduceIte, Int.reduceBEq, Int.reduceAdd, Int.reduceSub, Int.reduceMul, Int.reduceLT, Int.reduceLE, Int.reduceNeg, Int.reduceToNat, Int.reduceDiv, Int.reduceMod, Nat.reduceAdd, Nat.reduceSub, Nat.reduceLeDiff, Nat.reduceBEq, Nat.reduceEqDiff, q_law_1, ev_mCallKwP, perm_10, p1, p2, r1, r2, q_law_2, p3, r3, u1, u2, q_law_3, q1, q2, q3, eq_mat, q_law_4, p4, r4, q_law_5]; first | done | rfl))) only [EVB, EVC, EVW, List.set_cons_succ, List.set_cons_zero, List.length_nil, List.length_cons, List.nil_append, List.cons_append, true_and, and_self, Option.toList_some, Option.toList_none, List.append_nil, Bool.decide_eq_true, decide_true, decide_false, List.length_map, List.length_range, BEq.rfl, beq_self_eq_true, Int.toNat_natCast, bne_self_eq_false, Bool.not_eq_true, Bool.not_true, Bool.not_false, Int.natCast_zero, Int.natCast_one, Int.cast_ofNat_Int, if_true, if_false, Bool.false_eq_true, reduceIte, Int.reduceBEq, Int.reduceAdd, Int.reduceSub, Int.reduceMul, Int.reduceLT, Int.reduceLE, Int.reduceNeg, Int.reduceToNat, Int.reduceDiv, Int.reduceMod, Nat.reduceAdd, Nat.reduceSub, Nat.reduceLeDiff, Nat.reduceBEq, Nat.reduceEqDiff, q_law_1, ev_mCallKwP, perm_10, p1, p2, r1, r2, q_law_2, p3, r3, u1, u2, q_law_3, q1, q2, q3, eq_mat, q_law_4, p4, r4, q_law_5]
    clear p1 p2 p3 p4 r1 r2 r3 r4 q1 q2 q3
    refine c_pick0 hD4 (by omega) (by omega) fun D5 a5 hD5 ha5 => ?_
    try simp (config := {maxSteps := 2000000}) (disch := (first | assumption | omega | (refine lkd ?_; decide) | (simp only [LINE, Nat.reduceMul, Nat.reduceLeDiff, Int.reduceToNat, Int.toNat_natCast, List.length_append, List.length_cons, List.length_nil, List.length_map, List.length_range, List.length_take, List.length_drop, List.length_reverse, List.length_replicate, invw_length, List.length_set] <;> omega) | (simp only [wd_app, wd_cons, wd_nil, and_true, true_and]; first | done | (refine ⟨?_, ?_⟩ <;> assumption) | assumption) | (intro ca ch; simp (config := {maxSteps := 2000000}) (disch := (first | assumption | omega | (refine lkd ?_; decide) | (simp only [LINE, Nat.reduceMul, Nat.reduceLeDiff, Int.reduceToNat, Int.toNat_natCast, List.length_append, List.length_cons, List.length_nil, List.length_map, List.length_range, List.length_take, List.length_drop, List.length_reverse, List.length_replicate, invw_length, List.length_set] <;> omega) | (simp only [wd_app, wd_cons, wd_nil, and_true, true_and]; first | done | (refine ⟨?_, ?_⟩ <;> assumption) | assumption))) only [EVB, EVC, EVW, List.set_cons_succ, List.set_cons_zero, List.length_nil, List.length_cons, List.nil_append, List.cons_append, true_and, and_self, Option.toList_some, Option.toList_none, List.append_nil, Bool.decide_eq_true, decide_true, decide_false, List.length_map, List.length_range, BEq.rfl, beq_self_eq_true, Int.toNat_natCast, bne_self_eq_false, Bool.not_eq_true, Bool.not_true, Bool.not_false, Int.natCast_zero, Int.natCast_one, Int.cast_ofNat_Int, if_true, if_false, Bool.false_eq_true, reduceIte, Int.reduceBEq, Int.reduceAdd, Int.reduceSub, Int.reduceMul, Int.reduceLT, Int.reduceLE, Int.reduceNeg, Int.reduceToNat, Int.reduceDiv, Int.reduceMod, Nat.reduceAdd, Nat.reduceSub, Nat.reduceLeDiff, Nat.reduceBEq, Nat.reduceEqDiff]; first | done | rfl))) only [EVB, EVC, EVW, List.set_cons_succ, List.set_cons_zero, List.length_nil, List.length_cons, List.nil_append, List.cons_append, true_and, and_self, Option.toList_some, Option.toList_none, List.append_nil, Bool.decide_eq_true, decide_true, decide_false, List.length_map, List.length_range, BEq.rfl, beq_self_eq_true, Int.toNat_natCast, bne_self_eq_false, Bool.not_eq_true, Bool.not_true, Bool.not_false, Int.natCast_zero, Int.natCast_one, Int.cast_ofNat_Int, if_true, if_false, Bool.false_eq_true, reduceIte, Int.reduceBEq, Int.reduceAdd, Int.reduceSub, Int.reduceMul, Int.reduceLT, Int.reduceLE, Int.reduceNeg, Int.reduceToNat, Int.reduceDiv, Int.reduceMod, Nat.reduceAdd, Nat.reduceSub, Nat.reduceLeDiff, Nat.reduceBEq, Nat.reduceEqDiff]
    refine c_pick0 hD5 (by omega) (by omega) fun D6 a6 hD6 ha6 => ?_
    try simp (config := {maxSteps := 2000000}) (disch := (first | assumption | omega | (refine lkd ?_; decide) | (simp only [LINE, Nat.reduceMul, Nat.reduceLeDiff, Int.reduceToNat, Int.toNat_natCast, List.length_append, List.length_cons, List.length_nil, List.length_map, List.length_range, List.length_take, List.length_drop, List.length_reverse, List.length_replicate, invw_length, List.length_set] <;> omega) | (simp only [wd_app, wd_cons, wd_nil, and_true, true_and]; first | done | (refine ⟨?_, ?_⟩ <;> assumption) | assumption) | (intro ca ch; simp (config := {maxSteps := 2000000}) (disch := (first | assumption | omega | (refine lkd ?_; decide) | (simp only [LINE, Nat.reduceMul, Nat.reduceLeDiff, Int.reduceToNat, Int.toNat_natCast, List.length_append, List.length_cons, List.length_nil, List.length_map, List.length_range, List.length_take, List.length_drop, List.length_reverse, List.length_replicate, invw_length, List.length_set] <;> omega) | (simp only [wd_app, wd_cons, wd_nil, and_true, true_and]; first | done | (refine ⟨?_, ?_⟩ <;> assumption) | assumption))) only [EVB, EVC, EVW, List.set_cons_succ, List.set_cons_zero, List.length_nil, List.length_cons, List.nil_append, List.cons_append, true_and, and_self, Option.toList_some, Option.toList_none, List.append_nil, Bool.decide_eq_true, decide_true, decide_false, List.length_map, List.length_range, BEq.rfl, beq_self_eq_true, Int.toNat_natCast, bne_self_eq_false, Bool.not_eq_true, Bool.not_true, Bool.not_false, Int.natCast_zero, Int.natCast_one, Int.cast_ofNat_Int, if_true, if_false, Bool.false_eq_true, reduceIte, Int.reduceBEq, Int.reduceAdd, Int.reduceSub, Int.reduceMul, Int.reduceLT, Int.reduceLE, Int.reduceNeg, Int.reduceToNat, Int.reduceDiv, Int.reduceMod, Nat.reduceAdd, Nat.reduceSub, Nat.reduceLeDiff, Nat.reduceBEq, Nat.reduceEqDiff]; first | done | rfl))) only [EVB, EVC, EVW, List.set_cons_succ, List.set_cons_zero, List.length_nil, List.length_cons, List.nil_append, List.cons_append, true_and, and_self, Option.toList_some, Option.toList_none, List.append_nil, Bool.decide_eq_true, decide_true, decide_false, List.length_map, List.length_range, BEq.rfl, beq_self_eq_true, Int.toNat_natCast, bne_self_eq_false, Bool.not_eq_true, Bool.not_true, Bool.not_false, Int.natCast_zero, Int.natCast_one, Int.cast_ofNat_Int, if_true, if_false, Bool.false_eq_true, reduceIte, Int.reduceBEq, Int.reduceAdd, Int.reduceSub, Int.reduceMul, Int.reduceLT, Int.reduceLE, Int.reduceNeg, Int.reduceToNat, Int.reduceDiv, Int.reduceMod, Nat.reduceAdd, Nat.reduceSub, Nat.reduceLeDiff, Nat.reduceBEq, Nat.reduceEqDiff]
    refine c_pick0 hD6 (by omega) (by omega) fun D7 a7 hD7 ha7 => ?_
    obtain ⟨N, hN1, hN2, e2⟩ : ∃ N : Int, -12 ≤ N ∧ N ≤ 12 ∧ ([W.int ((a5 : Int) - 12), ([W.int (-12), .int 12, .int 0, .int 1, .int (-1)] : List W).getD a6 .non] : List W).getD a7 .non = .int N := by
      have : a7 = 0 ∨ a7 = 1 := by omega
      rcases this with rfl | rfl
      · exact ⟨(a5 : Int) - 12, by omega, by omega, rfl⟩
      · have : a6 = 0 ∨ a6 = 1 ∨ a6 = 2 ∨ a6 = 3 ∨ a6 = 4 := by omega
        rcases this with rfl | rfl | rfl | rfl | rfl
        · exact ⟨-12, by omega, by omega, rfl⟩
        · exact ⟨12, by omega, by omega, rfl⟩
        · exact ⟨0, by omega, by omega, rfl⟩
        · exact ⟨1, by omega, by omega, rfl⟩
        · exact ⟨-1, by omega, by omega, rfl⟩
    try simp (config := {maxSteps := 2000000}) (disch := (first | assumption | omega | (refine lkd ?_; decide) | (simp only [LINE, Nat.reduceMul, Nat.reduceLeDiff, Int.reduceToNat, Int.toNat_natCast, List.length_append, List.length_cons, List.length_nil, List.length_map, List.length_range, List.length_take, List.length_drop, List.length_reverse, List.length_replicate, invw_length, List.length_set] <;> omega) | (simp only [wd_app, wd_cons, wd_nil, and_true, true_and]; first | done | (refine ⟨?_, ?_⟩ <;> assumption) | assumption) | (intro ca ch; simp (config := {maxSteps := 2000000}) (disch := (first | assumption | omega | (refine lkd ?_; decide) | (simp only [LINE, Nat.reduceMul, Nat.reduceLeDiff, Int.reduceToNat, Int.toNat_natCast, List.length_append, List.length_cons, List.length_nil, List.length_map, List.length_range, List.length_take, List.length_drop, List.length_reverse, List.length_replicate, invw_length, List.length_set] <;> omega) | (simp only [wd_app, wd_cons, wd_nil, and_true, true_and]; first | done | (refine ⟨?_, ?_⟩ <;> assumption) | assumption))) only [EVB, EVC, EVW, List.set_cons_succ, List.set_cons_zero, List.length_nil, List.length_cons, List.nil_append, List.cons_append, true_and, and_self, Option.toList_some, Option.toList_none, List.append_nil, Bool.decide_eq_true, decide_true, decide_false, List.length_map, List.length_range, BEq.rfl, beq_self_eq_true, Int.toNat_natCast, bne_self_eq_false, Bool.not_eq_true, Bool.not_true, Bool.not_false, Int.natCast_zero, Int.natCast_one, Int.cast_ofNat_Int, if_true, if_false, Bool.false_eq_true, reduceIte, Int.reduceBEq, Int.reduceAdd, Int.reduceSub, Int.reduceMul, Int.reduceLT, Int.reduceLE, Int.reduceNeg, Int.reduceToNat, Int.reduceDiv, Int.reduceMod, Nat.reduceAdd, Nat.reduceSub, Nat.reduceLeDiff, Nat.reduceBEq, Nat.reduceEqDiff, e2, q_law_6, u1]; first | done | rfl))) only [EVB, EVC, EVW, List.set_cons_succ, List.set_cons_zero, List.length_nil, List.length_cons, List.nil_append, List.cons_append, true_and, and_self, Option.toList_some, Option.toList_none, List.append_nil, Bool.decide_eq_true, decide_true, decide_false, List.length_map, List.length_range, BEq.rfl, beq_self_eq_true, Int.toNat_natCast, bne_self_eq_false, Bool.not_eq_true, Bool.not_true, Bool.not_false, Int.natCast_zero, Int.natCast_one, Int.cast_ofNat_Int, if_true, if_false, Bool.false_eq_true, reduceIte, Int.reduceBEq, Int.reduceAdd, Int.reduceSub, Int.reduceMul, Int.reduceLT, Int.reduceLE, Int.reduceNeg, Int.reduceToNat, Int.reduceDiv, Int.reduceMod, Nat.reduceAdd, Nat.reduceSub, Nat.reduceLeDiff, Nat.reduceBEq, Nat.reduceEqDiff, e2, q_law_6, u1]
    refine wp_if_ok (S := D7) (v := .str (pw s N)) (fun h => ?_) (fun h => ?_) ?_
    · have h0 : 0 ≤ N := by simpa using h
      rw [pw_pos hl h0 hN2]
      rfl
    · have h0 : ¬ 0 ≤ N := by simpa using h
      rw [pw_neg hl (by omega) hN1]
      rfl
    have p5 : ∀ S, callK 0 m_power [.str s, .int N] S = .ok (.str (red (pw s N))) S := fun S => power_ok hs hN1 hN2
    have r5 : ∀ S, callK 0 m__law_right [.str (red (pw s N)), .str (pw s N)] S = .ok (.bl true) S := fun S => right_ok (pw_word hws) (by have := pw_len hl hN1 hN2; omega)
    try simp (config := {maxSteps := 2000000}) (disch := (first | assumption | omega | (refine lkd ?_; decide) | (simp only [LINE, Nat.reduceMul, Nat.reduceLeDiff, Int.reduceToNat, Int.toNat_natCast, List.length_append, List.length_cons, List.length_nil, List.length_map, List.length_range, List.length_take, List.length_drop, List.length_reverse, List.length_replicate, invw_length, List.length_set] <;> omega) | (simp only [wd_app, wd_cons, wd_nil, and_true, true_and]; first | done | (refine ⟨?_, ?_⟩ <;> assumption) | assumption) | (intro ca ch; simp (config := {maxSteps := 2000000}) (disch := (first | assumption | omega | (refine lkd ?_; decide) | (simp only [LINE, Nat.reduceMul, Nat.reduceLeDiff, Int.reduceToNat, Int.toNat_natCast, List.length_append, List.length_cons, List.length_nil, List.length_map, List.length_range, List.length_take, List.length_drop, List.length_reverse, List.length_replicate, invw_length, List.length_set] <;> omega) | (simp only [wd_app, wd_cons, wd_nil, and_true, true_and]; first | done | (refine ⟨?_, ?_⟩ <;> assumption) | assumption))) only [EVB, EVC, EVW, List.set_cons_succ, List.set_cons_zero, List.length_nil, List.length_cons, List.nil_append, List.cons_append, true_and, and_self, Option.toList_some, Option.toList_none, List.append_nil, Bool.decide_eq_true, decide_true, decide_false, List.length_map, List.length_range, BEq.rfl, beq_self_eq_true, Int.toNat_natCast, bne_self_eq_false, Bool.not_eq_true, Bool.not_true, Bool.not_false, Int.natCast_zero, Int.natCast_one, Int.cast_ofNat_Int, if_true, if_false, Bool.false_eq_true, reduceIte, Int.reduceBEq, Int.reduceAdd, Int.reduceSub, Int.reduceMul, Int.reduceLT, Int.reduceLE, Int.reduceNeg, Int.reduceToNat, Int.reduceDiv, Int.reduceMod, Nat.reduceAdd, Nat.reduceSub, Nat.reduceLeDiff, Nat.reduceBEq, Nat.reduceEqDiff, q_law_7, ev_mCallKwP, perm_10, p5, r5, q_law_8]; first | done | rfl))) only [EVB, EVC, EVW, List.set_cons_succ, List.set_cons_zero, List.length_nil, List.length_cons, List.nil_append, List.cons_append, true_and, and_self, Option.toList_some, Option.toList_none, List.append_nil, Bool.decide_eq_true, decide_true, decide_false, List.length_map, List.length_range, BEq.rfl, beq_self_eq_true, Int.toNat_natCast, bne_self_eq_false, Bool.not_eq_true, Bool.not_true, Bool.not_false, Int.natCast_zero, Int.natCast_one, Int.cast_ofNat_Int, if_true, if_false, Bool.false_eq_true, reduceIte, Int.reduceBEq, Int.reduceAdd, Int.reduceSub, Int.reduceMul, Int.reduceLT, Int.reduceLE, Int.reduceNeg, Int.reduceToNat, Int.reduceDiv, Int.reduceMod, Nat.reduceAdd, Nat.reduceSub, Nat.reduceLeDiff, Nat.reduceBEq, Nat.reduceEqDiff, q_law_7, ev_mCallKwP, perm_10, p5, r5, q_law_8]
    have lo : ∀ a, a ∈ ([97, 98, 99, 100] : List Nat) → a ∈ SG := by decide
    have k1 : ∀ a, a ∈ ([97, 98, 99, 100] : List Nat) → ∀ b, b ∈ s → ∀ S, fEq (.str [b]) (.str [a]) S = .ok (.val (.bl (b == a))) S := fun a ha b hb S => by
      rw [fEq_str (Word.ok (Word.cons (hws b hb) .nil)) (Word.ok (Word.cons (lo a ha) .nil))]
      simp
    have k2 : ∀ a, a ∈ ([97, 98, 99, 100] : List Nat) → ∀ S, callK 0 m__law_undone [.str [a]] S = .ok (.str [iv a]) S := fun a ha S => c_undone (Word.cons (lo a ha) .nil) (by show 1 ≤ 16777216; omega)
    have k3 : ∀ a, a ∈ ([97, 98, 99, 100] : List Nat) → ∀ b, b ∈ s → ∀ S, fEq (.str [b]) (.str [iv a]) S = .ok (.val (.bl (b == iv a))) S := fun a ha b hb S => by
      rw [fEq_str (Word.ok (Word.cons (hws b hb) .nil)) (Word.ok (Word.cons (iv_mem (lo a ha)) .nil))]
      simp
    try simp (config := {maxSteps := 2000000}) (disch := (first | assumption | omega | (refine lkd ?_; decide) | (simp only [LINE, Nat.reduceMul, Nat.reduceLeDiff, Int.reduceToNat, Int.toNat_natCast, List.length_append, List.length_cons, List.length_nil, List.length_map, List.length_range, List.length_take, List.length_drop, List.length_reverse, List.length_replicate, invw_length, List.length_set] <;> omega) | (simp only [wd_app, wd_cons, wd_nil, and_true, true_and]; first | done | (refine ⟨?_, ?_⟩ <;> assumption) | assumption) | (intro ca ch; simp (config := {maxSteps := 2000000}) (disch := (first | assumption | omega | (refine lkd ?_; decide) | (simp only [LINE, Nat.reduceMul, Nat.reduceLeDiff, Int.reduceToNat, Int.toNat_natCast, List.length_append, List.length_cons, List.length_nil, List.length_map, List.length_range, List.length_take, List.length_drop, List.length_reverse, List.length_replicate, invw_length, List.length_set] <;> omega) | (simp only [wd_app, wd_cons, wd_nil, and_true, true_and]; first | done | (refine ⟨?_, ?_⟩ <;> assumption) | assumption) | (intro ca ch; simp (config := {maxSteps := 2000000}) (disch := (first | assumption | omega | (refine lkd ?_; decide) | (simp only [LINE, Nat.reduceMul, Nat.reduceLeDiff, Int.reduceToNat, Int.toNat_natCast, List.length_append, List.length_cons, List.length_nil, List.length_map, List.length_range, List.length_take, List.length_drop, List.length_reverse, List.length_replicate, invw_length, List.length_set] <;> omega) | (simp only [wd_app, wd_cons, wd_nil, and_true, true_and]; first | done | (refine ⟨?_, ?_⟩ <;> assumption) | assumption))) only [EVB, EVC, EVW, List.set_cons_succ, List.set_cons_zero, List.length_nil, List.length_cons, List.nil_append, List.cons_append, true_and, and_self, Option.toList_some, Option.toList_none, List.append_nil, Bool.decide_eq_true, decide_true, decide_false, List.length_map, List.length_range, BEq.rfl, beq_self_eq_true, Int.toNat_natCast, bne_self_eq_false, Bool.not_eq_true, Bool.not_true, Bool.not_false, Int.natCast_zero, Int.natCast_one, Int.cast_ofNat_Int, if_true, if_false, Bool.false_eq_true, reduceIte, Int.reduceBEq, Int.reduceAdd, Int.reduceSub, Int.reduceMul, Int.reduceLT, Int.reduceLE, Int.reduceNeg, Int.reduceToNat, Int.reduceDiv, Int.reduceMod, Nat.reduceAdd, Nat.reduceSub, Nat.reduceLeDiff, Nat.reduceBEq, Nat.reduceEqDiff, k1, k2, k3, cnt]; first | done | rfl))) only [EVB, EVC, EVW, List.set_cons_succ, List.set_cons_zero, List.length_nil, List.length_cons, List.nil_append, List.cons_append, true_and, and_self, Option.toList_some, Option.toList_none, List.append_nil, Bool.decide_eq_true, decide_true, decide_false, List.length_map, List.length_range, BEq.rfl, beq_self_eq_true, Int.toNat_natCast, bne_self_eq_false, Bool.not_eq_true, Bool.not_true, Bool.not_false, Int.natCast_zero, Int.natCast_one, Int.cast_ofNat_Int, if_true, if_false, Bool.false_eq_true, reduceIte, Int.reduceBEq, Int.reduceAdd, Int.reduceSub, Int.reduceMul, Int.reduceLT, Int.reduceLE, Int.reduceNeg, Int.reduceToNat, Int.reduceDiv, Int.reduceMod, Nat.reduceAdd, Nat.reduceSub, Nat.reduceLeDiff, Nat.reduceBEq, Nat.reduceEqDiff, k1, k2, k3, cnt]; first | done | rfl))) only [EVB, EVC, EVW, List.set_cons_succ, List.set_cons_zero, List.length_nil, List.length_cons, List.nil_append, List.cons_append, true_and, and_self, Option.toList_some, Option.toList_none, List.append_nil, Bool.decide_eq_true, decide_true, decide_false, List.length_map, List.length_range, BEq.rfl, beq_self_eq_true, Int.toNat_natCast, bne_self_eq_false, Bool.not_eq_true, Bool.not_true, Bool.not_false, Int.natCast_zero, Int.natCast_one, Int.cast_ofNat_Int, if_true, if_false, Bool.false_eq_true, reduceIte, Int.reduceBEq, Int.reduceAdd, Int.reduceSub, Int.reduceMul, Int.reduceLT, Int.reduceLE, Int.reduceNeg, Int.reduceToNat, Int.reduceDiv, Int.reduceMod, Nat.reduceAdd, Nat.reduceSub, Nat.reduceLeDiff, Nat.reduceBEq, Nat.reduceEqDiff, k1, k2, k3, cnt]
    clear k1 k2 k3
    have es : (.tup ([97, 98, 99, 100].map fun a => W.int (((s.count a : Nat) : Int) - ((s.count (iv a) : Nat) : Int))) : W) = sumsW s := rfl
    rw [es]
    have m1 : ∀ S, callK 0 m_sums [.str s] S = .ok (sumsW s) S := fun S => sums_ok hs
    have g1 : ∀ i, i ∈ List.range 5 → ∀ S, callK 0 m__law_error [.int (i : Nat), .str s, sel (.int 1) (.str t) i] S = .ok NON S := fun i hi S => by
      have hi := List.mem_range.mp hi
      have : i = 0 ∨ i = 1 ∨ i = 2 ∨ i = 3 ∨ i = 4 := by omega
      rcases this with rfl | rfl | rfl | rfl | rfl
      · exact er0_ok rfl rfl fun S => product_ok hs ht
      · exact er1_ok rfl rfl fun S => power_ok (i := 1) hs (by omega) (by omega)
      · exact er2_ok rfl rfl fun S => commutator_ok hs ht
      · exact er3_ok rfl rfl fun S => conjugate_ok hs ht
      · exact er4_ok rfl rfl fun S => sums_ok hs
    have c1 : ∀ S, fNe (.lst ((List.range 5).map fun _ => NON)) (.lst (List.replicate 5 (W.str []))) S = .ok (.val (.bl false)) S := fun S => rfl
    try simp (config := {maxSteps := 2000000}) (disch := (first | assumption | omega | (refine lkd ?_; decide) | (simp only [LINE, Nat.reduceMul, Nat.reduceLeDiff, Int.reduceToNat, Int.toNat_natCast, List.length_append, List.length_cons, List.length_nil, List.length_map, List.length_range, List.length_take, List.length_drop, List.length_reverse, List.length_replicate, invw_length, List.length_set] <;> omega) | (simp only [wd_app, wd_cons, wd_nil, and_true, true_and]; first | done | (refine ⟨?_, ?_⟩ <;> assumption) | assumption) | (intro ca ch; simp (config := {maxSteps := 2000000}) (disch := (first | assumption | omega | (refine lkd ?_; decide) | (simp only [LINE, Nat.reduceMul, Nat.reduceLeDiff, Int.reduceToNat, Int.toNat_natCast, List.length_append, List.length_cons, List.length_nil, List.length_map, List.length_range, List.length_take, List.length_drop, List.length_reverse, List.length_replicate, invw_length, List.length_set] <;> omega) | (simp only [wd_app, wd_cons, wd_nil, and_true, true_and]; first | done | (refine ⟨?_, ?_⟩ <;> assumption) | assumption))) only [EVB, EVC, EVW, List.set_cons_succ, List.set_cons_zero, List.length_nil, List.length_cons, List.nil_append, List.cons_append, true_and, and_self, Option.toList_some, Option.toList_none, List.append_nil, Bool.decide_eq_true, decide_true, decide_false, List.length_map, List.length_range, BEq.rfl, beq_self_eq_true, Int.toNat_natCast, bne_self_eq_false, Bool.not_eq_true, Bool.not_true, Bool.not_false, Int.natCast_zero, Int.natCast_one, Int.cast_ofNat_Int, if_true, if_false, Bool.false_eq_true, reduceIte, Int.reduceBEq, Int.reduceAdd, Int.reduceSub, Int.reduceMul, Int.reduceLT, Int.reduceLE, Int.reduceNeg, Int.reduceToNat, Int.reduceDiv, Int.reduceMod, Nat.reduceAdd, Nat.reduceSub, Nat.reduceLeDiff, Nat.reduceBEq, Nat.reduceEqDiff, q_law_9, m1, same_sums, sel_is, g1, c1, q_law_10]; first | done | rfl))) only [EVB, EVC, EVW, List.set_cons_succ, List.set_cons_zero, List.length_nil, List.length_cons, List.nil_append, List.cons_append, true_and, and_self, Option.toList_some, Option.toList_none, List.append_nil, Bool.decide_eq_true, decide_true, decide_false, List.length_map, List.length_range, BEq.rfl, beq_self_eq_true, Int.toNat_natCast, bne_self_eq_false, Bool.not_eq_true, Bool.not_true, Bool.not_false, Int.natCast_zero, Int.natCast_one, Int.cast_ofNat_Int, if_true, if_false, Bool.false_eq_true, reduceIte, Int.reduceBEq, Int.reduceAdd, Int.reduceSub, Int.reduceMul, Int.reduceLT, Int.reduceLE, Int.reduceNeg, Int.reduceToNat, Int.reduceDiv, Int.reduceMod, Nat.reduceAdd, Nat.reduceSub, Nat.reduceLeDiff, Nat.reduceBEq, Nat.reduceEqDiff, q_law_9, m1, same_sums, sel_is, g1, c1, q_law_10]
    refine c_pick0 hD7 (by omega) (by omega) fun D8 a8 hD8 ha8 => ?_
    have hbads : ∀ x ∈ ([W.str [101], W.str (List.replicate 61 97), W.non, W.lst [W.str s], W.tup [W.str s], W.int 3, W.bl true] : List W), plainV x = true ∧ refsLt 0 x = true ∧ isWx x 60 = false := by
      intro x hx
      simp only [List.mem_cons, List.mem_nil_iff, or_false] at hx
      rcases hx with rfl | rfl | rfl | rfl | rfl | rfl | rfl
      · exact ⟨by decide +kernel, rfl, by decide +kernel⟩
      · exact ⟨by decide +kernel, rfl, by decide +kernel⟩
      · exact ⟨rfl, rfl, rfl⟩
      · exact ⟨rfl, rfl, rfl⟩
      · exact ⟨rfl, rfl, rfl⟩
      · exact ⟨rfl, rfl, rfl⟩
      · exact ⟨rfl, rfl, rfl⟩
    generalize hbe : ([W.str [101], W.str (List.replicate 61 97), W.non, W.lst [W.str s], W.tup [W.str s], W.int 3, W.bl true] : List W) = bads at hbads ⊢
    have hbl : a8 < bads.length := by rw [← hbe]; show a8 < 7; omega
    obtain ⟨b1, b2, b3⟩ := hbads _ (getD_mem (d := .non) hbl)
    try simp (config := {maxSteps := 2000000}) (disch := (first | assumption | omega | (refine lkd ?_; decide) | (simp only [LINE, Nat.reduceMul, Nat.reduceLeDiff, Int.reduceToNat, Int.toNat_natCast, List.length_append, List.length_cons, List.length_nil, List.length_map, List.length_range, List.length_take, List.length_drop, List.length_reverse, List.length_replicate, invw_length, List.length_set] <;> omega) | (simp only [wd_app, wd_cons, wd_nil, and_true, true_and]; first | done | (refine ⟨?_, ?_⟩ <;> assumption) | assumption) | (intro ca ch; simp (config := {maxSteps := 2000000}) (disch := (first | assumption | omega | (refine lkd ?_; decide) | (simp only [LINE, Nat.reduceMul, Nat.reduceLeDiff, Int.reduceToNat, Int.toNat_natCast, List.length_append, List.length_cons, List.length_nil, List.length_map, List.length_range, List.length_take, List.length_drop, List.length_reverse, List.length_replicate, invw_length, List.length_set] <;> omega) | (simp only [wd_app, wd_cons, wd_nil, and_true, true_and]; first | done | (refine ⟨?_, ?_⟩ <;> assumption) | assumption))) only [EVB, EVC, EVW, List.set_cons_succ, List.set_cons_zero, List.length_nil, List.length_cons, List.nil_append, List.cons_append, true_and, and_self, Option.toList_some, Option.toList_none, List.append_nil, Bool.decide_eq_true, decide_true, decide_false, List.length_map, List.length_range, BEq.rfl, beq_self_eq_true, Int.toNat_natCast, bne_self_eq_false, Bool.not_eq_true, Bool.not_true, Bool.not_false, Int.natCast_zero, Int.natCast_one, Int.cast_ofNat_Int, if_true, if_false, Bool.false_eq_true, reduceIte, Int.reduceBEq, Int.reduceAdd, Int.reduceSub, Int.reduceMul, Int.reduceLT, Int.reduceLE, Int.reduceNeg, Int.reduceToNat, Int.reduceDiv, Int.reduceMod, Nat.reduceAdd, Nat.reduceSub, Nat.reduceLeDiff, Nat.reduceBEq, Nat.reduceEqDiff, q_law_11]; first | done | rfl))) only [EVB, EVC, EVW, List.set_cons_succ, List.set_cons_zero, List.length_nil, List.length_cons, List.nil_append, List.cons_append, true_and, and_self, Option.toList_some, Option.toList_none, List.append_nil, Bool.decide_eq_true, decide_true, decide_false, List.length_map, List.length_range, BEq.rfl, beq_self_eq_true, Int.toNat_natCast, bne_self_eq_false, Bool.not_eq_true, Bool.not_true, Bool.not_false, Int.natCast_zero, Int.natCast_one, Int.cast_ofNat_Int, if_true, if_false, Bool.false_eq_true, reduceIte, Int.reduceBEq, Int.reduceAdd, Int.reduceSub, Int.reduceMul, Int.reduceLT, Int.reduceLE, Int.reduceNeg, Int.reduceToNat, Int.reduceDiv, Int.reduceMod, Nat.reduceAdd, Nat.reduceSub, Nat.reduceLeDiff, Nat.reduceBEq, Nat.reduceEqDiff, q_law_11]
    generalize bads.getD a8 .non = bad at b1 b2 b3 ⊢
    refine c_pick0 hD8 (by omega) (by omega) fun D9 a9 hD9 ha9 => ?_
    obtain ⟨f1, f2, f3⟩ : plainN (([W.int 13, W.int (-13), W.non, W.bl true, W.str [49], W.tup [W.int 1]] : List W).getD a9 .non) = true ∧ refsLt 0 (([W.int 13, W.int (-13), W.non, W.bl true, W.str [49], W.tup [W.int 1]] : List W).getD a9 .non) = true ∧ inX (([W.int 13, W.int (-13), W.non, W.bl true, W.str [49], W.tup [W.int 1]] : List W).getD a9 .non) (-12) 12 = false := by
      have : a9 = 0 ∨ a9 = 1 ∨ a9 = 2 ∨ a9 = 3 ∨ a9 = 4 ∨ a9 = 5 := by omega
      rcases this with rfl | rfl | rfl | rfl | rfl | rfl <;> exact ⟨by decide +kernel, by decide +kernel, by decide +kernel⟩
    try simp (config := {maxSteps := 2000000}) (disch := (first | assumption | omega | (refine lkd ?_; decide) | (simp only [LINE, Nat.reduceMul, Nat.reduceLeDiff, Int.reduceToNat, Int.toNat_natCast, List.length_append, List.length_cons, List.length_nil, List.length_map, List.length_range, List.length_take, List.length_drop, List.length_reverse, List.length_replicate, invw_length, List.length_set] <;> omega) | (simp only [wd_app, wd_cons, wd_nil, and_true, true_and]; first | done | (refine ⟨?_, ?_⟩ <;> assumption) | assumption) | (intro ca ch; simp (config := {maxSteps := 2000000}) (disch := (first | assumption | omega | (refine lkd ?_; decide) | (simp only [LINE, Nat.reduceMul, Nat.reduceLeDiff, Int.reduceToNat, Int.toNat_natCast, List.length_append, List.length_cons, List.length_nil, List.length_map, List.length_range, List.length_take, List.length_drop, List.length_reverse, List.length_replicate, invw_length, List.length_set] <;> omega) | (simp only [wd_app, wd_cons, wd_nil, and_true, true_and]; first | done | (refine ⟨?_, ?_⟩ <;> assumption) | assumption))) only [EVB, EVC, EVW, List.set_cons_succ, List.set_cons_zero, List.length_nil, List.length_cons, List.nil_append, List.cons_append, true_and, and_self, Option.toList_some, Option.toList_none, List.append_nil, Bool.decide_eq_true, decide_true, decide_false, List.length_map, List.length_range, BEq.rfl, beq_self_eq_true, Int.toNat_natCast, bne_self_eq_false, Bool.not_eq_true, Bool.not_true, Bool.not_false, Int.natCast_zero, Int.natCast_one, Int.cast_ofNat_Int, if_true, if_false, Bool.false_eq_true, reduceIte, Int.reduceBEq, Int.reduceAdd, Int.reduceSub, Int.reduceMul, Int.reduceLT, Int.reduceLE, Int.reduceNeg, Int.reduceToNat, Int.reduceDiv, Int.reduceMod, Nat.reduceAdd, Nat.reduceSub, Nat.reduceLeDiff, Nat.reduceBEq, Nat.reduceEqDiff, q_law_12]; first | done | rfl))) only [EVB, EVC, EVW, List.set_cons_succ, List.set_cons_zero, List.length_nil, List.length_cons, List.nil_append, List.cons_append, true_and, and_self, Option.toList_some, Option.toList_none, List.append_nil, Bool.decide_eq_true, decide_true, decide_false, List.length_map, List.length_range, BEq.rfl, beq_self_eq_true, Int.toNat_natCast, bne_self_eq_false, Bool.not_eq_true, Bool.not_true, Bool.not_false, Int.natCast_zero, Int.natCast_one, Int.cast_ofNat_Int, if_true, if_false, Bool.false_eq_true, reduceIte, Int.reduceBEq, Int.reduceAdd, Int.reduceSub, Int.reduceMul, Int.reduceLT, Int.reduceLE, Int.reduceNeg, Int.reduceToNat, Int.reduceDiv, Int.reduceMod, Nat.reduceAdd, Nat.reduceSub, Nat.reduceLeDiff, Nat.reduceBEq, Nat.reduceEqDiff, q_law_12]
    generalize ([W.int 13, W.int (-13), W.non, W.bl true, W.str [49], W.tup [W.int 1]] : List W).getD a9 .non = far at f1 f2 f3 ⊢
    have g2 : ∀ i, i ∈ List.range 5 → ∀ S, callK 0 m__law_error [.int (i : Nat), bad, sel far bad i] S = .ok WRD S := fun i hi S => by
      have hi := List.mem_range.mp hi
      have : i = 0 ∨ i = 1 ∨ i = 2 ∨ i = 3 ∨ i = 4 := by omega
      rcases this with rfl | rfl | rfl | rfl | rfl
      · exact er0_WRD b2 b2 fun S => product_word b1 b2 b3 b1 b2
      · exact er1_WRD b2 f2 fun S => power_word b1 b2 b3 f2
      · exact er2_WRD b2 b2 fun S => commutator_word b1 b2 b3 b1 b2
      · exact er3_WRD b2 b2 fun S => conjugate_word b1 b2 b3 b1 b2
      · exact er4_WRD b2 b2 fun S => sums_word b1 b2 b3
    have c2 : ∀ S, fNe (.lst ((List.range 5).map fun _ => WRD)) (.lst (List.replicate 5 (W.str [119, 111, 114, 100]))) S = .ok (.val (.bl false)) S := fun S => rfl
    have g3 : ∀ i, i ∈ List.range 4 → ∀ S, callK 0 m__law_error [.int (i : Nat), .str s, sel far bad i] S = .ok (sel NUM OTH i) S := fun i hi S => by
      have hi := List.mem_range.mp hi
      have : i = 0 ∨ i = 1 ∨ i = 2 ∨ i = 3 := by omega
      rcases this with rfl | rfl | rfl | rfl
      · exact er0_OTH rfl b2 fun S => product_other hs b1 b2 b3
      · exact er1_NUM rfl f2 fun S => power_number hs f1 f2 f3
      · exact er2_OTH rfl b2 fun S => commutator_other hs b1 b2 b3
      · exact er3_OTH rfl b2 fun S => conjugate_other hs b1 b2 b3
    have c3 : ∀ S, fNe (.lst ((List.range 4).map fun i => sel NUM OTH i)) (.lst [W.str [111, 116, 104, 101, 114], W.str [110, 117, 109, 98, 101, 114], W.str [111, 116, 104, 101, 114], W.str [111, 116, 104, 101, 114]]) S = .ok (.val (.bl false)) S := fun S => rfl
    try simp (config := {maxSteps := 2000000}) (disch := (first | assumption | omega | (refine lkd ?_; decide) | (simp only [LINE, Nat.reduceMul, Nat.reduceLeDiff, Int.reduceToNat, Int.toNat_natCast, List.length_append, List.length_cons, List.length_nil, List.length_map, List.length_range, List.length_take, List.length_drop, List.length_reverse, List.length_replicate, invw_length, List.length_set] <;> omega) | (simp only [wd_app, wd_cons, wd_nil, and_true, true_and]; first | done | (refine ⟨?_, ?_⟩ <;> assumption) | assumption) | (intro ca ch; simp (config := {maxSteps := 2000000}) (disch := (first | assumption | omega | (refine lkd ?_; decide) | (simp only [LINE, Nat.reduceMul, Nat.reduceLeDiff, Int.reduceToNat, Int.toNat_natCast, List.length_append, List.length_cons, List.length_nil, List.length_map, List.length_range, List.length_take, List.length_drop, List.length_reverse, List.length_replicate, invw_length, List.length_set] <;> omega) | (simp only [wd_app, wd_cons, wd_nil, and_true, true_and]; first | done | (refine ⟨?_, ?_⟩ <;> assumption) | assumption))) only [EVB, EVC, EVW, List.set_cons_succ, List.set_cons_zero, List.length_nil, List.length_cons, List.nil_append, List.cons_append, true_and, and_self, Option.toList_some, Option.toList_none, List.append_nil, Bool.decide_eq_true, decide_true, decide_false, List.length_map, List.length_range, BEq.rfl, beq_self_eq_true, Int.toNat_natCast, bne_self_eq_false, Bool.not_eq_true, Bool.not_true, Bool.not_false, Int.natCast_zero, Int.natCast_one, Int.cast_ofNat_Int, if_true, if_false, Bool.false_eq_true, reduceIte, Int.reduceBEq, Int.reduceAdd, Int.reduceSub, Int.reduceMul, Int.reduceLT, Int.reduceLE, Int.reduceNeg, Int.reduceToNat, Int.reduceDiv, Int.reduceMod, Nat.reduceAdd, Nat.reduceSub, Nat.reduceLeDiff, Nat.reduceBEq, Nat.reduceEqDiff, sel_is, g2, c2, q_law_13, g3, c3]; first | done | rfl))) only [EVB, EVC, EVW, List.set_cons_succ, List.set_cons_zero, List.length_nil, List.length_cons, List.nil_append, List.cons_append, true_and, and_self, Option.toList_some, Option.toList_none, List.append_nil, Bool.decide_eq_true, decide_true, decide_false, List.length_map, List.length_range, BEq.rfl, beq_self_eq_true, Int.toNat_natCast, bne_self_eq_false, Bool.not_eq_true, Bool.not_true, Bool.not_false, Int.natCast_zero, Int.natCast_one, Int.cast_ofNat_Int, if_true, if_false, Bool.false_eq_true, reduceIte, Int.reduceBEq, Int.reduceAdd, Int.reduceSub, Int.reduceMul, Int.reduceLT, Int.reduceLE, Int.reduceNeg, Int.reduceToNat, Int.reduceDiv, Int.reduceMod, Nat.reduceAdd, Nat.reduceSub, Nat.reduceLeDiff, Nat.reduceBEq, Nat.reduceEqDiff, sel_is, g2, c2, q_law_13, g3, c3]
    exact ⟨_, _, _, _, _, _, _, _, _, rfl, hD9⟩
  · rintro env S ⟨o2, o3, o4, o5, o6, o7, o8, o9, o10, rfl, hS⟩
    try simp (config := {maxSteps := 2000000}) (disch := (first | assumption | omega | (refine lkd ?_; decide) | (simp only [LINE, Nat.reduceMul, Nat.reduceLeDiff, Int.reduceToNat, Int.toNat_natCast, List.length_append, List.length_cons, List.length_nil, List.length_map, List.length_range, List.length_take, List.length_drop, List.length_reverse, List.length_replicate, invw_length, List.length_set] <;> omega) | (simp only [wd_app, wd_cons, wd_nil, and_true, true_and]; first | done | (refine ⟨?_, ?_⟩ <;> assumption) | assumption) | (intro ca ch; simp (config := {maxSteps := 2000000}) (disch := (first | assumption | omega | (refine lkd ?_; decide) | (simp only [LINE, Nat.reduceMul, Nat.reduceLeDiff, Int.reduceToNat, Int.toNat_natCast, List.length_append, List.length_cons, List.length_nil, List.length_map, List.length_range, List.length_take, List.length_drop, List.length_reverse, List.length_replicate, invw_length, List.length_set] <;> omega) | (simp only [wd_app, wd_cons, wd_nil, and_true, true_and]; first | done | (refine ⟨?_, ?_⟩ <;> assumption) | assumption))) only [EVB, EVC, EVW, List.set_cons_succ, List.set_cons_zero, List.length_nil, List.length_cons, List.nil_append, List.cons_append, true_and, and_self, Option.toList_some, Option.toList_none, List.append_nil, Bool.decide_eq_true, decide_true, decide_false, List.length_map, List.length_range, BEq.rfl, beq_self_eq_true, Int.toNat_natCast, bne_self_eq_false, Bool.not_eq_true, Bool.not_true, Bool.not_false, Int.natCast_zero, Int.natCast_one, Int.cast_ofNat_Int, if_true, if_false, Bool.false_eq_true, reduceIte, Int.reduceBEq, Int.reduceAdd, Int.reduceSub, Int.reduceMul, Int.reduceLT, Int.reduceLE, Int.reduceNeg, Int.reduceToNat, Int.reduceDiv, Int.reduceMod, Nat.reduceAdd, Nat.reduceSub, Nat.reduceLeDiff, Nat.reduceBEq, Nat.reduceEqDiff]; first | done | rfl))) only [EVB, EVC, EVW, List.set_cons_succ, List.set_cons_zero, List.length_nil, List.length_cons, List.nil_append, List.cons_append, true_and, and_self, Option.toList_some, Option.toList_none, List.append_nil, Bool.decide_eq_true, decide_true, decide_false, List.length_map, List.length_range, BEq.rfl, beq_self_eq_true, Int.toNat_natCast, bne_self_eq_false, Bool.not_eq_true, Bool.not_true, Bool.not_false, Int.natCast_zero, Int.natCast_one, Int.cast_ofNat_Int, if_true, if_false, Bool.false_eq_true, reduceIte, Int.reduceBEq, Int.reduceAdd, Int.reduceSub, Int.reduceMul, Int.reduceLT, Int.reduceLE, Int.reduceNeg, Int.reduceToNat, Int.reduceDiv, Int.reduceMod, Nat.reduceAdd, Nat.reduceSub, Nat.reduceLeDiff, Nat.reduceBEq, Nat.reduceEqDiff]
end
end L2.Mi.K02

open PySem PySem.W PyProof.Rows in
set_option maxRecDepth 100000 in
set_option maxHeartbeats 0 in
theorem PySem.Challenge.cw_handlesworn_k02_products_powers_commutat_holds : PySem.Challenge.rw_handlesworn_k02_products_powers_commutat.Holds := by
  w_on; o_law; k_head; (case hw => w_witness2)
  k_fill
  refine L2.Mi.walkM (l := PySem.Challenge.rw_handlesworn_k02_products_powers_commutat) (k := 5) (st := L2.Mi.K02.s_law) (N := ["script", "deck", "bout", "letters", "word", "other", "number", "text", "due", "bad", "far", "one", "sign", "which"]) (body := L2.Mi.K02.b_law) rfl rfl rfl ⟨rfl, by decide, by decide⟩ (fun w h Y => PySem.W.kIn_of Y) L2.Mi.K02.law_true (fun _ _ _ _ _ _ _ _ => .of_eq rfl) L2.Mi.K02.sc_law ?F
  case F =>
    intro w mg h KX G
    refine' (fun (T : L2.Mi.K02.Gx w _ mg) => ⟨T.f_law, fun base _ _ => L2.Mi.K02.d_all T⟩) (L2.Mi.K02.all_mk KX G ?zb_all ?zb_bool ?zb_int ?zb_isinstance ?zb_len ?zb_min ?zb_range ?zb_reversed ?zb_str ?zb_tuple ?zc_LETTERS ?zc_MOST_POWER ?zc_MOST_SIGNS ?zc_SIGNS ?ea_BadNumber ?ex_BadNumber ?ek_BadNumber ?eb_BadNumber ?et_BadNumber ?ei_BadNumber ?ea_BadOther ?ex_BadOther ?ek_BadOther ?eb_BadOther ?et_BadOther ?ei_BadOther ?ea_BadWord ?ex_BadWord ?ek_BadWord ?eb_BadWord ?et_BadWord ?ei_BadWord ?xs_BadNumber_BadNumber ?xs_BadNumber_BadOther ?xs_BadNumber_BadWord ?xs_BadOther_BadOther ?xs_BadOther_BadWord ?xs_BadWord_BadWord ?fa__law_deck ?fl__law_deck ?fc__law_deck ?fk__law_deck ?fa__law_pick ?fl__law_pick ?fc__law_pick ?fk__law_pick ?fa__law_word ?fl__law_word ?fc__law_word ?fk__law_word ?fa__law_undone ?fl__law_undone ?fc__law_undone ?fk__law_undone ?fa__law_second ?fl__law_second ?fc__law_second ?fk__law_second ?fa__law_times ?fl__law_times ?fc__law_times ?fk__law_times ?fa__law_table ?fl__law_table ?fc__law_table ?fk__law_table ?fa__law_same ?fl__law_same ?fc__law_same ?fk__law_same ?fa__law_plain ?fl__law_plain ?fc__law_plain ?fk__law_plain ?fa__law_right ?fl__law_right ?fc__law_right ?fk__law_right ?fa_is_word_of ?fl_is_word_of ?fc_is_word_of ?fk_is_word_of ?fa_need_word ?fl_need_word ?fc_need_word ?fk_need_word ?fa_need_two ?fl_need_two ?fc_need_two ?fk_need_two ?fa_inverse_sign ?fl_inverse_sign ?fc_inverse_sign ?fk_inverse_sign ?fa_reduced_in ?fl_reduced_in ?fc_reduced_in ?fk_reduced_in ?fa_inverse_in ?fl_inverse_in ?fc_inverse_in ?fk_inverse_in ?fa_commutator_in ?fl_commutator_in ?fc_commutator_in ?fk_commutator_in ?fa_commutator ?fl_commutator ?fc_commutator ?fk_commutator ?fa_conjugate ?fl_conjugate ?fc_conjugate ?fk_conjugate ?fa_is_int ?fl_is_int ?fc_is_int ?fk_is_int ?fa_within ?fl_within ?fc_within ?fk_within ?fa_power ?fl_power ?fc_power ?fk_power ?fa_product ?fl_product ?fc_product ?fk_product ?fa_sums_in ?fl_sums_in ?fc_sums_in ?fk_sums_in ?fa_sums ?fl_sums ?fc_sums ?fk_sums ?fa__law_error ?fl__law_error ?fc__law_error ?fk__law_error ?fa_law ?fl_law ?fc_law ?fk_law)
    (case zb_all => k_is)
    (case zb_bool => k_is)
    (case zb_int => k_is)
    (case zb_isinstance => k_is)
    (case zb_len => k_is)
    (case zb_min => k_is)
    (case zb_range => k_is)
    (case zb_reversed => k_is)
    (case zb_str => k_is)
    (case zb_tuple => k_is)
    (case zc_LETTERS => k_is)
    (case zc_MOST_POWER => k_is)
    (case zc_MOST_SIGNS => k_is)
    (case zc_SIGNS => k_is)
    (case ea_BadNumber => k_is)
    (case ex_BadNumber => k_exc)
    (case ek_BadNumber => k_is)
    (case eb_BadNumber => k_is)
    (case et_BadNumber => k_is)
    (case ei_BadNumber => k_is)
    (case ea_BadOther => k_is)
    (case ex_BadOther => k_exc)
    (case ek_BadOther => k_is)
    (case eb_BadOther => k_is)
    (case et_BadOther => k_is)
    (case ei_BadOther => k_is)
    (case ea_BadWord => k_is)
    (case ex_BadWord => k_exc)
    (case ek_BadWord => k_is)
    (case eb_BadWord => k_is)
    (case et_BadWord => k_is)
    (case ei_BadWord => k_is)
    (case xs_BadNumber_BadNumber => first | rfl | k_is)
    (case xs_BadNumber_BadOther => first | rfl | k_is)
    (case xs_BadNumber_BadWord => first | rfl | k_is)
    (case xs_BadOther_BadOther => first | rfl | k_is)
    (case xs_BadOther_BadWord => first | rfl | k_is)
    (case xs_BadWord_BadWord => first | rfl | k_is)
    (case fa__law_deck => k_is)
    (case fl__law_deck => k_is)
    (case fc__law_deck => k_is)
    (case fk__law_deck => k_is)
    (case fa__law_pick => k_is)
    (case fl__law_pick => k_is)
    (case fc__law_pick => k_is)
    (case fk__law_pick => k_is)
    (case fa__law_word => k_is)
    (case fl__law_word => k_is)
    (case fc__law_word => k_is)
    (case fk__law_word => k_is)
    (case fa__law_undone => k_is)
    (case fl__law_undone => k_is)
    (case fc__law_undone => k_is)
    (case fk__law_undone => k_is)
    (case fa__law_second => k_is)
    (case fl__law_second => k_is)
    (case fc__law_second => k_is)
    (case fk__law_second => k_is)
    (case fa__law_times => k_is)
    (case fl__law_times => k_is)
    (case fc__law_times => k_is)
    (case fk__law_times => k_is)
    (case fa__law_table => k_is)
    (case fl__law_table => k_is)
    (case fc__law_table => k_is)
    (case fk__law_table => k_is)
    (case fa__law_same => k_is)
    (case fl__law_same => k_is)
    (case fc__law_same => k_is)
    (case fk__law_same => k_is)
    (case fa__law_plain => k_is)
    (case fl__law_plain => k_is)
    (case fc__law_plain => k_is)
    (case fk__law_plain => k_is)
    (case fa__law_right => k_is)
    (case fl__law_right => k_is)
    (case fc__law_right => k_is)
    (case fk__law_right => k_is)
    (case fa_is_word_of => k_is)
    (case fl_is_word_of => k_is)
    (case fc_is_word_of => k_is)
    (case fk_is_word_of => k_is)
    (case fa_need_word => k_is)
    (case fl_need_word => k_is)
    (case fc_need_word => k_is)
    (case fk_need_word => k_is)
    (case fa_need_two => k_is)
    (case fl_need_two => k_is)
    (case fc_need_two => k_is)
    (case fk_need_two => k_is)
    (case fa_inverse_sign => k_is)
    (case fl_inverse_sign => k_is)
    (case fc_inverse_sign => k_is)
    (case fk_inverse_sign => k_is)
    (case fa_reduced_in => k_is)
    (case fl_reduced_in => k_is)
    (case fc_reduced_in => k_is)
    (case fk_reduced_in => k_is)
    (case fa_inverse_in => k_is)
    (case fl_inverse_in => k_is)
    (case fc_inverse_in => k_is)
    (case fk_inverse_in => k_is)
    (case fa_commutator_in => k_is)
    (case fl_commutator_in => k_is)
    (case fc_commutator_in => k_is)
    (case fk_commutator_in => k_is)
    (case fa_commutator => k_is)
    (case fl_commutator => k_is)
    (case fc_commutator => k_is)
    (case fk_commutator => k_is)
    (case fa_conjugate => k_is)
    (case fl_conjugate => k_is)
    (case fc_conjugate => k_is)
    (case fk_conjugate => k_is)
    (case fa_is_int => k_is)
    (case fl_is_int => k_is)
    (case fc_is_int => k_is)
    (case fk_is_int => k_is)
    (case fa_within => k_is)
    (case fl_within => k_is)
    (case fc_within => k_is)
    (case fk_within => k_is)
    (case fa_power => k_is)
    (case fl_power => k_is)
    (case fc_power => k_is)
    (case fk_power => k_is)
    (case fa_product => k_is)
    (case fl_product => k_is)
    (case fc_product => k_is)
    (case fk_product => k_is)
    (case fa_sums_in => k_is)
    (case fl_sums_in => k_is)
    (case fc_sums_in => k_is)
    (case fk_sums_in => k_is)
    (case fa_sums => k_is)
    (case fl_sums => k_is)
    (case fc_sums => k_is)
    (case fk_sums => k_is)
    (case fa__law_error => k_is)
    (case fl__law_error => k_is)
    (case fc__law_error => k_is)
    (case fk__law_error => k_is)
    (case fa_law => k_is)
    (case fl_law => k_is)
    (case fc_law => k_is)
    (case fk_law => k_is)
